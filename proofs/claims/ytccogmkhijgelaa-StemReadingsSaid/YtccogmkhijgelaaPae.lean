/-
  A part of a proof: StemReadings returns true of any stem, numbers, edition and place, and leaves what it is handed as it was. No conditions.
-/
import Derived.Test.YtccogmkhijgelaaPad
import Derived.KernelRfl
namespace Go.Proofs.Ytccogmkhijgelaa
open Go.RowKit
theorem bd_92 : Body Try.prog 92 := Bq (by kernel_rfl)
theorem bd_93 : Body Try.prog 93 := Bq (by kernel_rfl)
set_option maxRecDepth 100000 in
theorem second_top_ok {F : Heap} {vp ve : Value} {ps : List (Value × Edn)} {s : Stm} (hr : StmR F vp ve ps s) {v : Value} {l : List Int} (hl : Ints F v l) (z : Int) : Ok Try.prog 37 [.agg #[vp, ve], v, .int .i64 z].toArray F fun u _ => u = secV s l z := by
 have hle0 : F.le F := Heap.le_refl _
 refine Ok.intro Try.func37 rfl Try.ntmps37 rfl fun w0 => ?_
 have hL := hl.plain.lt
 have hlen := hr.len
 have hL1 := hr.eds.plain.lt
 by_cases hok : treeErr s l = 0
 ·
  obtain ⟨hv, hll, ht⟩ := tree_ok hok
  have hne := hv.ne
  have hnp := hv.np
  have hl5 : l.length ≤ 5 := by omega
  refine Af <| Ai fun ds => Bm rfl (B2 (Aj rfl) rfl fun b1 hb1 nb1 => ?_)
  refine Bm rfl (B2 (Al rfl <| Aj rfl) rfl fun b2 hb2 nb2 => ?_)
  refine Aa rfl (Ae Ab) ?_
  refine Aa rfl (Ae Ab) ?_
  refine Aa rfl (Ae Ab) ?_
  refine Ah <| Ac <| Af <| Ai fun ds => Aa rfl (Bf B0 (Ay rfl <| Ad) rfl rfl (A8 1 rfl)) ?_
  refine Aa rfl (Ag (Ay rfl <| Ar rfl <| Aj rfl)) ?_
  refine Bm rfl (D1 bd_68 A0 (.cons (Al rfl <| Ad) (.cons (Ad) .nil)) (enter_ok hr hl hok) fun v3 F4 R7 hr5 hF6 => ?_)
  replace hr := hr.mono hF6
  replace hle0 := Heap.le_trans hle0 hF6
  obtain ⟨ba, kb, rfl, hX, rfl⟩ := hr5
  refine Aa rfl (Ag (Ad)) ?_
  refine Aa rfl (A1 (Ad) rfl) ?_
  refine Aa rfl (A1 (Al rfl <| Ad) rfl) ?_
  refine Aa rfl (A1 (Ar rfl <| Ad) rfl) ?_
  refine Bm rfl (Cf Eh rfl fun b8 hb8 nb8 => ?_)
  refine Aa rfl (Ae (Ar rfl <| Al rfl <| Ad)) ?_
  refine Cm (Cj En (Al rfl <| Ad) (Ar rfl <| Al rfl <| Ad) (i := 0) rfl rfl rfl rfl Df (.here) ?_)
  refine Aa rfl (Ae (Ar rfl <| Ad)) ?_
  refine Ah <| Ac <| Af <| Az <| Af <| Cg (i := 2) rfl hb1 (.next <| .next <| .here) fun F9 hF10 hz3 => ?_
  replace hr := hr.mono hF10
  replace hle0 := Heap.le_trans hle0 hF10
  replace hX := hX.mono hF10
  refine Cg (i := 1) rfl hb2 (.next <| .here) fun F11 hF12 hz5 => ?_
  replace hr := hr.mono hF12
  replace hle0 := Heap.le_trans hle0 hF12
  replace hX := hX.mono hF12
  replace hz3 := hF12 _ _ hz3
  refine Cg (i := 0) rfl hb8 (.here) fun F13 hF14 hz10 => ?_
  replace hr := hr.mono hF14
  replace hle0 := Heap.le_trans hle0 hF14
  replace hX := hX.mono hF14
  replace hz3 := hF14 _ _ hz3
  replace hz5 := hF14 _ _ hz5
  refine Ai fun ds => Aa rfl (Ag (Ad)) ?_
  refine Aa rfl (By (Ad) Ab) ?_
  refine Aa rfl (Ae (Ad)) ?_
  refine Ah <| Ac <| Am (Ad) (by decide) ?_
  by_cases h1 : inB 0 (s.editions.length - 1) z = true
  ·
   obtain ⟨x, rfl, hx⟩ := inB_nat h1
   have hx5 : x < 5 := by omega
   have hxl : x < l.length := by omega
   have hxp : x < ps.length := by omega
   have hrx := hr.rd hxp
   refine Af <| Ai fun ds => Aa rfl (Ao Bv (A3 rfl <| Al rfl <| Ad)) ?_
   refine Aa rfl (Ap Bz (Ad) (CellF.own hz3 rfl).cell) ?_
   refine Aa rfl (Bk B5 (Ad) hr.eds.plain) ?_
   refine Aa rfl (D2 (Ad) Ab rfl (by omega) (by omega)) ?_
   refine Aa rfl (Ap Bj (A3 rfl <| Ay rfl <| Ad) (CellF.own hz5 rfl).cell) ?_
   refine Bm rfl (B6 Be Da rfl (.cons (Ad) .nil) rfl rfl (by decide) (by simp [Value.oneCell']) fun b15 hb15 nb15 => ?_)
   refine B8 (i := 0) rfl hb15 .here fun F16 hF17 hz18 => ?_
   replace hr := hr.mono hF17
   replace hle0 := Heap.le_trans hle0 hF17
   replace hX := hX.mono hF17
   replace hrx := hrx.mono hF17
   replace hz3 := hF17 _ _ hz3
   replace hz5 := hF17 _ _ hz5
   replace hz10 := hF17 _ _ hz10
   have hsl19 := C0 hz18
   refine Bx rfl (Bi Ei A0 (.cons Ab (.cons (Ar rfl <| Ad) (.cons (Ad) .nil))) (Ck _ _ hsl19) (fun _ _ h => h)) ?_
   refine Aa rfl (Ae (Ad)) ?_
   refine Ah <| Ac <| Am (Ad) (by simp [hlen, h1]) ?_
   by_cases hft : fitsT s l = true
   ·
    refine Af <| Ai fun ds => Aa rfl (Ag (A6 rfl <| Ay rfl <| Ad)) ?_
    refine Aa rfl (Bf B4 (A6 rfl <| Ay rfl <| Ar rfl <| Ad) rfl rfl (Cz hz10)) ?_
    refine Bx rfl (Bi bd_91 A0 (.cons (Al rfl <| Ad) (.cons (Ad) .nil)) (fits_ok hX ht hll hv) (fun _ _ h => h)) ?_
    refine Aa rfl (Ci (Ad)) ?_
    refine Aa rfl (Ae (Ad)) ?_
    refine Ah <| Ac <| Am (Ad) (by unfold fitsT at hft; rw [hft]; first | done | rfl) ?_
    by_cases hu : upN l x = -1
    ·
     refine Af <| Ai fun ds => Aa rfl (Ap Bj (A3 rfl <| A6 rfl <| Ay rfl <| Al rfl <| Ad) (CellF.own hz5 rfl).cell) ?_
     refine Aa rfl (Bt (k := x) Cs (A3 rfl <| Ar rfl <| Al rfl <| Ad) (Ad) rfl hx5) ?_
     refine Aa rfl (Ap Bj (Ad) (CellF.own hz10 (Cl hx5)).cell) ?_
     refine Aa rfl (Bs (Ad) Ab) ?_
     refine Aa rfl (Ae (Ad)) ?_
     refine Ah <| Ac <| Aq (Ad) (decide_eq_true hu) ?_
     refine Af <| Ai fun ds => Aa rfl (Ae Ab) ?_
     refine Aa rfl (Ae Ab) ?_
     refine Aa rfl (Ae Ab) ?_
     refine Ah <| Ac <| A4 <| Bl (Bg ?_)
     refine Ax rfl (.tmp (Ar rfl <| Ad) (.tmp (Al rfl <| Ad) (.tmp (Ad) .nil))) ?_
     show _ = _
     rw [secE_bad (secErr_4 hok h1 hft hu) (by decide)]; rfl
    ·
     obtain ⟨y, hy, hyl⟩ := ht.in_.nat hxl hu
     have hse := secErr_0 hok h1 hft hu
     have hyn : (upN l x).toNat = y := by omega
     have hol : (ownL s l x).length ≤ s.places.length := Dq
     refine Af <| Ai fun ds => Aa rfl (Ap Bj (A3 rfl <| A6 rfl <| Ay rfl <| Al rfl <| Ad) (CellF.own hz5 rfl).cell) ?_
     refine Aa rfl (Bt (k := x) Cs (A3 rfl <| Ar rfl <| Al rfl <| Ad) (Ad) rfl hx5) ?_
     refine Aa rfl (Ap Bj (Ad) (CellF.own hz10 (Cl hx5)).cell) ?_
     refine Aa rfl (Bs (Ad) Ab) ?_
     refine Aa rfl (Ae (Ad)) ?_
     refine Ah <| Ac <| Am (Ad) (decide_eq_false hu) ?_
     refine Aw <| Bb <| Ac <| Af ?_
     have hleS := hle0
     refine Cv (.inl rfl) (fun _ _ h => h) (.cons_cons _ <| .refl _) [] (by kernel_rfl) fun ds => ?_
     refine A5 0 rfl (by kernel_rfl) (by kernel_rfl) (by kernel_rfl) (by kernel_rfl) rfl rfl (fun _ h => h.drop (.cons_cons _ <| .refl _)) (fun _ _ _ h => h) (Ag (A3 rfl <| Ay rfl <| Ar rfl <| Ad)) ?_
     refine A5 1 rfl (by kernel_rfl) (by kernel_rfl) (by kernel_rfl) (by kernel_rfl) rfl rfl (fun _ h => h.drop (.cons_cons _ <| .refl _)) (fun _ _ _ h => h) (Ap Bj (Bp rfl <| Ar rfl <| Al rfl <| Ad) (CellF.own hz5 rfl).cell) ?_
     refine A5 2 rfl (by kernel_rfl) (by kernel_rfl) (by kernel_rfl) (by kernel_rfl) rfl rfl (fun _ h => h.drop (.cons_cons _ <| .refl _)) (fun _ _ _ h => h) (Bt (k := x) Cs (A3 rfl <| A6 rfl <| Al rfl <| Ad) (Ad) rfl hx5) ?_
     refine A5 3 rfl (by kernel_rfl) (by kernel_rfl) (by kernel_rfl) (by kernel_rfl) rfl rfl (fun _ h => h.drop (.cons_cons _ <| .refl _)) (fun _ _ _ h => h) (Ap Bj (Ad) (CellF.own hz10 (hy ▸ Cl hx5)).cell) ?_
     refine A5 4 rfl (by kernel_rfl) (by kernel_rfl) (by kernel_rfl) (by kernel_rfl) rfl rfl (fun _ h => h.drop (.cons_cons _ <| .refl _)) (fun _ _ _ h => h) (Ap Bj (Bp rfl <| Ay rfl <| Ar rfl <| Ad) (CellF.own hz5 rfl).cell) ?_
     refine Dz 5 rfl (by kernel_rfl) rfl (Ch bd_66 A0 (.cons (Ay rfl <| Ad) (.cons (Al rfl <| Ad) (.cons (Ad) .nil))) (apart_ok hX hv (a := y) (c := x) (by omega) hx) fun v20 F21 hr22 hF23 => ⟨fun _ _ _ h => (h.drop (.cons_cons _ <| .refl _)).weak hF23 hleS, ?_⟩)
     replace hr := hr.mono hF23
     replace hX := hX.mono hF23
     replace hrx := hrx.mono hF23
     replace hz3 := hF23 _ _ hz3
     replace hz5 := hF23 _ _ hz5
     replace hz10 := hF23 _ _ hz10
     have hap := hr22
     rw [← hyn] at hap
     change Nats _ _ (ownL s l x) at hap
     refine A5 6 rfl (by kernel_rfl) (by kernel_rfl) (by kernel_rfl) (by kernel_rfl) rfl rfl (fun _ h => (h.drop (.cons_cons _ <| .refl _)).weak hF23 hleS) (fun _ _ _ h => h) (Ae (Ad)) ?_
     refine Ct (by kernel_rfl) ?_ _
     refine Ac <| Af <| Af <| Ai fun ds => Aa rfl (Ao Bv (Bp rfl <| A6 rfl <| Ar rfl <| Ad)) ?_
     refine Aa rfl (Ap Bz (Ad) (CellF.own hz3 rfl).cell) ?_
     refine Aa rfl (Bk B5 (Ad) hr.eds.plain) ?_
     refine Aa rfl (Ag Ab) ?_
     refine Ah <| Ac <| Az <| Bu [6, 7, 12, 13, 14, 15, 16, 18, 57, 58, 59, 60, 61, 62, 63, 64, 65, 66, 67, 68, 69, 70, 71, 72, 73, 74, 75, 76, 77, 78, 79, 80, 81, 82, 83, 84, 85, 86, 87, 88, 89, 90, 91, 92, 93, 94, 95, 96, 97, 98, 99, 100, 101, 102, 103, 104, 105, 106, 107, 108, 109, 110, 111] (fun m e σ => ∃ G, F21.le G ∧ ∃ k : Nat, m + k = ps.length ∧ e 57 = .int .i64 (k : Int) ∧ e 6 = .int .i64 (secTo s l x k).1 ∧ e 7 = .int .i64 (secTo s l x k).2 ∧ σ = ⟨G, [(kb, mapO [])]⟩) (ps.length) ?_ ?_
     · exact ⟨_, Heap.le_refl _, 0, by omega, (Ad), (Bp rfl <| A6 rfl <| Ay rfl <| Ad), (Bp rfl <| A6 rfl <| Ar rfl <| Al rfl <| Ad), rfl⟩
     ·
      rintro m e _ ⟨G, hFG, k, hm, hs57, hs6, hs7, rfl⟩; replace hr := hr.mono hFG; replace hX := hX.mono hFG; replace hap := hap.mono hFG; replace hrx := hrx.mono hFG; replace hz3 := hFG _ _ hz3; replace hz5 := hFG _ _ hz5; replace hz10 := hFG _ _ hz10
      by_cases hlt : k < ps.length
      ·
       have hkl : k < l.length := by omega
       have hrk := hr.rd hlt
       have e1 := hr.at hlt
       have hsb := secTo_bound (s := s) (l := l) (x := x) k
       refine Af <| Ai fun ds => Aa rfl (Bw (As rfl hs57) (Ak rfl <| Al rfl <| Ad)) ?_
       refine Ah <| Ac <| Af <| Aq (Ad) (by first | rfl | exact decide_eq_true (by omega)) ?_
       refine Aw <| Ac <| Af <| Az <| Af <| Ai fun ds => Aa rfl (Ag (Al rfl <| As rfl hs57)) ?_
       refine Aa rfl (A9 (k := k) B5 (Ar rfl <| Ak rfl <| Ar rfl <| Ad) hr.eds.plain (Ar rfl <| As rfl hs57) rfl hlt) ?_
       refine Aa rfl (Bf agg_64 (Ad) rfl rfl (hr.eds.whole hlt)) ?_
       refine Bm rfl (Cf Da rfl fun b25 hb25 nb25 => ?_)
       refine Bm rfl (Cf zr_64 rfl fun b26 hb26 nb26 => ?_)
       refine Cm (Cn sz_3 (Al rfl <| Ad) (Ay rfl <| Ad) (i := 1) rfl (.here) rfl (.next <| .here) ?_)
       refine Cm (Cj sz_64 (Ad) (Ar rfl <| Ad) (i := 0) rfl rfl rfl rfl (edE_one (hr.one _ (List.getElem_mem hlt))) (.here) ?_)
       refine Ah <| Ac <| Af <| Af <| Cg (i := 1) rfl hb25 (.next <| .here) fun F27 hF28 hz12 => ?_
       replace hr := hr.mono hF28
       replace hX := hX.mono hF28
       replace hap := hap.mono hF28
       replace hrx := hrx.mono hF28
       replace hFG := Heap.le_trans hFG hF28
       replace hrk := hrk.mono hF28
       replace hz3 := hF28 _ _ hz3
       replace hz5 := hF28 _ _ hz5
       replace hz10 := hF28 _ _ hz10
       by_cases hku : (k : Int) ≠ upN l x
       ·
        refine Cu (.inl rfl) (fun _ _ h => h) (by kernel_rfl) (by kernel_rfl) fun ds => ?_
        refine Bc rfl (Ap Bj (Al rfl <| Ad) (CellF.own hz12 rfl).cell) ?_
        refine Bc rfl (Ap Bj (Ay rfl <| Ar rfl <| Al rfl <| Ak rfl <| Bp rfl <| A6 rfl <| Ay rfl <| Al rfl <| Ad) (CellF.own hz5 rfl).cell) ?_
        refine Bc rfl (Bt (k := x) Cs (A6 rfl <| Ak rfl <| Bp rfl <| Ar rfl <| Ad) (Ad) rfl hx5) ?_
        refine Bc rfl (Ap Bj (Ad) (CellF.own hz10 (Cl hx5)).cell) ?_
        refine Bc rfl (Bs (Ar rfl <| Al rfl <| Ad) (Ad)) ?_
        refine Bc rfl (Ag (Ad)) ?_
        refine B7 rfl rfl (Ad) (decide_eq_false hku) ?_
        refine Bc rfl (Bf B4 (A6 rfl <| Ay rfl <| Ak rfl <| Bp rfl <| Ar rfl <| Ad) rfl rfl (Cz hz10)) ?_
        refine B7 rfl rfl (Al rfl <| Ad) (decide_eq_false hku) ?_
        refine Bc rfl (Ap Bj (A6 rfl <| Ad) (CellF.own hz12 rfl).cell) ?_
        refine B7 rfl rfl (Ar rfl <| Ad) (decide_eq_false hku) ?_
        refine Bc rfl (Ap Bj (A6 rfl <| Ay rfl <| Ar rfl <| Ak rfl <| Bp rfl <| A6 rfl <| Ay rfl <| Al rfl <| Ad) (CellF.own hz5 rfl).cell) ?_
        refine B7 rfl rfl (Ar rfl <| Al rfl <| Ad) (decide_eq_false hku) ?_
        refine WQ_c rfl (Bi bd_92 A0 (.cons (Ar rfl <| Ad) (.cons (Al rfl <| Ad) (.cons (Ad) .nil))) (under_ok ht hl5 hkl x) (fun _ _ h => h)) ?_
        refine Bc rfl (A7 (Ay rfl <| Ad) (decide_eq_false hku) (Ad)) ?_
        refine C4 ?_
        refine Ac ?_
        by_cases hun : underB l k x = true
        ·
         refine Aq (Ad) hun ?_
         refine Bn ?_
         refine Ba (Bh ?_)
         refine Ac <| C5 (fun _ _ h => h.drop (.cons _ <| .cons_cons _ <| .refl _)) ?_
         refine Ai fun ds => Aa rfl (Br (A3 rfl <| Al rfl <| As rfl hs57) Ab rfl (by omega) (by omega)) ?_
         refine Aa rfl (Ag (Ad)) ?_
         refine Ah <| Ac ⟨_, m - 1, Off.eq (Cr rfl <| ou2 rfl <| Dk rfl <| Bd), by omega, ?_⟩
         refine ⟨_, hFG, k + 1, by omega, (Ad), ((A3 rfl <| Ar rfl <| Al rfl <| As rfl hs6)).trans (by rw [Dx (fun h => by unfold canT at h; rw [hun] at h; simp at h)]), ((A3 rfl <| Ar rfl <| Al rfl <| As rfl hs7)).trans (by rw [Dx (fun h => by unfold canT at h; rw [hun] at h; simp at h)]), rfl⟩
        ·
         replace hun : underB l k x = false := by simpa using hun
         refine Am (Ad) hun ?_
         refine Aw <| Ac <| Af <| Ai fun ds => Aa rfl (Ag (A3 rfl <| Al rfl <| Ak rfl <| Bp rfl <| Al rfl <| Ad)) ?_
         refine Aa rfl (Cq (.cons (A3 rfl <| Ar rfl <| Ak rfl <| Bp rfl <| A6 rfl <| Ay rfl <| Al rfl <| Ad) (.cons (A3 rfl <| Ar rfl <| Ak rfl <| Bp rfl <| Ar rfl <| Ad) (.cons (A6 rfl <| Ay rfl <| Al rfl <| Ad) .nil)))) ?_
         refine Bm rfl (Ch bd_72 A0 (.cons (Al rfl <| Ad) (.cons (Ad) .nil)) (spans_ok hX hv (fs := []) (cs := [.pointer (some ⟨b2, 0, none⟩), .pointer (some ⟨b8, 0, none⟩), .pointer (some ⟨b25, 0, none⟩)]) bd_93 (bef := befL l x k) (fun G hG i hi => second1_ok ht hl5 (hG _ _ hz5) (hG _ _ hz10) (hG _ _ hz12) (by omega)) (E := treeE l ++ [(k, x)]) (fun a b => by rw [befL_mem hxl, hll]) (by rw [← hll]; exact ht.dag2 hkl hxl hun)) fun v29 F30 hr31 hF32 => ?_)
         replace hr := hr.mono hF32
         replace hap := hap.mono hF32
         replace hrx := hrx.mono hF32
         replace hFG := Heap.le_trans hFG hF32
         replace hrk := hrk.mono hF32
         replace hz3 := hF32 _ _ hz3
         replace hz5 := hF32 _ _ hz5
         replace hz12 := hF32 _ _ hz12
         obtain ⟨vsp, rfl, hsp⟩ := hr31
         refine Aa rfl (Ag (Ad)) ?_
         refine Aa rfl (A1 (Ad) rfl) ?_
         refine Aa rfl (A1 (Al rfl <| Ad) rfl) ?_
         refine Aa rfl (Ae (Al rfl <| Ad)) ?_
         refine Aa rfl (Ae (Al rfl <| Ad)) ?_
         refine Ah <| Ac <| Af <| Ai fun ds => Aa rfl (Ae Ab) ?_
         refine Ah <| Ac <| Af <| Af <| Ai fun ds => Aa rfl (Ag (A3 rfl <| A6 rfl <| Ar rfl <| Ak rfl <| Ay rfl <| Ad)) ?_
         refine Aa rfl (Bk Be (Ad) hap.plain) ?_
         refine Aa rfl (Ag Ab) ?_
         refine Ah <| Ac <| Az <| Bu [16, 18, 81, 82, 83, 84, 85, 86, 87, 88, 89, 90, 91, 92, 93, 94, 95, 96, 97, 98, 99, 100, 101, 102] (fun m e σ => ∃ q : Nat, m + q = (ownL s l x).length ∧ e 81 = .int .i64 (q : Int) ∧ e 16 = .int .i64 (savesTo s (ownL s l x) x k q) ∧ σ = ⟨F30, [(b26, bx 64 (edE ps[k])), (kb, mapO [])]⟩) ((ownL s l x).length) ?_ ?_
         · exact ⟨0, by omega, (Ad), (Ar rfl <| Al rfl <| Ad), rfl⟩
         ·
          rintro m2 e2 _ ⟨q, hm2, ht981, ht916, rfl⟩
          by_cases hlq : q < (ownL s l x).length
          ·
           have hpn : (ownL s l x)[q] < s.places.length := selN_lt _ (List.getElem_mem hlq)
           have hpk : (ownL s l x)[q] < (s.ed k).rd.length := by rw [hv.rdl k (by omega)]; exact hpn
           have hpx : (ownL s l x)[q] < (s.ed x).rd.length := by rw [hv.rdl x (by omega)]; exact hpn
           have er1 := C3 hpk
           have er2 := C3 hpx
           have hsb := savesTo_bound (s := s) (own := (ownL s l x)) (x := x) (o := k) (k := q)
           refine Af <| Ai fun ds => Aa rfl (Bw (As rfl ht981) (Ak rfl <| Al rfl <| Ad)) ?_
           refine Ah <| Ac <| Af <| Aq (Ad) (by first | rfl | exact decide_eq_true (by omega)) ?_
           by_cases hsh : sharedB s x k (ownL s l x)[q] = true
           ·
            refine Aw <| Ac <| Af <| Az <| Af <| Ai fun ds => Aa rfl (A9 (k := q) Be (Al rfl <| Ak rfl <| Ar rfl <| Ad) hap.plain (Al rfl <| As rfl ht981) rfl hlq) ?_
            refine Aa rfl (Ap Bj (Ad) (hap.cell1 hlq rfl)) ?_
            refine Aa rfl (Ae (Ad)) ?_
            refine Ah <| Ac <| Af <| Cu (.inl rfl) (fun _ _ h => h) (by kernel_rfl) (by kernel_rfl) fun ds => ?_
            refine Bc rfl (Ao Ca (Ay rfl <| Ak rfl <| A3 rfl <| Ay rfl <| Ar rfl <| Al rfl <| Ad)) ?_
            refine Bc rfl (Ap Cb (Ad) (Cell.own 0 rfl rfl)) ?_
            refine Bc rfl (Ag (Ar rfl <| Ad)) ?_
            refine Bc rfl (A9 (k := (ownL s l x)[q]) Be (Al rfl <| Ad) hrk.plain (Ad) rfl hpk) ?_
            refine Bc rfl (Ap Bj (Ad) (hrk.cell1 hpk rfl)) ?_
            refine Bc rfl (Ao Bv (A6 rfl <| Al rfl <| Ak rfl <| A3 rfl <| A6 rfl <| Ay rfl <| Al rfl <| Ak rfl <| Bp rfl <| A6 rfl <| Ay rfl <| Ar rfl <| Ad)) ?_
            refine Bc rfl (Ap Bz (Ad) (CellF.own hz3 rfl).cell) ?_
            refine Bc rfl (Ap Bj (A6 rfl <| Ar rfl <| Al rfl <| Ak rfl <| A3 rfl <| A6 rfl <| Ay rfl <| Al rfl <| Ak rfl <| Bp rfl <| A6 rfl <| Ay rfl <| Al rfl <| Ad) (CellF.own hz5 rfl).cell) ?_
            refine Bc rfl (A9 (k := x) B5 (Al rfl <| Ad) hr.eds.plain (Ad) rfl hxp) ?_
            refine Bc rfl (Bo Ca (Ad)) ?_
            refine Bc rfl (Ap Cb (Ad) (hr.eds.cell hxp rfl)) ?_
            refine Bc rfl (Ag (A6 rfl <| Ar rfl <| Al rfl <| Ad)) ?_
            refine Bc rfl (A9 (k := (ownL s l x)[q]) Be (Al rfl <| Ad) hrx.plain (Ad) rfl hpx) ?_
            refine Bc rfl (Ap Bj (Ad) (hrx.cell1 hpx rfl)) ?_
            refine Bc rfl (Bs (A6 rfl <| Al rfl <| Ad) (Ad)) ?_
            refine C4 ?_
            refine Ac <| Aq (Ad) (by rw [er1, er2]; exact hsh) ?_
            refine Ai fun ds => Aa rfl (Ag (A3 rfl <| Ar rfl <| Al rfl <| As rfl ht916)) ?_
            refine Aa rfl (Br (Ad) Ab rfl (by omega) (by omega)) ?_
            refine Aa rfl (Ae (Ad)) ?_
            refine Ah <| Bb <| Ac <| Ai fun ds => Aa rfl (Br (A3 rfl <| Ay rfl <| Ar rfl <| As rfl ht981) Ab rfl (by omega) (by omega)) ?_
            refine Aa rfl (Ag (Ad)) ?_
            refine Ah <| Ac ⟨_, m2 - 1, Off.eq (Cr rfl <| Dj rfl <| Bd), by omega, ?_⟩
            exact ⟨q + 1, by omega, (Ad), ((Ar rfl <| Ad)).trans (by rw [savesTo_succ hlq, if_pos hsh]), rfl⟩
           ·
            replace hsh : sharedB s x k (ownL s l x)[q] = false := by simpa using hsh
            refine Aw <| Ac <| Af <| Az <| Af <| Ai fun ds => Aa rfl (A9 (k := q) Be (Al rfl <| Ak rfl <| Ar rfl <| Ad) hap.plain (Al rfl <| As rfl ht981) rfl hlq) ?_
            refine Aa rfl (Ap Bj (Ad) (hap.cell1 hlq rfl)) ?_
            refine Aa rfl (Ae (Ad)) ?_
            refine Ah <| Ac <| Af <| Cu (.inl rfl) (fun _ _ h => h) (by kernel_rfl) (by kernel_rfl) fun ds => ?_
            refine Bc rfl (Ao Ca (Ay rfl <| Ak rfl <| A3 rfl <| Ay rfl <| Ar rfl <| Al rfl <| Ad)) ?_
            refine Bc rfl (Ap Cb (Ad) (Cell.own 0 rfl rfl)) ?_
            refine Bc rfl (Ag (Ar rfl <| Ad)) ?_
            refine Bc rfl (A9 (k := (ownL s l x)[q]) Be (Al rfl <| Ad) hrk.plain (Ad) rfl hpk) ?_
            refine Bc rfl (Ap Bj (Ad) (hrk.cell1 hpk rfl)) ?_
            refine Bc rfl (Ao Bv (A6 rfl <| Al rfl <| Ak rfl <| A3 rfl <| A6 rfl <| Ay rfl <| Al rfl <| Ak rfl <| Bp rfl <| A6 rfl <| Ay rfl <| Ar rfl <| Ad)) ?_
            refine Bc rfl (Ap Bz (Ad) (CellF.own hz3 rfl).cell) ?_
            refine Bc rfl (Ap Bj (A6 rfl <| Ar rfl <| Al rfl <| Ak rfl <| A3 rfl <| A6 rfl <| Ay rfl <| Al rfl <| Ak rfl <| Bp rfl <| A6 rfl <| Ay rfl <| Al rfl <| Ad) (CellF.own hz5 rfl).cell) ?_
            refine Bc rfl (A9 (k := x) B5 (Al rfl <| Ad) hr.eds.plain (Ad) rfl hxp) ?_
            refine Bc rfl (Bo Ca (Ad)) ?_
            refine Bc rfl (Ap Cb (Ad) (hr.eds.cell hxp rfl)) ?_
            refine Bc rfl (Ag (A6 rfl <| Ar rfl <| Al rfl <| Ad)) ?_
            refine Bc rfl (A9 (k := (ownL s l x)[q]) Be (Al rfl <| Ad) hrx.plain (Ad) rfl hpx) ?_
            refine Bc rfl (Ap Bj (Ad) (hrx.cell1 hpx rfl)) ?_
            refine Bc rfl (Bs (A6 rfl <| Al rfl <| Ad) (Ad)) ?_
            refine C4 ?_
            refine Ac <| Am (Ad) (by rw [er1, er2]; exact hsh) ?_
            refine Aw <| Bb <| Ac <| Ai fun ds => Aa rfl (Br (A3 rfl <| Ar rfl <| Al rfl <| As rfl ht981) Ab rfl (by omega) (by omega)) ?_
            refine Aa rfl (Ag (Ad)) ?_
            refine Ah <| Ac ⟨_, m2 - 1, Off.eq (Cr rfl <| Dv rfl <| Dk rfl <| Bd), by omega, ?_⟩
            exact ⟨q + 1, by omega, (Ad), ((A3 rfl <| Ay rfl <| Al rfl <| As rfl ht916)).trans (by rw [savesTo_succ hlq, if_neg (by rw [hsh]; simp)]), rfl⟩
          ·
           refine Af <| Ai fun ds => Aa rfl (Bw (As rfl ht981) (Ak rfl <| Al rfl <| Ad)) ?_
           refine Ah <| Ac <| Af <| Am (Ad) (by first | rfl | exact decide_eq_false (by omega)) ?_
           obtain rfl : q = (ownL s l x).length := by omega
           by_cases hf2 : fitsT2 s l x k = true
           ·
            have hcan : canT s l x k = true := by unfold canT; rw [decide_eq_true hku, hun, hf2]; rfl
            refine Bn ?_
            refine Ba <| Ba <| Bh <| Ac <| Af <| Ai fun ds => Aa rfl (Ag (Al rfl <| Ak rfl <| Ay rfl <| Ad)) ?_
            refine Aa rfl (Ag (Ad)) ?_
            refine Au rfl rfl (Ad) (by unfold fitsT2 at hf2; exact hf2) ?_
            refine Aa rfl (Ag (Ar rfl <| Al rfl <| As rfl ht916)) ?_
            refine Au rfl rfl (Al rfl <| Ad) (by unfold fitsT2 at hf2; exact hf2) ?_
            refine Aa rfl (Ag (Ay rfl <| Ak rfl <| A3 rfl <| A6 rfl <| Ay rfl <| Al rfl <| As rfl hs7)) ?_
            refine Au rfl rfl (Ar rfl <| Ad) (by unfold fitsT2 at hf2; exact hf2) ?_
            refine Aa rfl (De (Al rfl <| Ad) (Ad)) ?_
            refine Aa rfl (A2 (Ar rfl <| Al rfl <| Ad) (by unfold fitsT2 at hf2; exact hf2) (Ad)) ?_
            refine Ah <| Ac ?_
            by_cases hgt : (secTo s l x k).2 < savesN s l x k
            ·
             refine Aq (Ad) (by rw [Eq]; exact decide_eq_true hgt) ?_
             refine Ai fun ds => Aa rfl (Ap Bj (Ay rfl <| Ar rfl <| Al rfl <| Ak rfl <| A3 rfl <| A6 rfl <| Ad) (CellF.own hz12 rfl).cell) ?_
             refine Aa rfl (Ag (A6 rfl <| As rfl ht916)) ?_
             refine Aa rfl (Ae (Al rfl <| Ad)) ?_
             refine Aa rfl (Ae (Al rfl <| Ad)) ?_
             refine Ah <| Bb <| Ac <| C5 (fun _ _ h => h.drop (.cons _ <| .cons_cons _ <| .refl _)) ?_
             refine Ai fun ds => Aa rfl (Br (A6 rfl <| Ar rfl <| Al rfl <| Ak rfl <| A3 rfl <| A6 rfl <| Ay rfl <| Al rfl <| As rfl hs57) Ab rfl (by omega) (by omega)) ?_
             refine Aa rfl (Ag (Ad)) ?_
             refine Ah <| Ac ⟨_, m - 1, Off.eq (Dj rfl <| Dv rfl <| Dk rfl <| Ds rfl <| Cr rfl <| Dj rfl <| Dv rfl <| Dk rfl <| Bd), by omega, ?_⟩
             refine ⟨_, hFG, k + 1, by omega, (Ad), ((Ar rfl <| Al rfl <| Ad)).trans (by rw [secTo_yes hcan hgt]; first | done | rfl | rw [Eq]), ((Ar rfl <| Ad)).trans (by rw [secTo_yes hcan hgt]; first | done | rfl | rw [Eq]), rfl⟩
            ·
             refine Am (Ad) (by rw [Eq]; exact decide_eq_false hgt) ?_
             refine Aw <| Bb <| Ac <| C5 (fun _ _ h => h.drop (.cons _ <| .cons_cons _ <| .refl _)) ?_
             refine Ai fun ds => Aa rfl (Br (Ay rfl <| Ar rfl <| Al rfl <| Ak rfl <| A3 rfl <| A6 rfl <| Ay rfl <| Al rfl <| As rfl hs57) Ab rfl (by omega) (by omega)) ?_
             refine Aa rfl (Ag (Ad)) ?_
             refine Ah <| Ac ⟨_, m - 1, Off.eq (Dj rfl <| Dk rfl <| Ds rfl <| Cr rfl <| Dj rfl <| Dv rfl <| Dk rfl <| Bd), by omega, ?_⟩
             refine ⟨_, hFG, k + 1, by omega, (Ad), ((A6 rfl <| Al rfl <| Ak rfl <| A3 rfl <| A6 rfl <| Ay rfl <| Al rfl <| As rfl hs6)).trans (by rw [Dx (fun h => hgt h.2)]), ((A6 rfl <| Al rfl <| Ak rfl <| A3 rfl <| A6 rfl <| Ay rfl <| Al rfl <| As rfl hs7)).trans (by rw [Dx (fun h => hgt h.2)]), rfl⟩
           ·
            replace hf2 : fitsT2 s l x k = false := by simpa using hf2
            have hcan : canT s l x k = false := by unfold canT; rw [hf2]; simp
            refine Bn ?_
            refine Ba <| Ba <| Bh <| Ac <| Af <| Ai fun ds => Aa rfl (Ag (Al rfl <| Ak rfl <| Ay rfl <| Ad)) ?_
            refine Aa rfl (Ag (Ad)) ?_
            refine At rfl rfl (Ad) (.inl (congrArg Value.bool (by unfold fitsT2 at hf2; exact hf2))) rfl ?_
            refine At rfl rfl (Al rfl <| Ad) (.inl (congrArg Value.bool (by unfold fitsT2 at hf2; exact hf2))) rfl ?_
            refine At rfl rfl (Ar rfl <| Ad) (.inl (congrArg Value.bool (by unfold fitsT2 at hf2; exact hf2))) rfl ?_
            refine Aa rfl (A7 (Ar rfl <| Al rfl <| Ad) (by unfold fitsT2 at hf2; exact hf2) Ab) ?_
            refine Ah <| Ac <| Am (Ad) rfl ?_
            refine Aw <| Bb <| Ac <| C5 (fun _ _ h => h.drop (.cons _ <| .cons_cons _ <| .refl _)) ?_
            refine Ai fun ds => Aa rfl (Br (Ay rfl <| Ar rfl <| Al rfl <| Ak rfl <| A3 rfl <| A6 rfl <| Ay rfl <| Al rfl <| As rfl hs57) Ab rfl (by omega) (by omega)) ?_
            refine Aa rfl (Ag (Ad)) ?_
            refine Ah <| Ac ⟨_, m - 1, Off.eq (Dj rfl <| Dk rfl <| Ds rfl <| Cr rfl <| Dj rfl <| Dv rfl <| Dk rfl <| Bd), by omega, ?_⟩
            refine ⟨_, hFG, k + 1, by omega, (Ad), ((A6 rfl <| Al rfl <| Ak rfl <| A3 rfl <| A6 rfl <| Ay rfl <| Al rfl <| As rfl hs6)).trans (by rw [Dx (fun h => by rw [hcan] at h; exact absurd h.1 (by decide))]), ((A6 rfl <| Al rfl <| Ak rfl <| A3 rfl <| A6 rfl <| Ay rfl <| Al rfl <| As rfl hs7)).trans (by rw [Dx (fun h => by rw [hcan] at h; exact absurd h.1 (by decide))]), rfl⟩
       ·
        refine Cu (.inl rfl) (fun _ _ h => h) (by kernel_rfl) (by kernel_rfl) fun ds => ?_
        refine Bc rfl (Ap Bj (Al rfl <| Ad) (CellF.own hz12 rfl).cell) ?_
        refine Bc rfl (Ap Bj (Ay rfl <| Ar rfl <| Al rfl <| Ak rfl <| Bp rfl <| A6 rfl <| Ay rfl <| Al rfl <| Ad) (CellF.own hz5 rfl).cell) ?_
        refine Bc rfl (Bt (k := x) Cs (A6 rfl <| Ak rfl <| Bp rfl <| Ar rfl <| Ad) (Ad) rfl hx5) ?_
        refine Bc rfl (Ap Bj (Ad) (CellF.own hz10 (Cl hx5)).cell) ?_
        refine Bc rfl (Bs (Ar rfl <| Al rfl <| Ad) (Ad)) ?_
        refine Bc rfl (Ag (Ad)) ?_
        refine B1 rfl rfl (Ad) (.inl (congrArg Value.bool (decide_eq_true (Classical.not_not.1 hku)))) rfl ?_
        refine B1 rfl rfl (Al rfl <| Ad) (.inl (congrArg Value.bool (decide_eq_true (Classical.not_not.1 hku)))) rfl ?_
        refine B1 rfl rfl (Ar rfl <| Ad) (.inl (congrArg Value.bool (decide_eq_true (Classical.not_not.1 hku)))) rfl ?_
        refine B1 rfl rfl (Ar rfl <| Al rfl <| Ad) (.inl (congrArg Value.bool (decide_eq_true (Classical.not_not.1 hku)))) rfl ?_
        refine Bc rfl (A2 (Ay rfl <| Ad) (decide_eq_true (Classical.not_not.1 hku)) Ab) ?_
        refine C4 ?_
        refine Ac <| Aq (Ad) rfl ?_
        refine Bn ?_
        refine Ba (Bh ?_)
        refine Ac <| C5 (fun _ _ h => h.drop (.cons _ <| .cons_cons _ <| .refl _)) ?_
        refine Ai fun ds => Aa rfl (Br (A3 rfl <| Al rfl <| As rfl hs57) Ab rfl (by omega) (by omega)) ?_
        refine Aa rfl (Ag (Ad)) ?_
        refine Ah <| Ac ⟨_, m - 1, Off.eq (Cr rfl <| ou2 rfl <| Dk rfl <| Bd), by omega, ?_⟩
        refine ⟨_, hFG, k + 1, by omega, (Ad), ((A3 rfl <| Ar rfl <| Al rfl <| As rfl hs6)).trans (by rw [Dx (fun h => by unfold canT at h; rw [decide_eq_false hku] at h; simp at h)]), ((A3 rfl <| Ar rfl <| Al rfl <| As rfl hs7)).trans (by rw [Dx (fun h => by unfold canT at h; rw [decide_eq_false hku] at h; simp at h)]), rfl⟩
      ·
       refine Af <| Ai fun ds => Aa rfl (Bw (As rfl hs57) (Ak rfl <| Al rfl <| Ad)) ?_
       refine Ah <| Ac <| Af <| Am (Ad) (by first | rfl | exact decide_eq_false (by omega)) ?_
       obtain rfl : k = s.editions.length := by omega
       by_cases hz0 : (secTo s l x s.editions.length).2 = 0
       ·
        refine Bn ?_
        refine Ba <| Ba <| Bh <| Ac <| Af <| Af <| Ai fun ds => Aa rfl (Ag (Al rfl <| As rfl hs7)) ?_
        refine Aa rfl (Bs (Ad) Ab) ?_
        refine Ah <| Ac <| Aq (Ad) (decide_eq_true hz0) ?_
        refine Af <| Ai fun ds => Aa rfl (Ae Ab) ?_
        refine Aa rfl (Ae Ab) ?_
        refine Aa rfl (Ae Ab) ?_
        refine Ah <| Ac <| A4 <| Bg ?_
        refine Ax rfl (.tmp (Ar rfl <| Ad) (.tmp (Al rfl <| Ad) (.tmp (Ad) .nil))) ?_
        show _ = _
        rw [secE_zero hse hz0]; rfl
       ·
        refine Bn ?_
        refine Ba <| Ba <| Bh <| Ac <| Af <| Af <| Ai fun ds => Aa rfl (Ag (Al rfl <| As rfl hs7)) ?_
        refine Aa rfl (Bs (Ad) Ab) ?_
        refine Ah <| Ac <| Am (Ad) (decide_eq_false hz0) ?_
        refine Aw <| Ac <| Af <| Ai fun ds => Aa rfl (Ag (Ar rfl <| Al rfl <| As rfl hs6)) ?_
        refine Aa rfl (Ag (Ay rfl <| As rfl hs7)) ?_
        refine Aa rfl (Ae (Al rfl <| Ad)) ?_
        refine Aa rfl (Ae (Al rfl <| Ad)) ?_
        refine Aa rfl (Ae Ab) ?_
        refine Ah <| Ac <| A4 <| Ax rfl (.tmp (Ar rfl <| Ad) (.tmp (Al rfl <| Ad) (.tmp (Ad) .nil))) ?_
        show _ = _
        rw [secE_ok hse hz0]; rfl
   ·
    replace hft : fitsT s l = false := by simpa using hft
    refine Af <| Ai fun ds => Aa rfl (Ag (A6 rfl <| Ay rfl <| Ad)) ?_
    refine Aa rfl (Bf B4 (A6 rfl <| Ay rfl <| Ar rfl <| Ad) rfl rfl (Cz hz10)) ?_
    refine Bx rfl (Bi bd_91 A0 (.cons (Al rfl <| Ad) (.cons (Ad) .nil)) (fits_ok hX ht hll hv) (fun _ _ h => h)) ?_
    refine Aa rfl (Ci (Ad)) ?_
    refine Aa rfl (Ae (Ad)) ?_
    refine Ah <| Ac <| Aq (Ad) (by unfold fitsT at hft; rw [hft]; first | done | rfl) ?_
    refine Af <| Ai fun ds => Aa rfl (Ae Ab) ?_
    refine Aa rfl (Ae Ab) ?_
    refine Aa rfl (Ae Ab) ?_
    refine Ah <| Ac <| A4 <| Bl (Bg ?_)
    refine Ax rfl (.tmp (Ar rfl <| Ad) (.tmp (Al rfl <| Ad) (.tmp (Ad) .nil))) ?_
    show _ = _
    rw [secE_bad (secErr_3 hok h1 hft) (by decide)]; rfl
  ·
   replace h1 : inB 0 (s.editions.length - 1) z = false := by simpa using h1
   refine Af <| Ai fun ds => Aa rfl (Ao Bv (A3 rfl <| Al rfl <| Ad)) ?_
   refine Aa rfl (Ap Bz (Ad) (CellF.own hz3 rfl).cell) ?_
   refine Aa rfl (Bk B5 (Ad) hr.eds.plain) ?_
   refine Aa rfl (D2 (Ad) Ab rfl (by omega) (by omega)) ?_
   refine Aa rfl (Ap Bj (A3 rfl <| Ay rfl <| Ad) (CellF.own hz5 rfl).cell) ?_
   refine Bm rfl (B6 Be Da rfl (.cons (Ad) .nil) rfl rfl (by decide) (by simp [Value.oneCell']) fun b34 hb34 nb34 => ?_)
   refine B8 (i := 0) rfl hb34 .here fun F35 hF36 hz37 => ?_
   have hsl38 := C0 hz37
   refine Bx rfl (Bi Ei A0 (.cons Ab (.cons (Ar rfl <| Ad) (.cons (Ad) .nil))) (Ck _ _ hsl38) (fun _ _ h => h)) ?_
   refine Aa rfl (Ae (Ad)) ?_
   refine Ah <| Ac <| Aq (Ad) (by simp [hlen, h1]) ?_
   refine Af <| Ai fun ds => Aa rfl (Ae Ab) ?_
   refine Aa rfl (Ae Ab) ?_
   refine Aa rfl (Ae Ab) ?_
   refine Ah <| Ac <| A4 <| Bl (Bg ?_)
   refine Ax rfl (.tmp (Ar rfl <| Ad) (.tmp (Al rfl <| Ad) (.tmp (Ad) .nil))) ?_
   show _ = _
   rw [secE_bad (secErr_2 hok h1) (by decide)]; rfl
 ·
  refine Af <| Ai fun ds => Bm rfl (B2 (Aj rfl) rfl fun b39 hb39 nb39 => ?_)
  refine Bm rfl (B2 (Al rfl <| Aj rfl) rfl fun b40 hb40 nb40 => ?_)
  refine Aa rfl (Ae Ab) ?_
  refine Aa rfl (Ae Ab) ?_
  refine Aa rfl (Ae Ab) ?_
  refine Ah <| Ac <| Af <| Ai fun ds => Aa rfl (Bf B0 (Ay rfl <| Ad) rfl rfl (A8 1 rfl)) ?_
  refine Aa rfl (Ag (Ay rfl <| Ar rfl <| Aj rfl)) ?_
  refine Bm rfl (Ch bd_68 A0 (.cons (Al rfl <| Ad) (.cons (Ad) .nil)) (enter_bad hr hl hok) fun v41 F42 hr43 hF44 => ?_)
  obtain ⟨l2, rfl⟩ := hr43
  refine Aa rfl (Ag (Ad)) ?_
  refine Aa rfl (A1 (Ad) rfl) ?_
  refine Aa rfl (A1 (Al rfl <| Ad) rfl) ?_
  refine Aa rfl (A1 (Ar rfl <| Ad) rfl) ?_
  refine Bm rfl (Cf Eh rfl fun b45 hb45 nb45 => ?_)
  refine Aa rfl (Ae (Ar rfl <| Al rfl <| Ad)) ?_
  refine Cm (Cj En (Al rfl <| Ad) (Ar rfl <| Al rfl <| Ad) (i := 0) rfl rfl rfl rfl Df (.here) ?_)
  refine Aa rfl (Ae (Ar rfl <| Ad)) ?_
  refine Ah <| Ac <| Af <| Az <| Af <| Ai fun ds => Aa rfl (Ag (Ad)) ?_
  refine Aa rfl (By (Ad) Ab) ?_
  refine Aa rfl (Ae (Ad)) ?_
  refine Ah <| Ac <| Aq (Ad) (decide_eq_true hok) ?_
  refine Af <| Ai fun ds => Aa rfl (Ag (Ar rfl <| Al rfl <| Ad)) ?_
  refine Aa rfl (Ae Ab) ?_
  refine Aa rfl (Ae Ab) ?_
  refine Aa rfl (Ae (Ar rfl <| Ad)) ?_
  refine Ah <| Ac <| A4 <| Bl (Bg ?_)
  refine Ax rfl (.tmp (Ar rfl <| Ad) (.tmp (Al rfl <| Ad) (.tmp (Ad) .nil))) ?_
  show _ = _
  rw [secE_bad (secErr_1 hok) hok]; rfl
end Go.Proofs.Ytccogmkhijgelaa
namespace Go.Proofs.Ytccogmkhijgelaa
theorem edE_len (p : Go.Value × Edn) : (edE p).length = 4 := rfl
theorem ed_flat_set {ps : List (Go.Value × Edn)} {x : Nat} {u : Go.Value} {e : Edn} (hx : x < ps.length) (h1 : e.name = ps[x].2.name) (h2 : e.lo = ps[x].2.lo) (h3 : e.hi = ps[x].2.hi) : (ps.flatMap edE).set (x * 4 + 3) u = (ps.set x (u, e)).flatMap edE :=
 flat_set edE_len (j := 3) (x := (u, e)) (by omega) ps x hx (by simp [edE, h1, h2, h3])
theorem ed_flat_get {ps : List (Go.Value × Edn)} {x : Nat} (hx : x < ps.length) : (ps.flatMap edE)[x * 4 + 3]? = some ps[x].1 :=
 flat_at (enc := edE) (s := 4) edE_len (j := 3) ps x hx rfl
theorem ed_set_get {ps : List (Go.Value × Edn)} {x : Nat} {u : Go.Value} {e : Edn} (hx : x < ps.length) : ((ps.set x (u, e)).flatMap edE)[x * 4 + 3]? = some u := by
 have h := ed_flat_get (ps := ps.set x (u, e)) (x := x) (by simpa using hx)
 rw [h]; simp
theorem ed_own_set {E : Nat} {w : Go.Value} {R : List (Nat × Go.Obj)} {ps : List (Go.Value × Edn)} {x : Nat} {u : Go.Value} {e : Edn} (h : Own E 4 w ps.length ((ps.flatMap edE).set (x * 4 + 3) u) R) (hx : x < ps.length) (h1 : e.name = ps[x].2.name) (h2 : e.lo = ps[x].2.lo) (h3 : e.hi = ps[x].2.hi) : Own E 4 w (ps.set x (u, e)).length ((ps.set x (u, e)).flatMap edE) R := by
 rw [ed_flat_set hx h1 h2 h3] at h
 rw [List.length_set]; exact h
theorem int_flat_set {xs : List Int} {p : Nat} {v : Int} (hp : p < xs.length) : (xs.flatMap intE).set (p * 1 + 0) (.int .i64 v) = (xs.set p v).flatMap intE :=
 flat_set (enc := intE) (s := 1) (fun _ => rfl) (j := 0) (x := v) (by omega) xs p hp rfl
theorem StmR.set {F : Heap} {vp ve ve' u : Go.Value} {ps : List (Go.Value × Edn)} {s : Stm} {x p : Nat} {v : Int} (h : StmR F vp ve ps s) (he : Sl F ve' 4 edE (ps.set x (u, (s.ed x).setR p v))) (hu : Ints F u ((s.ed x).rd.set p v)) :
   StmR F vp ve' (ps.set x (u, (s.ed x).setR p v)) (setS s x p v) := by
 refine ⟨h.places, he, fun q hq => ?_, ?_⟩
 · rcases List.mem_or_eq_of_mem_set hq with hq | rfl
   · exact h.rds q hq
   · exact hu
 · rw [List.map_set, h.eqs]; rfl
end Go.Proofs.Ytccogmkhijgelaa
namespace Go.Proofs.Ytccogmkhijgelaa
open Go.RowKit
section
variable {P : Program} {n : Nat} {B : Base} {e : Env} {σ : St} {ty : TypeId} {pos : String} {af : Array Edge}
theorem x_callNf {d : Option Nat} {g : FuncId} {f : Operand} {cs vs : List Value} {xs : List Operand} {at_ : Array TypeId}
   {R : Value → Heap → List (Nat × Obj) → Prop} {K : Value → St → Prop} (hg : Body P g) (hf : ev e f = .func (.func g) #[] cs.toArray) (hx : Av e xs vs)
   (hok : OkN P g (vs ++ cs).toArray σ.F R) (hn : ∀ v F' Hn, R v F' Hn → σ.F.le F' → K v ⟨F', Hn ++ σ.H⟩) :
   OpX P n B ⟨d, .call ⟨.value f, xs.toArray, at_⟩, ty, pos, af, none⟩ e σ K := by
 intro a w ha hw next Qx hnext
 refine D1 (K := fun v σ' => ∃ F' Hn, σ' = ⟨F', σ.H ++ Hn⟩ ∧ K v ⟨F', Hn ++ σ.H⟩) hg hf hx hok (fun v F' Hn hR hF => ⟨F', Hn, rfl, hn v F' Hn hR hF⟩) a w ha hw next Qx ?_
 intro v σ' w' hK hw'
 obtain ⟨F', Hn, rfl, hK⟩ := hK
 exact hnext v _ w' hK hw'.rot
end
/-- A slice that is read is a source. -/
theorem Sl.srcM {α : Type} {F : Heap} {H : List (Nat × Obj)} {v : Value} {s : Nat} {enc : α → List Value} {xs : List α} (h : Sl F v s enc xs) (hs : ∀ x, (enc x).length = s) (h1 : ∀ x ∈ xs, ∀ u ∈ enc x, u.oneCell' = true) :
   Src ⟨F, H⟩ v xs.length (xs.flatMap enc) s := by
 have hlen : ∀ l : List α, (l.flatMap enc).length = l.length * s := by
   intro l; induction l with
   | nil => simp
   | cons x l ih => simp [List.flatMap_cons, hs, ih, Nat.add_mul, Nat.add_comm]
 obtain ⟨a, c, rfl, hsp, hno, hlc, -⟩ := h.plain
 refine ⟨hlen xs, fun u hu => ?_, a, c, rfl, fun ha => (hno ha).1, fun x hx => ⟨fun h0 => hsp (by omega) x hx, fun j u hj => ?_⟩⟩
 · obtain ⟨x, hm, hx⟩ := List.mem_flatMap.1 hu
   exact h1 x hm u hx
 · subst hx
   have key : ∀ (l : List α) (j : Nat) (u : Value), (l.flatMap enc)[j]? = some u → ∃ i k, ∃ hi : i < l.length, j = i * s + k ∧ (enc l[i])[k]? = some u := by
     intro l
     induction l with
     | nil => intro j u hj; simp at hj
     | cons x l ih =>
       intro j u hj
       rw [List.flatMap_cons, List.getElem?_append] at hj
       split at hj
       · exact ⟨0, j, by simp, by simp, by simpa using hj⟩
       · rename_i hge
         rw [hs] at hj hge
         obtain ⟨i, k, hi, e1, e2⟩ := ih _ u hj
         exact ⟨i + 1, k, by simpa using hi, by rw [Nat.add_mul]; omega, by simpa using e2⟩
   obtain ⟨i, k, hi, rfl, hk⟩ := key xs j u hj
   have := h.cells i hi k u hk
   have hb : addc (base (.slice (some x) xs.length c)) (i * s + k) = addc x (i * s + k) := by
     simp [base, addc]
   rw [hb] at this
   exact this.cell
end Go.Proofs.Ytccogmkhijgelaa
namespace Go.Proofs.Ytccogmkhijgelaa
open Go.RowKit
theorem agg_128 : AggT Try.prog 128 3 := aggT_of (by kernel_rfl)
theorem bd_87 : Body Try.prog 87 := Bq (by kernel_rfl)
theorem el_64 : ElemT Try.prog 64 4 56 (.agg #[.string ⟨#[]⟩, .int .i64 0, .int .i64 0, .slice none 0 0]) := elemT_of (by kernel_rfl) rfl (by decide)
theorem sz_128 : SizeT Try.prog 128 3 := Cx (by kernel_rfl)
theorem sz_23 : SizeT Try.prog 23 1 := Cx (by kernel_rfl)
theorem sz_26 : SizeT Try.prog 26 1 := Cx (by kernel_rfl)
theorem src_eds {F : Heap} {v : Value} {ps : List (Value × Edn)} (h : Sl F v 4 edE ps) (hone : ∀ p ∈ ps, p.1.oneCell' = true) {H : List (Nat × Obj)} : Src ⟨F, H⟩ v ps.length (ps.flatMap edE) 4 := h.srcM edE_len fun p hp => edE_one (hone p hp)
theorem StmX.ones {F : Heap} {b kb : Nat} {vp ve : Value} {ps : List (Value × Edn)} {s : Stm} (hX : StmX F b vp ve (.map (some kb)) ps s) : ∀ u ∈ [vp, ve, .map (some kb)], u.oneCell' = true := by
 intro u hu
 simp only [List.mem_cons, List.not_mem_nil, or_false] at hu
 rcases hu with rfl | rfl | rfl
 · exact hX.r.places.plain.one
 · exact hX.r.eds.plain.one
 · rfl
set_option maxRecDepth 100000 in
theorem cloneEd_own {F : Heap} {v : Value} {ps : List (Value × Edn)} (h : Sl F v 4 edE ps) (hone : ∀ p ∈ ps, p.1.oneCell' = true) (hn : ps.length ≤ 1000) : OkN Try.prog 87 [v].toArray F fun u _F' Hn => Own 64 4 u ps.length (ps.flatMap edE) Hn := by
 obtain ⟨a0, c0, rfl, g1, g2, g3, g4⟩ := h.plain
 refine OkN.intro Try.func87 rfl Try.ntmps87 rfl fun w0 => ?_
 cases a0
 ·
  refine Af <| Ai fun ds => Aa rfl (Ae Ab) ?_
  refine Ah <| Ac <| Af <| Af <| Ai fun ds => Aa rfl (Ag (Al rfl <| Aj rfl)) ?_
  refine Aa rfl (q_eqlNil Try.underlying23 (Ad) Ab) ?_
  refine Ah <| Ac <| Aq (Ad) rfl ?_
  refine Af <| Ai fun ds => Aa rfl (Ae Ab) ?_
  refine Ah <| Ac <| A4 <| Bg ?_
  refine Es rfl (.tmp (Ad) .nil) (List.nil_sublist _) ?_
  obtain ⟨h0, -⟩ := g2 rfl
  have : ps = [] := List.eq_nil_of_length_eq_zero h0
  subst this
  exact El
 ·
  refine Af <| Ai fun ds => Aa rfl (Ae Ab) ?_
  refine Ah <| Ac <| Af <| Af <| Ai fun ds => Aa rfl (Ag (Al rfl <| Aj rfl)) ?_
  refine Aa rfl (q_eqlNil Try.underlying23 (Ad) Ab) ?_
  refine Ah <| Ac <| Am (Ad) rfl ?_
  refine Aw <| Ac <| Af <| Ai fun ds => Bm rfl (x_build0 B5 fun b1 hb1 nb1 => ?_)
  refine Aa rfl (Ag (Ay rfl <| Aj rfl)) ?_
  refine Bm rfl (B9 B5 el_64 (Al rfl <| Ad) (E2 rfl) (Ad) (src_eds h hone) (by omega) (by omega) (.z) .box fun v2 R3 ho4 => ?_)
  have ho1 : Own 64 4 v2 ps.length (ps.flatMap edE) R3 := by simpa using ho4
  refine Aa rfl (Ae (Ad)) ?_
  refine Ah <| Ac <| A4 <| Es rfl (.tmp (Ad) .nil) (List.sublist_append_left _ _) ?_
  exact ho1
def IntsR7 (F : Heap) (u : Value) (p : List Int × Int) : Prop := ∃ v, u = .tuple #[v, .int .i64 p.2] ∧ Ints F v p.1
theorem IntsR7.mono {F F' : Heap} {u : Value} {p : List Int × Int} (h : IntsR7 F u p) (hF : F.le F') : IntsR7 F' u p := by obtain ⟨v, h1, h2⟩ := h; exact ⟨v, h1, h2.mono hF⟩
set_option maxRecDepth 100000 in
theorem reading_top_ok {F : Heap} {vp ve : Value} {ps : List (Value × Edn)} {s : Stm} (hr : StmR F vp ve ps s) {v : Value} {l : List Int} (hl : Ints F v l) (z q : Int) : Ok Try.prog 35 [.agg #[vp, ve], v, .int .i64 z, .int .i64 q].toArray F fun u F' => IntsR7 F' u (readE s l z q) := by
 have hle0 : F.le F := Heap.le_refl _
 refine Ok.intro Try.func35 rfl Try.ntmps35 rfl fun w0 => ?_
 have hL := hl.plain.lt
 have hlen := hr.len
 have hL1 := hr.eds.plain.lt
 have hL2 := hr.places.plain.lt
 by_cases hok : treeErr s l = 0
 ·
  obtain ⟨hv, hll, ht⟩ := tree_ok hok
  have hne := hv.ne
  have hnp := hv.np
  have hl5 : l.length ≤ 5 := by omega
  have hcv := changes_costV (s := s) ht hv hll
  have hcb := costL_bound (s := s) (l := l)
  refine Af <| Ai fun ds => Bm rfl (B2 (Aj rfl) rfl fun b1 hb1 nb1 => ?_)
  refine Aa rfl (Ae Ab) ?_
  refine Aa rfl (Ae Ab) ?_
  refine Ah <| Ac <| Af <| Ai fun ds => Aa rfl (Bf B0 (Ar rfl <| Ad) rfl rfl (A8 0 rfl)) ?_
  refine Aa rfl (Ag (Ay rfl <| Aj rfl)) ?_
  refine Bm rfl (D1 bd_68 A0 (.cons (Al rfl <| Ad) (.cons (Ad) .nil)) (enter_ok hr hl hok) fun v2 F3 R6 hr4 hF5 => ?_)
  replace hr := hr.mono hF5
  replace hle0 := Heap.le_trans hle0 hF5
  obtain ⟨ba, kb, rfl, hX, rfl⟩ := hr4
  refine Aa rfl (Ag (Ad)) ?_
  refine Aa rfl (A1 (Ad) rfl) ?_
  refine Aa rfl (A1 (Al rfl <| Ad) rfl) ?_
  refine Aa rfl (A1 (Ar rfl <| Ad) rfl) ?_
  refine Bm rfl (Cf Eh rfl fun b7 hb7 nb7 => ?_)
  refine Aa rfl (Ae (Ar rfl <| Al rfl <| Ad)) ?_
  refine Cm (Cj En (Al rfl <| Ad) (Ar rfl <| Al rfl <| Ad) (i := 0) rfl rfl rfl rfl Df (.here) ?_)
  refine Aa rfl (Ae (Ar rfl <| Ad)) ?_
  refine Ah <| Ac <| Af <| Az <| Af <| Cg (i := 1) rfl hb1 (.next <| .here) fun F8 hF9 hz4 => ?_
  replace hr := hr.mono hF9
  replace hle0 := Heap.le_trans hle0 hF9
  replace hX := hX.mono hF9
  refine Cg (i := 0) rfl hb7 (.here) fun F10 hF11 hz11 => ?_
  replace hr := hr.mono hF11
  replace hle0 := Heap.le_trans hle0 hF11
  replace hX := hX.mono hF11
  replace hz4 := hF11 _ _ hz4
  refine Ai fun ds => Aa rfl (Ag (Ad)) ?_
  refine Aa rfl (By (Ad) Ab) ?_
  refine Aa rfl (Ae (Ad)) ?_
  refine Ah <| Ac <| Am (Ad) (by decide) ?_
  by_cases h1 : inB 0 (s.editions.length - 1) z = true
  ·
   refine Af <| Ai fun ds => Aa rfl (Ao Bv (A6 rfl <| Ay rfl <| Ar rfl <| Al rfl <| Ad)) ?_
   refine Aa rfl (Ap Bz (Ad) (CellF.own hz4 rfl).cell) ?_
   refine Aa rfl (Bk B5 (Ad) hr.eds.plain) ?_
   refine Aa rfl (D2 (Ad) Ab rfl (by omega) (by omega)) ?_
   refine Aa rfl (Ag (A3 rfl <| Ay rfl <| Aj rfl)) ?_
   refine Bm rfl (B6 Be Da rfl (.cons (Ad) .nil) rfl rfl (by decide) (by simp [Value.oneCell']) fun b12 hb12 nb12 => ?_)
   refine B8 (i := 0) rfl hb12 .here fun F13 hF14 hz15 => ?_
   replace hr := hr.mono hF14
   replace hle0 := Heap.le_trans hle0 hF14
   replace hX := hX.mono hF14
   replace hz4 := hF14 _ _ hz4
   replace hz11 := hF14 _ _ hz11
   have hsl16 := C0 hz15
   refine Bx rfl (Bi Ei A0 (.cons Ab (.cons (Ar rfl <| Ad) (.cons (Ad) .nil))) (Ck _ _ hsl16) (fun _ _ h => h)) ?_
   refine Aa rfl (Ag (Ad)) ?_
   refine Au rfl rfl (Ad) (by simp [hlen, h1]) ?_
   refine Aa rfl (Ao Co (A3 rfl <| Ay rfl <| Ar rfl <| Al rfl <| Ad)) ?_
   refine Au rfl rfl (Al rfl <| Ad) (by simp [hlen, h1]) ?_
   refine Aa rfl (Ap Cy (Ad) (CellF.own hz4 rfl).cell) ?_
   refine Au rfl rfl (Ar rfl <| Ad) (by simp [hlen, h1]) ?_
   refine Aa rfl (Bk C9 (Ad) hr.places.plain) ?_
   refine Au rfl rfl (Ar rfl <| Al rfl <| Ad) (by simp [hlen, h1]) ?_
   refine Aa rfl (D2 (Ad) Ab rfl (by omega) (by omega)) ?_
   refine Au rfl rfl (Ay rfl <| Ad) (by simp [hlen, h1]) ?_
   refine Aa rfl (Ag (A3 rfl <| A6 rfl <| Ay rfl <| Aj rfl)) ?_
   refine Au rfl rfl (Ay rfl <| Al rfl <| Ad) (by simp [hlen, h1]) ?_
   refine Bm rfl (B6 Be Da rfl (.cons (Ad) .nil) rfl rfl (by decide) (by simp [Value.oneCell']) fun b17 hb17 nb17 => ?_)
   refine B8 (i := 0) rfl hb17 .here fun F18 hF19 hz20 => ?_
   replace hr := hr.mono hF19
   replace hle0 := Heap.le_trans hle0 hF19
   replace hX := hX.mono hF19
   replace hz4 := hF19 _ _ hz4
   replace hz11 := hF19 _ _ hz11
   have hsl21 := C0 hz20
   refine Au rfl rfl (Ay rfl <| Ar rfl <| Ad) (by simp [hlen, h1]) ?_
   refine Bx rfl (Bi Ei A0 (.cons Ab (.cons (Ar rfl <| Ad) (.cons (Ad) .nil))) (Ck _ _ hsl21) (fun _ _ h => h)) ?_
   refine Aa rfl (A7 (Ay rfl <| Ar rfl <| Al rfl <| Ad) (by simp [hlen, h1]) (Ad)) ?_
   refine Aa rfl (Ae (Ad)) ?_
   refine Ah <| Ac ?_
   by_cases h2 : inB 0 (s.places.length - 1) q = true
   ·
    have h12 : (inB 0 (s.editions.length - 1) z && inB 0 (s.places.length - 1) q) = true := by rw [h1, h2]; rfl
    obtain ⟨x, rfl, hx⟩ := inB_nat h1
    obtain ⟨p, rfl, hp⟩ := inB_nat h2
    have hxp : x < ps.length := by omega
    have hrx := hr.rd hxp
    have hpx : p < (s.ed x).rd.length := by rw [hv.rdl x hx]; exact hp
    have er := C3 hpx
    have hrdl := hv.rdl x hx
    have hrb9 := hv.rd x p hx hp
    have e1 := hr.at hxp
    refine Am (Ad) (by simp [h2]) ?_
    by_cases hc : costL s l = 1000
    ·
     refine Af <| Ai fun ds => Aa rfl (Ag (A3 rfl <| Ay rfl <| Al rfl <| Ad)) ?_
     refine Aa rfl (Bf B4 (A3 rfl <| Ay rfl <| Ar rfl <| Al rfl <| Ad) rfl rfl (Cz hz11)) ?_
     refine WL_order (.cons (.here) <| .nil) ?_
     refine Bm rfl (x_callM bd_69 A0 (.cons (Al rfl <| Ad) (.cons (Ad) .nil)) rfl (changes_ok hX ht hll hv KnownT.nil) fun v26 F27 H30 hr28 hF29 => ?_)
     obtain ⟨es2, rfl, rfl, hK2⟩ := hr28
     refine Aa rfl (Bs (Ad) Ab) ?_
     refine Aa rfl (Ae (Ad)) ?_
     refine Ah <| Ac <| Aq (Ad) (by rw [hcv]; unfold costV; rw [if_pos hc]; rfl) ?_
     refine Af <| Ai fun ds => Aa rfl (Ae Ab) ?_
     refine Aa rfl (Ae Ab) ?_
     refine Ah <| Ac <| A4 <| Bl (Bg ?_)
     refine Ax rfl (.tmp (Al rfl <| Ad) (.tmp (Ad) .nil)) ?_
     rw [Er (readErr_3 hok h12 hc) (by decide)]
     exact ⟨_, rfl, Sl.nil⟩
    ·
     have hre := readErr_0 hok h12 hc
     refine Af <| Ai fun ds => Aa rfl (Ag (A3 rfl <| Ay rfl <| Al rfl <| Ad)) ?_
     refine Aa rfl (Bf B4 (A3 rfl <| Ay rfl <| Ar rfl <| Al rfl <| Ad) rfl rfl (Cz hz11)) ?_
     refine WL_order (.cons (.here) <| .nil) ?_
     refine Bm rfl (x_callM bd_69 A0 (.cons (Al rfl <| Ad) (.cons (Ad) .nil)) rfl (changes_ok hX ht hll hv KnownT.nil) fun v35 F36 H39 hr37 hF38 => ?_)
     replace hr := hr.mono hF38
     replace hle0 := Heap.le_trans hle0 hF38
     replace hX := hX.mono hF38
     replace hrx := hrx.mono hF38
     replace hz4 := hF38 _ _ hz4
     replace hz11 := hF38 _ _ hz11
     obtain ⟨es2, rfl, rfl, hK2⟩ := hr37
     refine Aa rfl (Bs (Ad) Ab) ?_
     refine Aa rfl (Ae (Ad)) ?_
     refine Ah <| Ac <| Am (Ad) (by rw [hcv]; unfold costV; rw [if_neg hc]; exact decide_eq_false (by omega)) ?_
     refine Aw <| Bb <| Ac <| Af <| Ai fun ds => Aa rfl (Ag (A3 rfl <| A6 rfl <| Ar rfl <| Ad)) ?_
     refine Aa rfl (Bf B4 (A3 rfl <| A6 rfl <| Ay rfl <| Ad) rfl rfl (Cz hz11)) ?_
     refine Aa rfl (Ag (Bp rfl <| A6 rfl <| Aj rfl)) ?_
     refine Bx rfl (Bi bd_82 A0 (.cons (Ar rfl <| Ad) (.cons (Al rfl <| Ad) (.cons (Ad) .nil))) (Ed hX ht hll hv hp) (fun _ _ h => h)) ?_
     refine Aa rfl (Ae (Ad)) ?_
     refine Ah <| Ac <| Af <| Ai fun ds => Aa rfl (Ao Bv (Bp rfl <| A6 rfl <| Ar rfl <| Ad)) ?_
     refine Aa rfl (Ap Bz (Ad) (CellF.own hz4 rfl).cell) ?_
     refine Aa rfl (Ag (Bp rfl <| A6 rfl <| Ay rfl <| Al rfl <| Aj rfl)) ?_
     refine Aa rfl (A9 (k := x) B5 (Al rfl <| Ad) hr.eds.plain (Ad) rfl hxp) ?_
     refine Aa rfl (Bo Ca (Ad)) ?_
     refine Aa rfl (Ap Cb (Ad) (hr.eds.cell hxp rfl)) ?_
     refine Aa rfl (Ag (Bp rfl <| A3 rfl <| Al rfl <| Aj rfl)) ?_
     refine Aa rfl (A9 (k := p) Be (Al rfl <| Ad) hrx.plain (Ad) rfl hpx) ?_
     refine Aa rfl (Ap Bj (Ad) (hrx.cell1 hpx rfl)) ?_
     refine Aa rfl (Ae (Ad)) ?_
     refine Ah <| Ac <| Af <| Af <| Ai fun ds => Aa rfl (Ag Ab) ?_
     refine Ah <| Ac <| Az <| Bu [8, 14, 15, 62, 63, 64, 65, 66, 67, 68, 69, 70, 71, 72, 73, 74, 75, 76, 77, 78, 79, 80, 81, 82, 83, 84, 85, 86, 87, 88, 89, 90, 91, 92, 93, 94, 95, 96, 97, 98, 99, 100, 101, 102, 103, 104, 105, 106, 107, 108, 109, 110, 111, 112, 113, 114, 115, 116, 117, 118, 119, 120, 121] (fun m e σ => ∃ G, F36.le G ∧ ∃ k : Nat, m + k = 3 ∧ e 62 = .int .i64 (k : Int) ∧ ∃ v8 R8, e 8 = v8 ∧ Own 3 1 v8 (readTo s l x p k).length ((readTo s l x p k).flatMap intE) R8 ∧ σ = ⟨G, (kb, mapO es2) :: R8⟩) (3) ?_ ?_
     · exact ⟨_, Heap.le_refl _, 0, by omega, (Ad), _, _, (Bp rfl <| A3 rfl <| Ay rfl <| Ad), Own.nil, rfl⟩
     ·
      rintro m e _ ⟨G, hFG, k, hm, hs62, v8, R8, hs8, ho, rfl⟩; have hrl := readTo_len (s := s) (l := l) (x := x) (p := p) (k := k); replace hr := hr.mono hFG; replace hX := hX.mono hFG; replace hrx := hrx.mono hFG; replace hz4 := hFG _ _ hz4; replace hz11 := hFG _ _ hz11; have hle0 := Heap.le_trans hle0 hFG
      by_cases hlt : k < 3
      ·
       refine Af <| Ai fun ds => Aa rfl (Bw (As rfl hs62) Ab) ?_
       refine Ah <| Ac <| Af <| Aq (Ad) (by first | rfl | exact decide_eq_true (by omega)) ?_
       by_cases hk0 : 0 < s.r x p
       ·
        refine Aw <| Ac <| Af <| Az <| Af <| Ai fun ds => Aa rfl (Ag (Al rfl <| As rfl hs62)) ?_
        refine Aa rfl (Ae (Ad)) ?_
        refine Ah <| Ac <| Af <| Af <| Ai fun ds => Aa rfl (Ag (Ar rfl <| Al rfl <| Ak rfl <| Al rfl <| Ad)) ?_
        refine Aa rfl (De (Ad) Ab) ?_
        refine Aa rfl (Ag (Ad)) ?_
        refine Au rfl rfl (Ad) (by rw [er]; exact decide_eq_true hk0) ?_
        refine Aa rfl (Ag (Ay rfl <| Ar rfl <| Ak rfl <| Al rfl <| Ad)) ?_
        refine Au rfl rfl (Al rfl <| Ad) (by rw [er]; exact decide_eq_true hk0) ?_
        refine Aa rfl (Ag (Ay rfl <| Ad)) ?_
        refine Au rfl rfl (Ar rfl <| Ad) (by rw [er]; exact decide_eq_true hk0) ?_
        refine Aa rfl (Br (Ad) Ab rfl (by omega) (by omega)) ?_
        refine Au rfl rfl (Ar rfl <| Al rfl <| Ad) (by rw [er]; exact decide_eq_true hk0) ?_
        refine Aa rfl (By (Ar rfl <| Ad) (Ad)) ?_
        refine Aa rfl (A2 (Ay rfl <| Ad) (by rw [er]; exact decide_eq_true hk0) (Ad)) ?_
        refine Ah <| Ac ?_
        by_cases hke : s.r x p = (k : Int) + 1
        ·
         have hkn : (decide (s.r x p = 0) || decide (s.r x p = (k : Int) + 1)) = true := by rw [decide_eq_true hke]; simp
         refine Am (Ad) (by rw [er]; exact decide_eq_false (fun h => h hke)) ?_
         have hvm := setS_valid (v := (k : Int) + 1) hv hx hp (by omega)
         refine Aw <| Ac <| Af <| Ai fun ds => Aa rfl (Ag (A6 rfl <| Ar rfl <| Al rfl <| Ak rfl <| Bp rfl <| A6 rfl <| Ar rfl <| Ad)) ?_
         refine Aa rfl (B3 (Ad)) ?_
         refine Aa rfl (Bf agg_128 (Ad) rfl rfl (Cz hX.blk)) ?_
         refine Bm rfl (Cf zr_128 rfl fun b41 hb41 nb41 => ?_)
         refine Cm (Cj sz_128 (Ad) (Al rfl <| Ad) (i := 0) rfl rfl rfl rfl hX.ones (.here) ?_)
         refine Ah <| Ac <| Af <| Ai fun ds => Aa rfl (Ag (A6 rfl <| Ay rfl <| Ar rfl <| Al rfl <| Ak rfl <| Bp rfl <| A6 rfl <| Ar rfl <| Ad)) ?_
         refine Aa rfl (B3 (Ad)) ?_
         refine Aa rfl (Ao Cd (Ad)) ?_
         refine Aa rfl (Ao Bv (Ad)) ?_
         refine Aa rfl (Ap Bz (Ad) (CellF.own hX.blk rfl).cell) ?_
         refine Bm rfl (x_callNf bd_87 A0 (.cons (Ad) .nil) (cloneEd_own hX.r.eds hX.r.one (by omega)) fun v42 F43 R46 hr44 hF45 => ?_)
         replace hX := hX.mono hF45
         replace hrx := hrx.mono hF45
         replace hFG := Heap.le_trans hFG hF45
         replace hle0 := Heap.le_trans hle0 hF45
         replace hz11 := hF45 _ _ hz11
         have hoE := hr44
         refine Aa rfl (Ao Cd (Ay rfl <| Ar rfl <| Ad)) ?_
         refine Aa rfl (Ao Bv (Ad)) ?_
         refine WL_orderB (.one (.skip <| .here) <| .one (.skip <| .here) <| .blk (.lastS) <| .lastb (.last)) ?_
         refine Cm (Cn sz_23 (Ad) (Ar rfl <| Ad) (i := 0) rfl (.next <| .here) (Own.one hoE) (.here) ?_)
         refine Ah <| Ac <| Af ?_
         have hleS := hle0
         refine Cv (.inl rfl) (fun _ _ h => h) (.cons_cons _ <| .cons_cons _ <| .refl _) [16] (by kernel_rfl) fun ds => ?_
         refine A5 0 rfl (by kernel_rfl) (by kernel_rfl) (by kernel_rfl) (by kernel_rfl) rfl rfl (fun _ h => h.drop (.cons_cons _ <| .cons_cons _ <| .refl _)) (fun _ _ _ h => h) (Ao Cd (A6 rfl <| Ad)) ?_
         refine A5 1 rfl (by kernel_rfl) (by kernel_rfl) (by kernel_rfl) (by kernel_rfl) rfl rfl (fun _ h => h.drop (.cons_cons _ <| .cons_cons _ <| .refl _)) (fun _ _ _ h => h) (Ao Bv (Ad)) ?_
         refine A5 2 rfl (by kernel_rfl) (by kernel_rfl) (by kernel_rfl) (by kernel_rfl) rfl rfl (fun _ h => h.drop (.cons_cons _ <| .cons_cons _ <| .refl _)) (fun _ _ _ h => h) (Ap Bz (Ad) (Cell.own 0 rfl rfl)) ?_
         refine A5 3 rfl (by kernel_rfl) (by kernel_rfl) (by kernel_rfl) (by kernel_rfl) rfl rfl (fun _ h => h.drop (.cons_cons _ <| .cons_cons _ <| .refl _)) (fun _ _ _ h => h) (Ag (A3 rfl <| A6 rfl <| Ar rfl <| Ak rfl <| Bp rfl <| A3 rfl <| Ay rfl <| Ar rfl <| Aj rfl)) ?_
         refine A5 4 rfl (by kernel_rfl) (by kernel_rfl) (by kernel_rfl) (by kernel_rfl) rfl rfl (fun _ h => h.drop (.cons_cons _ <| .cons_cons _ <| .refl _)) (fun _ _ _ h => h) (Ag (A3 rfl <| A6 rfl <| Ar rfl <| Al rfl <| Ak rfl <| Bp rfl <| A6 rfl <| Ar rfl <| Ad)) ?_
         refine A5 5 rfl (by kernel_rfl) (by kernel_rfl) (by kernel_rfl) (by kernel_rfl) rfl rfl (fun _ h => h.drop (.cons_cons _ <| .cons_cons _ <| .refl _)) (fun _ _ _ h => h) (B3 (Ad)) ?_
         refine A5 6 rfl (by kernel_rfl) (by kernel_rfl) (by kernel_rfl) (by kernel_rfl) rfl rfl (fun _ h => h.drop (.cons_cons _ <| .cons_cons _ <| .refl _)) (fun _ _ _ h => h) (Ao Cd (Ad)) ?_
         refine A5 7 rfl (by kernel_rfl) (by kernel_rfl) (by kernel_rfl) (by kernel_rfl) rfl rfl (fun _ h => h.drop (.cons_cons _ <| .cons_cons _ <| .refl _)) (fun _ _ _ h => h) (Ao Bv (Ad)) ?_
         refine A5 8 rfl (by kernel_rfl) (by kernel_rfl) (by kernel_rfl) (by kernel_rfl) rfl rfl (fun _ h => h.drop (.cons_cons _ <| .cons_cons _ <| .refl _)) (fun _ _ _ h => h) (Ap Bz (Ad) (CellF.own hX.blk rfl).cell) ?_
         refine A5 9 rfl (by kernel_rfl) (by kernel_rfl) (by kernel_rfl) (by kernel_rfl) rfl rfl (fun _ h => h.drop (.cons_cons _ <| .cons_cons _ <| .refl _)) (fun _ _ _ h => h) (Ag (Bp rfl <| Ak rfl <| Bp rfl <| A3 rfl <| Ay rfl <| Ar rfl <| Aj rfl)) ?_
         refine A5 10 rfl (by kernel_rfl) (by kernel_rfl) (by kernel_rfl) (by kernel_rfl) rfl rfl (fun _ h => h.drop (.cons_cons _ <| .cons_cons _ <| .refl _)) (fun _ _ _ h => h) (A9 (k := x) B5 (Al rfl <| Ad) hX.r.eds.plain (Ad) rfl hxp) ?_
         refine A5 11 rfl (by kernel_rfl) (by kernel_rfl) (by kernel_rfl) (by kernel_rfl) rfl rfl (fun _ h => h.drop (.cons_cons _ <| .cons_cons _ <| .refl _)) (fun _ _ _ h => h) (Bo Ca (Ad)) ?_
         refine A5 12 rfl (by kernel_rfl) (by kernel_rfl) (by kernel_rfl) (by kernel_rfl) rfl rfl (fun _ h => h.drop (.cons_cons _ <| .cons_cons _ <| .refl _)) (fun _ _ _ h => h) (Ap Cb (Ad) (hX.r.eds.cell hxp rfl)) ?_
         refine Dz 13 rfl (by kernel_rfl) rfl (x_callNf bd_76 A0 (.cons (Ad) .nil) (cloneInt_own hrx (by omega)) fun v47 F48 R51 hr49 hF50 => ⟨fun _ _ _ h => (h.drop (List.sublist_append_of_sublist_right <| .cons_cons _ <| .cons_cons _ <| .refl _)).weak hF50 hleS, ?_⟩)
         replace hX := hX.mono hF50
         replace hFG := Heap.le_trans hFG hF50
         replace hz11 := hF50 _ _ hz11
         have hoR := hr49
         refine A5 14 rfl (by kernel_rfl) (by kernel_rfl) (by kernel_rfl) (by kernel_rfl) rfl rfl (fun _ h => (h.drop (List.sublist_append_of_sublist_right <| .cons_cons _ <| .cons_cons _ <| .refl _)).weak hF50 hleS) (fun _ _ _ h => h) (A9 (k := x) B5 (A6 rfl <| Ar rfl <| Al rfl <| Ad) (hoE.plain (by omega)) (A6 rfl <| Ar rfl <| Ad) rfl hxp) ?_
         refine A5 15 rfl (by kernel_rfl) (by kernel_rfl) (by kernel_rfl) (by kernel_rfl) rfl rfl (fun _ h => (h.drop (List.sublist_append_of_sublist_right <| .cons_cons _ <| .cons_cons _ <| .refl _)).weak hF50 hleS) (fun _ _ _ h => h) (Bo Ca (Ad)) ?_
         refine WX_orderB (.one (.skip <| .here) <| .one (.skip <| .here) <| .blk (.skip <| .here) <| .blk (.lastS) <| .lastb (.last)) ?_
         refine WX_x0 16 rfl (by kernel_rfl) (x_storeR sz_26 (Ad) (Ar rfl <| Ad) hoE (by rw [E3 edE_len]; omega) (Own.one hoR) (.s <| .s <| .k <| .z) .more fun R52 ho53 => ⟨(fun h => nomatch h), ?_⟩)
         have hoE2 := ed_own_set (e := (s.ed x).setR p ((k : Int) + 1)) ho53 hxp (by rw [e1]; rfl) (by rw [e1]; rfl) (by rw [e1]; rfl)
         refine Ct (by kernel_rfl) ?_ _
         refine Ac <| Af <| Ai fun ds => Aa rfl (Ao Cd (A3 rfl <| A6 rfl <| Ad)) ?_
         refine Aa rfl (Ao Bv (Ad)) ?_
         refine Aa rfl (Ap Bz (Ad) (Cell.own 0 rfl rfl)) ?_
         refine Aa rfl (Ag (Bp rfl <| A6 rfl <| Ar rfl <| Ak rfl <| Bp rfl <| A3 rfl <| Ay rfl <| Ar rfl <| Aj rfl)) ?_
         refine Aa rfl (A9 (k := x) B5 (Al rfl <| Ad) (hoE2.plain (by rw [List.length_set]; omega)) (Ad) rfl (by simp; omega)) ?_
         refine Aa rfl (Bo Ca (Ad)) ?_
         refine Aa rfl (Ap Cb (Ad) (Dy hoE2 (fun p hp => .tail _ (.tail _ (List.mem_append_right _ (List.mem_append_left _ hp)))) (ed_set_get hxp))) ?_
         refine Aa rfl (Ag (Bp rfl <| A6 rfl <| Ay rfl <| Ar rfl <| Ak rfl <| Bp rfl <| A3 rfl <| Ay rfl <| Ar rfl <| Aj rfl)) ?_
         refine Aa rfl (Ag (Bp rfl <| A6 rfl <| Ay rfl <| Ad)) ?_
         refine Aa rfl (Br (Ad) Ab rfl (by omega) (by omega)) ?_
         refine Aa rfl (A9 (k := p) Be (Ar rfl <| Al rfl <| Ad) (hoR.plain (by omega)) (Ar rfl <| Ad) rfl hpx) ?_
         refine Cm (x_storeR sz_3 (Ad) (Al rfl <| Ad) hoR (by rw [E3 (enc := intE) (s := 1) (fun _ => rfl)]; omega) rfl (.s <| .s <| .k <| .k <| .z) .last fun R54 ho55 => ?_)
         have hoR2 := ho55
         rw [show p * 1 = p * 1 + 0 from rfl, int_flat_set hpx] at hoR2
         replace hoR2 := hoR2.to (k' := ((s.ed x).rd.set p ((k : Int) + 1)).length) (by simp)
         refine Ah <| Ac <| Af <| Cw (σ := ⟨_, _⟩) (by rfl) hoR2 (.s <| .s <| .k <| .k <| .z) .last fun F56 hF57 hz58 => ?_
         replace hX := hX.mono hF57
         replace hFG := Heap.le_trans hFG hF57
         replace hz11 := hF57 _ _ hz11
         refine WC_pickB (.one (.here) <| .one (.here) <| .blk (.here) <| .lastb (.here)) ?_
         have hrn := hoR2.sl (fun _ => rfl) hz58 (by simp; omega)
         refine Cw (σ := ⟨_, _⟩) (by rfl) hoE2 (.s <| .s <| .k <| .z) .last fun F59 hF60 hz61 => ?_
         replace hX := hX.mono hF60
         replace hFG := Heap.le_trans hFG hF60
         replace hrn := hrn.mono hF60
         replace hz11 := hF60 _ _ hz11
         refine WC_pickB (.one (.here) <| .one (.here) <| .lastb (.here)) ?_
         have hen := hoE2.sl (fun _ => rfl) hz61 (by simp; omega)
         refine Cg (i := 0) rfl hb41 (.here) fun F62 hF63 hz15 => ?_
         replace hX := hX.mono hF63
         replace hFG := Heap.le_trans hFG hF63
         replace hrn := hrn.mono hF63
         replace hen := hen.mono hF63
         replace hz11 := hF63 _ _ hz11
         have hXm : StmX _ _ _ _ _ _ (setS s x p ((k : Int) + 1)) := ⟨hX.r.set hen hrn, hz15⟩
         by_cases hpl : decide (placeN (setS s x p ((k : Int) + 1)) l p = placeN s l p) = true
         ·
          have hrb : readB s l x p k = true := by unfold readB; rw [hkn, hpl]; rfl
          refine Ai fun ds => Aa rfl (Bf B4 (Bp rfl <| A3 rfl <| Ar rfl <| Ak rfl <| Bp rfl <| A6 rfl <| Ar rfl <| Al rfl <| Ad) rfl rfl (Cz hz11)) ?_
          refine Aa rfl (Ag (Bp rfl <| A3 rfl <| Ar rfl <| Al rfl <| Ak rfl <| Bp rfl <| A3 rfl <| Ay rfl <| Ar rfl <| Aj rfl)) ?_
          refine Bx rfl (Bi bd_82 A0 (.cons (Bp rfl <| Ay rfl <| Al rfl <| Ad) (.cons (Al rfl <| Ad) (.cons (Ad) .nil))) (Ed hXm ht (by rw [Dw]; exact hll) hvm hp) (fun _ _ h => h)) ?_
          refine Aa rfl (Ag (Bp rfl <| A3 rfl <| Ay rfl <| Al rfl <| Ak rfl <| A6 rfl <| Ar rfl <| Al rfl <| Ad)) ?_
          refine Aa rfl (Bs (Al rfl <| Ad) (Ad)) ?_
          refine Ah <| Ac <| Aq (Ad) hpl ?_
          refine Ai fun ds => Aa rfl (Ag (Bp rfl <| A3 rfl <| Ay rfl <| Ar rfl <| Al rfl <| As rfl hs8)) ?_
          refine Aa rfl (Ag (Bp rfl <| A3 rfl <| Ay rfl <| Al rfl <| Ad)) ?_
          refine Aa rfl (Br (Ad) Ab rfl (by omega) (by omega)) ?_
          refine Bm rfl (B6 Be Da rfl (.cons (Ad) .nil) rfl rfl (by decide) (by simp [Value.oneCell']) fun b64 hb64 nb64 => ?_)
          refine B8 (i := 0) rfl hb64 .here fun F65 hF66 hz67 => ?_
          replace hFG := Heap.le_trans hFG hF66
          have hsl68 := C0 hz67
          refine Bm rfl (B9 Be el_3 (Ar rfl <| Al rfl <| Ad) ho (Ad) hsl68.srcInt (by simp only [List.length_singleton]; omega) (by simp only [List.length_singleton]; omega) (.s <| .z) .last fun v69 R70 ho71 => ?_)
          have ho2 := ho71.snoc (x := (k : Int) + 1) rfl rfl
          refine Aa rfl (Ae (Ad)) ?_
          refine Ah <| Bb <| Ac <| Ai fun ds => Aa rfl (Br (Bp rfl <| A3 rfl <| A6 rfl <| Ay rfl <| Al rfl <| As rfl hs62) Ab rfl (by omega) (by omega)) ?_
          refine Aa rfl (Ag (Ad)) ?_
          refine Ah <| Ac ⟨_, m - 1, Off.eq (ou32 rfl <| Cr rfl <| Dj rfl <| Dv rfl <| ou2 rfl <| Dk rfl <| Bd), by omega, ?_⟩
          exact ⟨_, hFG, k + 1, by omega, (Ad), _, _, (Ar rfl <| Ad), by rw [D5, if_pos hrb]; exact ho2, rfl⟩
         ·
          replace hpl : decide (placeN (setS s x p ((k : Int) + 1)) l p = placeN s l p) = false := by simpa using hpl
          have hrb : readB s l x p k = false := by unfold readB; rw [hpl]; simp
          refine Ai fun ds => Aa rfl (Bf B4 (Bp rfl <| A3 rfl <| Ar rfl <| Ak rfl <| Bp rfl <| A6 rfl <| Ar rfl <| Al rfl <| Ad) rfl rfl (Cz hz11)) ?_
          refine Aa rfl (Ag (Bp rfl <| A3 rfl <| Ar rfl <| Al rfl <| Ak rfl <| Bp rfl <| A3 rfl <| Ay rfl <| Ar rfl <| Aj rfl)) ?_
          refine Bx rfl (Bi bd_82 A0 (.cons (Bp rfl <| Ay rfl <| Al rfl <| Ad) (.cons (Al rfl <| Ad) (.cons (Ad) .nil))) (Ed hXm ht (by rw [Dw]; exact hll) hvm hp) (fun _ _ h => h)) ?_
          refine Aa rfl (Ag (Bp rfl <| A3 rfl <| Ay rfl <| Al rfl <| Ak rfl <| A6 rfl <| Ar rfl <| Al rfl <| Ad)) ?_
          refine Aa rfl (Bs (Al rfl <| Ad) (Ad)) ?_
          refine Ah <| Ac <| Am (Ad) hpl ?_
          refine Aw <| Bb <| Ac <| Ai fun ds => Aa rfl (Br (Bp rfl <| A3 rfl <| Ay rfl <| Ar rfl <| Al rfl <| As rfl hs62) Ab rfl (by omega) (by omega)) ?_
          refine Aa rfl (Ag (Ad)) ?_
          refine Ah <| Ac ⟨_, m - 1, Off.eq (ou32 rfl <| Cr rfl <| Dj rfl <| Dk rfl <| Bd), by omega, ?_⟩
          exact ⟨_, hFG, k + 1, by omega, (Ad), _, _, (Bp rfl <| A3 rfl <| A6 rfl <| Al rfl <| As rfl hs8), by rw [D5, if_neg (by rw [hrb]; simp)]; exact ho, rfl⟩
        ·
         have hrb : readB s l x p k = false := by unfold readB; rw [decide_eq_false (show ¬ s.r x p = 0 by omega), decide_eq_false (show ¬ s.r x p = (k : Int) + 1 by omega)]; rfl
         refine Aq (Ad) (by rw [er]; exact decide_eq_true hke) ?_
         refine Bn ?_
         refine Ba (Bh ?_)
         refine Ac <| Ai fun ds => Aa rfl (Br (A6 rfl <| Ar rfl <| Al rfl <| As rfl hs62) Ab rfl (by omega) (by omega)) ?_
         refine Aa rfl (Ag (Ad)) ?_
         refine Ah <| Ac ⟨_, m - 1, Off.eq (Dj rfl <| Dv rfl <| Dk rfl <| Bd), by omega, ?_⟩
         exact ⟨_, hFG, k + 1, by omega, (Ad), _, _, (A6 rfl <| Ay rfl <| Al rfl <| As rfl hs8), by rw [D5, if_neg (by rw [hrb]; simp)]; exact ho, rfl⟩
       ·
        have hkn : (decide (s.r x p = 0) || decide (s.r x p = (k : Int) + 1)) = true := by rw [decide_eq_true (show s.r x p = 0 by omega)]; rfl
        refine Aw <| Ac <| Af <| Az <| Af <| Ai fun ds => Aa rfl (Ag (Al rfl <| As rfl hs62)) ?_
        refine Aa rfl (Ae (Ad)) ?_
        refine Ah <| Ac <| Af <| Af <| Ai fun ds => Aa rfl (Ag (Ar rfl <| Al rfl <| Ak rfl <| Al rfl <| Ad)) ?_
        refine Aa rfl (De (Ad) Ab) ?_
        refine Aa rfl (Ag (Ad)) ?_
        refine At rfl rfl (Ad) (.inl (congrArg Value.bool (by rw [er]; exact decide_eq_false hk0))) rfl ?_
        refine At rfl rfl (Al rfl <| Ad) (.inl (congrArg Value.bool (by rw [er]; exact decide_eq_false hk0))) rfl ?_
        refine At rfl rfl (Ar rfl <| Ad) (.inl (congrArg Value.bool (by rw [er]; exact decide_eq_false hk0))) rfl ?_
        refine At rfl rfl (Ar rfl <| Al rfl <| Ad) (.inl (congrArg Value.bool (by rw [er]; exact decide_eq_false hk0))) rfl ?_
        refine Aa rfl (A7 (Ay rfl <| Ad) (by rw [er]; exact decide_eq_false hk0) Ab) ?_
        refine Ah <| Ac <| Am (Ad) rfl ?_
        have hvm := setS_valid (v := (k : Int) + 1) hv hx hp (by omega)
        refine Aw <| Ac <| Af <| Ai fun ds => Aa rfl (Ag (A6 rfl <| Ar rfl <| Al rfl <| Ak rfl <| Bp rfl <| A6 rfl <| Ar rfl <| Ad)) ?_
        refine Aa rfl (B3 (Ad)) ?_
        refine Aa rfl (Bf agg_128 (Ad) rfl rfl (Cz hX.blk)) ?_
        refine Bm rfl (Cf zr_128 rfl fun b72 hb72 nb72 => ?_)
        refine Cm (Cj sz_128 (Ad) (Al rfl <| Ad) (i := 0) rfl rfl rfl rfl hX.ones (.here) ?_)
        refine Ah <| Ac <| Af <| Ai fun ds => Aa rfl (Ag (A6 rfl <| Ay rfl <| Ar rfl <| Al rfl <| Ak rfl <| Bp rfl <| A6 rfl <| Ar rfl <| Ad)) ?_
        refine Aa rfl (B3 (Ad)) ?_
        refine Aa rfl (Ao Cd (Ad)) ?_
        refine Aa rfl (Ao Bv (Ad)) ?_
        refine Aa rfl (Ap Bz (Ad) (CellF.own hX.blk rfl).cell) ?_
        refine Bm rfl (x_callNf bd_87 A0 (.cons (Ad) .nil) (cloneEd_own hX.r.eds hX.r.one (by omega)) fun v73 F74 R77 hr75 hF76 => ?_)
        replace hX := hX.mono hF76
        replace hrx := hrx.mono hF76
        replace hFG := Heap.le_trans hFG hF76
        replace hle0 := Heap.le_trans hle0 hF76
        replace hz11 := hF76 _ _ hz11
        have hoE := hr75
        refine Aa rfl (Ao Cd (Ay rfl <| Ar rfl <| Ad)) ?_
        refine Aa rfl (Ao Bv (Ad)) ?_
        refine WL_orderB (.one (.skip <| .here) <| .one (.skip <| .here) <| .blk (.lastS) <| .lastb (.last)) ?_
        refine Cm (Cn sz_23 (Ad) (Ar rfl <| Ad) (i := 0) rfl (.next <| .here) (Own.one hoE) (.here) ?_)
        refine Ah <| Ac <| Af ?_
        have hleS := hle0
        refine Cv (.inl rfl) (fun _ _ h => h) (.cons_cons _ <| .cons_cons _ <| .refl _) [16] (by kernel_rfl) fun ds => ?_
        refine A5 0 rfl (by kernel_rfl) (by kernel_rfl) (by kernel_rfl) (by kernel_rfl) rfl rfl (fun _ h => h.drop (.cons_cons _ <| .cons_cons _ <| .refl _)) (fun _ _ _ h => h) (Ao Cd (A6 rfl <| Ad)) ?_
        refine A5 1 rfl (by kernel_rfl) (by kernel_rfl) (by kernel_rfl) (by kernel_rfl) rfl rfl (fun _ h => h.drop (.cons_cons _ <| .cons_cons _ <| .refl _)) (fun _ _ _ h => h) (Ao Bv (Ad)) ?_
        refine A5 2 rfl (by kernel_rfl) (by kernel_rfl) (by kernel_rfl) (by kernel_rfl) rfl rfl (fun _ h => h.drop (.cons_cons _ <| .cons_cons _ <| .refl _)) (fun _ _ _ h => h) (Ap Bz (Ad) (Cell.own 0 rfl rfl)) ?_
        refine A5 3 rfl (by kernel_rfl) (by kernel_rfl) (by kernel_rfl) (by kernel_rfl) rfl rfl (fun _ h => h.drop (.cons_cons _ <| .cons_cons _ <| .refl _)) (fun _ _ _ h => h) (Ag (A3 rfl <| A6 rfl <| Ar rfl <| Ak rfl <| Bp rfl <| A3 rfl <| Ay rfl <| Ar rfl <| Aj rfl)) ?_
        refine A5 4 rfl (by kernel_rfl) (by kernel_rfl) (by kernel_rfl) (by kernel_rfl) rfl rfl (fun _ h => h.drop (.cons_cons _ <| .cons_cons _ <| .refl _)) (fun _ _ _ h => h) (Ag (A3 rfl <| A6 rfl <| Ar rfl <| Al rfl <| Ak rfl <| Bp rfl <| A6 rfl <| Ar rfl <| Ad)) ?_
        refine A5 5 rfl (by kernel_rfl) (by kernel_rfl) (by kernel_rfl) (by kernel_rfl) rfl rfl (fun _ h => h.drop (.cons_cons _ <| .cons_cons _ <| .refl _)) (fun _ _ _ h => h) (B3 (Ad)) ?_
        refine A5 6 rfl (by kernel_rfl) (by kernel_rfl) (by kernel_rfl) (by kernel_rfl) rfl rfl (fun _ h => h.drop (.cons_cons _ <| .cons_cons _ <| .refl _)) (fun _ _ _ h => h) (Ao Cd (Ad)) ?_
        refine A5 7 rfl (by kernel_rfl) (by kernel_rfl) (by kernel_rfl) (by kernel_rfl) rfl rfl (fun _ h => h.drop (.cons_cons _ <| .cons_cons _ <| .refl _)) (fun _ _ _ h => h) (Ao Bv (Ad)) ?_
        refine A5 8 rfl (by kernel_rfl) (by kernel_rfl) (by kernel_rfl) (by kernel_rfl) rfl rfl (fun _ h => h.drop (.cons_cons _ <| .cons_cons _ <| .refl _)) (fun _ _ _ h => h) (Ap Bz (Ad) (CellF.own hX.blk rfl).cell) ?_
        refine A5 9 rfl (by kernel_rfl) (by kernel_rfl) (by kernel_rfl) (by kernel_rfl) rfl rfl (fun _ h => h.drop (.cons_cons _ <| .cons_cons _ <| .refl _)) (fun _ _ _ h => h) (Ag (Bp rfl <| Ak rfl <| Bp rfl <| A3 rfl <| Ay rfl <| Ar rfl <| Aj rfl)) ?_
        refine A5 10 rfl (by kernel_rfl) (by kernel_rfl) (by kernel_rfl) (by kernel_rfl) rfl rfl (fun _ h => h.drop (.cons_cons _ <| .cons_cons _ <| .refl _)) (fun _ _ _ h => h) (A9 (k := x) B5 (Al rfl <| Ad) hX.r.eds.plain (Ad) rfl hxp) ?_
        refine A5 11 rfl (by kernel_rfl) (by kernel_rfl) (by kernel_rfl) (by kernel_rfl) rfl rfl (fun _ h => h.drop (.cons_cons _ <| .cons_cons _ <| .refl _)) (fun _ _ _ h => h) (Bo Ca (Ad)) ?_
        refine A5 12 rfl (by kernel_rfl) (by kernel_rfl) (by kernel_rfl) (by kernel_rfl) rfl rfl (fun _ h => h.drop (.cons_cons _ <| .cons_cons _ <| .refl _)) (fun _ _ _ h => h) (Ap Cb (Ad) (hX.r.eds.cell hxp rfl)) ?_
        refine Dz 13 rfl (by kernel_rfl) rfl (x_callNf bd_76 A0 (.cons (Ad) .nil) (cloneInt_own hrx (by omega)) fun v78 F79 R82 hr80 hF81 => ⟨fun _ _ _ h => (h.drop (List.sublist_append_of_sublist_right <| .cons_cons _ <| .cons_cons _ <| .refl _)).weak hF81 hleS, ?_⟩)
        replace hX := hX.mono hF81
        replace hFG := Heap.le_trans hFG hF81
        replace hz11 := hF81 _ _ hz11
        have hoR := hr80
        refine A5 14 rfl (by kernel_rfl) (by kernel_rfl) (by kernel_rfl) (by kernel_rfl) rfl rfl (fun _ h => (h.drop (List.sublist_append_of_sublist_right <| .cons_cons _ <| .cons_cons _ <| .refl _)).weak hF81 hleS) (fun _ _ _ h => h) (A9 (k := x) B5 (A6 rfl <| Ar rfl <| Al rfl <| Ad) (hoE.plain (by omega)) (A6 rfl <| Ar rfl <| Ad) rfl hxp) ?_
        refine A5 15 rfl (by kernel_rfl) (by kernel_rfl) (by kernel_rfl) (by kernel_rfl) rfl rfl (fun _ h => (h.drop (List.sublist_append_of_sublist_right <| .cons_cons _ <| .cons_cons _ <| .refl _)).weak hF81 hleS) (fun _ _ _ h => h) (Bo Ca (Ad)) ?_
        refine WX_orderB (.one (.skip <| .here) <| .one (.skip <| .here) <| .blk (.skip <| .here) <| .blk (.lastS) <| .lastb (.last)) ?_
        refine WX_x0 16 rfl (by kernel_rfl) (x_storeR sz_26 (Ad) (Ar rfl <| Ad) hoE (by rw [E3 edE_len]; omega) (Own.one hoR) (.s <| .s <| .k <| .z) .more fun R83 ho84 => ⟨(fun h => nomatch h), ?_⟩)
        have hoE2 := ed_own_set (e := (s.ed x).setR p ((k : Int) + 1)) ho84 hxp (by rw [e1]; rfl) (by rw [e1]; rfl) (by rw [e1]; rfl)
        refine Ct (by kernel_rfl) ?_ _
        refine Ac <| Af <| Ai fun ds => Aa rfl (Ao Cd (A3 rfl <| A6 rfl <| Ad)) ?_
        refine Aa rfl (Ao Bv (Ad)) ?_
        refine Aa rfl (Ap Bz (Ad) (Cell.own 0 rfl rfl)) ?_
        refine Aa rfl (Ag (Bp rfl <| A6 rfl <| Ar rfl <| Ak rfl <| Bp rfl <| A3 rfl <| Ay rfl <| Ar rfl <| Aj rfl)) ?_
        refine Aa rfl (A9 (k := x) B5 (Al rfl <| Ad) (hoE2.plain (by rw [List.length_set]; omega)) (Ad) rfl (by simp; omega)) ?_
        refine Aa rfl (Bo Ca (Ad)) ?_
        refine Aa rfl (Ap Cb (Ad) (Dy hoE2 (fun p hp => .tail _ (.tail _ (List.mem_append_right _ (List.mem_append_left _ hp)))) (ed_set_get hxp))) ?_
        refine Aa rfl (Ag (Bp rfl <| A6 rfl <| Ay rfl <| Ar rfl <| Ak rfl <| Bp rfl <| A3 rfl <| Ay rfl <| Ar rfl <| Aj rfl)) ?_
        refine Aa rfl (Ag (Bp rfl <| A6 rfl <| Ay rfl <| Ad)) ?_
        refine Aa rfl (Br (Ad) Ab rfl (by omega) (by omega)) ?_
        refine Aa rfl (A9 (k := p) Be (Ar rfl <| Al rfl <| Ad) (hoR.plain (by omega)) (Ar rfl <| Ad) rfl hpx) ?_
        refine Cm (x_storeR sz_3 (Ad) (Al rfl <| Ad) hoR (by rw [E3 (enc := intE) (s := 1) (fun _ => rfl)]; omega) rfl (.s <| .s <| .k <| .k <| .z) .last fun R85 ho86 => ?_)
        have hoR2 := ho86
        rw [show p * 1 = p * 1 + 0 from rfl, int_flat_set hpx] at hoR2
        replace hoR2 := hoR2.to (k' := ((s.ed x).rd.set p ((k : Int) + 1)).length) (by simp)
        refine Ah <| Ac <| Af <| Cw (σ := ⟨_, _⟩) (by rfl) hoR2 (.s <| .s <| .k <| .k <| .z) .last fun F87 hF88 hz89 => ?_
        replace hX := hX.mono hF88
        replace hFG := Heap.le_trans hFG hF88
        replace hz11 := hF88 _ _ hz11
        refine WC_pickB (.one (.here) <| .one (.here) <| .blk (.here) <| .lastb (.here)) ?_
        have hrn := hoR2.sl (fun _ => rfl) hz89 (by simp; omega)
        refine Cw (σ := ⟨_, _⟩) (by rfl) hoE2 (.s <| .s <| .k <| .z) .last fun F90 hF91 hz92 => ?_
        replace hX := hX.mono hF91
        replace hFG := Heap.le_trans hFG hF91
        replace hrn := hrn.mono hF91
        replace hz11 := hF91 _ _ hz11
        refine WC_pickB (.one (.here) <| .one (.here) <| .lastb (.here)) ?_
        have hen := hoE2.sl (fun _ => rfl) hz92 (by simp; omega)
        refine Cg (i := 0) rfl hb72 (.here) fun F93 hF94 hz15 => ?_
        replace hX := hX.mono hF94
        replace hFG := Heap.le_trans hFG hF94
        replace hrn := hrn.mono hF94
        replace hen := hen.mono hF94
        replace hz11 := hF94 _ _ hz11
        have hXm : StmX _ _ _ _ _ _ (setS s x p ((k : Int) + 1)) := ⟨hX.r.set hen hrn, hz15⟩
        by_cases hpl : decide (placeN (setS s x p ((k : Int) + 1)) l p = placeN s l p) = true
        ·
         have hrb : readB s l x p k = true := by unfold readB; rw [hkn, hpl]; rfl
         refine Ai fun ds => Aa rfl (Bf B4 (Bp rfl <| A3 rfl <| Ar rfl <| Ak rfl <| Bp rfl <| A6 rfl <| Ar rfl <| Al rfl <| Ad) rfl rfl (Cz hz11)) ?_
         refine Aa rfl (Ag (Bp rfl <| A3 rfl <| Ar rfl <| Al rfl <| Ak rfl <| Bp rfl <| A3 rfl <| Ay rfl <| Ar rfl <| Aj rfl)) ?_
         refine Bx rfl (Bi bd_82 A0 (.cons (Bp rfl <| Ay rfl <| Al rfl <| Ad) (.cons (Al rfl <| Ad) (.cons (Ad) .nil))) (Ed hXm ht (by rw [Dw]; exact hll) hvm hp) (fun _ _ h => h)) ?_
         refine Aa rfl (Ag (Bp rfl <| A3 rfl <| Ay rfl <| Al rfl <| Ak rfl <| A6 rfl <| Ar rfl <| Al rfl <| Ad)) ?_
         refine Aa rfl (Bs (Al rfl <| Ad) (Ad)) ?_
         refine Ah <| Ac <| Aq (Ad) hpl ?_
         refine Ai fun ds => Aa rfl (Ag (Bp rfl <| A3 rfl <| Ay rfl <| Ar rfl <| Al rfl <| As rfl hs8)) ?_
         refine Aa rfl (Ag (Bp rfl <| A3 rfl <| Ay rfl <| Al rfl <| Ad)) ?_
         refine Aa rfl (Br (Ad) Ab rfl (by omega) (by omega)) ?_
         refine Bm rfl (B6 Be Da rfl (.cons (Ad) .nil) rfl rfl (by decide) (by simp [Value.oneCell']) fun b95 hb95 nb95 => ?_)
         refine B8 (i := 0) rfl hb95 .here fun F96 hF97 hz98 => ?_
         replace hFG := Heap.le_trans hFG hF97
         have hsl99 := C0 hz98
         refine Bm rfl (B9 Be el_3 (Ar rfl <| Al rfl <| Ad) ho (Ad) hsl99.srcInt (by simp only [List.length_singleton]; omega) (by simp only [List.length_singleton]; omega) (.s <| .z) .last fun v100 R101 ho102 => ?_)
         have ho2 := ho102.snoc (x := (k : Int) + 1) rfl rfl
         refine Aa rfl (Ae (Ad)) ?_
         refine Ah <| Bb <| Ac <| Ai fun ds => Aa rfl (Br (Bp rfl <| A3 rfl <| A6 rfl <| Ay rfl <| Al rfl <| As rfl hs62) Ab rfl (by omega) (by omega)) ?_
         refine Aa rfl (Ag (Ad)) ?_
         refine Ah <| Ac ⟨_, m - 1, Off.eq (ou32 rfl <| Cr rfl <| Dj rfl <| Dv rfl <| ou2 rfl <| Dk rfl <| Bd), by omega, ?_⟩
         exact ⟨_, hFG, k + 1, by omega, (Ad), _, _, (Ar rfl <| Ad), by rw [D5, if_pos hrb]; exact ho2, rfl⟩
        ·
         replace hpl : decide (placeN (setS s x p ((k : Int) + 1)) l p = placeN s l p) = false := by simpa using hpl
         have hrb : readB s l x p k = false := by unfold readB; rw [hpl]; simp
         refine Ai fun ds => Aa rfl (Bf B4 (Bp rfl <| A3 rfl <| Ar rfl <| Ak rfl <| Bp rfl <| A6 rfl <| Ar rfl <| Al rfl <| Ad) rfl rfl (Cz hz11)) ?_
         refine Aa rfl (Ag (Bp rfl <| A3 rfl <| Ar rfl <| Al rfl <| Ak rfl <| Bp rfl <| A3 rfl <| Ay rfl <| Ar rfl <| Aj rfl)) ?_
         refine Bx rfl (Bi bd_82 A0 (.cons (Bp rfl <| Ay rfl <| Al rfl <| Ad) (.cons (Al rfl <| Ad) (.cons (Ad) .nil))) (Ed hXm ht (by rw [Dw]; exact hll) hvm hp) (fun _ _ h => h)) ?_
         refine Aa rfl (Ag (Bp rfl <| A3 rfl <| Ay rfl <| Al rfl <| Ak rfl <| A6 rfl <| Ar rfl <| Al rfl <| Ad)) ?_
         refine Aa rfl (Bs (Al rfl <| Ad) (Ad)) ?_
         refine Ah <| Ac <| Am (Ad) hpl ?_
         refine Aw <| Bb <| Ac <| Ai fun ds => Aa rfl (Br (Bp rfl <| A3 rfl <| Ay rfl <| Ar rfl <| Al rfl <| As rfl hs62) Ab rfl (by omega) (by omega)) ?_
         refine Aa rfl (Ag (Ad)) ?_
         refine Ah <| Ac ⟨_, m - 1, Off.eq (ou32 rfl <| Cr rfl <| Dj rfl <| Dk rfl <| Bd), by omega, ?_⟩
         exact ⟨_, hFG, k + 1, by omega, (Ad), _, _, (Bp rfl <| A3 rfl <| A6 rfl <| Al rfl <| As rfl hs8), by rw [D5, if_neg (by rw [hrb]; simp)]; exact ho, rfl⟩
      ·
       refine Af <| Ai fun ds => Aa rfl (Bw (As rfl hs62) Ab) ?_
       refine Ah <| Ac <| Af <| Am (Ad) (by first | rfl | exact decide_eq_false (by omega)) ?_
       obtain rfl : k = 3 := by omega
       refine Cw (σ := ⟨_, _⟩) (by rfl) ho (.s <| .z) .last fun F103 hF104 hz105 => ?_
       have hn8 := ho.sl (fun _ => rfl) hz105 (by have := readTo_len (s := s) (l := l) (x := x) (p := p) (k := 3); omega)
       refine Bn ?_
       refine Ba <| Ba <| Bh <| Ac <| Af <| Ai fun ds => Aa rfl (Ag (Al rfl <| As rfl hs8)) ?_
       refine Aa rfl (Ae (Ad)) ?_
       refine Aa rfl (Ae Ab) ?_
       refine Ah <| Ac <| A4 <| Ax rfl (.tmp (Al rfl <| Ad) (.tmp (Ad) .nil)) ?_
       rw [readE_ok hre, Int.toNat_natCast, Int.toNat_natCast]
       exact ⟨_, rfl, hn8⟩
   ·
    replace h2 : inB 0 (s.places.length - 1) q = false := by simpa using h2
    refine Aq (Ad) (by simp [h2]) ?_
    refine Af <| Ai fun ds => Aa rfl (Ae Ab) ?_
    refine Aa rfl (Ae Ab) ?_
    refine Ah <| Ac <| A4 <| Bl (Bg ?_)
    refine Ax rfl (.tmp (Al rfl <| Ad) (.tmp (Ad) .nil)) ?_
    rw [Er (readErr_2 hok (by rw [h1, h2]; rfl)) (by decide)]
    exact ⟨_, rfl, Sl.nil⟩
  ·
   replace h1 : inB 0 (s.editions.length - 1) z = false := by simpa using h1
   refine Af <| Ai fun ds => Aa rfl (Ao Bv (A6 rfl <| Ay rfl <| Ar rfl <| Al rfl <| Ad)) ?_
   refine Aa rfl (Ap Bz (Ad) (CellF.own hz4 rfl).cell) ?_
   refine Aa rfl (Bk B5 (Ad) hr.eds.plain) ?_
   refine Aa rfl (D2 (Ad) Ab rfl (by omega) (by omega)) ?_
   refine Aa rfl (Ag (A3 rfl <| Ay rfl <| Aj rfl)) ?_
   refine Bm rfl (B6 Be Da rfl (.cons (Ad) .nil) rfl rfl (by decide) (by simp [Value.oneCell']) fun b106 hb106 nb106 => ?_)
   refine B8 (i := 0) rfl hb106 .here fun F107 hF108 hz109 => ?_
   have hsl110 := C0 hz109
   refine Bx rfl (Bi Ei A0 (.cons Ab (.cons (Ar rfl <| Ad) (.cons (Ad) .nil))) (Ck _ _ hsl110) (fun _ _ h => h)) ?_
   refine Aa rfl (Ag (Ad)) ?_
   refine At rfl rfl (Ad) (.inl (congrArg Value.bool (by simp [hlen, h1]))) rfl ?_
   refine At rfl rfl (Al rfl <| Ad) (.inl (congrArg Value.bool (by simp [hlen, h1]))) rfl ?_
   refine At rfl rfl (Ar rfl <| Ad) (.inl (congrArg Value.bool (by simp [hlen, h1]))) rfl ?_
   refine At rfl rfl (Ar rfl <| Al rfl <| Ad) (.inl (congrArg Value.bool (by simp [hlen, h1]))) rfl ?_
   refine At rfl rfl (Ay rfl <| Ad) (.inl (congrArg Value.bool (by simp [hlen, h1]))) rfl ?_
   refine At rfl rfl (Ay rfl <| Al rfl <| Ad) (.inl (congrArg Value.bool (by simp [hlen, h1]))) rfl ?_
   refine At rfl rfl (Ay rfl <| Ar rfl <| Ad) (.inl (congrArg Value.bool (by simp [hlen, h1]))) rfl ?_
   refine Aa rfl (A2 (Ay rfl <| Ar rfl <| Al rfl <| Ad) (by simp [hlen, h1]) Ab) ?_
   refine Aa rfl (Ae (Ad)) ?_
   refine Ah <| Ac <| Aq (Ad) rfl ?_
   refine Af <| Ai fun ds => Aa rfl (Ae Ab) ?_
   refine Aa rfl (Ae Ab) ?_
   refine Ah <| Ac <| A4 <| Bl (Bg ?_)
   refine Ax rfl (.tmp (Al rfl <| Ad) (.tmp (Ad) .nil)) ?_
   rw [Er (readErr_2 hok (by rw [h1]; rfl)) (by decide)]
   exact ⟨_, rfl, Sl.nil⟩
 ·
  refine Af <| Ai fun ds => Bm rfl (B2 (Aj rfl) rfl fun b111 hb111 nb111 => ?_)
  refine Aa rfl (Ae Ab) ?_
  refine Aa rfl (Ae Ab) ?_
  refine Ah <| Ac <| Af <| Ai fun ds => Aa rfl (Bf B0 (Ar rfl <| Ad) rfl rfl (A8 0 rfl)) ?_
  refine Aa rfl (Ag (Ay rfl <| Aj rfl)) ?_
  refine Bm rfl (Ch bd_68 A0 (.cons (Al rfl <| Ad) (.cons (Ad) .nil)) (enter_bad hr hl hok) fun v112 F113 hr114 hF115 => ?_)
  obtain ⟨l2, rfl⟩ := hr114
  refine Aa rfl (Ag (Ad)) ?_
  refine Aa rfl (A1 (Ad) rfl) ?_
  refine Aa rfl (A1 (Al rfl <| Ad) rfl) ?_
  refine Aa rfl (A1 (Ar rfl <| Ad) rfl) ?_
  refine Bm rfl (Cf Eh rfl fun b116 hb116 nb116 => ?_)
  refine Aa rfl (Ae (Ar rfl <| Al rfl <| Ad)) ?_
  refine Cm (Cj En (Al rfl <| Ad) (Ar rfl <| Al rfl <| Ad) (i := 0) rfl rfl rfl rfl Df (.here) ?_)
  refine Aa rfl (Ae (Ar rfl <| Ad)) ?_
  refine Ah <| Ac <| Af <| Az <| Af <| Ai fun ds => Aa rfl (Ag (Ad)) ?_
  refine Aa rfl (By (Ad) Ab) ?_
  refine Aa rfl (Ae (Ad)) ?_
  refine Ah <| Ac <| Aq (Ad) (decide_eq_true hok) ?_
  refine Af <| Ai fun ds => Aa rfl (Ag (Ar rfl <| Al rfl <| Ad)) ?_
  refine Aa rfl (Ae Ab) ?_
  refine Aa rfl (Ae (Al rfl <| Ad)) ?_
  refine Ah <| Ac <| A4 <| Bl (Bg ?_)
  refine Ax rfl (.tmp (Al rfl <| Ad) (.tmp (Ad) .nil)) ?_
  rw [Er (readErr_1 hok) hok]
  exact ⟨_, rfl, Sl.nil⟩
end Go.Proofs.Ytccogmkhijgelaa
namespace Go.Proofs.Ytccogmkhijgelaa
open Go.RowKit
theorem zr_119 : ZeroT Try.prog 119 (.nilFunc) := C7 (by kernel_rfl)
theorem zr_26 : ZeroT Try.prog 26 (.slice none 0 0) := C7 (by kernel_rfl)
theorem zr_4 : ZeroT Try.prog 4 (.bool false) := C7 (by kernel_rfl)
theorem bd_84 : Body Try.prog 84 := Bq (by kernel_rfl)
theorem one_119 : OneT Try.prog 119 := Ef (by kernel_rfl)
theorem one_4 : OneT Try.prog 4 := Ef (by kernel_rfl)
theorem sz_119 : SizeT Try.prog 119 1 := Cx (by kernel_rfl)
theorem sz_4 : SizeT Try.prog 4 1 := Cx (by kernel_rfl)
theorem setTo_succ {s : Stm} {p k : Nat} : setTo s p (k + 1) = setTo s p k ||| 2 ^ (s.r k p).toNat := rfl
theorem kindTo_succ {s : Stm} {p k : Nat} : kindTo s p (k + 1) = kindTo s p k + if metB s p (k + 1) = true then 1 else 0 := rfl
theorem cleanS_none {s : Stm} {xs : List (List Int)} {t : List Int} (h : cleanR s xs = none) : cleanR s (xs ++ [t]) = some (uncleanL s t) := by rw [cleanR_snoc, h]; rfl
theorem cleanS_yes {s : Stm} {xs : List (List Int)} {t : List Int} {b : List Nat} (h : cleanR s xs = some b) (h2 : (uncleanL s t).length < b.length ∨ ((uncleanL s t).length = b.length ∧ cmpL (uncleanL s t) b < 0)) : cleanR s (xs ++ [t]) = some (uncleanL s t) := by rw [cleanR_snoc, h]; exact if_pos h2
theorem cleanS_no {s : Stm} {xs : List (List Int)} {t : List Int} {b : List Nat} (h : cleanR s xs = some b) (h2 : ¬ ((uncleanL s t).length < b.length ∨ ((uncleanL s t).length = b.length ∧ cmpL (uncleanL s t) b < 0))) : cleanR s (xs ++ [t]) = some b := by rw [cleanR_snoc, h]; exact if_neg h2
theorem bit_met {s : Stm} {p j : Nat} (hv : ValidT s) (hp : p < s.places.length) : (setTo s p s.editions.length / 2 ^ (j + 1) &&& 1 : Nat) = if metB s p (j + 1) = true then 1 else 0 := by
 have h := setTo_bit (v := j + 1) (fun i hi => (hv.rd i p hi hp).1) (Nat.le_refl s.editions.length)
 rw [Nat.testBit_eq_decide_div_mod_eq] at h
 rw [Nat.and_one_is_mod]
 unfold metB
 rw [← h]
 by_cases h2 : setTo s p s.editions.length / 2 ^ (j + 1) % 2 = 1
 · rw [if_pos (decide_eq_true h2)]; exact h2
 · rw [if_neg (by simpa using h2)]; omega
theorem opt_or {α : Type} (o : Option α) : o = none ∨ ∃ b, o = some b := by cases o with | none => exact .inl rfl | some b => exact .inr ⟨b, rfl⟩
theorem pow_le8T {n : Nat} (h : n ≤ 3) : 2 ^ n ≤ 8 := by
 have : n = 0 ∨ n = 1 ∨ n = 2 ∨ n = 3 := by omega
 rcases this with rfl | rfl | rfl | rfl <;> decide
set_option maxRecDepth 100000 in
theorem clean_top_ok {F : Heap} {vp ve : Value} {ps : List (Value × Edn)} {s : Stm} (hr : StmR F vp ve ps s) : Ok Try.prog 33 [.agg #[vp, ve]].toArray F fun u F' => NatsR F' u (cleanE s) := by
 have hle0 : F.le F := Heap.le_refl _
 refine Ok.intro Try.func33 rfl Try.ntmps33 rfl fun w0 => ?_
 have hL1 := hr.eds.plain.lt
 have hL2 := hr.places.plain.lt
 have hlen := hr.len
 by_cases h0 : (checkT s).2.2 = 0
 ·
  have hv := Ea h0
  have hne := hv.ne
  have hnp := hv.np
  refine Af <| Ai fun ds => Bm rfl (B2 (Aj rfl) rfl fun b1 hb1 nb1 => ?_)
  refine Bm rfl (Cf zr_26 rfl fun b2 hb2 nb2 => ?_)
  refine Aa rfl (Ae Ab) ?_
  refine Ah <| Ac <| Af <| Ai fun ds => Aa rfl (Bf B0 (Ar rfl <| Ad) rfl rfl (A8 1 rfl)) ?_
  refine Bm rfl (D1 bd_65 A0 (.cons (Ad) .nil) (open_ok hr h0) fun v3 F4 R7 hr5 hF6 => ?_)
  replace hr := hr.mono hF6
  obtain ⟨ba, kb, rfl, hX, rfl⟩ := hr5
  refine Aa rfl (Ag (Ad)) ?_
  refine Aa rfl (A1 (Ad) rfl) ?_
  refine Aa rfl (A1 (Al rfl <| Ad) rfl) ?_
  refine Aa rfl (Ae (Al rfl <| Ad)) ?_
  refine Aa rfl (Ae (Al rfl <| Ad)) ?_
  refine Ah <| Ac <| Af <| Af <| Ai fun ds => Aa rfl (Ag (Ad)) ?_
  refine Aa rfl (By (Ad) Ab) ?_
  refine Ah <| Ac <| Am (Ad) (by decide) ?_
  refine Aw <| Ac <| Af <| Ai fun ds => Bm rfl (Cf zr_26 rfl fun b8 hb8 nb8 => ?_)
  refine Ah <| Ac <| Af <| Af <| Ai fun ds => Aa rfl (Ao Co (A6 rfl <| Ay rfl <| Ad)) ?_
  refine Aa rfl (Ap Cy (Ad) (Cell.own 2 rfl rfl)) ?_
  refine Aa rfl (Bk C9 (Ad) hr.places.plain) ?_
  refine Aa rfl (Ag Ab) ?_
  refine Ah <| Ac <| Az <| Bu [6, 7, 9, 10, 11, 29, 30, 31, 32, 33, 34, 35, 36, 37, 38, 39, 40, 41, 42, 43, 44, 45, 46, 47, 48, 49, 50, 51, 52, 53, 54, 55, 56, 57, 58, 59, 60, 61, 62, 63, 64] (fun m e σ => ∃ p : Nat, m + p = s.places.length ∧ e 29 = .int .i64 (p : Int) ∧ ∃ v5 R5, Own 3 1 v5 (iL (needN s) p).length ((iL (needN s) p).flatMap intE) R5 ∧ σ = ⟨F4, (b8, bx 26 [v5]) :: (b2, bx 26 [.slice none 0 0]) :: (b1, bx 25 [vp, ve]) :: (kb, mapO []) :: R5⟩) (s.places.length) ?_ ?_
  · exact ⟨0, by omega, (Ad), _, [], El, rfl⟩
  ·
   rintro m e _ ⟨p, hm, hs29, v5, R5, ho, rfl⟩; have hil9 := C1 (f := needN s) (n := p)
   by_cases hp : p < s.places.length
   ·
    refine Af <| Ai fun ds => Aa rfl (Bw (As rfl hs29) (Ak rfl <| Al rfl <| Ad)) ?_
    refine Ah <| Ac <| Af <| Aq (Ad) (by first | rfl | exact decide_eq_true (by omega)) ?_
    refine Aw <| Ac <| Af <| Az <| Af <| Ai fun ds => Aa rfl (Ag (Al rfl <| As rfl hs29)) ?_
    refine Aa rfl (Ae (Ad)) ?_
    refine Ah <| Ac <| Af <| Ai fun ds => Aa rfl (Ae Ab) ?_
    refine Ah <| Ac <| Af <| Af <| Ai fun ds => Aa rfl (Ao Bv (Ay rfl <| Ak rfl <| A3 rfl <| Ad)) ?_
    refine Aa rfl (Ap Bz (Ad) (Cell.own 2 rfl rfl)) ?_
    refine Aa rfl (Bk B5 (Ad) hr.eds.plain) ?_
    refine Aa rfl (Ag Ab) ?_
    refine Ah <| Ac <| Az <| Bu [7, 9, 35, 36, 37, 38, 39, 40, 41, 42, 43, 44, 45, 46, 47] (fun m e σ => ∃ i : Nat, m + i = ps.length ∧ e 35 = .int .i64 (i : Int) ∧ e 7 = .int .i64 ((setTo s p i : Nat) : Int) ∧ σ = ⟨F4, (b8, bx 26 [v5]) :: (b2, bx 26 [.slice none 0 0]) :: (b1, bx 25 [vp, ve]) :: (kb, mapO []) :: R5⟩) (ps.length) ?_ ?_
    · exact ⟨0, by omega, (Ad), (Ay rfl <| Ad), rfl⟩
    ·
     rintro m1 e1 _ ⟨i, hm1, ht35, ht7, rfl⟩
     by_cases hli : i < ps.length
     ·
      have hil : i < s.editions.length := by omega
      have hri := hr.rd hli
      have hpi : p < (s.ed i).rd.length := by rw [hv.rdl i hil]; exact hp
      have er := C3 hpi
      have hrb := hv.rd i p hil hp
      have hst := setTo_lt (s := s) (p := p) (fun i hi => hv.rd i p hi hp) (k := i) (by omega)
      have hp8 := pow_le8T (n := (s.r i p).toNat) (by omega)
      refine Af <| Ai fun ds => Aa rfl (Bw (As rfl ht35) (Ak rfl <| Al rfl <| Ad)) ?_
      refine Ah <| Ac <| Af <| Aq (Ad) (by first | rfl | exact decide_eq_true (by omega)) ?_
      refine Aw <| Ac <| Af <| Az <| Af <| Ai fun ds => Aa rfl (A9 (k := i) B5 (Al rfl <| Ak rfl <| Ar rfl <| Ad) hr.eds.plain (Al rfl <| As rfl ht35) rfl hli) ?_
      refine Aa rfl (Bf agg_64 (Ad) rfl rfl (hr.eds.whole hli)) ?_
      refine Bm rfl (Cf zr_64 rfl fun b11 hb11 nb11 => ?_)
      refine Cm (Cj sz_64 (Ad) (Al rfl <| Ad) (i := 0) rfl rfl rfl rfl (edE_one (hr.one _ (List.getElem_mem hli))) (.here) ?_)
      refine Ah <| Ac <| Ai fun ds => Aa rfl (Ag (Ay rfl <| As rfl ht7)) ?_
      refine Aa rfl (Ao Ca (Al rfl <| Ad)) ?_
      refine Aa rfl (Ap Cb (Ad) (Cell.own 0 rfl rfl)) ?_
      refine Aa rfl (Ag (Ay rfl <| Ar rfl <| Al rfl <| Ak rfl <| Ay rfl <| Al rfl <| Ad)) ?_
      refine Aa rfl (A9 (k := p) Be (Al rfl <| Ad) hri.plain (Ad) rfl hpi) ?_
      refine Aa rfl (Ap Bj (Ad) (hri.cell1 hpi rfl)) ?_
      refine Aa rfl (q_shl Ab (Ad) (k := (s.r i p).toNat) (by rw [er]; omega) (by omega) (show (1 : Int) * 2 ^ (s.r i p).toNat = ((2 ^ (s.r i p).toNat : Nat) : Int) by simp) (Int.le_trans (by decide) (Int.natCast_nonneg _)) (by omega)) ?_
      refine Aa rfl (q_or (Ay rfl <| Ar rfl <| Ad) (Ad) (m := setTo s p i) (k := 2 ^ (s.r i p).toNat) rfl rfl (by omega) (by omega) rfl) ?_
      refine Aa rfl (Ae (Ad)) ?_
      refine Ah <| Bb <| Ac <| C5 (fun _ _ h => h.drop (.cons _ <| .cons_cons _ <| .cons_cons _ <| .cons_cons _ <| .cons_cons _ <| .refl _)) ?_
      refine Ai fun ds => Aa rfl (Br (A6 rfl <| Ay rfl <| Al rfl <| As rfl ht35) Ab rfl (by omega) (by omega)) ?_
      refine Aa rfl (Ag (Ad)) ?_
      refine Ah <| Ac ⟨_, m1 - 1, Off.eq (Dj rfl <| Dv rfl <| ou2 rfl <| Dk rfl <| Bd), by omega, ?_⟩
      exact ⟨i + 1, by omega, (Ad), ((Ar rfl <| Ad)).trans (by rw [setTo_succ]), rfl⟩
     ·
      refine Af <| Ai fun ds => Aa rfl (Bw (As rfl ht35) (Ak rfl <| Al rfl <| Ad)) ?_
      refine Ah <| Ac <| Af <| Am (Ad) (by first | rfl | exact decide_eq_false (by omega)) ?_
      obtain rfl : i = ps.length := by omega
      have hst := setTo_lt (s := s) (p := p) (fun i hi => hv.rd i p hi hp) (k := ps.length) (by omega)
      refine Bn ?_
      refine Ba <| Ba <| Bh <| Ac <| Af <| Ai fun ds => Aa rfl (Ae Ab) ?_
      refine Ah <| Ac <| Af <| Af <| Ai fun ds => Aa rfl (Ag Ab) ?_
      refine Ah <| Ac <| Az <| Bu [10, 11, 48, 49, 50, 51, 52, 53, 54, 55, 56, 57, 58] (fun m e σ => ∃ j : Nat, m + j = 3 ∧ e 48 = .int .i64 (j : Int) ∧ e 10 = .int .i64 (-1 + kindTo s p j) ∧ σ = ⟨F4, (b8, bx 26 [v5]) :: (b2, bx 26 [.slice none 0 0]) :: (b1, bx 25 [vp, ve]) :: (kb, mapO []) :: R5⟩) (3) ?_ ?_
      · exact ⟨0, rfl, (Ad), (Al rfl <| Ad), rfl⟩
      ·
       rintro m2 e2 _ ⟨j, hm2, hu48, hu10, rfl⟩
       by_cases hl3 : j < 3
       ·
        have hkb := kindTo_bound (s := s) (p := p) j
        have hbt : (setTo s p ps.length / 2 ^ (j + 1) &&& 1 : Nat) = (if metB s p (j + 1) = true then 1 else 0 : Nat) := by have h9 := bit_met (j := j) hv hp; rw [← hlen] at h9; exact h9
        refine Af <| Ai fun ds => Aa rfl (Bw (As rfl hu48) Ab) ?_
        refine Ah <| Ac <| Af <| Aq (Ad) (by first | rfl | exact decide_eq_true (by omega)) ?_
        refine Aw <| Ac <| Af <| Az <| Af <| Ai fun ds => Aa rfl (Ag (Al rfl <| As rfl hu48)) ?_
        refine Aa rfl (Ae (Ad)) ?_
        refine Ah <| Ac <| Ai fun ds => Aa rfl (Ag (Ar rfl <| Al rfl <| As rfl hu10)) ?_
        refine Aa rfl (Ag (Ay rfl <| Ak rfl <| Ar rfl <| Al rfl <| As rfl ht7)) ?_
        refine Aa rfl (Ag (Ar rfl <| Ad)) ?_
        refine Aa rfl (Br (Ad) Ab rfl (by omega) (by omega)) ?_
        refine Aa rfl (q_shr (Ar rfl <| Ad) (Ad) (k := j + 1) (by omega) (by show j + 1 < 64; omega) (shr_nat (m := setTo s p ps.length))) ?_
        refine Aa rfl (q_and (Ad) Ab (m := setTo s p ps.length / 2 ^ (j + 1)) (k := 1) rfl rfl (by have := Nat.div_le_self (setTo s p ps.length) (2 ^ (j + 1)); omega) (by omega) rfl) ?_
        refine Aa rfl (Br (Ay rfl <| Al rfl <| Ad) (Ad) rfl (by rw [hbt]; split <;> omega) (by rw [hbt]; split <;> omega)) ?_
        refine Aa rfl (Ae (Ad)) ?_
        refine Ah <| Bb <| Ac <| Ai fun ds => Aa rfl (Br (A6 rfl <| Ar rfl <| Al rfl <| As rfl hu48) Ab rfl (by omega) (by omega)) ?_
        refine Aa rfl (Ag (Ad)) ?_
        refine Ah <| Ac ⟨_, m2 - 1, Off.eq (Dj rfl <| Dv rfl <| Dk rfl <| Bd), by omega, ?_⟩
        refine ⟨j + 1, by omega, (Ad), ((Ar rfl <| Ad)).trans ?_, rfl⟩
        rw [kindTo_succ, hbt]; congr 1; split <;> omega
       ·
        refine Af <| Ai fun ds => Aa rfl (Bw (As rfl hu48) Ab) ?_
        refine Ah <| Ac <| Af <| Am (Ad) (by first | rfl | exact decide_eq_false (by omega)) ?_
        obtain rfl : j = 3 := by omega
        have hkb := kindTo_bound (s := s) (p := p) 3
        refine Bn ?_
        refine Ba <| Ba <| Bh <| Ac <| Ai fun ds => Aa rfl (Ap Cb (Al rfl <| Ak rfl <| Ar rfl <| Al rfl <| Ak rfl <| A6 rfl <| Ak rfl <| Ay rfl <| Ad) (Cell.own 0 rfl rfl)) ?_
        refine Aa rfl (Ag (Ar rfl <| As rfl hu10)) ?_
        refine Aa rfl (q_max2 Ab (Ad)) ?_
        refine Bm rfl (B6 Be Da rfl (.cons (Ad) .nil) rfl rfl (by decide) (by simp [Value.oneCell']) fun b13 hb13 nb13 => ?_)
        refine Bm rfl (B9 Be el_3 (Ar rfl <| Al rfl <| Ad) ho (Ad) (Dd (s := 1) 0 rfl rfl (by simp [Value.oneCell'])) (by omega) (by omega) (.s <| .s <| .s <| .s <| .s <| .z) .last fun v14 R15 ho16 => ?_)
        have ho2 : Own 3 1 v14 (iL (needN s) (p + 1)).length ((iL (needN s) (p + 1)).flatMap intE) R15 := by have h9 := ho16; rw [iL_succ]; exact h9.snoc (x := needN s p) rfl (by unfold needN kindsN intE; congr 2; omega)
        refine Cm (Cn sz_26 (Ay rfl <| Ar rfl <| Ak rfl <| Ar rfl <| Al rfl <| Ak rfl <| A6 rfl <| Ak rfl <| Ay rfl <| Ad) (Ad) (i := 1) rfl (.here) (Own.one ho2) (.next <| .here) ?_)
        refine Ah <| Bb <| Ac <| C5 (fun _ _ h => h.drop (.cons _ <| .cons_cons _ <| .cons_cons _ <| .cons_cons _ <| .cons_cons _ <| .refl _)) ?_
        refine Ai fun ds => Aa rfl (Br (Ay rfl <| Ar rfl <| Ak rfl <| Ar rfl <| Al rfl <| Ak rfl <| A6 rfl <| As rfl hs29) Ab rfl (by omega) (by omega)) ?_
        refine Aa rfl (Ag (Ad)) ?_
        refine Ah <| Ac ⟨_, m - 1, Off.eq (Dj rfl <| Ds rfl <| ou2 rfl <| Dk rfl <| Ds rfl <| Dj rfl <| Bd), by omega, ?_⟩
        refine ⟨p + 1, by omega, (Ad), _, _, ho2, rfl⟩
   ·
    refine Af <| Ai fun ds => Aa rfl (Bw (As rfl hs29) (Ak rfl <| Al rfl <| Ad)) ?_
    refine Ah <| Ac <| Af <| Am (Ad) (by first | rfl | exact decide_eq_false (by omega)) ?_
    obtain rfl : p = s.places.length := by omega
    refine Cw (σ := ⟨_, _⟩) (by rfl) ho (.s <| .s <| .s <| .s <| .z) .last fun F17 hF18 hz19 => ?_
    replace hX := hX.mono hF18
    have hnd := ho.sl (fun _ => rfl) hz19 (by rw [C1]; omega)
    refine Cg (i := 0) rfl hb8 (.here) fun F20 hF21 hz5 => ?_
    replace hX := hX.mono hF21
    replace hnd := hnd.mono hF21
    refine Bn ?_
    refine Ba <| Ba <| Bh <| Ac <| Af <| Ai fun ds => Bm rfl (Cf zr_4 rfl fun b22 hb22 nb22 => ?_)
    refine Cm (Cn sz_4 (Ad) Ab (i := 0) rfl (.here) rfl (.here) ?_)
    refine Ah <| Ac <| Af <| Ai fun ds => Aa rfl (Ag (Ar rfl <| Ak rfl <| A6 rfl <| Ad)) ?_
    refine Aa rfl (q_makeFunc2 (.cons (Ad) .nil) .nil) ?_
    refine Bm rfl (Cf zr_119 rfl fun b23 hb23 nb23 => ?_)
    refine Cm (Cn sz_119 (Ad) (Al rfl <| Ad) (i := 0) rfl (.here) rfl (.here) ?_)
    refine Ah <| Ac <| Af <| Af <| Cg (i := 0) rfl hb23 (.here) fun F24 hF25 hz13 => ?_
    replace hX := hX.mono hF25
    replace hnd := hnd.mono hF25
    replace hz5 := hF25 _ _ hz5
    refine Ai fun ds => Aa rfl (Ag (Ay rfl <| Al rfl <| Ak rfl <| A6 rfl <| Ad)) ?_
    refine Bm rfl (Ch bd_83 A0 (.cons (Ad) .nil) (trees_ok hX) fun v26 F27 hr28 hF29 => ?_)
    replace hX := hX.mono hF29
    replace hnd := hnd.mono hF29
    replace hz5 := hF29 _ _ hz5
    replace hz13 := hF29 _ _ hz13
    obtain ⟨dz, rfl, hzd⟩ := hr28
    refine Ah <| Ac <| Az <| WC_rangeG rfl (Ad) (bd_116) (trees1_iter hX hv hzd) (Heap.le_refl _) (fun pre G H => ∃ v2, Nats G v2 ((cleanR s pre).getD []) ∧ H = [(b22, bx 4 [.bool (cleanR s pre).isSome]), (b2, bx 26 [v2]), (b1, bx 25 [vp, ve]), (kb, mapO [])]) (fun _ _ _ => False) (fun _ _ _ _ hF h => by obtain ⟨v, h1, h2⟩ := h; exact ⟨v, h1.mono hF, h2⟩) (fun _ _ _ _ _ h => h) ⟨_, Sl.nil, rfl⟩ (fun L D fn tm pre x rest G H1 vs hxs hle hJ hA => ?_) (fun _ _ _ _ h => h.elim) (fun F2 H1 hF2 hJ => ?_)
    ·
     replace hX := hX.mono hle
     replace hnd := hnd.mono hle
     replace hz5 := hle _ _ hz5
     replace hz13 := hle _ _ hz13
     obtain ⟨v2, hv2, rfl⟩ := hJ
     obtain rfl : vs = [treeV x] := hA
     have hxm : x ∈ allTrees s := by rw [hxs]; simp
     obtain ⟨hll, ht, -⟩ := allTrees_mem.1 hxm
     refine ⟨rfl, rfl, fun w1 => ?_⟩
     refine WC_eq (e' := (upd _ 69 (treeV x))) rfl rfl ?_
     refine Ce (.inr (by kernel_rfl)) (fun _ _ h => h) fun ds => ?_
     refine Bm rfl (Cf Eh rfl fun b30 hb30 nb30 => ?_)
     refine WL_order (.cons (.next <| .here) <| .cons (.next <| .here) <| .cons (.here) <| .cons (.here) <| .cons (.here) <| .cons (.here) <| .cons (.here) <| .nil) ?_
     refine Cm (Cj En (Ad) (Al rfl <| Ad) (i := 2) rfl rfl rfl rfl Df (.next <| .next <| .here) ?_)
     refine Ah <| Ac ⟨_, rfl, ?_⟩
     refine Az <| Af <| WC_name (i := 0) rfl (fun _ => .here) fun oL hoL => ?_
     refine Ce (.inr (by kernel_rfl)) (fun _ _ h => h) fun ds => ?_
     refine Aa rfl (Ae Ab) ?_
     refine Ah <| Ac <| Af <| Af <| Ce (.inr (by kernel_rfl)) (fun _ _ h => h) fun ds => ?_
     refine Aa rfl (Ap Cb (A6 rfl <| Ar rfl <| Ak rfl <| Ay rfl <| Ad) (CellF.own hz5 rfl).cell) ?_
     refine Aa rfl (Bk Be (Ad) hnd.plain) ?_
     refine Aa rfl (Ag Ab) ?_
     refine Ah <| Ac <| Az <| Bu [15, 16, 17, 72, 73, 74, 75, 76, 77, 78, 79, 80, 81, 82, 83, 84, 85, 86, 87] (fun m e σ => ∃ q : Nat, m + q = s.places.length ∧ e 72 = .int .i64 (q : Int) ∧ ∃ v15 R15, e 15 = v15 ∧ Own 3 1 v15 (selN (uncleanB s x) q).length ((selN (uncleanB s x) q).flatMap natE) R15 ∧ σ = ⟨G, (L, oL) :: (D, openO) :: (b30, bx 100 (treeC x)) :: (b22, bx 4 [.bool (cleanR s pre).isSome]) :: (b2, bx 26 [v2]) :: (b1, bx 25 [vp, ve]) :: (kb, mapO []) :: R15⟩) (s.places.length) ?_ ?_
     · exact ⟨0, by omega, (Ad), _, _, (Ar rfl <| Al rfl <| Ad), Own.nil, rfl⟩
     ·
      rintro m e _ ⟨q, hm, hs72, v15, R15, hs15, ho, rfl⟩; have hsl := Dq (p := (uncleanB s x)) (k := q)
      by_cases hlq : q < s.places.length
      ·
       refine Af <| Ce (.inr (by kernel_rfl)) (fun _ _ h => h) fun ds => ?_
       refine Aa rfl (Bw (As rfl hs72) (Ak rfl <| Al rfl <| Ad)) ?_
       refine Ah <| Ac <| Af <| Aq (Ad) (by first | rfl | exact decide_eq_true (by omega)) ?_
       have hnq : (iL (needN s) s.places.length)[q]'(by rw [C1]; exact hlq) = needN s q := iL_at _
       have hup := unclean_place ht hv hll (p := q)
       by_cases hub : uncleanB s x q = true
       ·
        refine Aw <| Ac <| Af <| Az <| Af <| Ce (.inr (by kernel_rfl)) (fun _ _ h => h) fun ds => ?_
        refine Aa rfl (Ag (Al rfl <| As rfl hs72)) ?_
        refine Aa rfl (A9 (k := q) Be (Ar rfl <| Ak rfl <| Ar rfl <| Ad) hnd.plain (Ar rfl <| As rfl hs72) rfl (by rw [C1]; exact hlq)) ?_
        refine Aa rfl (Ap Bj (Ad) (hnd.cell1 (by rw [C1]; exact hlq) rfl)) ?_
        refine Aa rfl (Ae (Ar rfl <| Ad)) ?_
        refine Aa rfl (Ae (Al rfl <| Ad)) ?_
        refine Ah <| Ac <| Af <| Ce (.inr (by kernel_rfl)) (fun _ _ h => h) fun ds => ?_
        refine Aa rfl (Ap one_119 (Ay rfl <| Ar rfl <| Ak rfl <| A6 rfl <| Ad) (CellF.own hz13 rfl).cell) ?_
        refine Aa rfl (Bf B4 (Ay rfl <| Ar rfl <| Al rfl <| Ak rfl <| Ay rfl <| Ad) rfl rfl (A8 2 rfl)) ?_
        refine Aa rfl (Ag (Ar rfl <| Al rfl <| Ad)) ?_
        refine Bx rfl (q_callF bd_82 (Ar rfl <| Ad) (.cons (Al rfl <| Ad) (.cons (Ad) .nil)) (Ed hX ht hll hv hlq) (fun _ _ h => h)) ?_
        refine Aa rfl (Ag (Ay rfl <| Ad)) ?_
        refine Aa rfl (By (Al rfl <| Ad) (Ad)) ?_
        refine Ah <| Ac <| Aq (Ad) (decide_eq_true (by rw [hnq]; exact hup.2 hub)) ?_
        refine Ce (.inr (by kernel_rfl)) (fun _ _ h => h) fun ds => ?_
        refine Aa rfl (Ag (A6 rfl <| Ay rfl <| As rfl hs15)) ?_
        refine Aa rfl (Ag (A6 rfl <| Ad)) ?_
        refine Bm rfl (B6 Be Da rfl (.cons (Ad) .nil) rfl rfl (by decide) (by simp [Value.oneCell']) fun b32 hb32 nb32 => ?_)
        refine Bm rfl (B9 Be el_3 (Ar rfl <| Ad) ho (Ad) (Dd (s := 1) 0 rfl rfl (by simp [Value.oneCell'])) (by omega) (by omega) (.s <| .s <| .s <| .s <| .s <| .s <| .s <| .s <| .z) .last fun v33 R34 ho35 => ?_)
        have ho2 := ho35.snoc (x := q) rfl rfl
        refine Aa rfl (Ae (Ad)) ?_
        refine Ah <| Bb <| Ac <| C5 (fun _ _ h => h.drop (.cons _ <| .cons_cons _ <| .cons_cons _ <| .cons_cons _ <| .cons_cons _ <| .cons_cons _ <| .cons_cons _ <| .cons_cons _ <| .refl _)) ?_
        refine Ce (.inr (by kernel_rfl)) (fun _ _ h => h) fun ds => ?_
        refine Aa rfl (Br (A3 rfl <| Al rfl <| As rfl hs72) Ab rfl (by omega) (by omega)) ?_
        refine Aa rfl (Ag (Ad)) ?_
        refine Ah <| Ac ⟨_, m - 1, Off.eq (Cr rfl <| ou2 rfl <| Dk rfl <| Bd), by omega, ?_⟩
        exact ⟨q + 1, by omega, (Ad), _, _, (Ar rfl <| Ad), by rw [D0, if_pos hub]; exact ho2, rfl⟩
       ·
        replace hub : uncleanB s x q = false := by simpa using hub
        refine Aw <| Ac <| Af <| Az <| Af <| Ce (.inr (by kernel_rfl)) (fun _ _ h => h) fun ds => ?_
        refine Aa rfl (Ag (Al rfl <| As rfl hs72)) ?_
        refine Aa rfl (A9 (k := q) Be (Ar rfl <| Ak rfl <| Ar rfl <| Ad) hnd.plain (Ar rfl <| As rfl hs72) rfl (by rw [C1]; exact hlq)) ?_
        refine Aa rfl (Ap Bj (Ad) (hnd.cell1 (by rw [C1]; exact hlq) rfl)) ?_
        refine Aa rfl (Ae (Ar rfl <| Ad)) ?_
        refine Aa rfl (Ae (Al rfl <| Ad)) ?_
        refine Ah <| Ac <| Af <| Ce (.inr (by kernel_rfl)) (fun _ _ h => h) fun ds => ?_
        refine Aa rfl (Ap one_119 (Ay rfl <| Ar rfl <| Ak rfl <| A6 rfl <| Ad) (CellF.own hz13 rfl).cell) ?_
        refine Aa rfl (Bf B4 (Ay rfl <| Ar rfl <| Al rfl <| Ak rfl <| Ay rfl <| Ad) rfl rfl (A8 2 rfl)) ?_
        refine Aa rfl (Ag (Ar rfl <| Al rfl <| Ad)) ?_
        refine Bx rfl (q_callF bd_82 (Ar rfl <| Ad) (.cons (Al rfl <| Ad) (.cons (Ad) .nil)) (Ed hX ht hll hv hlq) (fun _ _ h => h)) ?_
        refine Aa rfl (Ag (Ay rfl <| Ad)) ?_
        refine Aa rfl (By (Al rfl <| Ad) (Ad)) ?_
        refine Ah <| Ac <| Am (Ad) (decide_eq_false (by rw [hnq]; exact fun h => by rw [hup.1 h] at hub; cases hub)) ?_
        refine Aw <| Bb <| Ac <| Ce (.inr (by kernel_rfl)) (fun _ _ h => h) fun ds => ?_
        refine Aa rfl (Br (A6 rfl <| Ay rfl <| As rfl hs72) Ab rfl (by omega) (by omega)) ?_
        refine Aa rfl (Ag (Ad)) ?_
        refine Ah <| Ac ⟨_, m - 1, Off.eq (Dj rfl <| Dv rfl <| ou2 rfl <| Bd), by omega, ?_⟩
        exact ⟨q + 1, by omega, (Ad), _, _, (A6 rfl <| Ay rfl <| Ar rfl <| As rfl hs15), by rw [D0, if_neg (by rw [hub]; simp)]; exact ho, rfl⟩
      ·
       refine Af <| Ce (.inr (by kernel_rfl)) (fun _ _ h => h) fun ds => ?_
       refine Aa rfl (Bw (As rfl hs72) (Ak rfl <| Al rfl <| Ad)) ?_
       refine Ah <| Ac <| Af <| Am (Ad) (by first | rfl | exact decide_eq_false (by omega)) ?_
       obtain rfl : q = s.places.length := by omega
       refine WC_freezeRM (σ := ⟨_, _⟩) (by intro m hm; simp [keys] at hm ⊢; rcases hm with h | h | h | h | h | h <;> simp [h]) ho (.s <| .s <| .s <| .s <| .s <| .s <| .s <| .z) .last fun F36 hF37 hz38 => ?_
       replace hle := hle.mono hF37
       replace hv2 := hv2.mono hF37
       have hl15 := ho.sl (fun _ => rfl) hz38 (by omega)
       change Nats _ _ (uncleanL s x) at hl15
       rcases opt_or (cleanR s pre) with hcs | ⟨bb, hcs⟩
       ·
        refine Bn ?_
        refine Ba <| Ba <| Bh <| Ac <| Af <| Ce (.inr (by kernel_rfl)) (fun _ _ h => h) fun ds => ?_
        refine Aa rfl (Ap one_4 (Al rfl <| Ak rfl <| A6 rfl <| Ar rfl <| Al rfl <| Ad) (Cell.own 3 rfl rfl)) ?_
        refine Aa rfl (Ci (Ad)) ?_
        refine Aa rfl (Ag (Ad)) ?_
        refine At rfl rfl (Ad) (.inl (congrArg Value.bool (by rw [hcs]; rfl))) rfl ?_
        refine At rfl rfl (Al rfl <| Ad) (.inl (congrArg Value.bool (by rw [hcs]; rfl))) rfl ?_
        refine At rfl rfl (Ar rfl <| Ad) (.inl (congrArg Value.bool (by rw [hcs]; rfl))) rfl ?_
        refine At rfl rfl (Ar rfl <| Al rfl <| Ad) (.inl (congrArg Value.bool (by rw [hcs]; rfl))) rfl ?_
        refine At rfl rfl (Ay rfl <| Ad) (.inl (congrArg Value.bool (by rw [hcs]; rfl))) rfl ?_
        refine Aa rfl (A2 (Ay rfl <| Al rfl <| Ad) (by rw [hcs]; rfl) Ab) ?_
        refine Aa rfl (Ag (Ad)) ?_
        refine At rfl rfl (Ad) (.inl (congrArg Value.bool rfl)) rfl ?_
        refine At rfl rfl (Al rfl <| Ad) (.inl (congrArg Value.bool rfl)) rfl ?_
        refine At rfl rfl (Ar rfl <| Ad) (.inl (congrArg Value.bool rfl)) rfl ?_
        refine At rfl rfl (Ar rfl <| Al rfl <| Ad) (.inl (congrArg Value.bool rfl)) rfl ?_
        refine At rfl rfl (Ay rfl <| Ad) (.inl (congrArg Value.bool rfl)) rfl ?_
        refine At rfl rfl (Ay rfl <| Al rfl <| Ad) (.inl (congrArg Value.bool rfl)) rfl ?_
        refine At rfl rfl (Ad) (.inr rfl) rfl ?_
        refine At rfl rfl (Al rfl <| Ad) (.inr rfl) rfl ?_
        refine At rfl rfl (Ar rfl <| Ad) (.inr rfl) rfl ?_
        refine At rfl rfl (Ar rfl <| Al rfl <| Ad) (.inr rfl) rfl ?_
        refine At rfl rfl (A6 rfl <| Ar rfl <| Ad) (.inl (congrArg Value.bool rfl)) rfl ?_
        refine Aa rfl (A2 (A6 rfl <| Ar rfl <| Al rfl <| Ad) rfl Ab) ?_
        refine Ah <| Ac <| Aq (Ad) rfl ?_
        subst hoL
        refine Ce (.inr (by kernel_rfl)) (fun _ _ h => h) fun ds => ?_
        refine Aa rfl (Ag (A3 rfl <| Ay rfl <| Ar rfl <| Al rfl <| As rfl hs15)) ?_
        refine Cm (Cn sz_26 (A3 rfl <| A6 rfl <| Ak rfl <| A6 rfl <| Ay rfl <| Al rfl <| Ak rfl <| A6 rfl <| Ay rfl <| Ar rfl <| Al rfl <| Ad) (Ad) (i := 4) rfl (.here) (by first | rfl | exact hl15.plain.one) (.next <| .next <| .next <| .next <| .here) ?_)
        refine Cm (Cn sz_4 (A3 rfl <| A6 rfl <| Ak rfl <| A6 rfl <| Ar rfl <| Al rfl <| Ad) Ab (i := 3) rfl (.here) (by first | rfl | exact hl15.plain.one) (.next <| .next <| .next <| .here) ?_)
        refine Ah <| Bb ?_
        refine E0 (.one (.here) <| .one (.here) <| .one (.next <| .here) <| .one (.next <| .here) <| .one (.next <| .here) <| .one (.next <| .here) <| .nil) ?_
        refine .inl ⟨rfl, _, rfl, hle, ?_⟩
        exact ⟨_, by rw [cleanS_none hcs]; exact hl15, by rw [cleanS_none hcs]; first | done | rfl⟩
       ·
        have hv2b := hv2
        rw [hcs] at hv2b
        replace hv2b : Nats _ v2 bb := hv2b
        have hbl := hv2b.plain.lt
        refine Bn ?_
        refine Ba <| Ba <| Bh <| Ac <| Af <| Ce (.inr (by kernel_rfl)) (fun _ _ h => h) fun ds => ?_
        refine Aa rfl (Ap one_4 (Al rfl <| Ak rfl <| A6 rfl <| Ar rfl <| Al rfl <| Ad) (Cell.own 3 rfl rfl)) ?_
        refine Aa rfl (Ci (Ad)) ?_
        refine Aa rfl (Ag (Ad)) ?_
        refine Au rfl rfl (Ad) (by rw [hcs]; rfl) ?_
        refine Aa rfl (Ag (Ay rfl <| As rfl hs15)) ?_
        refine Au rfl rfl (Al rfl <| Ad) (by rw [hcs]; rfl) ?_
        refine Aa rfl (Bk Be (Ad) hl15.plain) ?_
        refine Au rfl rfl (Ar rfl <| Ad) (by rw [hcs]; rfl) ?_
        refine Aa rfl (Ap Cb (Ay rfl <| Ar rfl <| Ak rfl <| A6 rfl <| Ay rfl <| Al rfl <| Ak rfl <| A6 rfl <| Ay rfl <| Ar rfl <| Al rfl <| Ad) (Cell.own 4 rfl rfl)) ?_
        refine Au rfl rfl (Ar rfl <| Al rfl <| Ad) (by rw [hcs]; rfl) ?_
        refine Aa rfl (Bk Be (Ad) hv2.plain) ?_
        refine Au rfl rfl (Ay rfl <| Ad) (by rw [hcs]; rfl) ?_
        refine Aa rfl (Bw (Ar rfl <| Ad) (Ad)) ?_
        refine Aa rfl (A7 (Ay rfl <| Al rfl <| Ad) (by rw [hcs]; rfl) (Ad)) ?_
        refine Aa rfl (Ag (Ad)) ?_
        by_cases h1 : (uncleanL s x).length < bb.length
        ·
         refine At rfl rfl (Ad) (.inl (congrArg Value.bool (decide_eq_true (by rw [hcs]; show (_ : Int) < (bb.length : Int); omega)))) rfl ?_
         refine At rfl rfl (Al rfl <| Ad) (.inl (congrArg Value.bool (decide_eq_true (by rw [hcs]; show (_ : Int) < (bb.length : Int); omega)))) rfl ?_
         refine At rfl rfl (Ar rfl <| Ad) (.inl (congrArg Value.bool (decide_eq_true (by rw [hcs]; show (_ : Int) < (bb.length : Int); omega)))) rfl ?_
         refine At rfl rfl (Ar rfl <| Al rfl <| Ad) (.inl (congrArg Value.bool (decide_eq_true (by rw [hcs]; show (_ : Int) < (bb.length : Int); omega)))) rfl ?_
         refine At rfl rfl (Ay rfl <| Ad) (.inl (congrArg Value.bool (decide_eq_true (by rw [hcs]; show (_ : Int) < (bb.length : Int); omega)))) rfl ?_
         refine At rfl rfl (Ay rfl <| Al rfl <| Ad) (.inl (congrArg Value.bool (decide_eq_true (by rw [hcs]; show (_ : Int) < (bb.length : Int); omega)))) rfl ?_
         refine At rfl rfl (Ad) (.inr rfl) rfl ?_
         refine At rfl rfl (Al rfl <| Ad) (.inr rfl) rfl ?_
         refine At rfl rfl (Ar rfl <| Ad) (.inr rfl) rfl ?_
         refine At rfl rfl (Ar rfl <| Al rfl <| Ad) (.inr rfl) rfl ?_
         refine At rfl rfl (A6 rfl <| Ar rfl <| Ad) (.inl (congrArg Value.bool (decide_eq_true (by rw [hcs]; show (_ : Int) < (bb.length : Int); omega)))) rfl ?_
         refine Aa rfl (A2 (A6 rfl <| Ar rfl <| Al rfl <| Ad) (decide_eq_true (by rw [hcs]; show (_ : Int) < (bb.length : Int); omega)) Ab) ?_
         refine Ah <| Ac <| Aq (Ad) rfl ?_
         subst hoL
         refine Ce (.inr (by kernel_rfl)) (fun _ _ h => h) fun ds => ?_
         refine Aa rfl (Ag (A3 rfl <| Ay rfl <| Ar rfl <| Al rfl <| As rfl hs15)) ?_
         refine Cm (Cn sz_26 (A3 rfl <| A6 rfl <| Ak rfl <| A6 rfl <| Ay rfl <| Al rfl <| Ak rfl <| A6 rfl <| Ay rfl <| Ar rfl <| Al rfl <| Ad) (Ad) (i := 4) rfl (.here) (by first | rfl | exact hl15.plain.one) (.next <| .next <| .next <| .next <| .here) ?_)
         refine Cm (Cn sz_4 (A3 rfl <| A6 rfl <| Ak rfl <| A6 rfl <| Ar rfl <| Al rfl <| Ad) Ab (i := 3) rfl (.here) (by first | rfl | exact hl15.plain.one) (.next <| .next <| .next <| .here) ?_)
         refine Ah <| Bb ?_
         refine E0 (.one (.here) <| .one (.here) <| .one (.next <| .here) <| .one (.next <| .here) <| .one (.next <| .here) <| .one (.next <| .here) <| .nil) ?_
         refine .inl ⟨rfl, _, rfl, hle, ?_⟩
         exact ⟨_, by rw [cleanS_yes hcs (.inl h1)]; exact hl15, by rw [cleanS_yes hcs (.inl h1)]; first | done | rfl⟩
        ·
         refine Au rfl rfl (Ad) (decide_eq_false (by rw [hcs]; show ¬ (_ : Int) < (bb.length : Int); omega)) ?_
         refine Aa rfl (Ag (A6 rfl <| Ar rfl <| Al rfl <| As rfl hs15)) ?_
         refine Au rfl rfl (Al rfl <| Ad) (decide_eq_false (by rw [hcs]; show ¬ (_ : Int) < (bb.length : Int); omega)) ?_
         refine Aa rfl (Bk Be (Ad) hl15.plain) ?_
         refine Au rfl rfl (Ar rfl <| Ad) (decide_eq_false (by rw [hcs]; show ¬ (_ : Int) < (bb.length : Int); omega)) ?_
         refine Aa rfl (Ap Cb (A6 rfl <| Ay rfl <| Al rfl <| Ak rfl <| A6 rfl <| Ay rfl <| Al rfl <| Ak rfl <| A6 rfl <| Ay rfl <| Ar rfl <| Al rfl <| Ad) (Cell.own 4 rfl rfl)) ?_
         refine Au rfl rfl (Ar rfl <| Al rfl <| Ad) (decide_eq_false (by rw [hcs]; show ¬ (_ : Int) < (bb.length : Int); omega)) ?_
         refine Aa rfl (Bk Be (Ad) hv2.plain) ?_
         refine Au rfl rfl (Ay rfl <| Ad) (decide_eq_false (by rw [hcs]; show ¬ (_ : Int) < (bb.length : Int); omega)) ?_
         refine Aa rfl (Bs (Ar rfl <| Ad) (Ad)) ?_
         refine Au rfl rfl (Ay rfl <| Al rfl <| Ad) (decide_eq_false (by rw [hcs]; show ¬ (_ : Int) < (bb.length : Int); omega)) ?_
         refine Aa rfl (Ag (Ad)) ?_
         by_cases h2 : (uncleanL s x).length = bb.length
         ·
          refine Au rfl rfl (Ad) (decide_eq_true (by rw [hcs]; show (_ : Int) = (bb.length : Int); omega)) ?_
          refine Aa rfl (Ag (A3 rfl <| Al rfl <| As rfl hs15)) ?_
          refine Au rfl rfl (Al rfl <| Ad) (decide_eq_true (by rw [hcs]; show (_ : Int) = (bb.length : Int); omega)) ?_
          refine Aa rfl (Ap Cb (A3 rfl <| Ar rfl <| Ak rfl <| A6 rfl <| Ay rfl <| Al rfl <| Ak rfl <| A6 rfl <| Ay rfl <| Ar rfl <| Al rfl <| Ad) (Cell.own 4 rfl rfl)) ?_
          refine Au rfl rfl (Ar rfl <| Ad) (decide_eq_true (by rw [hcs]; show (_ : Int) = (bb.length : Int); omega)) ?_
          refine Bx rfl (Bi bd_84 A0 (.cons (Al rfl <| Ad) (.cons (Ad) .nil)) (compare_ok hl15 hv2) (fun _ _ h => h)) ?_
          refine Au rfl rfl (Ar rfl <| Al rfl <| Ad) (decide_eq_true (by rw [hcs]; show (_ : Int) = (bb.length : Int); omega)) ?_
          refine Aa rfl (Bw (Ad) Ab) ?_
          refine Au rfl rfl (A6 rfl <| Ar rfl <| Ad) (decide_eq_false (by rw [hcs]; show ¬ (_ : Int) < (bb.length : Int); omega)) ?_
          refine Aa rfl (A2 (Ay rfl <| Ad) (decide_eq_true (by rw [hcs]; show (_ : Int) = (bb.length : Int); omega)) (Ad)) ?_
          refine Aa rfl (A7 (A6 rfl <| Ar rfl <| Al rfl <| Ad) (decide_eq_false (by rw [hcs]; show ¬ (_ : Int) < (bb.length : Int); omega)) (Ad)) ?_
          refine Ah <| Ac ?_
          by_cases h3 : cmpL (uncleanL s x) bb < 0
          ·
           refine Aq (Ad) (by rw [hcs]; exact decide_eq_true h3) ?_
           subst hoL
           refine Ce (.inr (by kernel_rfl)) (fun _ _ h => h) fun ds => ?_
           refine Aa rfl (Ag (A3 rfl <| Ay rfl <| Ar rfl <| Al rfl <| As rfl hs15)) ?_
           refine Cm (Cn sz_26 (A3 rfl <| A6 rfl <| Ak rfl <| A6 rfl <| Ay rfl <| Al rfl <| Ak rfl <| A6 rfl <| Ay rfl <| Ar rfl <| Al rfl <| Ad) (Ad) (i := 4) rfl (.here) (by first | rfl | exact hl15.plain.one) (.next <| .next <| .next <| .next <| .here) ?_)
           refine Cm (Cn sz_4 (A3 rfl <| A6 rfl <| Ak rfl <| A6 rfl <| Ar rfl <| Al rfl <| Ad) Ab (i := 3) rfl (.here) (by first | rfl | exact hl15.plain.one) (.next <| .next <| .next <| .here) ?_)
           refine Ah <| Bb ?_
           refine E0 (.one (.here) <| .one (.here) <| .one (.next <| .here) <| .one (.next <| .here) <| .one (.next <| .here) <| .one (.next <| .here) <| .nil) ?_
           refine .inl ⟨rfl, _, rfl, hle, ?_⟩
           exact ⟨_, by rw [cleanS_yes hcs (.inr ⟨h2, h3⟩)]; exact hl15, by rw [cleanS_yes hcs (.inr ⟨h2, h3⟩)]; first | done | rfl⟩
          ·
           refine Am (Ad) (by rw [hcs]; exact decide_eq_false h3) ?_
           subst hoL
           refine Aw <| Bb ?_
           refine E0 (.one (.here) <| .one (.here) <| .one (.next <| .here) <| .one (.next <| .here) <| .one (.next <| .here) <| .one (.next <| .here) <| .nil) ?_
           refine .inl ⟨rfl, _, rfl, hle, ?_⟩
           exact ⟨_, by rw [cleanS_no hcs (fun h => h.elim h1 (fun h => h3 h.2))]; exact hv2b, by rw [cleanS_no hcs (fun h => h.elim h1 (fun h => h3 h.2)), hcs]; first | done | rfl⟩
         ·
          refine At rfl rfl (Ad) (.inl (congrArg Value.bool (decide_eq_false (by rw [hcs]; show ¬ (_ : Int) = (bb.length : Int); omega)))) rfl ?_
          refine At rfl rfl (Al rfl <| Ad) (.inl (congrArg Value.bool (decide_eq_false (by rw [hcs]; show ¬ (_ : Int) = (bb.length : Int); omega)))) rfl ?_
          refine At rfl rfl (Ar rfl <| Ad) (.inl (congrArg Value.bool (decide_eq_false (by rw [hcs]; show ¬ (_ : Int) = (bb.length : Int); omega)))) rfl ?_
          refine At rfl rfl (Ar rfl <| Al rfl <| Ad) (.inl (congrArg Value.bool (decide_eq_false (by rw [hcs]; show ¬ (_ : Int) = (bb.length : Int); omega)))) rfl ?_
          refine Au rfl rfl (A6 rfl <| Ar rfl <| Ad) (decide_eq_false (by rw [hcs]; show ¬ (_ : Int) < (bb.length : Int); omega)) ?_
          refine Aa rfl (A7 (Ay rfl <| Ad) (decide_eq_false (by rw [hcs]; show ¬ (_ : Int) = (bb.length : Int); omega)) Ab) ?_
          refine Aa rfl (A7 (A6 rfl <| Ar rfl <| Al rfl <| Ad) (decide_eq_false (by rw [hcs]; show ¬ (_ : Int) < (bb.length : Int); omega)) (Ad)) ?_
          refine Ah <| Ac <| Am (Ad) rfl ?_
          subst hoL
          refine Aw <| Bb ?_
          refine E0 (.one (.here) <| .one (.here) <| .one (.next <| .here) <| .one (.next <| .here) <| .one (.next <| .here) <| .one (.next <| .here) <| .nil) ?_
          refine .inl ⟨rfl, _, rfl, hle, ?_⟩
          exact ⟨_, by rw [cleanS_no hcs (fun h => h.elim h1 (fun h => h2 h.1))]; exact hv2b, by rw [cleanS_no hcs (fun h => h.elim h1 (fun h => h2 h.1)), hcs]; first | done | rfl⟩
    obtain ⟨v2, hv2, rfl⟩ := hJ
    refine Bb <| Ac ?_
    rcases opt_or (cleanR s (allTrees s)) with hcs | ⟨bb, hcs⟩
    ·
     refine Af <| Af <| Ai fun ds => Aa rfl (Ap one_4 (Ay rfl <| Al rfl <| Ad) (Cell.own 0 rfl rfl)) ?_
     refine Aa rfl (Ci (Ad)) ?_
     refine Ah <| Ac <| Aq (Ad) (by rw [hcs]; rfl) ?_
     refine Af <| Ai fun ds => Cm (Cn sz_26 (A6 rfl <| Al rfl <| Ak rfl <| A6 rfl <| Ay rfl <| Ar rfl <| Al rfl <| Ad) Ab (i := 1) rfl (.here) rfl (.next <| .here) ?_)
     refine Aa rfl (Ae Ab) ?_
     refine Ah <| Ac <| A4 <| Bg ?_
     refine Ax rfl (.one Cb (A6 rfl <| Ar rfl <| Ak rfl <| A6 rfl <| Ay rfl <| Ar rfl <| Al rfl <| Ad) (Cell.own 1 rfl rfl) (.tmp (Ad) .nil)) ?_
     rw [cleanE_none h0 hcs]
     exact ⟨_, rfl, Sl.nil⟩
    ·
     refine Af <| Af <| Ai fun ds => Aa rfl (Ap one_4 (Ay rfl <| Al rfl <| Ad) (Cell.own 0 rfl rfl)) ?_
     refine Aa rfl (Ci (Ad)) ?_
     refine Ah <| Ac <| Am (Ad) (by rw [hcs]; rfl) ?_
     refine Aw <| Ac <| Af <| Ai fun ds => Aa rfl (Ap Cb (A6 rfl <| Al rfl <| Ak rfl <| A6 rfl <| Ay rfl <| Ar rfl <| Al rfl <| Ad) (Cell.own 1 rfl rfl)) ?_
     refine Cm (Cn sz_26 (A6 rfl <| Ar rfl <| Ak rfl <| A6 rfl <| Ay rfl <| Ar rfl <| Al rfl <| Ad) (Ad) (i := 1) rfl (.here) hv2.plain.one (.next <| .here) ?_)
     refine Aa rfl (Ae Ab) ?_
     refine Ah <| Ac <| A4 <| Ax rfl (.one Cb (A6 rfl <| Ar rfl <| Al rfl <| Ak rfl <| A6 rfl <| Ay rfl <| Ar rfl <| Al rfl <| Ad) (Cell.own 1 rfl rfl) (.tmp (Ad) .nil)) ?_
     rw [cleanE_some h0 hcs]
     rw [hcs] at hv2
     exact ⟨_, rfl, hv2⟩
 ·
  refine Af <| Ai fun ds => Bm rfl (B2 (Aj rfl) rfl fun b39 hb39 nb39 => ?_)
  refine Bm rfl (Cf zr_26 rfl fun b40 hb40 nb40 => ?_)
  refine Aa rfl (Ae Ab) ?_
  refine Ah <| Ac <| Af <| Ai fun ds => Aa rfl (Bf B0 (Ar rfl <| Ad) rfl rfl (A8 1 rfl)) ?_
  refine Bx rfl (Bi bd_65 A0 (.cons (Ad) .nil) (open_bad hr h0) (fun _ _ h => h)) ?_
  refine Aa rfl (Ag (Ad)) ?_
  refine Aa rfl (A1 (Ad) rfl) ?_
  refine Aa rfl (A1 (Al rfl <| Ad) rfl) ?_
  refine Aa rfl (Ae (Al rfl <| Ad)) ?_
  refine Aa rfl (Ae (Al rfl <| Ad)) ?_
  refine Ah <| Ac <| Af <| Af <| Ai fun ds => Aa rfl (Ag (Ad)) ?_
  refine Aa rfl (By (Ad) Ab) ?_
  refine Ah <| Ac <| Aq (Ad) (decide_eq_true h0) ?_
  refine Af <| Ai fun ds => Aa rfl (Ag (Ar rfl <| Ad)) ?_
  refine Cm (Cn sz_26 (A6 rfl <| Ar rfl <| Al rfl <| Ad) Ab (i := 0) rfl (.here) rfl (.here) ?_)
  refine Aa rfl (Ae (Ad)) ?_
  refine Ah <| Ac <| A4 <| Bg ?_
  refine Ax rfl (.one Cb (A6 rfl <| Ay rfl <| Ad) (Cell.own 0 rfl rfl) (.tmp (Ad) .nil)) ?_
  rw [cleanE_bad h0]
  exact ⟨_, rfl, Sl.nil⟩
end Go.Proofs.Ytccogmkhijgelaa
namespace Go.Proofs.Ytccogmkhijgelaa
open Go.RowKit
def plA : Plc := ⟨⟨#[97]⟩, 0⟩
def plB : Plc := ⟨⟨#[98]⟩, 1⟩
def plC : Plc := ⟨⟨#[99]⟩, 0⟩
def edQ1 : Edn := ⟨⟨#[113, 49]⟩, 1600, 1600, [1, 1, 1]⟩
def edQ2 : Edn := ⟨⟨#[113, 50]⟩, 1605, 1610, [2, 1, 1]⟩
def edF1 : Edn := ⟨⟨#[102, 49]⟩, 1623, 1623, [2, 2, 1]⟩
def edQ3 : Edn := ⟨⟨#[113, 51]⟩, 1608, 1630, [0, 1, 2]⟩
def stemX : Stm := ⟨[plA, plB, plC], [edQ1, edQ2, edF1, edQ3]⟩
def bestX : List Int := [-1, 0, 1, 0]
def starX : List Int := [-1, 0, 0, 0]
def lineX : List Int := [-1, 0, 1, 2]
def twoX : List Int := [-1, 0, 1, 1]
theorem ev_p1 : apartE stemX 0 2 = ([0, 1], 0) := by kernel_rfl
theorem ev_c1 : changesE stemX starX = (4, 0) := by kernel_rfl
theorem ev_c2 : changesE stemX lineX = (0, 9) := by kernel_rfl
theorem ev_y1 : yearsE stemX twoX = ([(1600, 1600), (1605, 1610), (1623, 1623), (1608, 1630)], 0) := by kernel_rfl
theorem ev_b1 : bestTE stemX = (bestX, 3, 2, 0) := by kernel_rfl
theorem ev_f1 : firstTE stemX = ([0], 0) := by kernel_rfl
theorem ev_m1 : fromE stemX 1 2 = (1, 0) := by kernel_rfl
theorem ev_r1 : readE stemX bestX 3 0 = ([1], 0) := by kernel_rfl
theorem ev_l1 : cleanE stemX = ([], 0) := by kernel_rfl
theorem ev_s1 : secE stemX starX 2 = (1, 1, 0) := by kernel_rfl
theorem ev_s2 : secE stemX bestX 2 = (0, 0, 8) := by kernel_rfl
end Go.Proofs.Ytccogmkhijgelaa
namespace Go.Proofs.Ytccogmkhijgelaa
open Go.RowKit
theorem zr_25 : ZeroT Try.prog 25 (.agg #[.slice none 0 0, .slice none 0 0]) := C7 (by kernel_rfl)
theorem bd_20 : Body Try.prog 20 := Bq (by kernel_rfl)
theorem bd_21 : Body Try.prog 21 := Bq (by kernel_rfl)
theorem bd_23 : Body Try.prog 23 := Bq (by kernel_rfl)
theorem bd_25 : Body Try.prog 25 := Bq (by kernel_rfl)
theorem bd_26 : Body Try.prog 26 := Bq (by kernel_rfl)
theorem bd_27 : Body Try.prog 27 := Bq (by kernel_rfl)
theorem bd_29 : Body Try.prog 29 := Bq (by kernel_rfl)
theorem bd_31 : Body Try.prog 31 := Bq (by kernel_rfl)
theorem bd_33 : Body Try.prog 33 := Bq (by kernel_rfl)
theorem bd_35 : Body Try.prog 35 := Bq (by kernel_rfl)
theorem bd_37 : Body Try.prog 37 := Bq (by kernel_rfl)
theorem bd_39 : Body Try.prog 39 := Bq (by kernel_rfl)
theorem bd_95 : Body Try.prog 95 := Bq (by kernel_rfl)
theorem bt_25 : BuildT Try.prog 25 [.slice none 0 0, .slice none 0 0] [(0, 1), (1, 1)] := buildT_of zr_25 (by kernel_rfl) (by decide)
theorem bt_60 : BuildT Try.prog 60 [.int .i64 0, .int .i64 0] [(0, 1), (1, 1)] := buildT_of zr_60 (by kernel_rfl) (by decide)
theorem bt_64 : BuildT Try.prog 64 [.string ⟨#[]⟩, .int .i64 0, .int .i64 0, .slice none 0 0] [(0, 1), (1, 2), (3, 1)] := buildT_of zr_64 (by kernel_rfl) (by decide)
theorem bt_70 : BuildT Try.prog 70 [.string ⟨#[]⟩, .int .i64 0] [(0, 1), (1, 1)] := buildT_of zr_70 (by kernel_rfl) (by decide)
theorem sz_25 : SizeT Try.prog 25 2 := Cx (by kernel_rfl)
theorem ints_box3 {F : Heap} {b T : Nat} {x y z : Int} (h : F b = some (bx T [.int .i64 x, .int .i64 y, .int .i64 z])) : Ints F (.slice (some ⟨b, 0, none⟩) 3 3) [x, y, z] :=
 sl_box (xs := [x, y, z]) h rfl rfl (fun _ => rfl) (by decide)
theorem ints_box4 {F : Heap} {b T : Nat} {x y z w : Int} (h : F b = some (bx T [.int .i64 x, .int .i64 y, .int .i64 z, .int .i64 w])) : Ints F (.slice (some ⟨b, 0, none⟩) 4 4) [x, y, z, w] :=
 sl_box (xs := [x, y, z, w]) h rfl rfl (fun _ => rfl) (by decide)
theorem plcX_box3 {F : Heap} {b T : Nat} (h : F b = some (bx T [.string ⟨#[97]⟩, .int .i64 0, .string ⟨#[98]⟩, .int .i64 1, .string ⟨#[99]⟩, .int .i64 0])) : Sl F (.slice (some ⟨b, 0, none⟩) 3 3) 2 Plc.enc [plA, plB, plC] :=
 sl_box (xs := [plA, plB, plC]) h rfl rfl (fun _ => rfl) (by decide)
theorem ednX_box4 {F : Heap} {b T : Nat} {v1 v2 v3 v4 : Value} (h : F b = some (bx T [.string ⟨#[113, 49]⟩, .int .i64 1600, .int .i64 1600, v1, .string ⟨#[113, 50]⟩, .int .i64 1605, .int .i64 1610, v2, .string ⟨#[102, 49]⟩, .int .i64 1623, .int .i64 1623, v3, .string ⟨#[113, 51]⟩, .int .i64 1608, .int .i64 1630, v4])) : Sl F (.slice (some ⟨b, 0, none⟩) 4 4) 4 edE [(v1, edQ1), (v2, edQ2), (v3, edF1), (v4, edQ3)] :=
 sl_box (xs := [(v1, edQ1), (v2, edQ2), (v3, edF1), (v4, edQ3)]) h rfl rfl (fun _ => rfl) (by decide)
theorem spansX_box4 {F : Heap} {b T : Nat} (h : F b = some (bx T [.int .i64 1600, .int .i64 1600, .int .i64 1605, .int .i64 1610, .int .i64 1623, .int .i64 1623, .int .i64 1608, .int .i64 1630])) : Sl F (.slice (some ⟨b, 0, none⟩) 4 4) 2 spanE [(1600, 1600), (1605, 1610), (1623, 1623), (1608, 1630)] :=
 sl_box (xs := ([(1600, 1600), (1605, 1610), (1623, 1623), (1608, 1630)] : List (Int × Int))) h rfl rfl (fun _ => rfl) (by decide)
set_option maxRecDepth 100000 in
theorem printed_ok {F : Heap} (nm : ByteArray) (lo hi a b c : Int) : Ok Try.prog 95 [.string nm, .int .i64 lo, .int .i64 hi, .int .i64 a, .int .i64 b, .int .i64 c].toArray F fun u F' => ∃ v, u = .agg #[.string nm, .int .i64 lo, .int .i64 hi, v] ∧ Ints F' v [a, b, c] := by
 refine Ok.intro Try.func95 rfl Try.ntmps95 rfl fun w0 => ?_
 refine Af <| Ai fun ds => Bm rfl (Cf zr_64 rfl fun b1 hb1 nb1 => ?_)
 refine Ah <| Ac <| Af <| Ai fun ds => Aa rfl (Ag (Al rfl <| Aj rfl)) ?_
 refine Aa rfl (Ag (Ar rfl <| Aj rfl)) ?_
 refine Aa rfl (Ag (Ar rfl <| Al rfl <| Aj rfl)) ?_
 refine Aa rfl (E1 bt_60 (.cons (Al rfl <| Ad) rfl (.cons (Ad) rfl .nil)) (.cons rfl rfl (Nat.le_of_ble_eq_true rfl) (.cons (.here) .nil) (.cons rfl rfl (Nat.le_of_ble_eq_true rfl) (.cons (.next <| .here) .nil) .nil))) ?_
 refine Aa rfl (Ag (Ay rfl <| Al rfl <| Aj rfl)) ?_
 refine Aa rfl (Ag (Ay rfl <| Ar rfl <| Aj rfl)) ?_
 refine Aa rfl (Ag (Ay rfl <| Ar rfl <| Al rfl <| Aj rfl)) ?_
 refine Bm rfl (B6 Be Da rfl (.cons (Ar rfl <| Ad) (.cons (Al rfl <| Ad) (.cons (Ad) .nil))) rfl rfl (by decide) (by simp [Value.oneCell']) fun b2 hb2 nb2 => ?_)
 refine B8 (i := 0) rfl hb2 .here fun F3 hF4 hz5 => ?_
 have hsl6 := ints_box3 hz5
 refine Aa rfl (E1 bt_64 (.cons (Ay rfl <| Ar rfl <| Al rfl <| Ad) rfl (.cons (Ay rfl <| Ad) rfl (.cons (Ad) rfl .nil))) (.cons rfl rfl (Nat.le_of_ble_eq_true rfl) (.cons (.here) .nil) (.cons rfl rfl (Nat.le_of_ble_eq_true rfl) (.cons (.next <| .here) (.cons (.next <| .next <| .here) .nil)) (.cons rfl rfl (Nat.le_of_ble_eq_true rfl) (.cons (.next <| .next <| .next <| .here) .nil) .nil)))) ?_
 refine Cm (Cj sz_64 (A6 rfl <| Al rfl <| Ad) (Ad) (i := 0) rfl rfl rfl rfl (by simp [Value.oneCell']) (.here) ?_)
 refine Ah <| Ac <| A4 <| Ax rfl (.agg agg_64 (A6 rfl <| Al rfl <| Ad) rfl rfl (A8 0 rfl) .nil) ?_
 exact ⟨_, rfl, hsl6⟩
set_option maxRecDepth 100000 in
theorem stemX_ok {F : Heap} : Ok Try.prog 39 [].toArray F fun u F' => ∃ vp ve ps, u = .agg #[vp, ve] ∧ StmR F' vp ve ps stemX := by
 refine Ok.intro Try.func39 rfl Try.ntmps39 rfl fun w0 => ?_
 refine Af <| Ai fun ds => Bm rfl (Cf zr_25 rfl fun b1 hb1 nb1 => ?_)
 refine Ah <| Ac <| Af <| Ai fun ds => Aa rfl (E1 bt_70 (.cons Ab rfl .nil) (.cons rfl rfl (Nat.le_of_ble_eq_true rfl) (.cons (.here) .nil) .nil)) ?_
 refine Aa rfl (E1 bt_70 (.cons Ab rfl (.cons Ab rfl .nil)) (.cons rfl rfl (Nat.le_of_ble_eq_true rfl) (.cons (.here) .nil) (.cons rfl rfl (Nat.le_of_ble_eq_true rfl) (.cons (.next <| .here) .nil) .nil))) ?_
 refine Aa rfl (E1 bt_70 (.cons Ab rfl .nil) (.cons rfl rfl (Nat.le_of_ble_eq_true rfl) (.cons (.here) .nil) .nil)) ?_
 refine Bm rfl (x_buildN (offs := [(0, 2), (2, 2), (4, 2)]) (zl := [.string ⟨#[]⟩, .int .i64 0, .string ⟨#[]⟩, .int .i64 0, .string ⟨#[]⟩, .int .i64 0]) C9 zr_70 rfl (.cons (Ar rfl <| Ad) rfl (.cons (Al rfl <| Ad) rfl (.cons (Ad) rfl .nil))) (by intro i p h; rcases i with _ | _ | _ | i <;> simp at h <;> subst h <;> rfl) (.cons rfl rfl (Nat.le_of_ble_eq_true rfl) (.cons (.here) (.cons (.next <| .here) .nil)) (.cons rfl rfl (Nat.le_of_ble_eq_true rfl) (.cons (.next <| .next <| .here) (.cons (.next <| .next <| .next <| .here) .nil)) (.cons rfl rfl (Nat.le_of_ble_eq_true rfl) (.cons (.next <| .next <| .next <| .next <| .here) (.cons (.next <| .next <| .next <| .next <| .next <| .here) .nil)) .nil))) (by decide) (by decide) fun b2 hb2 nb2 => ?_)
 refine B8 (i := 0) rfl hb2 .here fun F3 hF4 hz5 => ?_
 have hsl6 := plcX_box3 hz5
 refine Bm rfl (Ch bd_95 A0 (.cons Ab (.cons Ab (.cons Ab (.cons Ab (.cons Ab (.cons Ab .nil)))))) (printed_ok _ _ _ _ _ _) fun v7 F8 hr9 hF10 => ?_)
 replace hsl6 := hsl6.mono hF10
 obtain ⟨vq1, rfl, hq1⟩ := hr9
 refine Bm rfl (Ch bd_95 A0 (.cons Ab (.cons Ab (.cons Ab (.cons Ab (.cons Ab (.cons Ab .nil)))))) (printed_ok _ _ _ _ _ _) fun v11 F12 hr13 hF14 => ?_)
 replace hsl6 := hsl6.mono hF14
 replace hq1 := hq1.mono hF14
 obtain ⟨vq2, rfl, hq2⟩ := hr13
 refine Bm rfl (Ch bd_95 A0 (.cons Ab (.cons Ab (.cons Ab (.cons Ab (.cons Ab (.cons Ab .nil)))))) (printed_ok _ _ _ _ _ _) fun v15 F16 hr17 hF18 => ?_)
 replace hsl6 := hsl6.mono hF18
 replace hq1 := hq1.mono hF18
 replace hq2 := hq2.mono hF18
 obtain ⟨vf1, rfl, hf1⟩ := hr17
 refine Bm rfl (Ch bd_95 A0 (.cons Ab (.cons Ab (.cons Ab (.cons Ab (.cons Ab (.cons Ab .nil)))))) (printed_ok _ _ _ _ _ _) fun v19 F20 hr21 hF22 => ?_)
 replace hsl6 := hsl6.mono hF22
 replace hq1 := hq1.mono hF22
 replace hq2 := hq2.mono hF22
 replace hf1 := hf1.mono hF22
 obtain ⟨vq3, rfl, hq3⟩ := hr21
 refine Bm rfl (x_buildN (offs := [(0, 4), (4, 4), (8, 4), (12, 4)]) (zl := [.string ⟨#[]⟩, .int .i64 0, .int .i64 0, .slice none 0 0, .string ⟨#[]⟩, .int .i64 0, .int .i64 0, .slice none 0 0, .string ⟨#[]⟩, .int .i64 0, .int .i64 0, .slice none 0 0, .string ⟨#[]⟩, .int .i64 0, .int .i64 0, .slice none 0 0]) B5 zr_64 rfl (.cons (Ar rfl <| Al rfl <| Ad) rfl (.cons (Ar rfl <| Ad) rfl (.cons (Al rfl <| Ad) rfl (.cons (Ad) rfl .nil)))) (by intro i p h; rcases i with _ | _ | _ | _ | i <;> simp at h <;> subst h <;> rfl) (.cons rfl rfl (Nat.le_of_ble_eq_true rfl) (.cons (.here) (.cons (.next <| .here) (.cons (.next <| .next <| .here) (.cons (.next <| .next <| .next <| .here) .nil)))) (.cons rfl rfl (Nat.le_of_ble_eq_true rfl) (.cons (.next <| .next <| .next <| .next <| .here) (.cons (.next <| .next <| .next <| .next <| .next <| .here) (.cons (.next <| .next <| .next <| .next <| .next <| .next <| .here) (.cons (.next <| .next <| .next <| .next <| .next <| .next <| .next <| .here) .nil)))) (.cons rfl rfl (Nat.le_of_ble_eq_true rfl) (.cons (.next <| .next <| .next <| .next <| .next <| .next <| .next <| .next <| .here) (.cons (.next <| .next <| .next <| .next <| .next <| .next <| .next <| .next <| .next <| .here) (.cons (.next <| .next <| .next <| .next <| .next <| .next <| .next <| .next <| .next <| .next <| .here) (.cons (.next <| .next <| .next <| .next <| .next <| .next <| .next <| .next <| .next <| .next <| .next <| .here) .nil)))) (.cons rfl rfl (Nat.le_of_ble_eq_true rfl) (.cons (.next <| .next <| .next <| .next <| .next <| .next <| .next <| .next <| .next <| .next <| .next <| .next <| .here) (.cons (.next <| .next <| .next <| .next <| .next <| .next <| .next <| .next <| .next <| .next <| .next <| .next <| .next <| .here) (.cons (.next <| .next <| .next <| .next <| .next <| .next <| .next <| .next <| .next <| .next <| .next <| .next <| .next <| .next <| .here) (.cons (.next <| .next <| .next <| .next <| .next <| .next <| .next <| .next <| .next <| .next <| .next <| .next <| .next <| .next <| .next <| .here) .nil)))) .nil)))) (by decide) (by decide) fun b23 hb23 nb23 => ?_)
 refine B8 (i := 0) rfl hb23 .here fun F24 hF25 hz26 => ?_
 replace hsl6 := hsl6.mono hF25
 replace hq1 := hq1.mono hF25
 replace hq2 := hq2.mono hF25
 replace hf1 := hf1.mono hF25
 replace hq3 := hq3.mono hF25
 have hsl27 := ednX_box4 hz26
 refine Aa rfl (E1 bt_25 (.cons (Ay rfl <| Al rfl <| Ad) rfl (.cons (Ad) rfl .nil)) (.cons rfl rfl (Nat.le_of_ble_eq_true rfl) (.cons (.here) .nil) (.cons rfl rfl (Nat.le_of_ble_eq_true rfl) (.cons (.next <| .here) .nil) .nil))) ?_
 refine Cm (Cj sz_25 (A6 rfl <| Ar rfl <| Ad) (Ad) (i := 0) rfl rfl rfl rfl (by simp [Value.oneCell']) (.here) ?_)
 refine Ah <| Ac <| A4 <| Ax rfl (.agg B0 (A6 rfl <| Ar rfl <| Ad) rfl rfl (A8 0 rfl) .nil) ?_
 refine ⟨_, _, [(vq1, edQ1), (vq2, edQ2), (vf1, edF1), (vq3, edQ3)], rfl, ⟨hsl6, hsl27, ?_, rfl⟩⟩
 intro p hp
 simp only [List.mem_cons, List.not_mem_nil, or_false] at hp
 rcases hp with rfl | rfl | rfl | rfl
 · exact hq1
 · exact hq2
 · exact hf1
 · exact hq3
set_option maxRecDepth 100000 in
theorem awake_ok {F : Heap} : Ok Try.prog 26 [].toArray F fun u _ => u = .bool true := by
 refine Ok.intro Try.func26 rfl Try.ntmps26 rfl fun w0 => ?_
 refine Af <| Ai fun ds => Aa rfl (Ae Ab) ?_
 refine Ah <| Ac <| Af <| Ai fun ds => Bm rfl (Ch bd_39 A0 .nil stemX_ok fun v1 F2 hr3 hF4 => ?_)
 obtain ⟨vp, ve, ps, rfl, hr⟩ := hr3
 refine Bm rfl (Cf zr_25 rfl fun b5 hb5 nb5 => ?_)
 refine Cm (Cj sz_25 (Ad) (Al rfl <| Ad) (i := 0) rfl rfl rfl rfl hr.ones (.here) ?_)
 refine Ah <| Ac <| Af <| Ai fun ds => Bm rfl (B6 Be Da rfl (.cons Ab (.cons Ab (.cons Ab (.cons Ab .nil)))) rfl rfl (by decide) (by simp [Value.oneCell']) fun b6 hb6 nb6 => ?_)
 refine B8 (i := 0) rfl hb6 .here fun F7 hF8 hz9 => ?_
 replace hr := hr.mono hF8
 have hsl10 := ints_box4 hz9
 refine Aa rfl (Ae (Ad)) ?_
 refine Ah <| Ac <| Af <| Ai fun ds => Aa rfl (Bf B0 (Ar rfl <| Ad) rfl rfl (A8 0 rfl)) ?_
 refine Bm rfl (Ch bd_18 A0 (.cons (Ad) (.cons Ab (.cons Ab .nil))) ((apart_top_ok hr 0 2).mono fun u F2 _ h => (by rw [ev_p1] at h; exact h : ∃ ws, u = .tuple #[ws, .int .i64 0] ∧ Nats F2 ws [0, 1])) fun v11 F12 hr13 hF14 => ?_)
 replace hr := hr.mono hF14
 replace hsl10 := hsl10.mono hF14
 obtain ⟨hq1_, rfl, hq1⟩ := hr13
 refine Aa rfl (Ag (Ad)) ?_
 refine Aa rfl (A1 (Ad) rfl) ?_
 refine Aa rfl (A1 (Al rfl <| Ad) rfl) ?_
 refine Aa rfl (Ae (Al rfl <| Ad)) ?_
 refine Aa rfl (Ae (Al rfl <| Ad)) ?_
 refine Ah <| Ac <| Af <| Ai fun ds => Aa rfl (Bf B0 (A6 rfl <| Al rfl <| Ad) rfl rfl (A8 0 rfl)) ?_
 refine Bm rfl (B6 Be Da rfl (.cons Ab (.cons Ab (.cons Ab (.cons Ab .nil)))) rfl rfl (by decide) (by simp [Value.oneCell']) fun b15 hb15 nb15 => ?_)
 refine B8 (i := 0) rfl hb15 .here fun F16 hF17 hz18 => ?_
 replace hr := hr.mono hF17
 replace hsl10 := hsl10.mono hF17
 replace hq1 := hq1.mono hF17
 have hsl19 := ints_box4 hz18
 refine Bx rfl (Bi bd_21 A0 (.cons (Al rfl <| Ad) (.cons (Ad) .nil)) (changes_top_ok hr (l := starX) hsl19) (fun _ _ h => h.trans (show _ = Value.tuple #[.int .i64 4, .int .i64 0] by unfold changesEV; rw [ev_c1]))) ?_
 refine Aa rfl (Ag (Ad)) ?_
 refine Aa rfl (A1 (Ad) rfl) ?_
 refine Aa rfl (A1 (Al rfl <| Ad) rfl) ?_
 refine Aa rfl (Ae (Al rfl <| Ad)) ?_
 refine Aa rfl (Ae (Al rfl <| Ad)) ?_
 refine Ah <| Ac <| Af <| Ai fun ds => Aa rfl (Bf B0 (A3 rfl <| Al rfl <| Ad) rfl rfl (A8 0 rfl)) ?_
 refine Bm rfl (B6 Be Da rfl (.cons Ab (.cons Ab (.cons Ab (.cons Ab .nil)))) rfl rfl (by decide) (by simp [Value.oneCell']) fun b20 hb20 nb20 => ?_)
 refine B8 (i := 0) rfl hb20 .here fun F21 hF22 hz23 => ?_
 replace hr := hr.mono hF22
 replace hsl10 := hsl10.mono hF22
 replace hq1 := hq1.mono hF22
 have hsl24 := ints_box4 hz23
 refine Bx rfl (Bi bd_21 A0 (.cons (Al rfl <| Ad) (.cons (Ad) .nil)) (changes_top_ok hr (l := lineX) hsl24) (fun _ _ h => h.trans (show _ = Value.tuple #[.int .i64 0, .int .i64 9] by unfold changesEV; rw [ev_c2]))) ?_
 refine Aa rfl (Ag (Ad)) ?_
 refine Aa rfl (A1 (Ad) rfl) ?_
 refine Aa rfl (A1 (Al rfl <| Ad) rfl) ?_
 refine Aa rfl (Ae (Al rfl <| Ad)) ?_
 refine Aa rfl (Ae (Al rfl <| Ad)) ?_
 refine Ah <| Ac <| Af <| Ai fun ds => Aa rfl (Bf B0 (A3 rfl <| A6 rfl <| Al rfl <| Ad) rfl rfl (A8 0 rfl)) ?_
 refine Bm rfl (B6 Be Da rfl (.cons Ab (.cons Ab (.cons Ab (.cons Ab .nil)))) rfl rfl (by decide) (by simp [Value.oneCell']) fun b25 hb25 nb25 => ?_)
 refine B8 (i := 0) rfl hb25 .here fun F26 hF27 hz28 => ?_
 replace hr := hr.mono hF27
 replace hsl10 := hsl10.mono hF27
 replace hq1 := hq1.mono hF27
 have hsl29 := ints_box4 hz28
 refine Bm rfl (Ch bd_23 A0 (.cons (Al rfl <| Ad) (.cons (Ad) .nil)) ((years_top_ok hr (l := twoX) hsl29).mono fun u F2 _ h => (by rw [ev_y1] at h; exact h : ∃ ws, u = .tuple #[ws, .int .i64 0] ∧ (fun F v l => Sl F v 2 spanE l) F2 ws [(1600, 1600), (1605, 1610), (1623, 1623), (1608, 1630)])) fun v30 F31 hr32 hF33 => ?_)
 replace hr := hr.mono hF33
 replace hsl10 := hsl10.mono hF33
 replace hq1 := hq1.mono hF33
 obtain ⟨hq2_, rfl, hq2⟩ := hr32
 refine Aa rfl (Ag (Ad)) ?_
 refine Aa rfl (A1 (Ad) rfl) ?_
 refine Aa rfl (A1 (Al rfl <| Ad) rfl) ?_
 refine Aa rfl (Ae (Al rfl <| Ad)) ?_
 refine Aa rfl (Ae (Al rfl <| Ad)) ?_
 refine Ah <| Ac <| Af <| Ai fun ds => Aa rfl (Bf B0 (Bp rfl <| Al rfl <| Ad) rfl rfl (A8 0 rfl)) ?_
 refine Bm rfl (Ch bd_27 A0 (.cons (Ad) .nil) ((best_top_ok hr).mono fun u F2 _ h => (by rw [ev_b1] at h; exact h : ∃ ws, u = .tuple #[ws, .int .i64 3, .int .i64 2, .int .i64 0] ∧ Ints F2 ws bestX)) fun v34 F35 hr36 hF37 => ?_)
 replace hr := hr.mono hF37
 replace hsl10 := hsl10.mono hF37
 replace hq1 := hq1.mono hF37
 replace hq2 := hq2.mono hF37
 obtain ⟨hq3_, rfl, hq3⟩ := hr36
 refine Aa rfl (Ag (Ad)) ?_
 refine Aa rfl (A1 (Ad) rfl) ?_
 refine Aa rfl (A1 (Al rfl <| Ad) rfl) ?_
 refine Aa rfl (A1 (Ar rfl <| Ad) rfl) ?_
 refine Aa rfl (A1 (Ar rfl <| Al rfl <| Ad) rfl) ?_
 refine Aa rfl (Ae (Ar rfl <| Al rfl <| Ad)) ?_
 refine Aa rfl (Ae (Ar rfl <| Al rfl <| Ad)) ?_
 refine Aa rfl (Ae (Ar rfl <| Al rfl <| Ad)) ?_
 refine Aa rfl (Ae (Ar rfl <| Al rfl <| Ad)) ?_
 refine Ah <| Ac <| Af <| Ai fun ds => Aa rfl (Bf B0 (Bp rfl <| A6 rfl <| Ay rfl <| Ad) rfl rfl (A8 0 rfl)) ?_
 refine Bm rfl (Ch bd_29 A0 (.cons (Ad) .nil) ((first_top_ok hr).mono fun u F2 _ h => (by rw [ev_f1] at h; exact h : ∃ ws, u = .tuple #[ws, .int .i64 0] ∧ Nats F2 ws [0])) fun v38 F39 hr40 hF41 => ?_)
 replace hr := hr.mono hF41
 replace hsl10 := hsl10.mono hF41
 replace hq1 := hq1.mono hF41
 replace hq2 := hq2.mono hF41
 replace hq3 := hq3.mono hF41
 obtain ⟨hq4_, rfl, hq4⟩ := hr40
 refine Aa rfl (Ag (Ad)) ?_
 refine Aa rfl (A1 (Ad) rfl) ?_
 refine Aa rfl (A1 (Al rfl <| Ad) rfl) ?_
 refine Aa rfl (Ae (Al rfl <| Ad)) ?_
 refine Aa rfl (Ae (Al rfl <| Ad)) ?_
 refine Ah <| Ac <| Af <| Ai fun ds => Aa rfl (Bf B0 (Bp rfl <| A3 rfl <| Ar rfl <| Al rfl <| Ad) rfl rfl (A8 0 rfl)) ?_
 refine Bx rfl (Bi bd_31 A0 (.cons (Ad) (.cons Ab (.cons Ab .nil))) (from_top_ok hr 1 2) (fun _ _ h => h.trans (show _ = Value.tuple #[.int .i64 1, .int .i64 0] by unfold fromV; rw [ev_m1]))) ?_
 refine Aa rfl (Ag (Ad)) ?_
 refine Aa rfl (A1 (Ad) rfl) ?_
 refine Aa rfl (A1 (Al rfl <| Ad) rfl) ?_
 refine Aa rfl (Ae (Al rfl <| Ad)) ?_
 refine Aa rfl (Ae (Al rfl <| Ad)) ?_
 refine Ah <| Ac <| Af <| Ai fun ds => Aa rfl (Bf B0 (Bp rfl <| A3 rfl <| A6 rfl <| Ar rfl <| Ad) rfl rfl (A8 0 rfl)) ?_
 refine Aa rfl (Ag (Bp rfl <| A3 rfl <| A6 rfl <| Al rfl <| Ad)) ?_
 refine Bm rfl (Ch bd_35 A0 (.cons (Al rfl <| Ad) (.cons (Ad) (.cons Ab (.cons Ab .nil)))) ((reading_top_ok hr (l := bestX) hsl10 3 0).mono fun u F2 _ h => (by rw [ev_r1] at h; exact h : ∃ ws, u = .tuple #[ws, .int .i64 0] ∧ Ints F2 ws [1])) fun v42 F43 hr44 hF45 => ?_)
 replace hr := hr.mono hF45
 replace hsl10 := hsl10.mono hF45
 replace hq1 := hq1.mono hF45
 replace hq2 := hq2.mono hF45
 replace hq3 := hq3.mono hF45
 replace hq4 := hq4.mono hF45
 obtain ⟨hq5_, rfl, hq5⟩ := hr44
 refine Aa rfl (Ag (Ad)) ?_
 refine Aa rfl (A1 (Ad) rfl) ?_
 refine Aa rfl (A1 (Al rfl <| Ad) rfl) ?_
 refine Aa rfl (Ae (Al rfl <| Ad)) ?_
 refine Aa rfl (Ae (Al rfl <| Ad)) ?_
 refine Ah <| Ac <| Af <| Ai fun ds => Aa rfl (Bf B0 (Bp rfl <| Bp rfl <| Ar rfl <| Ad) rfl rfl (A8 0 rfl)) ?_
 refine Bm rfl (Ch bd_33 A0 (.cons (Ad) .nil) ((clean_top_ok hr).mono fun u F2 _ h => (by rw [ev_l1] at h; exact h : ∃ ws, u = .tuple #[ws, .int .i64 0] ∧ Nats F2 ws [])) fun v46 F47 hr48 hF49 => ?_)
 replace hr := hr.mono hF49
 replace hsl10 := hsl10.mono hF49
 replace hq1 := hq1.mono hF49
 replace hq2 := hq2.mono hF49
 replace hq3 := hq3.mono hF49
 replace hq4 := hq4.mono hF49
 replace hq5 := hq5.mono hF49
 obtain ⟨hq6_, rfl, hq6⟩ := hr48
 refine Aa rfl (Ag (Ad)) ?_
 refine Aa rfl (A1 (Ad) rfl) ?_
 refine Aa rfl (A1 (Al rfl <| Ad) rfl) ?_
 refine Aa rfl (Ae (Al rfl <| Ad)) ?_
 refine Aa rfl (Ae (Al rfl <| Ad)) ?_
 refine Ah <| Ac <| Af <| Ai fun ds => Aa rfl (Bf B0 (Bp rfl <| Bp rfl <| A6 rfl <| Al rfl <| Ad) rfl rfl (A8 0 rfl)) ?_
 refine Bm rfl (B6 Be Da rfl (.cons Ab (.cons Ab (.cons Ab (.cons Ab .nil)))) rfl rfl (by decide) (by simp [Value.oneCell']) fun b50 hb50 nb50 => ?_)
 refine B8 (i := 0) rfl hb50 .here fun F51 hF52 hz53 => ?_
 replace hr := hr.mono hF52
 replace hsl10 := hsl10.mono hF52
 replace hq1 := hq1.mono hF52
 replace hq2 := hq2.mono hF52
 replace hq3 := hq3.mono hF52
 replace hq4 := hq4.mono hF52
 replace hq5 := hq5.mono hF52
 replace hq6 := hq6.mono hF52
 have hsl54 := ints_box4 hz53
 refine Bx rfl (Bi bd_37 A0 (.cons (Al rfl <| Ad) (.cons (Ad) (.cons Ab .nil))) (second_top_ok hr (l := starX) hsl54 2) (fun _ _ h => h.trans (show _ = Value.tuple #[.int .i64 1, .int .i64 1, .int .i64 0] by unfold secV; rw [ev_s1]))) ?_
 refine Aa rfl (Ag (Ad)) ?_
 refine Aa rfl (A1 (Ad) rfl) ?_
 refine Aa rfl (A1 (Al rfl <| Ad) rfl) ?_
 refine Aa rfl (A1 (Ar rfl <| Ad) rfl) ?_
 refine Aa rfl (Ae (Ar rfl <| Ad)) ?_
 refine Aa rfl (Ae (Ar rfl <| Ad)) ?_
 refine Aa rfl (Ae (Ar rfl <| Ad)) ?_
 refine Ah <| Ac <| Af <| Ai fun ds => Aa rfl (Bf B0 (Bp rfl <| Bp rfl <| A3 rfl <| Ar rfl <| Al rfl <| Ad) rfl rfl (A8 0 rfl)) ?_
 refine Aa rfl (Ag (Bp rfl <| Bp rfl <| A3 rfl <| Ar rfl <| Ad)) ?_
 refine Bx rfl (Bi bd_37 A0 (.cons (Al rfl <| Ad) (.cons (Ad) (.cons Ab .nil))) (second_top_ok hr (l := bestX) hsl10 2) (fun _ _ h => h.trans (show _ = Value.tuple #[.int .i64 0, .int .i64 0, .int .i64 8] by unfold secV; rw [ev_s2]))) ?_
 refine Aa rfl (Ag (Ad)) ?_
 refine Aa rfl (A1 (Ad) rfl) ?_
 refine Aa rfl (A1 (Al rfl <| Ad) rfl) ?_
 refine Aa rfl (A1 (Ar rfl <| Ad) rfl) ?_
 refine Aa rfl (Ae (Ar rfl <| Ad)) ?_
 refine Aa rfl (Ae (Ar rfl <| Ad)) ?_
 refine Aa rfl (Ae (Ar rfl <| Ad)) ?_
 refine Ah <| Ac <| Af <| Ai fun ds => Aa rfl (Ag (Bp rfl <| Bp rfl <| A3 rfl <| Ay rfl <| Ad)) ?_
 refine Aa rfl (Bs (Ad) Ab) ?_
 refine Aa rfl (Ag (Ad)) ?_
 refine Au rfl rfl (Ad) (by first | rfl | decide) ?_
 refine Aa rfl (Ag (Bp rfl <| Bp rfl <| A6 rfl <| Ay rfl <| Ar rfl <| Al rfl <| Ad)) ?_
 refine Au rfl rfl (Al rfl <| Ad) (by first | rfl | decide) ?_
 refine Aa rfl (Bs (Ad) Ab) ?_
 refine Aa rfl (A2 (Ar rfl <| Ad) (by first | rfl | decide) (Ad)) ?_
 refine Aa rfl (Ag (Ad)) ?_
 refine Au rfl rfl (Ad) (by first | rfl | decide) ?_
 refine Aa rfl (Ag (Bp rfl <| Bp rfl <| Ar rfl <| Al rfl <| Ad)) ?_
 refine Au rfl rfl (Al rfl <| Ad) (by first | rfl | decide) ?_
 refine Aa rfl (Bs (Ad) Ab) ?_
 refine Aa rfl (A2 (Ar rfl <| Ad) (by first | rfl | decide) (Ad)) ?_
 refine Aa rfl (Ag (Ad)) ?_
 refine Au rfl rfl (Ad) (by first | rfl | decide) ?_
 refine Aa rfl (Ag (Bp rfl <| A3 rfl <| A6 rfl <| Ay rfl <| Ad)) ?_
 refine Au rfl rfl (Al rfl <| Ad) (by first | rfl | decide) ?_
 refine Aa rfl (Bs (Ad) Ab) ?_
 refine Aa rfl (A2 (Ar rfl <| Ad) (by first | rfl | decide) (Ad)) ?_
 refine Aa rfl (Ag (Ad)) ?_
 refine Au rfl rfl (Ad) (by first | rfl | decide) ?_
 refine Aa rfl (Ag (Bp rfl <| A3 rfl <| A6 rfl <| Al rfl <| Ad)) ?_
 refine Au rfl rfl (Al rfl <| Ad) (by first | rfl | decide) ?_
 refine Aa rfl (Bs (Ad) Ab) ?_
 refine Aa rfl (A2 (Ar rfl <| Ad) (by first | rfl | decide) (Ad)) ?_
 refine Aa rfl (Ag (Ad)) ?_
 refine Au rfl rfl (Ad) (by first | rfl | decide) ?_
 refine Aa rfl (Ag (Bp rfl <| A3 rfl <| Ay rfl <| Ar rfl <| Ad)) ?_
 refine Au rfl rfl (Al rfl <| Ad) (by first | rfl | decide) ?_
 refine Aa rfl (Bs (Ad) Ab) ?_
 refine Aa rfl (A2 (Ar rfl <| Ad) (by first | rfl | decide) (Ad)) ?_
 refine Aa rfl (Ag (Ad)) ?_
 refine Au rfl rfl (Ad) (by first | rfl | decide) ?_
 refine Aa rfl (Ag (Bp rfl <| A3 rfl <| Ar rfl <| Ad)) ?_
 refine Au rfl rfl (Al rfl <| Ad) (by first | rfl | decide) ?_
 refine Aa rfl (Bs (Ad) Ab) ?_
 refine Aa rfl (A2 (Ar rfl <| Ad) (by first | rfl | decide) (Ad)) ?_
 refine Aa rfl (Ag (Ad)) ?_
 refine Au rfl rfl (Ad) (by first | rfl | decide) ?_
 refine Aa rfl (Ag (Bp rfl <| A6 rfl <| Ay rfl <| Ar rfl <| Al rfl <| Ad)) ?_
 refine Au rfl rfl (Al rfl <| Ad) (by first | rfl | decide) ?_
 refine Aa rfl (Bs (Ad) Ab) ?_
 refine Aa rfl (A2 (Ar rfl <| Ad) (by first | rfl | decide) (Ad)) ?_
 refine Aa rfl (Ag (Ad)) ?_
 refine Au rfl rfl (Ad) (by first | rfl | decide) ?_
 refine Aa rfl (Ag (Bp rfl <| A6 rfl <| Al rfl <| Ad)) ?_
 refine Au rfl rfl (Al rfl <| Ad) (by first | rfl | decide) ?_
 refine Aa rfl (Bs (Ad) Ab) ?_
 refine Aa rfl (A2 (Ar rfl <| Ad) (by first | rfl | decide) (Ad)) ?_
 refine Aa rfl (Ag (Ad)) ?_
 refine Au rfl rfl (Ad) (by first | rfl | decide) ?_
 refine Aa rfl (Ag (Bp rfl <| Bp rfl <| Bp rfl <| Ay rfl <| Ar rfl <| Al rfl <| Ad)) ?_
 refine Au rfl rfl (Al rfl <| Ad) (by first | rfl | decide) ?_
 refine Aa rfl (Bs (Ad) Ab) ?_
 refine Aa rfl (A2 (Ar rfl <| Ad) (by first | rfl | decide) (Ad)) ?_
 refine Aa rfl (Ag (Ad)) ?_
 refine Au rfl rfl (Ad) (by first | rfl | decide) ?_
 refine Aa rfl (Ag (Bp rfl <| Ay rfl <| Ar rfl <| Al rfl <| Ad)) ?_
 refine Au rfl rfl (Al rfl <| Ad) (by first | rfl | decide) ?_
 refine Aa rfl (Bs (Ad) Ab) ?_
 refine Aa rfl (A2 (Ar rfl <| Ad) (by first | rfl | decide) (Ad)) ?_
 refine Aa rfl (Ag (Ad)) ?_
 refine Au rfl rfl (Ad) (by first | rfl | decide) ?_
 refine Aa rfl (Ag (Bp rfl <| Bp rfl <| Bp rfl <| Bp rfl <| Ad)) ?_
 refine Au rfl rfl (Al rfl <| Ad) (by first | rfl | decide) ?_
 refine Bm rfl (B6 Be Da rfl (.cons Ab (.cons Ab .nil)) rfl rfl (by decide) (by simp [Value.oneCell']) fun b55 hb55 nb55 => ?_)
 refine B8 (i := 0) rfl hb55 .here fun F56 hF57 hz58 => ?_
 replace hsl10 := hsl10.mono hF57
 replace hq1 := hq1.mono hF57
 replace hq2 := hq2.mono hF57
 replace hq3 := hq3.mono hF57
 replace hq4 := hq4.mono hF57
 replace hq5 := hq5.mono hF57
 replace hq6 := hq6.mono hF57
 have hsl59 := ints_box2 hz58
 refine Au rfl rfl (Ar rfl <| Ad) (by first | rfl | decide) ?_
 refine Bx rfl (Bi bd_20 A0 (.cons (Al rfl <| Ad) (.cons (Ad) .nil)) (refInts_ok (Nats.ints hq1) hsl59) (fun _ _ h => h)) ?_
 refine Aa rfl (A2 (Ar rfl <| Al rfl <| Ad) (by first | rfl | decide) (Ad)) ?_
 refine Aa rfl (Ag (Ad)) ?_
 refine Au rfl rfl (Ad) (by first | rfl | decide) ?_
 refine Aa rfl (Ag (Bp rfl <| Bp rfl <| Bp rfl <| A3 rfl <| A6 rfl <| Ay rfl <| Al rfl <| Ad)) ?_
 refine Au rfl rfl (Al rfl <| Ad) (by first | rfl | decide) ?_
 refine Aa rfl (Bs (Ad) Ab) ?_
 refine Aa rfl (A2 (Ar rfl <| Ad) (by first | rfl | decide) (Ad)) ?_
 refine Aa rfl (Ag (Ad)) ?_
 refine Au rfl rfl (Ad) (by first | rfl | decide) ?_
 refine Aa rfl (Ag (Bp rfl <| Bp rfl <| Bp rfl <| A3 rfl <| Al rfl <| Ad)) ?_
 refine Au rfl rfl (Al rfl <| Ad) (by first | rfl | decide) ?_
 refine Aa rfl (E1 bt_60 (.cons Ab rfl (.cons Ab rfl .nil)) (.cons rfl rfl (Nat.le_of_ble_eq_true rfl) (.cons (.here) .nil) (.cons rfl rfl (Nat.le_of_ble_eq_true rfl) (.cons (.next <| .here) .nil) .nil))) ?_
 refine Au rfl rfl (Ar rfl <| Ad) (by first | rfl | decide) ?_
 refine Aa rfl (E1 bt_60 (.cons Ab rfl (.cons Ab rfl .nil)) (.cons rfl rfl (Nat.le_of_ble_eq_true rfl) (.cons (.here) .nil) (.cons rfl rfl (Nat.le_of_ble_eq_true rfl) (.cons (.next <| .here) .nil) .nil))) ?_
 refine Au rfl rfl (Ar rfl <| Al rfl <| Ad) (by first | rfl | decide) ?_
 refine Aa rfl (E1 bt_60 (.cons Ab rfl (.cons Ab rfl .nil)) (.cons rfl rfl (Nat.le_of_ble_eq_true rfl) (.cons (.here) .nil) (.cons rfl rfl (Nat.le_of_ble_eq_true rfl) (.cons (.next <| .here) .nil) .nil))) ?_
 refine Au rfl rfl (Ay rfl <| Ad) (by first | rfl | decide) ?_
 refine Aa rfl (E1 bt_60 (.cons Ab rfl (.cons Ab rfl .nil)) (.cons rfl rfl (Nat.le_of_ble_eq_true rfl) (.cons (.here) .nil) (.cons rfl rfl (Nat.le_of_ble_eq_true rfl) (.cons (.next <| .here) .nil) .nil))) ?_
 refine Au rfl rfl (Ay rfl <| Al rfl <| Ad) (by first | rfl | decide) ?_
 refine Bm rfl (x_buildN (offs := [(0, 2), (2, 2), (4, 2), (6, 2)]) (zl := [.int .i64 0, .int .i64 0, .int .i64 0, .int .i64 0, .int .i64 0, .int .i64 0, .int .i64 0, .int .i64 0]) Ex zr_60 rfl (.cons (Ar rfl <| Al rfl <| Ad) rfl (.cons (Ar rfl <| Ad) rfl (.cons (Al rfl <| Ad) rfl (.cons (Ad) rfl .nil)))) (by intro i p h; rcases i with _ | _ | _ | _ | i <;> simp at h <;> subst h <;> rfl) (.cons rfl rfl (Nat.le_of_ble_eq_true rfl) (.cons (.here) (.cons (.next <| .here) .nil)) (.cons rfl rfl (Nat.le_of_ble_eq_true rfl) (.cons (.next <| .next <| .here) (.cons (.next <| .next <| .next <| .here) .nil)) (.cons rfl rfl (Nat.le_of_ble_eq_true rfl) (.cons (.next <| .next <| .next <| .next <| .here) (.cons (.next <| .next <| .next <| .next <| .next <| .here) .nil)) (.cons rfl rfl (Nat.le_of_ble_eq_true rfl) (.cons (.next <| .next <| .next <| .next <| .next <| .next <| .here) (.cons (.next <| .next <| .next <| .next <| .next <| .next <| .next <| .here) .nil)) .nil)))) (by decide) (by decide) fun b60 hb60 nb60 => ?_)
 refine B8 (i := 0) rfl hb60 .here fun F61 hF62 hz63 => ?_
 replace hsl10 := hsl10.mono hF62
 replace hq2 := hq2.mono hF62
 replace hq3 := hq3.mono hF62
 replace hq4 := hq4.mono hF62
 replace hq5 := hq5.mono hF62
 replace hq6 := hq6.mono hF62
 have hsl64 := spansX_box4 hz63
 refine Au rfl rfl (Ay rfl <| Ar rfl <| Ad) (by first | rfl | decide) ?_
 refine Bx rfl (Bi bd_25 A0 (.cons (Ay rfl <| Al rfl <| Ad) (.cons (Ad) .nil)) (refSpans_ok hq2 hsl64) (fun _ _ h => h)) ?_
 refine Aa rfl (A2 (Ay rfl <| Ar rfl <| Al rfl <| Ad) (by first | rfl | decide) (Ad)) ?_
 refine Aa rfl (Ag (Ad)) ?_
 refine Au rfl rfl (Ad) (by first | rfl | decide) ?_
 refine Aa rfl (Ag (Bp rfl <| Bp rfl <| Bp rfl <| A3 rfl <| Al rfl <| Ad)) ?_
 refine Au rfl rfl (Al rfl <| Ad) (by first | rfl | decide) ?_
 refine Aa rfl (Ag (Bp rfl <| Bp rfl <| Bp rfl <| Bp rfl <| A3 rfl <| A6 rfl <| Al rfl <| Ad)) ?_
 refine Au rfl rfl (Ar rfl <| Ad) (by first | rfl | decide) ?_
 refine Bx rfl (Bi bd_20 A0 (.cons (Al rfl <| Ad) (.cons (Ad) .nil)) (refInts_ok hq3 hsl10) (fun _ _ h => h)) ?_
 refine Aa rfl (A2 (Ar rfl <| Al rfl <| Ad) (by first | rfl | decide) (Ad)) ?_
 refine Aa rfl (Ag (Ad)) ?_
 refine Au rfl rfl (Ad) (by first | rfl | decide) ?_
 refine Aa rfl (Ag (Bp rfl <| Bp rfl <| Bp rfl <| A3 rfl <| Ay rfl <| Al rfl <| Ad)) ?_
 refine Au rfl rfl (Al rfl <| Ad) (by first | rfl | decide) ?_
 refine Aa rfl (Bs (Ad) Ab) ?_
 refine Aa rfl (A2 (Ar rfl <| Ad) (by first | rfl | decide) (Ad)) ?_
 refine Aa rfl (Ag (Ad)) ?_
 refine Au rfl rfl (Ad) (by first | rfl | decide) ?_
 refine Aa rfl (Ag (Bp rfl <| Bp rfl <| Bp rfl <| A3 rfl <| A6 rfl <| Ad)) ?_
 refine Au rfl rfl (Al rfl <| Ad) (by first | rfl | decide) ?_
 refine Aa rfl (Bs (Ad) Ab) ?_
 refine Aa rfl (A2 (Ar rfl <| Ad) (by first | rfl | decide) (Ad)) ?_
 refine Aa rfl (Ag (Ad)) ?_
 refine Au rfl rfl (Ad) (by first | rfl | decide) ?_
 refine Aa rfl (Ag (Bp rfl <| Bp rfl <| Bp rfl <| A3 rfl <| Ay rfl <| Al rfl <| Ad)) ?_
 refine Au rfl rfl (Al rfl <| Ad) (by first | rfl | decide) ?_
 refine Bm rfl (B6 Be Da rfl (.cons Ab .nil) rfl rfl (by decide) (by simp [Value.oneCell']) fun b65 hb65 nb65 => ?_)
 refine B8 (i := 0) rfl hb65 .here fun F66 hF67 hz68 => ?_
 replace hq4 := hq4.mono hF67
 replace hq5 := hq5.mono hF67
 replace hq6 := hq6.mono hF67
 have hsl69 := C0 hz68
 refine Au rfl rfl (Ar rfl <| Ad) (by first | rfl | decide) ?_
 refine Bx rfl (Bi bd_20 A0 (.cons (Al rfl <| Ad) (.cons (Ad) .nil)) (refInts_ok (Nats.ints hq4) hsl69) (fun _ _ h => h)) ?_
 refine Aa rfl (A2 (Ar rfl <| Al rfl <| Ad) (by first | rfl | decide) (Ad)) ?_
 refine Aa rfl (Ag (Ad)) ?_
 refine Au rfl rfl (Ad) (by first | rfl | decide) ?_
 refine Aa rfl (Ag (Bp rfl <| Bp rfl <| Bp rfl <| A3 rfl <| Ar rfl <| Al rfl <| Ad)) ?_
 refine Au rfl rfl (Al rfl <| Ad) (by first | rfl | decide) ?_
 refine Aa rfl (Bs (Ad) Ab) ?_
 refine Aa rfl (A2 (Ar rfl <| Ad) (by first | rfl | decide) (Ad)) ?_
 refine Aa rfl (Ag (Ad)) ?_
 refine Au rfl rfl (Ad) (by first | rfl | decide) ?_
 refine Aa rfl (Ag (Bp rfl <| Bp rfl <| Bp rfl <| A6 rfl <| Ay rfl <| Ar rfl <| Al rfl <| Ad)) ?_
 refine Au rfl rfl (Al rfl <| Ad) (by first | rfl | decide) ?_
 refine Bm rfl (B6 Be Da rfl (.cons Ab .nil) rfl rfl (by decide) (by simp [Value.oneCell']) fun b70 hb70 nb70 => ?_)
 refine B8 (i := 0) rfl hb70 .here fun F71 hF72 hz73 => ?_
 replace hq5 := hq5.mono hF72
 replace hq6 := hq6.mono hF72
 have hsl74 := C0 hz73
 refine Au rfl rfl (Ar rfl <| Ad) (by first | rfl | decide) ?_
 refine Bx rfl (Bi bd_20 A0 (.cons (Al rfl <| Ad) (.cons (Ad) .nil)) (refInts_ok hq5 hsl74) (fun _ _ h => h)) ?_
 refine Aa rfl (A2 (Ar rfl <| Al rfl <| Ad) (by first | rfl | decide) (Ad)) ?_
 refine Aa rfl (Ag (Ad)) ?_
 refine Au rfl rfl (Ad) (by first | rfl | decide) ?_
 refine Aa rfl (Ag (Bp rfl <| Bp rfl <| Bp rfl <| A6 rfl <| Ay rfl <| Al rfl <| Ad)) ?_
 refine Au rfl rfl (Al rfl <| Ad) (by first | rfl | decide) ?_
 refine Aa rfl (Bk Be (Ad) hq6.plain) ?_
 refine Au rfl rfl (Ar rfl <| Ad) (by first | rfl | decide) ?_
 refine Aa rfl (Bs (Ad) Ab) ?_
 refine Aa rfl (A2 (Ar rfl <| Al rfl <| Ad) (by first | rfl | decide) (Ad)) ?_
 refine Aa rfl (Ag (Ad)) ?_
 refine Au rfl rfl (Ad) (by first | rfl | decide) ?_
 refine Aa rfl (Ag (Bp rfl <| Bp rfl <| Bp rfl <| A6 rfl <| Al rfl <| Ad)) ?_
 refine Au rfl rfl (Al rfl <| Ad) (by first | rfl | decide) ?_
 refine Aa rfl (Bs (Ad) Ab) ?_
 refine Aa rfl (A2 (Ar rfl <| Ad) (by first | rfl | decide) (Ad)) ?_
 refine Aa rfl (Ag (Ad)) ?_
 refine Au rfl rfl (Ad) (by first | rfl | decide) ?_
 refine Aa rfl (Ag (Bp rfl <| Bp rfl <| Bp rfl <| A6 rfl <| Ay rfl <| Ad)) ?_
 refine Au rfl rfl (Al rfl <| Ad) (by first | rfl | decide) ?_
 refine Aa rfl (Bs (Ad) Ab) ?_
 refine Aa rfl (A2 (Ar rfl <| Ad) (by first | rfl | decide) (Ad)) ?_
 refine Aa rfl (Ae (Ad)) ?_
 refine Ah <| Ac <| A4 <| Ax rfl (.tmp (Ad) .nil) ?_
 show _ = _
 first | rfl | decide
end Go.Proofs.Ytccogmkhijgelaa
namespace Go.Proofs.Ytccogmkhijgelaa
/-- What was taken so far, and what is left. -/
structure TreeI (n : Nat) (g : Nat → Int) (taken left : List Nat) : Prop where
 nodup : (taken ++ left).Nodup
 len : taken.length + left.length = n
 all : ∀ i, i < n ↔ i ∈ taken ++ left
 root : ∀ (h : 0 < taken.length), g taken[0] = -1
 up : ∀ j (h : j < taken.length), 0 < j → ∃ k, ∃ hk : k < j, g taken[j] = (taken[k] : Int)
theorem TreeI.start {n : Nat} {g : Nat → Int} : TreeI n g [] (List.range n) := ⟨by simpa using List.nodup_range, by simp, fun i => by simp, fun h => absurd h (by simp), fun j h => absurd h (by simp)⟩
theorem erase_perm {α : Type} {l : List α} {k : Nat} (hk : k < l.length) : l.Perm (l[k] :: l.eraseIdx k) := by
 rw [List.eraseIdx_eq_take_drop_succ]
 have h : l = l.take k ++ l[k] :: l.drop (k + 1) := by rw [← List.drop_eq_getElem_cons hk, List.take_append_drop]
 conv => lhs; rw [h]
 exact List.perm_middle
section
variable {n : Nat} {g : Nat → Int} {taken left : List Nat} {k : Nat}
theorem TreeI.perm (hk : k < left.length) : (taken ++ left).Perm ((taken ++ [left[k]]) ++ left.eraseIdx k) := by
 rw [List.append_assoc]
 exact (erase_perm hk).append_left taken
theorem TreeI.fresh (h : TreeI n g taken left) (hk : k < left.length) {j : Nat} (hj : j < taken.length) : taken[j] ≠ left[k] := fun he => by
 have := (List.nodup_append.1 h.nodup).2.2 _ (List.getElem_mem hj) _ (List.getElem_mem hk)
 exact this he
theorem TreeI.lt (h : TreeI n g taken left) (hk : k < left.length) : left[k] < n := (h.all _).2 (List.mem_append_right _ (List.getElem_mem hk))
theorem TreeI.step (h : TreeI n g taken left) (hk : k < left.length) {g' : Nat → Int} (hg : ∀ i, i ≠ left[k] → g' i = g i) (h0 : taken.length = 0 → g' left[k] = -1) (h1 : 0 < taken.length → ∃ q, ∃ hq : q < taken.length, g' left[k] = (taken[q] : Int)) :
   TreeI n g' (taken ++ [left[k]]) (left.eraseIdx k) := by
 have hp := TreeI.perm (taken := taken) hk
 refine ⟨hp.nodup_iff.1 h.nodup, by have := h.len; rw [List.length_append, List.length_eraseIdx_of_lt hk, List.length_singleton]; omega, fun i => (h.all i).trans hp.mem_iff, fun hl => ?_, fun j hj hj0 => ?_⟩
 · by_cases ht : 0 < taken.length
   · rw [List.getElem_append_left ht, hg _ (h.fresh hk ht)]; exact h.root ht
   · rw [List.getElem_append_right (by omega)]
     simp only [List.getElem_singleton]
     exact h0 (by omega)
 · by_cases ht : j < taken.length
   · obtain ⟨q, hq, he⟩ := h.up j ht hj0
     refine ⟨q, hq, ?_⟩
     rw [List.getElem_append_left ht, List.getElem_append_left (by omega), hg _ (h.fresh hk ht)]; exact he
   · have hj2 : j = taken.length := by simp at hj; omega
     subst hj2
     obtain ⟨q, hq, he⟩ := h1 hj0
     refine ⟨q, hq, ?_⟩
     rw [List.getElem_append_right (Nat.le_refl _), List.getElem_append_left hq]
     simp only [List.getElem_singleton]
     exact he
end
theorem reach_le {l : List Int} {i f : Nat} (h : reach l f i = true) : ∀ d, reach l (f + d) i = true
 | 0 => h
 | d + 1 => reach_succ (reach_le h d)
theorem firsts_uniq {l : List Int} {r : Nat} (hr : upN l r = -1) : ∀ {k : Nat}, (∀ i, i < k → upN l i = -1 → i = r) → firstsN l k = if r < k then 1 else 0
 | 0, _ => by simp [firstsN]
 | k + 1, h => by
   unfold firstsN
   rw [firsts_uniq hr (fun i hi => h i (by omega))]
   by_cases hk : upN l k = -1
   · have := h k (by omega) hk
     subst this
     rw [if_pos hk, if_neg (by omega), if_pos (by omega)]; rfl
   · rw [if_neg hk]
     have : r ≠ k := fun e => hk (by rw [← e]; exact hr)
     by_cases hrk : r < k
     · rw [if_pos hrk, if_pos (by omega)]
     · rw [if_neg hrk, if_neg (by omega)]
def listG (g : Nat → Int) (n : Nat) : List Int := (List.range n).map g
theorem TreeI.tree {n : Nat} {g : Nat → Int} {taken : List Nat} (h : TreeI n g taken []) (hn : 0 < n) : IsTree (listG g n) := by
 have hlen : (listG g n).length = n := by simp [listG]
 have hup : ∀ i, i < n → upN (listG g n) i = g i := fun i hi => upN_map hi
 have hall : ∀ i, i < n ↔ i ∈ taken := fun i => by rw [h.all i, List.append_nil]
 have htl : taken.length = n := by have := h.len; simpa using this
 have hlt : ∀ j (hj : j < taken.length), taken[j] < n := fun j hj => (hall _).2 (List.getElem_mem hj)
 refine ⟨fun i hi => ?_, fun i hi => ?_, ?_⟩
 · rw [hlen] at hi ⊢
   rw [hup i hi]
   obtain ⟨j, hj, rfl⟩ := List.getElem_of_mem ((hall i).1 hi)
   by_cases hj0 : j = 0
   · subst hj0; rw [h.root hj]; omega
   · obtain ⟨k, hk, he⟩ := h.up j hj (by omega)
     rw [he]
     have := hlt k (by omega)
     omega
 · rw [hlen] at hi ⊢
   obtain ⟨j, hj, rfl⟩ := List.getElem_of_mem ((hall i).1 hi)
   have key : ∀ j (hj : j < taken.length), reach (listG g n) j taken[j] = true := by
     intro j
     induction j using Nat.strongRecOn with
     | _ j ih =>
       intro hj
       by_cases hj0 : j = 0
       · subst hj0; exact Ec (by rw [hup _ (hlt 0 hj)]; exact h.root hj)
       · obtain ⟨k, hk, he⟩ := h.up j hj (by omega)
         obtain ⟨j', rfl⟩ : ∃ j', j = j' + 1 := ⟨j - 1, by omega⟩
         rw [D6 (j := taken[k]) (by rw [hup _ (hlt _ hj)]; exact he)]
         have := reach_le (ih k hk (by omega)) (j' - k)
         rw [show k + (j' - k) = j' by omega] at this
         exact this
   have := reach_le (key j hj) (n - j)
   rw [show j + (n - j) = n by omega] at this
   exact this
 · rw [hlen]
   have h0 : 0 < taken.length := by omega
   rw [firsts_uniq (r := taken[0]) (by rw [hup _ (hlt 0 h0)]; exact h.root h0) fun i hi hu => ?_, if_pos (hlt 0 h0)]
   rw [hup i hi] at hu
   obtain ⟨j, hj, rfl⟩ := List.getElem_of_mem ((hall i).1 hi)
   by_cases hj0 : j = 0
   · subst hj0; rfl
   · obtain ⟨k, hk, he⟩ := h.up j hj (by omega)
     omega
end Go.Proofs.Ytccogmkhijgelaa
namespace Go.Proofs.Ytccogmkhijgelaa
theorem cost_nofit {s : Stm} {l : List Int} (h : fitsT s l = false) : costL s l = 1000 := by unfold costL; unfold fitsT at h; rw [h]; rfl
theorem fit_of_cost {s : Stm} {l : List Int} (h : costL s l < 1000) : fitsT s l = true := by
 cases hf : fitsT s l with
 | true => rfl
 | false => rw [cost_nofit hf] at h; omega
section
variable {s : Stm} {l : List Int}
end
theorem cost_sum {s : Stm} {l : List Int} (h : costL s l < 1000) : costL s l = sumN s.places.length (leastL s l) ∧ ∀ p, p < s.places.length → leastL s l p < 1000 := by
 have hf := fit_of_cost h
 unfold fitsT at hf
 unfold costL at h ⊢
 rw [if_pos hf] at h ⊢
 refine ⟨by omega, fun p hp => ?_⟩
 have := sumN_mem (n := s.places.length) (i := p) (f := leastL s l) (fun i _ => Dh.1) hp
 omega
theorem least_some {s : Stm} {l : List Int} {p : Nat} (hl : l.length = s.editions.length) (h : leastL s l p < 1000) : ∃ g, Filling s l p g ∧ Possible s l p g ∧ changesOf l g = leastL s l p := by
 rcases foldmin_or (f := countL s l p) (l := allFill s p) (m := 1000) with h1 | ⟨x, hx, h1⟩
 · have : leastL s l p = 1000 := h1
   omega
 · have h2 : leastL s l p = countL s l p x := h1
   have h3 := ((D9 hl).1 hx).2
   rw [h2] at h
   unfold countL at h h2
   split at h
   · rename_i h4
     rw [if_pos h4] at h2
     exact ⟨_, h3, possB_iff.1 h4, h2.symm⟩
   · omega
end Go.Proofs.Ytccogmkhijgelaa
namespace Go.Proofs.Ytccogmkhijgelaa
/-- A pair of editions. -/
def prE (e : Nat × Nat) : List Go.Value := [.int .i64 (e.1 : Int), .int .i64 (e.2 : Int)]
def EarR (F : Heap) (u : Go.Value) (s : Stm) (E : Edges) : Prop := fitsE s E = true ∧ Ints F u (iL (firstY s E) s.editions.length) ∨ fitsE s E = false ∧ u = .slice none 0 0
theorem EarR.mono {F F' : Heap} {u : Go.Value} {s : Stm} {E : Edges} (h : EarR F u s E) (hF : F.le F') : EarR F' u s E := h.elim (fun h => .inl ⟨h.1, h.2.mono hF⟩) .inr
theorem EarR.nil {F : Heap} {u : Go.Value} {s : Stm} {E : Edges} (h : EarR F u s E) (hn : 0 < s.editions.length) : ∃ a k c, u = .slice a k c ∧ (decide (a = none)) = !(fitsE s E) := by
 rcases h with ⟨h1, h2⟩ | ⟨h1, rfl⟩
 · obtain ⟨a, c, rfl, -, g2, -, -⟩ := h2.plain
   refine ⟨a, _, c, rfl, ?_⟩
   rw [h1]
   refine decide_eq_false fun h => ?_
   have := (g2 h).1
   rw [C1] at this
   omega
 · exact ⟨none, 0, 0, rfl, by rw [h1]; rfl⟩
/-- Of one round, what is done: of the tree, and of the rest. -/
def DoneT (l : List Int) (i : Nat) (e : Nat × Nat) : Prop := e ∈ treeE l ∧ e.2 < i
def DoneM (l : List Int) (M : Edges) (q : Nat) (e : Nat × Nat) : Prop := e ∈ treeE l ∨ e ∈ M.take q
section
variable {s : Stm} {l : List Int} {M : Edges} {r i q : Nat} {cur : Nat → Int}
abbrev RelY (s : Stm) (E : Edges) (r : Nat) (D : Nat × Nat → Prop) (cur : Nat → Int) : Prop := Relaxed s.editions.length E (fun i => (s.ed i).lo) r D cur
theorem rel_bound (hv : ValidT s) {E : Edges} (hE : ∀ e ∈ E, e.1 < s.editions.length ∧ e.2 < s.editions.length) {D : Nat × Nat → Prop} (h : RelY s E r D cur) {i : Nat} (hi : i < s.editions.length) : 1400 ≤ cur i ∧ cur i ≤ 1900 := by
 have h1 := h.lo i hi
 have h2 := h.hi i hi
 have h3 := firstY_bound hv hE r i hi
 have h4 := firstY_bound hv hE s.editions.length i hi
 have h5 := hv.ne
 omega
theorem rel_none {E : Edges} {D : Nat × Nat → Prop} (h : RelY s E r (fun _ => False) cur) (hD : ∀ e, ¬ D e) : RelY s E r D cur := h.weaken fun e _ hd => (hD e hd).elim
/-- An edition that is a first one. -/
theorem rel_root (h : RelY s (treeE l ++ M) r (DoneT l i) cur) (hu : upN l i = -1) : RelY s (treeE l ++ M) r (DoneT l (i + 1)) cur := h.weaken fun e _ hd => by
 refine ⟨hd.1, ?_⟩
 have h1 := hd.2
 by_cases h2 : e.2 = i
 · exact absurd hu (by rw [← h2]; exact (treeE_mem.1 hd.1).2.1)
 · omega
theorem rel_tree (h : RelY s (treeE l ++ M) r (DoneT l i) cur) (hd : Dag s.editions.length (treeE l ++ M)) (hi : i < l.length) {k : Nat} (hu : upN l i = (k : Int)) : RelY s (treeE l ++ M) r (DoneT l (i + 1)) (updI cur i (max (cur i) (cur k + 1))) := by
 have he : (k, i) ∈ treeE l := treeE_at hi hu
 refine (h.step hd (List.mem_append_left _ he)).weaken fun e _ hD => ?_
 have h1 := hD.2
 by_cases h2 : e.2 = i
 · right
   obtain ⟨-, -, h5⟩ := treeE_mem.1 hD.1
   rw [h2, hu, Int.toNat_natCast] at h5
   exact Prod.ext h5 h2
 · exact .inl ⟨hD.1, by omega⟩
theorem rel_all (h : RelY s (treeE l ++ M) r (DoneT l l.length) cur) : RelY s (treeE l ++ M) r (DoneM l M 0) cur := h.weaken fun e _ hD => by
 rcases hD with hD | hD
 · exact ⟨hD, (treeE_mem.1 hD).1⟩
 · simp at hD
theorem rel_more (h : RelY s (treeE l ++ M) r (DoneM l M q) cur) (hd : Dag s.editions.length (treeE l ++ M)) (hq : q < M.length) : RelY s (treeE l ++ M) r (DoneM l M (q + 1)) (updI cur M[q].2 (max (cur M[q].2) (cur M[q].1 + 1))) := by
 have he : (M[q].1, M[q].2) ∈ treeE l ++ M := List.mem_append_right _ (List.getElem_mem hq)
 refine (h.step hd he).weaken fun e _ hD => ?_
 rcases hD with hD | hD
 · exact .inl (.inl hD)
 · rw [List.take_succ_eq_append_getElem hq] at hD
   rcases List.mem_append.1 hD with hD | hD
   · exact .inl (.inr hD)
   · right; simpa using hD
theorem rel_round (h : RelY s (treeE l ++ M) r (DoneM l M M.length) cur) : RelY s (treeE l ++ M) (r + 1) (fun _ => False) cur := h.round fun e he => by
 rcases List.mem_append.1 he with he | he
 · exact .inl he
 · right; rw [List.take_length]; exact he
theorem rel_full {E : Edges} {D : Nat × Nat → Prop} (h : RelY s E r D cur) (hr : s.editions.length ≤ r) : iL cur s.editions.length = iL (firstY s E) s.editions.length :=
 List.map_congr_left fun _i hi => h.full hr (List.mem_range.1 hi)
end
theorem fitsE_no {s : Stm} {E : Edges} {i : Nat} (hi : i < s.editions.length) (h : (s.ed i).hi < firstY s E i) : fitsE s E = false := by
 cases hf : fitsE s E with
 | false => rfl
 | true => have := fitsE_iff.1 hf i hi; omega
end Go.Proofs.Ytccogmkhijgelaa
namespace Go.Proofs.Ytccogmkhijgelaa
open Go.RowKit
theorem ar_27 : ArrT Try.prog 27 2 3 1 := arrT_of (by kernel_rfl)
theorem sl_137 : SliceT Try.prog 137 27 2 := Ep (by kernel_rfl)
set_option maxRecDepth 100000 in
theorem earliest_ok {F : Heap} {vp ve : Value} {ps : List (Value × Edn)} {s : Stm} (hr : StmR F vp ve ps s) (hv : ValidT s) {v : Value} {l : List Int} (hl : Ints F v l) (hll : l.length = s.editions.length) (ht : IsTree l) {vm : Value} {M : Edges} (hmo : Sl F vm 2 prE M) (hd : Dag s.editions.length (treeE l ++ M)) : Ok Try.prog 74 [.agg #[vp, ve], v, vm].toArray F fun u F' => EarR F' u s (treeE l ++ M) := by
 have hle0 : F.le F := Heap.le_refl _
 refine Ok.intro Try.func74 rfl Try.ntmps74 rfl fun w0 => ?_
 have hL := hl.plain.lt
 have hlen := hr.len
 have hL1 := hr.eds.plain.lt
 have hne := hv.ne
 have hmol := hmo.plain.lt
 refine Af <| Ai fun ds => Bm rfl (B2 (Aj rfl) rfl fun b1 hb1 nb1 => ?_)
 refine Aa rfl (Ae Ab) ?_
 refine Ah <| Ac <| Af <| Ai fun ds => Aa rfl (Ae Ab) ?_
 refine Ah <| Ac <| Af <| Af <| Ai fun ds => Aa rfl (Ae Ab) ?_
 refine Ah <| Ac <| Az <| Bu [7, 8, 13, 14, 15, 16, 17, 18, 19, 20, 21, 22, 23, 24, 25, 26, 27, 28] (fun m e σ => ∃ k : Nat, m + k = l.length ∧ e 8 = .int .i64 (k : Int) ∧ ∃ v7 R7, e 7 = v7 ∧ Own 3 1 v7 (iL (fun i => (s.ed i).lo) k).length ((iL (fun i => (s.ed i).lo) k).flatMap intE) R7 ∧ σ = ⟨F, (b1, bx 25 [vp, ve]) :: R7⟩) (l.length) ?_ ?_
 · exact ⟨0, by omega, (Ad), _, _, (Al rfl <| Ad), El, rfl⟩
 ·
  rintro m e _ ⟨k, hm, hs8, v7, R7, hs7, ho, rfl⟩; have hil9 := C1 (f := (fun i => (s.ed i).lo)) (n := k)
  by_cases hlt : k < l.length
  ·
   have hkp : k < ps.length := by omega
   have e1 := hr.at hkp
   refine Af <| Af <| Ai fun ds => Aa rfl (Ag (As rfl hs8)) ?_
   refine Aa rfl (Ag (Al rfl <| Ak rfl <| Ay rfl <| Aj rfl)) ?_
   refine Aa rfl (Bk Be (Ad) hl.plain) ?_
   refine Aa rfl (Bw (Ar rfl <| Ad) (Ad)) ?_
   refine Ah <| Ac <| Aq (Ad) (by first | rfl | exact decide_eq_true (by omega)) ?_
   refine Aw <| Ac <| Af <| Az <| Ai fun ds => Aa rfl (Ag (Ay rfl <| As rfl hs7)) ?_
   refine Aa rfl (Ao Bv (Ay rfl <| Al rfl <| Ak rfl <| Ar rfl <| Al rfl <| Ad)) ?_
   refine Aa rfl (Ap Bz (Ad) (Cell.own 0 rfl rfl)) ?_
   refine Aa rfl (Ag (Ay rfl <| Ar rfl <| Al rfl <| As rfl hs8)) ?_
   refine Aa rfl (A9 (k := k) B5 (Al rfl <| Ad) hr.eds.plain (Ad) rfl hkp) ?_
   refine Aa rfl (Bo Dl (Ad)) ?_
   refine Aa rfl (Bo Du (Ad)) ?_
   refine Aa rfl (Ap Bj (Ad) (hr.eds.cell hkp rfl)) ?_
   refine Bm rfl (B6 Be Da rfl (.cons (Ad) .nil) rfl rfl (by decide) (by simp [Value.oneCell']) fun b3 hb3 nb3 => ?_)
   refine Bm rfl (B9 Be el_3 (A6 rfl <| Ad) ho (Ad) (Dd (s := 1) 0 rfl rfl (by simp [Value.oneCell'])) (by omega) (by omega) (.s <| .s <| .z) .last fun v4 R5 ho6 => ?_)
   have ho2 : Own 3 1 v4 (iL (fun i => (s.ed i).lo) (k + 1)).length ((iL (fun i => (s.ed i).lo) (k + 1)).flatMap intE) R5 := by have h9 := ho6; rw [iL_succ]; exact h9.snoc (x := (s.ed k).lo) rfl (by rw [← e1]; rfl)
   refine Aa rfl (Ae (Ad)) ?_
   refine Ah <| Bb <| Ac <| C5 (fun _ _ h => h.drop (.cons _ <| .cons_cons _ <| .refl _)) ?_
   refine Ai fun ds => Aa rfl (Ag (A6 rfl <| Ay rfl <| Ar rfl <| Al rfl <| As rfl hs8)) ?_
   refine Aa rfl (Br (Ad) Ab rfl (by omega) (by omega)) ?_
   refine Aa rfl (Ae (Ad)) ?_
   refine Ah <| Ac ⟨_, m - 1, Off.eq (Cr rfl <| ou2 rfl <| Bd), by omega, ?_⟩
   exact ⟨k + 1, by omega, (Ad), _, _, (Ar rfl <| Al rfl <| Ad), ho2, rfl⟩
  ·
   refine Af <| Af <| Ai fun ds => Aa rfl (Ag (As rfl hs8)) ?_
   refine Aa rfl (Ag (Al rfl <| Ak rfl <| Ay rfl <| Aj rfl)) ?_
   refine Aa rfl (Bk Be (Ad) hl.plain) ?_
   refine Aa rfl (Bw (Ar rfl <| Ad) (Ad)) ?_
   refine Ah <| Ac <| Am (Ad) (by first | rfl | exact decide_eq_false (by omega)) ?_
   obtain rfl : k = s.editions.length := by omega
   replace ho := ho.to C1
   refine Bn ?_
   refine Ba <| Ba <| Bh <| Ac <| Af <| Af <| Ai fun ds => Aa rfl (Ae Ab) ?_
   refine Ah <| Ac <| Az <| Bu [9, 10, 11, 29, 30, 31, 32, 33, 34, 35, 36, 37, 38, 39, 40, 41, 42, 43, 44, 45, 46, 47, 48, 49, 50, 51, 52, 53, 54, 55, 56, 57, 58, 59, 60, 61, 62, 63, 64, 65, 66, 67, 68, 69, 70, 71, 72, 73, 74, 75, 76, 77, 78, 79, 80, 81, 82, 83, 84, 85, 86, 87, 88, 89, 90, 91, 92] (fun m e σ => ∃ r : Nat, m + r = l.length + 1 ∧ e 9 = .int .i64 (r : Int) ∧ ∃ cur R7, Own 3 1 v7 s.editions.length ((iL cur s.editions.length).flatMap intE) R7 ∧ RelY s (treeE l ++ M) r (fun _ => False) cur ∧ σ = ⟨F, (b1, bx 25 [vp, ve]) :: R7⟩) (l.length + 1) ?_ ?_
   · exact ⟨0, by omega, (Ad), _, _, ho, Relaxed.start (fun _ _ => rfl), rfl⟩
   ·
    rintro m2 e2 _ ⟨r, hm2, ht9, cur, R7, ho, hI, rfl⟩
    by_cases hlr : r ≤ l.length
    ·
     refine Af <| Af <| Ai fun ds => Aa rfl (Ag (As rfl ht9)) ?_
     refine Aa rfl (Ag (Al rfl <| Ak rfl <| Ay rfl <| Al rfl <| Ak rfl <| Ay rfl <| Aj rfl)) ?_
     refine Aa rfl (Bk Be (Ad) hl.plain) ?_
     refine Aa rfl (D7 (Ar rfl <| Ad) (Ad)) ?_
     refine Ah <| Ac <| Aq (Ad) (by first | rfl | exact decide_eq_true (by omega)) ?_
     refine Aw <| Ac <| Af <| Az <| Af <| Af <| Ai fun ds => Aa rfl (Ae Ab) ?_
     refine Ah <| Ac <| Az <| Bu [10, 35, 36, 37, 38, 39, 40, 41, 42, 43, 44, 45, 46, 47, 48, 49, 50, 51, 52, 53, 54, 55, 56, 57, 58, 59, 60, 61] (fun m e σ => ∃ i : Nat, m + i = l.length ∧ e 10 = .int .i64 (i : Int) ∧ ∃ cur R7, Own 3 1 v7 s.editions.length ((iL cur s.editions.length).flatMap intE) R7 ∧ RelY s (treeE l ++ M) r (DoneT l i) cur ∧ σ = ⟨F, (b1, bx 25 [vp, ve]) :: R7⟩) (l.length) ?_ ?_
     · exact ⟨0, by omega, (Ad), _, _, ho, rel_none hI (fun e h => by unfold DoneT at h; omega), rfl⟩
     ·
      rintro m3 e3 _ ⟨i, hm3, hu10, cur, R7, ho, hI, rfl⟩
      by_cases hlt : i < l.length
      ·
       have hin : i < s.editions.length := by omega
       refine Af <| Af <| Ai fun ds => Aa rfl (Ag (As rfl hu10)) ?_
       refine Aa rfl (Ag (Al rfl <| Ak rfl <| Ay rfl <| Al rfl <| Ak rfl <| Ay rfl <| Al rfl <| Ak rfl <| Ay rfl <| Aj rfl)) ?_
       refine Aa rfl (Bk Be (Ad) hl.plain) ?_
       refine Aa rfl (Bw (Ar rfl <| Ad) (Ad)) ?_
       refine Ah <| Ac <| Aq (Ad) (by first | rfl | exact decide_eq_true (by omega)) ?_
       by_cases hu : upN l i = -1
       ·
        refine Aw <| Ac <| Af <| Az <| Af <| Ai fun ds => Aa rfl (Ag (Ay rfl <| Ak rfl <| Ay rfl <| Al rfl <| Ak rfl <| Ay rfl <| Al rfl <| Ak rfl <| Ay rfl <| Aj rfl)) ?_
        refine Aa rfl (Ag (Ay rfl <| Al rfl <| As rfl hu10)) ?_
        refine Aa rfl (A9 (k := i) Be (Al rfl <| Ad) hl.plain (Ad) rfl hlt) ?_
        refine Aa rfl (Ap Bj (Ad) (hl.cell1 hlt rfl)) ?_
        refine Aa rfl (By (Ad) Ab) ?_
        refine Ah <| Ac <| Am (Ad) (by rw [C8 hlt]; exact decide_eq_false (fun h => h hu)) ?_
        refine Aw <| Bb <| Ac <| Ai fun ds => Aa rfl (Ag (A6 rfl <| Al rfl <| As rfl hu10)) ?_
        refine Aa rfl (Br (Ad) Ab rfl (by omega) (by omega)) ?_
        refine Aa rfl (Ae (Ad)) ?_
        refine Ah <| Ac ⟨_, m3 - 1, Off.eq (Dj rfl <| Dv rfl <| Bd), by omega, ?_⟩
        exact ⟨i + 1, by omega, (Ad), _, _, ho, rel_root hI hu, rfl⟩
       ·
        obtain ⟨k, hk, hkl⟩ := ht.in_.nat hlt hu
        have hkn : k < s.editions.length := by omega
        have hlk : l[i] = (k : Int) := by rw [C8 hlt, hk]
        have hb1 := rel_bound hv hd.1 hI hin
        have hb2 := rel_bound hv hd.1 hI hkn
        refine Aw <| Ac <| Af <| Az <| Af <| Ai fun ds => Aa rfl (Ag (Ay rfl <| Ak rfl <| Ay rfl <| Al rfl <| Ak rfl <| Ay rfl <| Al rfl <| Ak rfl <| Ay rfl <| Aj rfl)) ?_
        refine Aa rfl (Ag (Ay rfl <| Al rfl <| As rfl hu10)) ?_
        refine Aa rfl (A9 (k := i) Be (Al rfl <| Ad) hl.plain (Ad) rfl hlt) ?_
        refine Aa rfl (Ap Bj (Ad) (hl.cell1 hlt rfl)) ?_
        refine Aa rfl (By (Ad) Ab) ?_
        refine Ah <| Ac <| Aq (Ad) (by rw [C8 hlt]; exact decide_eq_true hu) ?_
        have hleS := hle0
        refine Cv (.inl rfl) (fun _ _ h => h) (.cons_cons _ <| .refl _) [16] (by kernel_rfl) fun ds => ?_
        refine A5 0 rfl (by kernel_rfl) (by kernel_rfl) (by kernel_rfl) (by kernel_rfl) rfl rfl (fun _ h => h.drop (.cons_cons _ <| .refl _)) (fun _ _ _ h => h) (Ag (A6 rfl <| Al rfl <| Ak rfl <| Ay rfl <| Al rfl <| Ak rfl <| Ay rfl <| Al rfl <| As rfl hs7)) ?_
        refine A5 1 rfl (by kernel_rfl) (by kernel_rfl) (by kernel_rfl) (by kernel_rfl) rfl rfl (fun _ h => h.drop (.cons_cons _ <| .refl _)) (fun _ _ _ h => h) (Ag (A6 rfl <| Ar rfl <| As rfl hu10)) ?_
        refine A5 2 rfl (by kernel_rfl) (by kernel_rfl) (by kernel_rfl) (by kernel_rfl) rfl rfl (fun _ h => h.drop (.cons_cons _ <| .refl _)) (fun _ _ _ h => h) (Ag (A6 rfl <| Ar rfl <| Al rfl <| Ak rfl <| Ay rfl <| Al rfl <| Ak rfl <| Ay rfl <| Al rfl <| As rfl hs7)) ?_
        refine A5 3 rfl (by kernel_rfl) (by kernel_rfl) (by kernel_rfl) (by kernel_rfl) rfl rfl (fun _ h => h.drop (.cons_cons _ <| .refl _)) (fun _ _ _ h => h) (Ag (A6 rfl <| Ay rfl <| As rfl hu10)) ?_
        refine A5 4 rfl (by kernel_rfl) (by kernel_rfl) (by kernel_rfl) (by kernel_rfl) rfl rfl (fun _ h => h.drop (.cons_cons _ <| .refl _)) (fun _ _ _ h => h) (A9 (k := i) Be (Al rfl <| Ad) (ho.plain (by omega)) (Ad) rfl hin) ?_
        refine A5 5 rfl (by kernel_rfl) (by kernel_rfl) (by kernel_rfl) (by kernel_rfl) rfl rfl (fun _ h => h.drop (.cons_cons _ <| .refl _)) (fun _ _ _ h => h) (Ap Bj (Ad) (Dy ho (fun p hp => .tail _ (hp)) (iL_get hin))) ?_
        refine A5 6 rfl (by kernel_rfl) (by kernel_rfl) (by kernel_rfl) (by kernel_rfl) rfl rfl (fun _ h => h.drop (.cons_cons _ <| .refl _)) (fun _ _ _ h => h) (Ag (A6 rfl <| Ay rfl <| Ar rfl <| Al rfl <| Ak rfl <| Ay rfl <| Al rfl <| Ak rfl <| Ay rfl <| Al rfl <| As rfl hs7)) ?_
        refine A5 7 rfl (by kernel_rfl) (by kernel_rfl) (by kernel_rfl) (by kernel_rfl) rfl rfl (fun _ h => h.drop (.cons_cons _ <| .refl _)) (fun _ _ _ h => h) (Ag (A3 rfl <| Ak rfl <| Ay rfl <| Al rfl <| Ak rfl <| Ay rfl <| Al rfl <| Ak rfl <| Ay rfl <| Aj rfl)) ?_
        refine A5 8 rfl (by kernel_rfl) (by kernel_rfl) (by kernel_rfl) (by kernel_rfl) rfl rfl (fun _ h => h.drop (.cons_cons _ <| .refl _)) (fun _ _ _ h => h) (Ag (A3 rfl <| Al rfl <| As rfl hu10)) ?_
        refine A5 9 rfl (by kernel_rfl) (by kernel_rfl) (by kernel_rfl) (by kernel_rfl) rfl rfl (fun _ h => h.drop (.cons_cons _ <| .refl _)) (fun _ _ _ h => h) (A9 (k := i) Be (Al rfl <| Ad) hl.plain (Ad) rfl hlt) ?_
        refine A5 10 rfl (by kernel_rfl) (by kernel_rfl) (by kernel_rfl) (by kernel_rfl) rfl rfl (fun _ h => h.drop (.cons_cons _ <| .refl _)) (fun _ _ _ h => h) (Ap Bj (Ad) (hl.cell1 hlt rfl)) ?_
        refine A5 11 rfl (by kernel_rfl) (by kernel_rfl) (by kernel_rfl) (by kernel_rfl) rfl rfl (fun _ h => h.drop (.cons_cons _ <| .refl _)) (fun _ _ _ h => h) (A9 (k := k) Be (Ay rfl <| Ad) (ho.plain (by omega)) (Ad) hlk hkn) ?_
        refine A5 12 rfl (by kernel_rfl) (by kernel_rfl) (by kernel_rfl) (by kernel_rfl) rfl rfl (fun _ h => h.drop (.cons_cons _ <| .refl _)) (fun _ _ _ h => h) (Ap Bj (Ad) (Dy ho (fun p hp => .tail _ (hp)) (iL_get hkn))) ?_
        refine A5 13 rfl (by kernel_rfl) (by kernel_rfl) (by kernel_rfl) (by kernel_rfl) rfl rfl (fun _ h => h.drop (.cons_cons _ <| .refl _)) (fun _ _ _ h => h) (Br (Ad) Ab rfl (by omega) (by omega)) ?_
        refine A5 14 rfl (by kernel_rfl) (by kernel_rfl) (by kernel_rfl) (by kernel_rfl) rfl rfl (fun _ h => h.drop (.cons_cons _ <| .refl _)) (fun _ _ _ h => h) (q_max2 (A6 rfl <| Ad) (Ad)) ?_
        refine A5 15 rfl (by kernel_rfl) (by kernel_rfl) (by kernel_rfl) (by kernel_rfl) rfl rfl (fun _ h => h.drop (.cons_cons _ <| .refl _)) (fun _ _ _ h => h) (A9 (k := i) Be (A6 rfl <| Ay rfl <| Ar rfl <| Ad) (ho.plain (by omega)) (A6 rfl <| Ay rfl <| Al rfl <| Ad) rfl hin) ?_
        refine WX_x0 16 rfl (by kernel_rfl) (x_storeR sz_3 (Ad) (Al rfl <| Ad) ho (by rw [iL_len1]; omega) rfl (.s <| .z) .last fun R9 ho10 => ⟨(fun h => nomatch h), ?_⟩)
        have ho3 := ho10
        rw [iL_set hin] at ho3
        refine Ct (by kernel_rfl) ?_ _
        refine Bb <| Ac <| Ai fun ds => Aa rfl (Ag (A3 rfl <| A6 rfl <| Al rfl <| As rfl hu10)) ?_
        refine Aa rfl (Br (Ad) Ab rfl (by omega) (by omega)) ?_
        refine Aa rfl (Ae (Ad)) ?_
        refine Ah <| Ac ⟨_, m3 - 1, Off.eq (Cr rfl <| Dj rfl <| Dv rfl <| Bd), by omega, ?_⟩
        exact ⟨i + 1, by omega, (Ad), _, _, ho3, rel_tree hI hd hlt hk, rfl⟩
      ·
       refine Af <| Af <| Ai fun ds => Aa rfl (Ag (As rfl hu10)) ?_
       refine Aa rfl (Ag (Al rfl <| Ak rfl <| Ay rfl <| Al rfl <| Ak rfl <| Ay rfl <| Al rfl <| Ak rfl <| Ay rfl <| Aj rfl)) ?_
       refine Aa rfl (Bk Be (Ad) hl.plain) ?_
       refine Aa rfl (Bw (Ar rfl <| Ad) (Ad)) ?_
       refine Ah <| Ac <| Am (Ad) (by first | rfl | exact decide_eq_false (by omega)) ?_
       obtain rfl : i = l.length := by omega
       refine Bn ?_
       refine Ba <| Ba <| Bh <| Ac <| Af <| Ai fun ds => Aa rfl (Ae Ab) ?_
       refine Ah <| Ac <| Az <| Bu [11, 62, 63, 64, 65, 66, 67, 68, 69, 70, 71, 72, 73, 74, 75, 76, 77, 78, 79, 80, 81, 82, 83, 84, 85, 86, 87, 88, 89, 90, 91, 92] (fun m e σ => ∃ q : Nat, m + q = M.length ∧ e 11 = .int .i64 (q : Int) ∧ ∃ cur R7, Own 3 1 v7 s.editions.length ((iL cur s.editions.length).flatMap intE) R7 ∧ RelY s (treeE l ++ M) r (DoneM l M q) cur ∧ σ = ⟨F, (b1, bx 25 [vp, ve]) :: R7⟩) (M.length) ?_ ?_
       · exact ⟨0, by omega, (Ad), _, _, ho, rel_all hI, rfl⟩
       ·
        rintro m4 e4 _ ⟨q, hm4, hw11, cur, R7, ho, hI, rfl⟩
        by_cases hlq : q < M.length
        ·
         have hMe := hd.1 _ (List.mem_append_right (treeE l) (List.getElem_mem hlq))
         have hb1 := rel_bound hv hd.1 hI hMe.1
         have hb2 := rel_bound hv hd.1 hI hMe.2
         refine Af <| Af <| Ai fun ds => Aa rfl (Ag (As rfl hw11)) ?_
         refine Aa rfl (Ag (Al rfl <| Ak rfl <| Ay rfl <| Al rfl <| Ak rfl <| Ay rfl <| Al rfl <| Ak rfl <| Ay rfl <| Al rfl <| Ak rfl <| Ay rfl <| Aj rfl)) ?_
         refine Aa rfl (Bk sl_137 (Ad) hmo.plain) ?_
         refine Aa rfl (Bw (Ar rfl <| Ad) (Ad)) ?_
         refine Ah <| Ac <| Aq (Ad) (by first | rfl | exact decide_eq_true (by omega)) ?_
         refine Aw <| Ac <| Af <| Az ?_
         have hleS := hle0
         refine Cv (.inl rfl) (fun _ _ h => h) (.cons_cons _ <| .refl _) [25] (by kernel_rfl) fun ds => ?_
         refine A5 0 rfl (by kernel_rfl) (by kernel_rfl) (by kernel_rfl) (by kernel_rfl) rfl rfl (fun _ h => h.drop (.cons_cons _ <| .refl _)) (fun _ _ _ h => h) (Ag (Ay rfl <| Ak rfl <| Ay rfl <| Al rfl <| Ak rfl <| Ay rfl <| Al rfl <| Ak rfl <| Ay rfl <| Al rfl <| As rfl hs7)) ?_
         refine A5 1 rfl (by kernel_rfl) (by kernel_rfl) (by kernel_rfl) (by kernel_rfl) rfl rfl (fun _ h => h.drop (.cons_cons _ <| .refl _)) (fun _ _ _ h => h) (Ag (Ay rfl <| Al rfl <| Ak rfl <| Ay rfl <| Al rfl <| Ak rfl <| Ay rfl <| Al rfl <| Ak rfl <| Ay rfl <| Al rfl <| Ak rfl <| Ay rfl <| Aj rfl)) ?_
         refine A5 2 rfl (by kernel_rfl) (by kernel_rfl) (by kernel_rfl) (by kernel_rfl) rfl rfl (fun _ h => h.drop (.cons_cons _ <| .refl _)) (fun _ _ _ h => h) (Ag (Ay rfl <| Ar rfl <| As rfl hw11)) ?_
         refine A5 3 rfl (by kernel_rfl) (by kernel_rfl) (by kernel_rfl) (by kernel_rfl) rfl rfl (fun _ h => h.drop (.cons_cons _ <| .refl _)) (fun _ _ _ h => h) (A9 (k := q) sl_137 (Al rfl <| Ad) hmo.plain (Ad) rfl hlq) ?_
         refine A5 4 rfl (by kernel_rfl) (by kernel_rfl) (by kernel_rfl) (by kernel_rfl) rfl rfl (fun _ h => h.drop (.cons_cons _ <| .refl _)) (fun _ _ _ h => h) (q_indexArr (k := 1) ar_27 (Ad) Ab rfl (by decide)) ?_
         refine A5 5 rfl (by kernel_rfl) (by kernel_rfl) (by kernel_rfl) (by kernel_rfl) rfl rfl (fun _ h => h.drop (.cons_cons _ <| .refl _)) (fun _ _ _ h => h) (Ap Bj (Ad) (hmo.cell (j := 1 * 1) hlq rfl)) ?_
         refine A5 6 rfl (by kernel_rfl) (by kernel_rfl) (by kernel_rfl) (by kernel_rfl) rfl rfl (fun _ h => h.drop (.cons_cons _ <| .refl _)) (fun _ _ _ h => h) (Ag (A6 rfl <| Ar rfl <| Ak rfl <| Ay rfl <| Al rfl <| Ak rfl <| Ay rfl <| Al rfl <| Ak rfl <| Ay rfl <| Al rfl <| As rfl hs7)) ?_
         refine A5 7 rfl (by kernel_rfl) (by kernel_rfl) (by kernel_rfl) (by kernel_rfl) rfl rfl (fun _ h => h.drop (.cons_cons _ <| .refl _)) (fun _ _ _ h => h) (Ag (A6 rfl <| Ar rfl <| Al rfl <| Ak rfl <| Ay rfl <| Al rfl <| Ak rfl <| Ay rfl <| Al rfl <| Ak rfl <| Ay rfl <| Al rfl <| Ak rfl <| Ay rfl <| Aj rfl)) ?_
         refine A5 8 rfl (by kernel_rfl) (by kernel_rfl) (by kernel_rfl) (by kernel_rfl) rfl rfl (fun _ h => h.drop (.cons_cons _ <| .refl _)) (fun _ _ _ h => h) (Ag (A6 rfl <| Ay rfl <| As rfl hw11)) ?_
         refine A5 9 rfl (by kernel_rfl) (by kernel_rfl) (by kernel_rfl) (by kernel_rfl) rfl rfl (fun _ h => h.drop (.cons_cons _ <| .refl _)) (fun _ _ _ h => h) (A9 (k := q) sl_137 (Al rfl <| Ad) hmo.plain (Ad) rfl hlq) ?_
         refine A5 10 rfl (by kernel_rfl) (by kernel_rfl) (by kernel_rfl) (by kernel_rfl) rfl rfl (fun _ h => h.drop (.cons_cons _ <| .refl _)) (fun _ _ _ h => h) (q_indexArr (k := 1) ar_27 (Ad) Ab rfl (by decide)) ?_
         refine A5 11 rfl (by kernel_rfl) (by kernel_rfl) (by kernel_rfl) (by kernel_rfl) rfl rfl (fun _ h => h.drop (.cons_cons _ <| .refl _)) (fun _ _ _ h => h) (Ap Bj (Ad) (hmo.cell (j := 1 * 1) hlq rfl)) ?_
         refine A5 12 rfl (by kernel_rfl) (by kernel_rfl) (by kernel_rfl) (by kernel_rfl) rfl rfl (fun _ h => h.drop (.cons_cons _ <| .refl _)) (fun _ _ _ h => h) (A9 (k := M[q].2) Be (Ay rfl <| Al rfl <| Ad) (ho.plain (by omega)) (Ad) rfl hMe.2) ?_
         refine A5 13 rfl (by kernel_rfl) (by kernel_rfl) (by kernel_rfl) (by kernel_rfl) rfl rfl (fun _ h => h.drop (.cons_cons _ <| .refl _)) (fun _ _ _ h => h) (Ap Bj (Ad) (Dy ho (fun p hp => .tail _ (hp)) (iL_get hMe.2))) ?_
         refine A5 14 rfl (by kernel_rfl) (by kernel_rfl) (by kernel_rfl) (by kernel_rfl) rfl rfl (fun _ h => h.drop (.cons_cons _ <| .refl _)) (fun _ _ _ h => h) (Ag (A3 rfl <| Ar rfl <| Ak rfl <| Ay rfl <| Al rfl <| Ak rfl <| Ay rfl <| Al rfl <| Ak rfl <| Ay rfl <| Al rfl <| As rfl hs7)) ?_
         refine A5 15 rfl (by kernel_rfl) (by kernel_rfl) (by kernel_rfl) (by kernel_rfl) rfl rfl (fun _ h => h.drop (.cons_cons _ <| .refl _)) (fun _ _ _ h => h) (Ag (A3 rfl <| Ar rfl <| Al rfl <| Ak rfl <| Ay rfl <| Al rfl <| Ak rfl <| Ay rfl <| Al rfl <| Ak rfl <| Ay rfl <| Al rfl <| Ak rfl <| Ay rfl <| Aj rfl)) ?_
         refine A5 16 rfl (by kernel_rfl) (by kernel_rfl) (by kernel_rfl) (by kernel_rfl) rfl rfl (fun _ h => h.drop (.cons_cons _ <| .refl _)) (fun _ _ _ h => h) (Ag (A3 rfl <| Ay rfl <| As rfl hw11)) ?_
         refine A5 17 rfl (by kernel_rfl) (by kernel_rfl) (by kernel_rfl) (by kernel_rfl) rfl rfl (fun _ h => h.drop (.cons_cons _ <| .refl _)) (fun _ _ _ h => h) (A9 (k := q) sl_137 (Al rfl <| Ad) hmo.plain (Ad) rfl hlq) ?_
         refine A5 18 rfl (by kernel_rfl) (by kernel_rfl) (by kernel_rfl) (by kernel_rfl) rfl rfl (fun _ h => h.drop (.cons_cons _ <| .refl _)) (fun _ _ _ h => h) (q_indexArr (k := 0) ar_27 (Ad) Ab rfl (by decide)) ?_
         refine A5 19 rfl (by kernel_rfl) (by kernel_rfl) (by kernel_rfl) (by kernel_rfl) rfl rfl (fun _ h => h.drop (.cons_cons _ <| .refl _)) (fun _ _ _ h => h) (Ap Bj (Ad) (hmo.cell (j := 0 * 1) hlq rfl)) ?_
         refine A5 20 rfl (by kernel_rfl) (by kernel_rfl) (by kernel_rfl) (by kernel_rfl) rfl rfl (fun _ h => h.drop (.cons_cons _ <| .refl _)) (fun _ _ _ h => h) (A9 (k := M[q].1) Be (Ay rfl <| Al rfl <| Ad) (ho.plain (by omega)) (Ad) rfl hMe.1) ?_
         refine A5 21 rfl (by kernel_rfl) (by kernel_rfl) (by kernel_rfl) (by kernel_rfl) rfl rfl (fun _ h => h.drop (.cons_cons _ <| .refl _)) (fun _ _ _ h => h) (Ap Bj (Ad) (Dy ho (fun p hp => .tail _ (hp)) (iL_get hMe.1))) ?_
         refine A5 22 rfl (by kernel_rfl) (by kernel_rfl) (by kernel_rfl) (by kernel_rfl) rfl rfl (fun _ h => h.drop (.cons_cons _ <| .refl _)) (fun _ _ _ h => h) (Br (Ad) Ab rfl (by omega) (by omega)) ?_
         refine A5 23 rfl (by kernel_rfl) (by kernel_rfl) (by kernel_rfl) (by kernel_rfl) rfl rfl (fun _ h => h.drop (.cons_cons _ <| .refl _)) (fun _ _ _ h => h) (q_max2 (A6 rfl <| Al rfl <| Ad) (Ad)) ?_
         refine A5 24 rfl (by kernel_rfl) (by kernel_rfl) (by kernel_rfl) (by kernel_rfl) rfl rfl (fun _ h => h.drop (.cons_cons _ <| .refl _)) (fun _ _ _ h => h) (A9 (k := M[q].2) Be (A3 rfl <| Ay rfl <| Ar rfl <| Al rfl <| Ad) (ho.plain (by omega)) (A3 rfl <| Ar rfl <| Ad) rfl hMe.2) ?_
         refine WX_x0 25 rfl (by kernel_rfl) (x_storeR sz_3 (Ad) (Al rfl <| Ad) ho (by rw [iL_len1]; have := hMe.2; omega) rfl (.s <| .z) .last fun R12 ho13 => ⟨(fun h => nomatch h), ?_⟩)
         have ho4 := ho13
         rw [iL_set hMe.2] at ho4
         refine Ct (by kernel_rfl) ?_ _
         refine Bb <| Ac <| Ai fun ds => Aa rfl (Ag (A3 rfl <| A6 rfl <| Ay rfl <| Al rfl <| As rfl hw11)) ?_
         refine Aa rfl (Br (Ad) Ab rfl (by omega) (by omega)) ?_
         refine Aa rfl (Ae (Ad)) ?_
         refine Ah <| Ac ⟨_, m4 - 1, Off.eq (ou32 rfl <| Bd), by omega, ?_⟩
         exact ⟨q + 1, by omega, (Ad), _, _, ho4, rel_more hI hd hlq, rfl⟩
        ·
         refine Af <| Af <| Ai fun ds => Aa rfl (Ag (As rfl hw11)) ?_
         refine Aa rfl (Ag (Al rfl <| Ak rfl <| Ay rfl <| Al rfl <| Ak rfl <| Ay rfl <| Al rfl <| Ak rfl <| Ay rfl <| Al rfl <| Ak rfl <| Ay rfl <| Aj rfl)) ?_
         refine Aa rfl (Bk sl_137 (Ad) hmo.plain) ?_
         refine Aa rfl (Bw (Ar rfl <| Ad) (Ad)) ?_
         refine Ah <| Ac <| Am (Ad) (by first | rfl | exact decide_eq_false (by omega)) ?_
         obtain rfl : q = M.length := by omega
         refine Bn ?_
         refine Ba <| Ba <| Bh <| Bb <| Ac <| Ai fun ds => Aa rfl (Ag (Ay rfl <| Ak rfl <| Ay rfl <| Al rfl <| Ak rfl <| Ay rfl <| Al rfl <| As rfl ht9)) ?_
         refine Aa rfl (Br (Ad) Ab rfl (by omega) (by omega)) ?_
         refine Aa rfl (Ae (Ad)) ?_
         refine Ah <| Ac ⟨_, m2 - 1, Off.eq (Dv rfl <| ou2 rfl <| Dk rfl <| Ds rfl <| Dv rfl <| Dk rfl <| Ds rfl <| Dv rfl <| Dk rfl <| Bd), by omega, ?_⟩
         exact ⟨r + 1, by omega, (Ad), _, _, ho, rel_round hI, rfl⟩
    ·
     refine Af <| Af <| Ai fun ds => Aa rfl (Ag (As rfl ht9)) ?_
     refine Aa rfl (Ag (Al rfl <| Ak rfl <| Ay rfl <| Al rfl <| Ak rfl <| Ay rfl <| Aj rfl)) ?_
     refine Aa rfl (Bk Be (Ad) hl.plain) ?_
     refine Aa rfl (D7 (Ar rfl <| Ad) (Ad)) ?_
     refine Ah <| Ac <| Am (Ad) (by first | rfl | exact decide_eq_false (by omega)) ?_
     rw [rel_full hI (by omega)] at ho
     refine Bn ?_
     refine Ba <| Ba <| Bh <| Ac <| Af <| Af <| Ai fun ds => Aa rfl (Ae Ab) ?_
     refine Ah <| Ac <| Az <| Bu [6, 12, 93, 94, 95, 96, 97, 98, 99, 100, 101, 102, 103, 104, 105, 106, 107, 108, 109, 110] (fun m e σ => ∃ i : Nat, m + i = s.editions.length ∧ e 12 = .int .i64 (i : Int) ∧ σ = ⟨F, (b1, bx 25 [vp, ve]) :: R7⟩ ∧ ∀ j, j < i → firstY s (treeE l ++ M) j ≤ (s.ed j).hi) (s.editions.length) ?_ ?_
     · exact ⟨0, by omega, (Ad), rfl, fun j h => absurd h (by omega)⟩
     ·
      rintro m5 e5 _ ⟨i, hm5, hx12, rfl, hno⟩
      by_cases hlt : i < s.editions.length
      ·
       have hip : i < ps.length := by omega
       have e1 := hr.at hip
       refine Af <| Af <| Ai fun ds => Aa rfl (Ag (As rfl hx12)) ?_
       refine Aa rfl (Ag (Al rfl <| Ak rfl <| Ay rfl <| Al rfl <| Ak rfl <| Ay rfl <| Al rfl <| As rfl hs7)) ?_
       refine Aa rfl (Bk Be (Ad) (ho.plain (by omega))) ?_
       refine Aa rfl (Bw (Ar rfl <| Ad) (Ad)) ?_
       refine Ah <| Ac <| Aq (Ad) (by first | rfl | exact decide_eq_true (by omega)) ?_
       by_cases hb : (s.ed i).hi < firstY s (treeE l ++ M) i
       ·
        refine Aw <| Ac <| Af <| Az <| Af <| Cu (.inl rfl) (fun _ _ h => h) (by kernel_rfl) (by kernel_rfl) fun ds => ?_
        refine Bc rfl (Ag (Ay rfl <| Ak rfl <| Ay rfl <| Al rfl <| Ak rfl <| Ay rfl <| Al rfl <| As rfl hs7)) ?_
        refine Bc rfl (Ag (Ay rfl <| Al rfl <| As rfl hx12)) ?_
        refine Bc rfl (A9 (k := i) Be (Al rfl <| Ad) (ho.plain (by omega)) (Ad) rfl hlt) ?_
        refine Bc rfl (Ap Bj (Ad) (Dy ho (fun p hp => .tail _ (hp)) (iL_get hlt))) ?_
        refine Bc rfl (Ao Bv (A6 rfl <| Ak rfl <| Ay rfl <| Al rfl <| Ak rfl <| Ay rfl <| Al rfl <| Ak rfl <| Ar rfl <| Al rfl <| Ad)) ?_
        refine Bc rfl (Ap Bz (Ad) (Cell.own 0 rfl rfl)) ?_
        refine Bc rfl (Ag (A6 rfl <| Ar rfl <| As rfl hx12)) ?_
        refine Bc rfl (A9 (k := i) B5 (Al rfl <| Ad) hr.eds.plain (Ad) rfl hip) ?_
        refine Bc rfl (Bo Dl (Ad)) ?_
        refine Bc rfl (Bo Dm (Ad)) ?_
        refine Bc rfl (Ap Bj (Ad) (hr.eds.cell (j := 1 + 1) hip rfl)) ?_
        refine Bc rfl (De (Ay rfl <| Ar rfl <| Al rfl <| Ad) (Ad)) ?_
        refine C4 ?_
        refine Ac <| Aq (Ad) (by rw [e1]; exact decide_eq_true hb) ?_
        refine Af <| Ai fun ds => Aa rfl (Ae Ab) ?_
        refine Ah <| Ac <| A4 <| Bl (Bg (Bg (Bl (Bg ?_))))
        refine Ax rfl (.tmp (Ad) .nil) ?_
        exact .inr ⟨fitsE_no hlt hb, rfl⟩
       ·
        refine Aw <| Ac <| Af <| Az <| Af <| Cu (.inl rfl) (fun _ _ h => h) (by kernel_rfl) (by kernel_rfl) fun ds => ?_
        refine Bc rfl (Ag (Ay rfl <| Ak rfl <| Ay rfl <| Al rfl <| Ak rfl <| Ay rfl <| Al rfl <| As rfl hs7)) ?_
        refine Bc rfl (Ag (Ay rfl <| Al rfl <| As rfl hx12)) ?_
        refine Bc rfl (A9 (k := i) Be (Al rfl <| Ad) (ho.plain (by omega)) (Ad) rfl hlt) ?_
        refine Bc rfl (Ap Bj (Ad) (Dy ho (fun p hp => .tail _ (hp)) (iL_get hlt))) ?_
        refine Bc rfl (Ao Bv (A6 rfl <| Ak rfl <| Ay rfl <| Al rfl <| Ak rfl <| Ay rfl <| Al rfl <| Ak rfl <| Ar rfl <| Al rfl <| Ad)) ?_
        refine Bc rfl (Ap Bz (Ad) (Cell.own 0 rfl rfl)) ?_
        refine Bc rfl (Ag (A6 rfl <| Ar rfl <| As rfl hx12)) ?_
        refine Bc rfl (A9 (k := i) B5 (Al rfl <| Ad) hr.eds.plain (Ad) rfl hip) ?_
        refine Bc rfl (Bo Dl (Ad)) ?_
        refine Bc rfl (Bo Dm (Ad)) ?_
        refine Bc rfl (Ap Bj (Ad) (hr.eds.cell (j := 1 + 1) hip rfl)) ?_
        refine Bc rfl (De (Ay rfl <| Ar rfl <| Al rfl <| Ad) (Ad)) ?_
        refine C4 ?_
        refine Ac <| Am (Ad) (by rw [e1]; exact decide_eq_false hb) ?_
        refine Aw <| Bb <| Ac <| Ai fun ds => Aa rfl (Ag (A3 rfl <| As rfl hx12)) ?_
        refine Aa rfl (Br (Ad) Ab rfl (by omega) (by omega)) ?_
        refine Aa rfl (Ae (Ad)) ?_
        refine Ah <| Ac ⟨_, m5 - 1, Off.eq (Cr rfl <| ou2 rfl <| Dk rfl <| Bd), by omega, ?_⟩
        refine ⟨i + 1, by omega, (Ad), rfl, fun j hj => ?_⟩
        rcases Nat.lt_succ_iff_lt_or_eq.1 hj with hj | rfl
        · exact hno j hj
        · omega
      ·
       refine Af <| Af <| Ai fun ds => Aa rfl (Ag (As rfl hx12)) ?_
       refine Aa rfl (Ag (Al rfl <| Ak rfl <| Ay rfl <| Al rfl <| Ak rfl <| Ay rfl <| Al rfl <| As rfl hs7)) ?_
       refine Aa rfl (Bk Be (Ad) (ho.plain (by omega))) ?_
       refine Aa rfl (Bw (Ar rfl <| Ad) (Ad)) ?_
       refine Ah <| Ac <| Am (Ad) (by first | rfl | exact decide_eq_false (by omega)) ?_
       replace ho := ho.to (C1 (f := firstY s (treeE l ++ M))).symm
       refine Cw (σ := ⟨_, _⟩) (by rfl) ho (.s <| .z) .last fun F15 hF16 hz17 => ?_
       have hn7 := ho.sl (fun _ => rfl) hz17 (by rw [C1]; omega)
       refine Bn ?_
       refine Ba <| Ba <| Bh <| Ac <| Af <| Ai fun ds => Aa rfl (Ag (Ay rfl <| Ak rfl <| Ay rfl <| Al rfl <| Ak rfl <| Ay rfl <| Al rfl <| As rfl hs7)) ?_
       refine Aa rfl (Ae (Ad)) ?_
       refine Ah <| Ac <| A4 <| Ax rfl (.tmp (Ad) .nil) ?_
       exact .inl ⟨fitsE_iff.2 fun j hj => hno j (by omega), hn7⟩
end Go.Proofs.Ytccogmkhijgelaa
namespace Go.Proofs.Ytccogmkhijgelaa
open Go.RowKit
section
variable {P : Program} {n : Nat} {B : Base} {e : Env} {σ : St} {d : Option Nat} {ty : TypeId} {pos : String} {af : Array Edge} {gd : Option (Nat × Bool)}
theorem q_neqNil {T E : Nat} {x y : Operand} {a : Option Addr} {k c : Nat} {u : TypeId} (hT : P.underlying T = some (.slice E)) (hx : ev e x = .slice a k c) (hy : ev e y = .slice none 0 0) :
   OpR P B ⟨d, .binOp .neq T x y u, ty, pos, af, gd⟩ e σ (.bool (!a.isNone)) := fun w _ => by
 have h1 : (binOp .neq T (.slice a k c) (.slice none 0 0)).run P w = .ok (.bool (!a.isNone)) w := by
   simp only [binOp]
   simp [Op.equal, Op.maxDepth, run_equalIn_slice_nil hT a k c 9999 w]
 simp only [execOp, hx, hy, eqGuard, Bool.not_true, Bool.false_eq_true, ite_self, Sem.run_bind, Sem.run_pure, Result.andThen_ok, h1]
theorem q_buildA {T E len s : Nat} {zl l : List Value} {offs : List (Nat × Nat)} {xs : List (Nat × Operand)} {ps : List (Nat × List Value)} (hT : P.underlying T = some (.array len E)) (hE : SizeT P E s) (hz : ZeroT P T (.agg zl.toArray)) (hx : Pv e xs ps) (hoff : ∀ i p, offs[i]? = some p → p = (i * s, s)) (hf : FillL offs zl ps l) :
   OpR P B ⟨d, .build T xs.toArray, ty, pos, af, gd⟩ e σ (.agg l.toArray) := fun w _ => by
 have hs := Cp (P := P) (T := E) (s := s) hE
 have hfill := hf.fill (place := fun i => some (i * s, s)) (fun i p hi => by rw [hoff i p hi]) (xs.map fun (p : Nat × Operand) => (p.1, ev e p.2)) hx.map
 have hc : (Value.agg zl.toArray).cells = zl.toArray := rfl
 simp only [execOp, Instr.build, Sem.run_bind, run_zero hz, Result.andThen_ok, hc, Cc hT, hs]
 simp only [List.map_toArray, List.toList_toArray] at *
 have e1 : (xs.map fun x => match x with | (i, x) => (i, ev e x)) = xs.map fun (p : Nat × Operand) => (p.1, ev e p.2) := by
   apply List.map_congr_left; intro p _; rfl
 rw [e1, hfill]
 rfl
end
end Go.Proofs.Ytccogmkhijgelaa
namespace Go.Proofs.Ytccogmkhijgelaa
open Go.RowKit
theorem zr_27 : ZeroT Try.prog 27 (.agg #[.int .i64 0, .int .i64 0]) := C7 (by kernel_rfl)
theorem bd_51 : Body Try.prog 51 := Bq (by kernel_rfl)
theorem bd_74 : Body Try.prog 74 := Bq (by kernel_rfl)
theorem under_succ {l : List Int} {f x o : Nat} : under l (f + 1) x o = (decide (x = o) || (if upN l x = -1 then false else under l f (upN l x).toNat o)) := rfl
theorem pr_box1 {F : Heap} {b T x y : Nat} (h : F b = some (bx T [.int .i64 (x : Int), .int .i64 (y : Int)])) : Sl F (.slice (some ⟨b, 0, none⟩) 1 1) 2 prE [(x, y)] :=
 sl_box (xs := [(x, y)]) h rfl rfl (fun _ => rfl) (by decide)
set_option maxRecDepth 100000 in
theorem refFits_ok {F : Heap} {vp ve : Value} {ps : List (Value × Edn)} {s : Stm} (hr : StmR F vp ve ps s) (hv : ValidT s) {v : Value} {l : List Int} (hl : Ints F v l) (hll : l.length = s.editions.length) (ht : IsTree l) : Ok Try.prog 94 [.agg #[vp, ve], v].toArray F fun u _ => u = .bool (fitsT s l) := by
 have hle0 : F.le F := Heap.le_refl _
 refine Ok.intro Try.func94 rfl Try.ntmps94 rfl fun w0 => ?_
 have hne := hv.ne
 refine Af <| Ai fun ds => Bm rfl (B2 (Aj rfl) rfl fun b1 hb1 nb1 => ?_)
 refine Aa rfl (Ae Ab) ?_
 refine Ah <| Ac <| Af <| Ai fun ds => Aa rfl (Bf B0 (Al rfl <| Ad) rfl rfl (A8 0 rfl)) ?_
 refine Aa rfl (Ag (Ar rfl <| Al rfl <| Aj rfl)) ?_
 refine Bm rfl (Ch bd_74 A0 (.cons (Al rfl <| Ad) (.cons (Ad) (.cons Ab .nil))) (earliest_ok hr hv hl hll ht (vm := .slice none 0 0) (M := []) Sl.nil (by rw [List.append_nil, ← hll]; exact ht.dag)) fun v2 F3 hr4 hF5 => ?_)
 have her := hr4
 obtain ⟨a9, k9, c9, rfl, hn9⟩ := her.nil (by omega)
 refine Aa rfl (q_neqNil Try.underlying26 (Ad) Ab) ?_
 refine Aa rfl (Ae (Ad)) ?_
 refine Ah <| Ac <| A4 <| Ax rfl (.tmp (Ad) .nil) ?_
 show _ = _
 have h8 : a9.isNone = !(fitsT s l) := by have h7 := hn9; rw [List.append_nil] at h7; unfold fitsT; rw [← h7]; cases a9 <;> rfl
 rw [h8, Bool.not_not]; rfl
set_option maxRecDepth 100000 in
theorem refUnder_ok {F : Heap} {v : Value} {l : List Int} (hl : Ints F v l) (ht : IsTree l) {i : Nat} (hi : i < l.length) (o : Nat) : Ok Try.prog 51 [v, .int .i64 (i : Int), .int .i64 (o : Int)].toArray F fun u _ => u = .bool (underB l i o) := by
 refine Ok.intro Try.func51 rfl Try.ntmps51 rfl fun w0 => ?_
 have hL := hl.plain.lt
 refine Af <| Ai fun ds => Aa rfl (Ae Ab) ?_
 refine Ah <| Ac <| Af <| Af <| Ai fun ds => Aa rfl (Ae Ab) ?_
 refine Ah <| Ac <| Az <| Bu [1, 7, 8, 9, 10, 11, 12, 13, 14, 15, 16, 17, 18, 19, 20, 21, 22, 23, 24, 25, 26] (fun m e σ => ∃ (st : Nat) (z : Int), m + st = l.length ∧ st ≤ l.length ∧ e 7 = .int .i64 (st : Int) ∧ e 1 = .int .i64 z ∧ (z = -1 ∧ underB l i o = false ∨ ∃ j : Nat, z = (j : Int) ∧ j < l.length ∧ underB l i o = under l (l.length - st) j o ∧ reach l (l.length - st) j = true) ∧ σ = ⟨F, []⟩) (l.length) ?_ ?_
 · exact ⟨0, _, by omega, by omega, (Ad), (Ar rfl <| Aj rfl), .inr ⟨i, rfl, hi, rfl, ht.reach i hi⟩, rfl⟩
 ·
  rintro m e _ ⟨st, z, hm, hsl, hs7, hs1, hz, rfl⟩
  by_cases hst : st < l.length
  ·
   refine Af <| Af <| Ai fun ds => Aa rfl (Ag (As rfl hs7)) ?_
   refine Aa rfl (Ag (Al rfl <| Ak rfl <| Ar rfl <| Aj rfl)) ?_
   refine Aa rfl (Bk Be (Ad) hl.plain) ?_
   refine Aa rfl (Bw (Ar rfl <| Ad) (Ad)) ?_
   refine Aa rfl (Ag (Ad)) ?_
   refine Au rfl rfl (Ad) (by first | rfl | exact decide_eq_true (by omega)) ?_
   refine Aa rfl (Ag (Ay rfl <| Al rfl <| As rfl hs1)) ?_
   refine Au rfl rfl (Al rfl <| Ad) (by first | rfl | exact decide_eq_true (by omega)) ?_
   refine Aa rfl (Ag (Ay rfl <| Ar rfl <| Ak rfl <| Ar rfl <| Aj rfl)) ?_
   refine Au rfl rfl (Ar rfl <| Ad) (by first | rfl | exact decide_eq_true (by omega)) ?_
   refine Aa rfl (By (Al rfl <| Ad) (Ad)) ?_
   refine Aa rfl (A2 (Ar rfl <| Al rfl <| Ad) (by first | rfl | exact decide_eq_true (by omega)) (Ad)) ?_
   refine Aa rfl (Ag (Ad)) ?_
   rcases hz with ⟨hz, hu⟩ | ⟨j, hz, hjl, hu, hre⟩
   ·
    refine Au rfl rfl (Ad) (decide_eq_true (by omega)) ?_
    refine Aa rfl (Ag (A6 rfl <| Ar rfl <| As rfl hs1)) ?_
    refine Au rfl rfl (Al rfl <| Ad) (decide_eq_true (by omega)) ?_
    refine Aa rfl (By (Ad) Ab) ?_
    refine Aa rfl (A2 (Ar rfl <| Ad) (decide_eq_true (by omega)) (Ad)) ?_
    refine Ah <| Ac <| Am (Ad) (decide_eq_false (fun h => h hz)) ?_
    refine Bn ?_
    refine Ba <| Ba <| Bh <| Ac <| Af <| Ai fun ds => Aa rfl (Ag (A6 rfl <| Ay rfl <| Al rfl <| As rfl hs1)) ?_
    refine Aa rfl (Ag (A6 rfl <| Ay rfl <| Ar rfl <| Ak rfl <| Ar rfl <| Aj rfl)) ?_
    refine Aa rfl (Bs (Al rfl <| Ad) (Ad)) ?_
    refine Aa rfl (Ae (Ad)) ?_
    refine Ah <| Ac <| A4 <| Ax rfl (.tmp (Ad) .nil) ?_
    show _ = _
    rw [hu]; exact congrArg Value.bool (decide_eq_false (by omega))
   ·
    by_cases hjo : j = o
    ·
     refine At rfl rfl (Ad) (.inl (congrArg Value.bool (decide_eq_false (fun h => h (by omega))))) rfl ?_
     refine At rfl rfl (Al rfl <| Ad) (.inl (congrArg Value.bool (decide_eq_false (fun h => h (by omega))))) rfl ?_
     refine Aa rfl (A7 (Ar rfl <| Ad) (decide_eq_false (fun h => h (by omega))) Ab) ?_
     refine Ah <| Ac <| Am (Ad) rfl ?_
     refine Bn ?_
     refine Ba <| Ba <| Bh <| Ac <| Af <| Ai fun ds => Aa rfl (Ag (A6 rfl <| Ay rfl <| Al rfl <| As rfl hs1)) ?_
     refine Aa rfl (Ag (A6 rfl <| Ay rfl <| Ar rfl <| Ak rfl <| Ar rfl <| Aj rfl)) ?_
     refine Aa rfl (Bs (Al rfl <| Ad) (Ad)) ?_
     refine Aa rfl (Ae (Ad)) ?_
     refine Ah <| Ac <| A4 <| Ax rfl (.tmp (Ad) .nil) ?_
     show _ = _
     rw [hu, hjo, under_self]; exact congrArg Value.bool (decide_eq_true (by omega))
    ·
     have hstep : under l (l.length - st) j o = if upN l j = -1 then false else under l (l.length - (st + 1)) (upN l j).toNat o := by rw [show l.length - st = (l.length - (st + 1)) + 1 by omega, under_succ, decide_eq_false hjo, Bool.false_or]
     refine Au rfl rfl (Ad) (decide_eq_true (by omega)) ?_
     refine Aa rfl (Ag (A6 rfl <| Ar rfl <| As rfl hs1)) ?_
     refine Au rfl rfl (Al rfl <| Ad) (decide_eq_true (by omega)) ?_
     refine Aa rfl (By (Ad) Ab) ?_
     refine Aa rfl (A2 (Ar rfl <| Ad) (decide_eq_true (by omega)) (Ad)) ?_
     refine Ah <| Ac <| Aq (Ad) (decide_eq_true (by omega)) ?_
     refine Aw <| Ac <| Af <| Az <| Ai fun ds => Aa rfl (Ag (A6 rfl <| Ay rfl <| Al rfl <| Ak rfl <| Ar rfl <| Aj rfl)) ?_
     refine Aa rfl (Ag (A6 rfl <| Ay rfl <| Ar rfl <| As rfl hs1)) ?_
     refine Aa rfl (A9 (k := j) Be (Al rfl <| Ad) hl.plain (Ad) hz hjl) ?_
     refine Aa rfl (Ap Bj (Ad) (hl.cell1 hjl rfl)) ?_
     refine Aa rfl (Ae (Ad)) ?_
     refine Ah <| Bb <| Ac <| Ai fun ds => Aa rfl (Ag (A3 rfl <| Ar rfl <| As rfl hs7)) ?_
     refine Aa rfl (Br (Ad) Ab rfl (by omega) (by omega)) ?_
     refine Aa rfl (Ae (Ad)) ?_
     refine Ah <| Ac ⟨_, m - 1, Off.eq (Cr rfl <| Dv rfl <| Dk rfl <| Bd), by omega, ?_⟩
     refine ⟨st + 1, _, by omega, by omega, (Ad), (Ar rfl <| Al rfl <| Ad), ?_, rfl⟩
     rw [C8 hjl]
     by_cases h1 : upN l j = -1
     · rw [if_pos h1] at hstep; exact .inl ⟨h1, by rw [hu, hstep]⟩
     · obtain ⟨k, hk, hkl⟩ := ht.in_.nat hjl h1
       rw [if_neg h1, hk, Int.toNat_natCast] at hstep
       refine .inr ⟨k, hk, hkl, by rw [hu, hstep], ?_⟩
       rw [show l.length - st = (l.length - (st + 1)) + 1 by omega, D6 hk] at hre
       exact hre
  ·
   refine Af <| Af <| Ai fun ds => Aa rfl (Ag (As rfl hs7)) ?_
   refine Aa rfl (Ag (Al rfl <| Ak rfl <| Ar rfl <| Aj rfl)) ?_
   refine Aa rfl (Bk Be (Ad) hl.plain) ?_
   refine Aa rfl (Bw (Ar rfl <| Ad) (Ad)) ?_
   refine Aa rfl (Ag (Ad)) ?_
   refine At rfl rfl (Ad) (.inl (congrArg Value.bool (by first | rfl | exact decide_eq_false (by omega)))) rfl ?_
   refine At rfl rfl (Al rfl <| Ad) (.inl (congrArg Value.bool (by first | rfl | exact decide_eq_false (by omega)))) rfl ?_
   refine At rfl rfl (Ar rfl <| Ad) (.inl (congrArg Value.bool (by first | rfl | exact decide_eq_false (by omega)))) rfl ?_
   refine Aa rfl (A7 (Ar rfl <| Al rfl <| Ad) (by first | rfl | exact decide_eq_false (by omega)) Ab) ?_
   refine Aa rfl (Ag (Ad)) ?_
   refine At rfl rfl (Ad) (.inl (congrArg Value.bool rfl)) rfl ?_
   refine At rfl rfl (Al rfl <| Ad) (.inl (congrArg Value.bool rfl)) rfl ?_
   refine Aa rfl (A7 (Ar rfl <| Ad) rfl Ab) ?_
   refine Ah <| Ac <| Am (Ad) rfl ?_
   rcases hz with ⟨hz, hu⟩ | ⟨j, hz, hjl, hu, hre⟩
   ·
    refine Bn ?_
    refine Ba <| Ba <| Bh <| Ac <| Af <| Ai fun ds => Aa rfl (Ag (A6 rfl <| Ay rfl <| Al rfl <| As rfl hs1)) ?_
    refine Aa rfl (Ag (A6 rfl <| Ay rfl <| Ar rfl <| Ak rfl <| Ar rfl <| Aj rfl)) ?_
    refine Aa rfl (Bs (Al rfl <| Ad) (Ad)) ?_
    refine Aa rfl (Ae (Ad)) ?_
    refine Ah <| Ac <| A4 <| Ax rfl (.tmp (Ad) .nil) ?_
    show _ = _
    rw [hu]; exact congrArg Value.bool (decide_eq_false (by omega))
   ·
    refine Bn ?_
    refine Ba <| Ba <| Bh <| Ac <| Af <| Ai fun ds => Aa rfl (Ag (A6 rfl <| Ay rfl <| Al rfl <| As rfl hs1)) ?_
    refine Aa rfl (Ag (A6 rfl <| Ay rfl <| Ar rfl <| Ak rfl <| Ar rfl <| Aj rfl)) ?_
    refine Aa rfl (Bs (Al rfl <| Ad) (Ad)) ?_
    refine Aa rfl (Ae (Ad)) ?_
    refine Ah <| Ac <| A4 <| Ax rfl (.tmp (Ad) .nil) ?_
    show _ = _
    rw [hu, show l.length - st = 0 by omega]; unfold under; exact congrArg Value.bool (decide_eq_decide.2 (by omega))
set_option maxRecDepth 100000 in
theorem refCan_ok {F : Heap} {vp ve : Value} {ps : List (Value × Edn)} {s : Stm} (hr : StmR F vp ve ps s) (hv : ValidT s) {v : Value} {l : List Int} (hl : Ints F v l) (hll : l.length = s.editions.length) (ht : IsTree l) {x o : Nat} (hx : x < l.length) (ho : o < l.length) : Ok Try.prog 49 [.agg #[vp, ve], v, .int .i64 (x : Int), .int .i64 (o : Int)].toArray F fun u _ => u = .bool (canT s l x o) := by
 have hle0 : F.le F := Heap.le_refl _
 refine Ok.intro Try.func49 rfl Try.ntmps49 rfl fun w0 => ?_
 have hne := hv.ne
 have hux := C8 hx
 by_cases h1 : (o : Int) ≠ upN l x
 ·
  refine Af <| Ai fun ds => Bm rfl (B2 (Aj rfl) rfl fun b1 hb1 nb1 => ?_)
  refine Aa rfl (Ae Ab) ?_
  refine Ah <| Ac <| Af <| Ai fun ds => Aa rfl (Ag (Ar rfl <| Aj rfl)) ?_
  refine Aa rfl (Ag (Ar rfl <| Al rfl <| Aj rfl)) ?_
  refine Aa rfl (Ag (Ay rfl <| Aj rfl)) ?_
  refine Aa rfl (A9 (k := x) Be (Al rfl <| Ad) hl.plain (Ad) rfl hx) ?_
  refine Aa rfl (Ap Bj (Ad) (hl.cell1 hx rfl)) ?_
  refine Aa rfl (By (Ay rfl <| Ad) (Ad)) ?_
  refine Aa rfl (Ag (Ad)) ?_
  refine Au rfl rfl (Ad) (by rw [hux]; exact decide_eq_true h1) ?_
  refine Aa rfl (Ag (A6 rfl <| Al rfl <| Aj rfl)) ?_
  refine Au rfl rfl (Al rfl <| Ad) (by rw [hux]; exact decide_eq_true h1) ?_
  refine Aa rfl (Ag (A6 rfl <| Ar rfl <| Aj rfl)) ?_
  refine Au rfl rfl (Ar rfl <| Ad) (by rw [hux]; exact decide_eq_true h1) ?_
  refine Aa rfl (Ag (A6 rfl <| Ar rfl <| Al rfl <| Aj rfl)) ?_
  refine Au rfl rfl (Ar rfl <| Al rfl <| Ad) (by rw [hux]; exact decide_eq_true h1) ?_
  refine Bx rfl (Bi bd_51 A0 (.cons (Ar rfl <| Ad) (.cons (Al rfl <| Ad) (.cons (Ad) .nil))) (refUnder_ok hl ht ho x) (fun _ _ h => h)) ?_
  refine Au rfl rfl (Ay rfl <| Ad) (by rw [hux]; exact decide_eq_true h1) ?_
  refine Aa rfl (Ci (Ad)) ?_
  refine Aa rfl (A2 (Ay rfl <| Al rfl <| Ad) (by rw [hux]; exact decide_eq_true h1) (Ad)) ?_
  refine Aa rfl (Ag (Ad)) ?_
  by_cases h2 : underB l o x = true
  ·
   refine At rfl rfl (Ad) (.inl (congrArg Value.bool (by rw [h2]; first | done | rfl))) rfl ?_
   refine At rfl rfl (Al rfl <| Ad) (.inl (congrArg Value.bool (by rw [h2]; first | done | rfl))) rfl ?_
   refine At rfl rfl (Ar rfl <| Ad) (.inl (congrArg Value.bool (by rw [h2]; first | done | rfl))) rfl ?_
   refine At rfl rfl (Ar rfl <| Al rfl <| Ad) (.inl (congrArg Value.bool (by rw [h2]; first | done | rfl))) rfl ?_
   refine At rfl rfl (Ay rfl <| Ad) (.inl (congrArg Value.bool (by rw [h2]; first | done | rfl))) rfl ?_
   refine At rfl rfl (Ay rfl <| Al rfl <| Ad) (.inl (congrArg Value.bool (by rw [h2]; first | done | rfl))) rfl ?_
   refine At rfl rfl (Ay rfl <| Ar rfl <| Ad) (.inl (congrArg Value.bool (by rw [h2]; first | done | rfl))) rfl ?_
   refine At rfl rfl (Ay rfl <| Ar rfl <| Al rfl <| Ad) (.inl (congrArg Value.bool (by rw [h2]; first | done | rfl))) rfl ?_
   refine Aa rfl (A7 (A6 rfl <| Ad) (by rw [h2]; first | done | rfl) Ab) ?_
   refine Aa rfl (Ae (Ad)) ?_
   refine Ah <| Ac <| A4 <| Ax rfl (.tmp (Ad) .nil) ?_
   show _ = _
   unfold canT; rw [h2]; simp [outOf]
  ·
   replace h2 : underB l o x = false := by simpa using h2
   have hdag : Dag s.editions.length (treeE l ++ [(o, x)]) := by rw [← hll]; exact ht.dag2 ho hx h2
   refine Au rfl rfl (Ad) (by rw [h2]; first | done | rfl) ?_
   refine Aa rfl (Bf B0 (A6 rfl <| Ay rfl <| Ar rfl <| Al rfl <| Ad) rfl rfl (A8 0 rfl)) ?_
   refine Au rfl rfl (Al rfl <| Ad) (by rw [h2]; first | done | rfl) ?_
   refine Aa rfl (Ag (A3 rfl <| Al rfl <| Aj rfl)) ?_
   refine Au rfl rfl (Ar rfl <| Ad) (by rw [h2]; first | done | rfl) ?_
   refine Aa rfl (Ag (A3 rfl <| Ar rfl <| Aj rfl)) ?_
   refine Au rfl rfl (Ar rfl <| Al rfl <| Ad) (by rw [h2]; first | done | rfl) ?_
   refine Aa rfl (Ag (A3 rfl <| Ar rfl <| Al rfl <| Aj rfl)) ?_
   refine Au rfl rfl (Ay rfl <| Ad) (by rw [h2]; first | done | rfl) ?_
   refine Aa rfl (q_buildA (s := 1) (offs := [(0, 1), (1, 1)]) (zl := [.int .i64 0, .int .i64 0]) Try.underlying27 (Cx (by kernel_rfl)) zr_27 (.cons (Al rfl <| Ad) rfl (.cons (Ad) rfl .nil)) (by intro i p h; rcases i with _ | _ | i <;> simp at h <;> subst h <;> rfl) (.cons rfl rfl (Nat.le_of_ble_eq_true rfl) (.cons (.here) .nil) (.cons rfl rfl (Nat.le_of_ble_eq_true rfl) (.cons (.next <| .here) .nil) .nil))) ?_
   refine Au rfl rfl (Ay rfl <| Al rfl <| Ad) (by rw [h2]; first | done | rfl) ?_
   refine Bm rfl (x_buildN (offs := [(0, 2)]) (zl := [.int .i64 0, .int .i64 0]) sl_137 zr_27 rfl (.cons (Ad) rfl .nil) (by intro i p h; rcases i with _ | i <;> simp at h <;> subst h <;> rfl) (.cons rfl rfl (Nat.le_of_ble_eq_true rfl) (.cons (.here) (.cons (.next <| .here) .nil)) .nil) (by decide) (by decide) fun b2 hb2 nb2 => ?_)
   refine B8 (i := 0) rfl hb2 .here fun F3 hF4 hz5 => ?_
   replace hr := hr.mono hF4
   replace hl := hl.mono hF4
   have hsl6 := pr_box1 hz5
   refine Au rfl rfl (Ay rfl <| Ar rfl <| Ad) (by rw [h2]; first | done | rfl) ?_
   refine Bm rfl (Ch bd_74 A0 (.cons (Ay rfl <| Al rfl <| Ad) (.cons (Ay rfl <| Ad) (.cons (Ad) .nil))) (earliest_ok hr hv hl hll ht hsl6 hdag) fun v7 F8 hr9 hF10 => ?_)
   have her := hr9
   obtain ⟨a9, k9, c9, rfl, hn9⟩ := her.nil (by omega)
   refine Au rfl rfl (Ay rfl <| Ar rfl <| Al rfl <| Ad) (by rw [h2]; first | done | rfl) ?_
   refine Aa rfl (q_neqNil Try.underlying26 (Ad) Ab) ?_
   refine Aa rfl (A2 (A6 rfl <| Ad) (by rw [h2]; first | done | rfl) (Ad)) ?_
   refine Aa rfl (Ae (Ad)) ?_
   refine Ah <| Ac <| A4 <| Ax rfl (.tmp (Ad) .nil) ?_
   show _ = _
   unfold canT fitsT2; rw [h2, decide_eq_true h1]
   have h8 : a9.isNone = !(fitsE s (treeE l ++ [(o, x)])) := by rw [← hn9]; cases a9 <;> rfl
   rw [h8, Bool.not_not]; rfl
 ·
  refine Af <| Ai fun ds => Bm rfl (B2 (Aj rfl) rfl fun b11 hb11 nb11 => ?_)
  refine Aa rfl (Ae Ab) ?_
  refine Ah <| Ac <| Af <| Ai fun ds => Aa rfl (Ag (Ar rfl <| Aj rfl)) ?_
  refine Aa rfl (Ag (Ar rfl <| Al rfl <| Aj rfl)) ?_
  refine Aa rfl (Ag (Ay rfl <| Aj rfl)) ?_
  refine Aa rfl (A9 (k := x) Be (Al rfl <| Ad) hl.plain (Ad) rfl hx) ?_
  refine Aa rfl (Ap Bj (Ad) (hl.cell1 hx rfl)) ?_
  refine Aa rfl (By (Ay rfl <| Ad) (Ad)) ?_
  refine Aa rfl (Ag (Ad)) ?_
  refine At rfl rfl (Ad) (.inl (congrArg Value.bool (by rw [hux]; exact decide_eq_false h1))) rfl ?_
  refine At rfl rfl (Al rfl <| Ad) (.inl (congrArg Value.bool (by rw [hux]; exact decide_eq_false h1))) rfl ?_
  refine At rfl rfl (Ar rfl <| Ad) (.inl (congrArg Value.bool (by rw [hux]; exact decide_eq_false h1))) rfl ?_
  refine At rfl rfl (Ar rfl <| Al rfl <| Ad) (.inl (congrArg Value.bool (by rw [hux]; exact decide_eq_false h1))) rfl ?_
  refine At rfl rfl (Ay rfl <| Ad) (.inl (congrArg Value.bool (by rw [hux]; exact decide_eq_false h1))) rfl ?_
  refine Aa rfl (A7 (Ay rfl <| Al rfl <| Ad) (by rw [hux]; exact decide_eq_false h1) Ab) ?_
  refine Aa rfl (Ag (Ad)) ?_
  refine At rfl rfl (Ad) (.inl (congrArg Value.bool rfl)) rfl ?_
  refine At rfl rfl (Al rfl <| Ad) (.inl (congrArg Value.bool rfl)) rfl ?_
  refine At rfl rfl (Ar rfl <| Ad) (.inl (congrArg Value.bool rfl)) rfl ?_
  refine At rfl rfl (Ar rfl <| Al rfl <| Ad) (.inl (congrArg Value.bool rfl)) rfl ?_
  refine At rfl rfl (Ay rfl <| Ad) (.inl (congrArg Value.bool rfl)) rfl ?_
  refine At rfl rfl (Ay rfl <| Al rfl <| Ad) (.inl (congrArg Value.bool rfl)) rfl ?_
  refine At rfl rfl (Ay rfl <| Ar rfl <| Ad) (.inl (congrArg Value.bool rfl)) rfl ?_
  refine At rfl rfl (Ay rfl <| Ar rfl <| Al rfl <| Ad) (.inl (congrArg Value.bool rfl)) rfl ?_
  refine Aa rfl (A7 (A6 rfl <| Ad) rfl Ab) ?_
  refine Aa rfl (Ae (Ad)) ?_
  refine Ah <| Ac <| A4 <| Ax rfl (.tmp (Ad) .nil) ?_
  show _ = _
  unfold canT; rw [decide_eq_false h1]; rfl
set_option maxRecDepth 100000 in
theorem refSaves_ok {F : Heap} {vp ve : Value} {ps : List (Value × Edn)} {s : Stm} (hr : StmR F vp ve ps s) (hv : ValidT s) {v : Value} {l : List Int} (hl : Ints F v l) (hll : l.length = s.editions.length) (ht : IsTree l) {x o : Nat} (hx : x < l.length) (ho : o < l.length) (hux : upN l x ≠ -1) : Ok Try.prog 50 [.agg #[vp, ve], v, .int .i64 (x : Int), .int .i64 (o : Int)].toArray F fun u _ => u = .int .i64 (savesN s l x o) := by
 have hle0 : F.le F := Heap.le_refl _
 refine Ok.intro Try.func50 rfl Try.ntmps50 rfl fun w0 => ?_
 have hne := hv.ne
 have hnp := hv.np
 have hlen := hr.len
 obtain ⟨y, hy, hyl⟩ := ht.in_.nat hx hux
 have hlx : l[x] = (y : Int) := by rw [C8 hx, hy]
 have hyn : (upN l x).toNat = y := by omega
 have hol : (ownL s l x).length ≤ s.places.length := Dq
 have hxp : x < ps.length := by omega
 have hop : o < ps.length := by omega
 have hrx := hr.rd hxp
 have hro := hr.rd hop
 refine Af <| Ai fun ds => Bm rfl (B2 (Aj rfl) rfl fun b1 hb1 nb1 => ?_)
 refine Aa rfl (Ae Ab) ?_
 refine Ah <| Ac <| Af ?_
 have hleS := hle0
 refine Cv (.inl rfl) (fun _ _ h => h) (.cons_cons _ <| .refl _) [] (by kernel_rfl) fun ds => ?_
 refine A5 0 rfl (by kernel_rfl) (by kernel_rfl) (by kernel_rfl) (by kernel_rfl) rfl rfl (fun _ h => h.drop (.cons_cons _ <| .refl _)) (fun _ _ _ h => h) (Bf B0 (Al rfl <| Ad) rfl rfl (A8 0 rfl)) ?_
 refine A5 1 rfl (by kernel_rfl) (by kernel_rfl) (by kernel_rfl) (by kernel_rfl) rfl rfl (fun _ h => h.drop (.cons_cons _ <| .refl _)) (fun _ _ _ h => h) (Ag (Ar rfl <| Al rfl <| Aj rfl)) ?_
 refine A5 2 rfl (by kernel_rfl) (by kernel_rfl) (by kernel_rfl) (by kernel_rfl) rfl rfl (fun _ h => h.drop (.cons_cons _ <| .refl _)) (fun _ _ _ h => h) (Ag (Ay rfl <| Aj rfl)) ?_
 refine A5 3 rfl (by kernel_rfl) (by kernel_rfl) (by kernel_rfl) (by kernel_rfl) rfl rfl (fun _ h => h.drop (.cons_cons _ <| .refl _)) (fun _ _ _ h => h) (A9 (k := x) Be (Al rfl <| Ad) hl.plain (Ad) rfl hx) ?_
 refine A5 4 rfl (by kernel_rfl) (by kernel_rfl) (by kernel_rfl) (by kernel_rfl) rfl rfl (fun _ h => h.drop (.cons_cons _ <| .refl _)) (fun _ _ _ h => h) (Ap Bj (Ad) (show Cell _ (addc (base v) (x * 1)) (.int .i64 (y : Int)) by rw [← hlx]; exact hl.int hx)) ?_
 refine A5 5 rfl (by kernel_rfl) (by kernel_rfl) (by kernel_rfl) (by kernel_rfl) rfl rfl (fun _ h => h.drop (.cons_cons _ <| .refl _)) (fun _ _ _ h => h) (Ag (Ay rfl <| Ar rfl <| Al rfl <| Aj rfl)) ?_
 refine Dz 6 rfl (by kernel_rfl) rfl (Ch bd_67 A0 (.cons (Ay rfl <| Al rfl <| Ad) (.cons (Al rfl <| Ad) (.cons (Ad) .nil))) ((refPlaces_ok hr hv (a := y) (b := x) (by omega) (by omega))) fun v2 F3 hr4 hF5 => ⟨fun _ _ _ h => (h.drop (.cons_cons _ <| .refl _)).weak hF5 hleS, ?_⟩)
 replace hr := hr.mono hF5
 replace hrx := hrx.mono hF5
 replace hro := hro.mono hF5
 have hap := hr4
 rw [← hyn] at hap
 change Nats _ _ (ownL s l x) at hap
 refine A5 7 rfl (by kernel_rfl) (by kernel_rfl) (by kernel_rfl) (by kernel_rfl) rfl rfl (fun _ h => (h.drop (.cons_cons _ <| .refl _)).weak hF5 hleS) (fun _ _ _ h => h) (Ae (Ad)) ?_
 refine Ct (by kernel_rfl) ?_ _
 refine Ac <| Af <| Ai fun ds => Aa rfl (Ae Ab) ?_
 refine Ah <| Ac <| Af <| Af <| Ai fun ds => Aa rfl (Ae Ab) ?_
 refine Ah <| Ac <| Az <| Bu [10, 11, 19, 20, 21, 22, 23, 24, 25, 26, 27, 28, 29, 30, 31, 32, 33, 34, 35, 36, 37, 38, 39, 40, 41, 42, 43, 44, 45, 46, 47, 48, 49, 50, 51] (fun m e σ => ∃ q : Nat, m + q = (ownL s l x).length ∧ e 11 = .int .i64 (q : Int) ∧ e 10 = .int .i64 (savesTo s (ownL s l x) x o q) ∧ σ = ⟨F3, [(b1, bx 25 [vp, ve])]⟩) ((ownL s l x).length) ?_ ?_
 · exact ⟨0, by omega, (Ad), (Al rfl <| Ad), rfl⟩
 ·
  rintro m e _ ⟨q, hm, hs11, hs10, rfl⟩
  by_cases hlq : q < (ownL s l x).length
  ·
   have hpn : (ownL s l x)[q] < s.places.length := selN_lt _ (List.getElem_mem hlq)
   have hpk : (ownL s l x)[q] < (s.ed o).rd.length := by rw [hv.rdl o (by omega)]; exact hpn
   have hpx : (ownL s l x)[q] < (s.ed x).rd.length := by rw [hv.rdl x (by omega)]; exact hpn
   have er1 := C3 hpk
   have er2 := C3 hpx
   have hsb := savesTo_bound (s := s) (own := (ownL s l x)) (x := x) (o := o) (k := q)
   refine Af <| Af <| Ai fun ds => Aa rfl (Ag (As rfl hs11)) ?_
   refine Aa rfl (Ag (Al rfl <| Ak rfl <| Ar rfl <| Ad)) ?_
   refine Aa rfl (Bk Be (Ad) hap.plain) ?_
   refine Aa rfl (Bw (Ar rfl <| Ad) (Ad)) ?_
   refine Ah <| Ac <| Aq (Ad) (by first | rfl | exact decide_eq_true (by omega)) ?_
   by_cases hsh : sharedB s x o (ownL s l x)[q] = true
   ·
    refine Aw <| Ac <| Af <| Az <| Af <| Cu (.inl rfl) (fun _ _ h => h) (by kernel_rfl) (by kernel_rfl) fun ds => ?_
    refine Bc rfl (Ao Bv (Ay rfl <| Ak rfl <| A6 rfl <| Ar rfl <| Al rfl <| Ad)) ?_
    refine Bc rfl (Ap Bz (Ad) (Cell.own 0 rfl rfl)) ?_
    refine Bc rfl (Ag (Ay rfl <| Ar rfl <| Ak rfl <| A6 rfl <| Ay rfl <| Aj rfl)) ?_
    refine Bc rfl (A9 (k := o) B5 (Al rfl <| Ad) hr.eds.plain (Ad) rfl hop) ?_
    refine Bc rfl (Bo Ca (Ad)) ?_
    refine Bc rfl (Ap Cb (Ad) (hr.eds.cell hop rfl)) ?_
    refine Bc rfl (Ag (A6 rfl <| Ar rfl <| Ak rfl <| Ar rfl <| Ad)) ?_
    refine Bc rfl (Ag (A6 rfl <| Ar rfl <| Al rfl <| As rfl hs11)) ?_
    refine Bc rfl (A9 (k := q) Be (Al rfl <| Ad) hap.plain (Ad) rfl hlq) ?_
    refine Bc rfl (Ap Bj (Ad) (hap.cell1 hlq rfl)) ?_
    refine Bc rfl (A9 (k := (ownL s l x)[q]) Be (Ay rfl <| Ad) hro.plain (Ad) rfl hpk) ?_
    refine Bc rfl (Ap Bj (Ad) (hro.cell1 hpk rfl)) ?_
    refine Bc rfl (Ao Bv (A3 rfl <| Ak rfl <| A6 rfl <| Ar rfl <| Al rfl <| Ad)) ?_
    refine Bc rfl (Ap Bz (Ad) (Cell.own 0 rfl rfl)) ?_
    refine Bc rfl (Ag (A3 rfl <| Ar rfl <| Ak rfl <| A6 rfl <| Ay rfl <| Aj rfl)) ?_
    refine Bc rfl (A9 (k := x) B5 (Al rfl <| Ad) hr.eds.plain (Ad) rfl hxp) ?_
    refine Bc rfl (Bo Ca (Ad)) ?_
    refine Bc rfl (Ap Cb (Ad) (hr.eds.cell hxp rfl)) ?_
    refine Bc rfl (Ag (A3 rfl <| Ay rfl <| Ar rfl <| Ak rfl <| Ar rfl <| Ad)) ?_
    refine Bc rfl (Ag (A3 rfl <| Ay rfl <| Ar rfl <| Al rfl <| As rfl hs11)) ?_
    refine Bc rfl (A9 (k := q) Be (Al rfl <| Ad) hap.plain (Ad) rfl hlq) ?_
    refine Bc rfl (Ap Bj (Ad) (hap.cell1 hlq rfl)) ?_
    refine Bc rfl (A9 (k := (ownL s l x)[q]) Be (Ay rfl <| Ad) hrx.plain (Ad) rfl hpx) ?_
    refine Bc rfl (Ap Bj (Ad) (hrx.cell1 hpx rfl)) ?_
    refine Bc rfl (Bs (A6 rfl <| Ay rfl <| Ad) (Ad)) ?_
    refine C4 ?_
    refine Ac <| Aq (Ad) (by rw [er1, er2]; exact hsh) ?_
    refine Ai fun ds => Aa rfl (Ag (A3 rfl <| A6 rfl <| Ay rfl <| Al rfl <| As rfl hs10)) ?_
    refine Aa rfl (Br (Ad) Ab rfl (by omega) (by omega)) ?_
    refine Aa rfl (Ae (Ad)) ?_
    refine Ah <| Bb <| Ac <| Ai fun ds => Aa rfl (Ag (Bp rfl <| As rfl hs11)) ?_
    refine Aa rfl (Br (Ad) Ab rfl (by omega) (by omega)) ?_
    refine Aa rfl (Ae (Ad)) ?_
    refine Ah <| Ac ⟨_, m - 1, Off.eq (ou32 rfl <| ou2 rfl <| Dk rfl <| Bd), by omega, ?_⟩
    exact ⟨q + 1, by omega, (Ad), ((Ar rfl <| Al rfl <| Ad)).trans (by rw [savesTo_succ hlq, if_pos hsh]), rfl⟩
   ·
    replace hsh : sharedB s x o (ownL s l x)[q] = false := by simpa using hsh
    refine Aw <| Ac <| Af <| Az <| Af <| Cu (.inl rfl) (fun _ _ h => h) (by kernel_rfl) (by kernel_rfl) fun ds => ?_
    refine Bc rfl (Ao Bv (Ay rfl <| Ak rfl <| A6 rfl <| Ar rfl <| Al rfl <| Ad)) ?_
    refine Bc rfl (Ap Bz (Ad) (Cell.own 0 rfl rfl)) ?_
    refine Bc rfl (Ag (Ay rfl <| Ar rfl <| Ak rfl <| A6 rfl <| Ay rfl <| Aj rfl)) ?_
    refine Bc rfl (A9 (k := o) B5 (Al rfl <| Ad) hr.eds.plain (Ad) rfl hop) ?_
    refine Bc rfl (Bo Ca (Ad)) ?_
    refine Bc rfl (Ap Cb (Ad) (hr.eds.cell hop rfl)) ?_
    refine Bc rfl (Ag (A6 rfl <| Ar rfl <| Ak rfl <| Ar rfl <| Ad)) ?_
    refine Bc rfl (Ag (A6 rfl <| Ar rfl <| Al rfl <| As rfl hs11)) ?_
    refine Bc rfl (A9 (k := q) Be (Al rfl <| Ad) hap.plain (Ad) rfl hlq) ?_
    refine Bc rfl (Ap Bj (Ad) (hap.cell1 hlq rfl)) ?_
    refine Bc rfl (A9 (k := (ownL s l x)[q]) Be (Ay rfl <| Ad) hro.plain (Ad) rfl hpk) ?_
    refine Bc rfl (Ap Bj (Ad) (hro.cell1 hpk rfl)) ?_
    refine Bc rfl (Ao Bv (A3 rfl <| Ak rfl <| A6 rfl <| Ar rfl <| Al rfl <| Ad)) ?_
    refine Bc rfl (Ap Bz (Ad) (Cell.own 0 rfl rfl)) ?_
    refine Bc rfl (Ag (A3 rfl <| Ar rfl <| Ak rfl <| A6 rfl <| Ay rfl <| Aj rfl)) ?_
    refine Bc rfl (A9 (k := x) B5 (Al rfl <| Ad) hr.eds.plain (Ad) rfl hxp) ?_
    refine Bc rfl (Bo Ca (Ad)) ?_
    refine Bc rfl (Ap Cb (Ad) (hr.eds.cell hxp rfl)) ?_
    refine Bc rfl (Ag (A3 rfl <| Ay rfl <| Ar rfl <| Ak rfl <| Ar rfl <| Ad)) ?_
    refine Bc rfl (Ag (A3 rfl <| Ay rfl <| Ar rfl <| Al rfl <| As rfl hs11)) ?_
    refine Bc rfl (A9 (k := q) Be (Al rfl <| Ad) hap.plain (Ad) rfl hlq) ?_
    refine Bc rfl (Ap Bj (Ad) (hap.cell1 hlq rfl)) ?_
    refine Bc rfl (A9 (k := (ownL s l x)[q]) Be (Ay rfl <| Ad) hrx.plain (Ad) rfl hpx) ?_
    refine Bc rfl (Ap Bj (Ad) (hrx.cell1 hpx rfl)) ?_
    refine Bc rfl (Bs (A6 rfl <| Ay rfl <| Ad) (Ad)) ?_
    refine C4 ?_
    refine Ac <| Am (Ad) (by rw [er1, er2]; exact hsh) ?_
    refine Aw <| Bb <| Ac <| Ai fun ds => Aa rfl (Ag (A3 rfl <| A6 rfl <| Ay rfl <| Al rfl <| As rfl hs11)) ?_
    refine Aa rfl (Br (Ad) Ab rfl (by omega) (by omega)) ?_
    refine Aa rfl (Ae (Ad)) ?_
    refine Ah <| Ac ⟨_, m - 1, Off.eq (ou32 rfl <| Bd), by omega, ?_⟩
    exact ⟨q + 1, by omega, (Ad), ((Bp rfl <| As rfl hs10)).trans (by rw [savesTo_succ hlq, if_neg (by rw [hsh]; simp)]), rfl⟩
  ·
   refine Af <| Af <| Ai fun ds => Aa rfl (Ag (As rfl hs11)) ?_
   refine Aa rfl (Ag (Al rfl <| Ak rfl <| Ar rfl <| Ad)) ?_
   refine Aa rfl (Bk Be (Ad) hap.plain) ?_
   refine Aa rfl (Bw (Ar rfl <| Ad) (Ad)) ?_
   refine Ah <| Ac <| Am (Ad) (by first | rfl | exact decide_eq_false (by omega)) ?_
   obtain rfl : q = (ownL s l x).length := by omega
   refine Bn ?_
   refine Ba <| Ba <| Bh <| Ac <| Af <| Ai fun ds => Aa rfl (Ag (Ay rfl <| As rfl hs10)) ?_
   refine Aa rfl (Ae (Ad)) ?_
   refine Ah <| Ac <| A4 <| Ax rfl (.tmp (Ad) .nil) ?_
   show _ = _
   rw [Eq]; rfl
end Go.Proofs.Ytccogmkhijgelaa
namespace Go.Proofs.Ytccogmkhijgelaa
open Go.RowKit
def slZ (p : Value × List Int) : List Value := [p.1]
def AllZ (F : Heap) (ps : List (Value × List Int)) : Prop := ∀ p ∈ ps, Ints F p.1 p.2
def LstZ (F : Heap) (v : Value) (ls : List (List Int)) : Prop := ∃ ps : List (Value × List Int), Sl F v 1 slZ ps ∧ AllZ F ps ∧ ps.map (·.2) = ls
theorem AllZ.mono {F F' : Heap} {ps : List (Value × List Int)} (h : AllZ F ps) (hF : F.le F') : AllZ F' ps := fun p hp => (h p hp).mono hF
theorem LstZ.mono {F F' : Heap} {v : Value} {ls : List (List Int)} (h : LstZ F v ls) (hF : F.le F') : LstZ F' v ls := by
 obtain ⟨ps, h1, h2, h3⟩ := h
 exact ⟨ps, h1.mono hF, h2.mono hF, h3⟩
theorem AllZ.one {F : Heap} {ps : List (Value × List Int)} (h : AllZ F ps) : ∀ x ∈ ps, ∀ u ∈ slZ x, u.oneCell' = true := fun x hx u hu => by
 simp only [slZ, List.mem_cons, List.not_mem_nil, or_false] at hu
 subst hu; exact (h x hx).plain.one
theorem AllZ.add {F : Heap} {ps qs : List (Value × List Int)} (h : AllZ F ps) (h2 : AllZ F qs) : AllZ F (ps ++ qs) := fun p hp => (List.mem_append.1 hp).elim (h p) (h2 p)
theorem AllZ.snoc {F : Heap} {ps : List (Value × List Int)} {v : Value} {l : List Int} (h : AllZ F ps) (h2 : Ints F v l) : AllZ F (ps ++ [(v, l)]) := h.add fun p hp => by simp at hp; subst hp; exact h2
theorem AllZ.nil {F : Heap} : AllZ F [] := fun _ hp => nomatch hp
theorem flat_sndZ {ps qs : List (Value × List Int)} : (ps ++ qs).flatMap slZ = ps.flatMap slZ ++ qs.flatMap slZ := List.flatMap_append
theorem lstz_box1 {F : Heap} {b T : Nat} {v : Value} (h : F b = some (bx T [v])) : ∀ l : List Int, Ints F v l → LstZ F (.slice (some ⟨b, 0, none⟩) 1 1) [l] := fun l hv =>
 ⟨[(v, l)], sl_box (xs := [(v, l)]) h rfl rfl (fun _ => rfl) (by decide), AllZ.nil.snoc hv, rfl⟩
theorem LstZ.nil {F : Heap} : LstZ F (.slice none 0 0) [] := ⟨[], Sl.nil, AllZ.nil, rfl⟩
section
variable {s : Stm} {p r j : Nat} {b : List Int}
def filTo (s : Stm) (p r : Nat) (b : List Int) (j : Nat) : List (List Int) := (([1, 2, 3] : List Int).take j).flatMap fun n => if fitR s p b.length n then fillF s p r (b ++ [n]) else []
theorem filTo_end : filTo s p r b 3 = fillF s p (r + 1) b := rfl
theorem filTo_succ (hj : j < 3) : filTo s p r b (j + 1) = filTo s p r b j ++ if fitR s p b.length ((j : Int) + 1) then fillF s p r (b ++ [(j : Int) + 1]) else [] := by
 unfold filTo
 match j, hj with
 | 0, _ => simp
 | 1, _ => simp
 | 2, _ => simp
theorem filTo_yes (hj : j < 3) (h : fitR s p b.length ((j : Int) + 1)) : filTo s p r b (j + 1) = filTo s p r b j ++ fillF s p r (b ++ [(j : Int) + 1]) := by rw [filTo_succ hj, if_pos h]
theorem filTo_no (hj : j < 3) (h : ¬ fitR s p b.length ((j : Int) + 1)) : filTo s p r b (j + 1) = filTo s p r b j := by rw [filTo_succ hj, if_neg h, List.append_nil]
theorem fill_len : ∀ {r : Nat} {b : List Int}, (fillF s p r b).length ≤ 3 ^ r
 | 0, b => by simp [fillF]
 | r + 1, b => by
   have h : ∀ n : Int, (if fitR s p b.length n then fillF s p r (b ++ [n]) else []).length ≤ 3 ^ r := fun n => by
     split
     · exact fill_len
     · simp
   have h1 := h 1
   have h2 := h 2
   have h3 := h 3
   unfold fillF
   simp only [List.flatMap_cons, List.flatMap_nil, List.length_append, List.length_nil]
   rw [Nat.pow_succ]
   omega
theorem filTo_len (hj : j ≤ 3) : (filTo s p r b j).length ≤ 3 ^ r * 3 := by
 rw [← Nat.pow_succ]
 refine Nat.le_trans ?_ (fill_len (s := s) (p := p) (r := r + 1) (b := b))
 rw [← filTo_end]
 match j, hj with
 | 0, _ => simp [filTo]
 | 1, _ => rw [filTo_succ (j := 2) (by omega), filTo_succ (j := 1) (by omega), List.length_append, List.length_append]; omega
 | 2, _ => rw [filTo_succ (j := 2) (by omega), List.length_append]; omega
 | 3, _ => exact Nat.le_refl _
theorem Et (hr : r ≤ 5) : (fillF s p r b).length ≤ 243 := Nat.le_trans fill_len (Nat.pow_le_pow_right (n := 3) (by omega) hr)
theorem filTo_len5 (hr : r ≤ 5) (hj : j ≤ 3) : (filTo s p r b j).length ≤ 729 := by
 have h1 := filTo_len (s := s) (p := p) (r := r) (b := b) hj
 have h2 : 3 ^ r ≤ 3 ^ 5 := Nat.pow_le_pow_right (by omega) hr
 omega
theorem D3 {α β : Type} {f : α → β} {l : List α} {m : List β} (h : l.map f = m) : l.length = m.length := by rw [← h, List.length_map]
theorem fitR_known (h0 : s.r b.length p ≠ 0) : fitR s p b.length ((j : Int) + 1) ↔ s.r b.length p = (j : Int) + 1 := ⟨fun h => h.resolve_left h0, .inr⟩
end
section
variable {s : Stm} {l xs : List Int} {p i : Nat}
def leastTo (s : Stm) (l : List Int) (p k : Nat) : Int := ((allFill s p).take k).foldl (fun m xs => min m (countL s l p xs)) 1000
theorem leastTo_succ (h : i < (allFill s p).length) : leastTo s l p (i + 1) = min (leastTo s l p i) (countL s l p (allFill s p)[i]) := by
 unfold leastTo; rw [List.take_succ_eq_append_getElem h, List.foldl_append]; rfl
theorem leastTo_end (h : (allFill s p).length ≤ i) : leastTo s l p i = leastL s l p := by unfold leastTo leastL; rw [List.take_of_length_le h]
theorem possB_no (hi : i < l.length) (h : possAt s l p (upN xs) i = false) : countL s l p xs = 1000 := by
 unfold countL
 rw [if_neg]
 unfold possB
 rw [List.all_eq_true]
 intro h2
 have := h2 i (List.mem_range.2 hi)
 rw [h] at this; cases this
theorem possB_yes (h : ∀ i, i < l.length → possAt s l p (upN xs) i = true) : countL s l p xs = changesOf l (upN xs) := by
 unfold countL
 rw [if_pos]
 unfold possB
 rw [List.all_eq_true]
 intro i hi
 exact h i (List.mem_range.1 hi)
theorem poss_root (hu : upN l i = -1) : possAt s l p (upN xs) i = true := by unfold possAt; rw [decide_eq_true hu]; rfl
theorem poss_free (hk : freeP s p = true) : possAt s l p (upN xs) i = true := by unfold possAt; rw [hk]; simp
theorem poss_ge {k : Nat} (hu : upN l i = (k : Int)) (h : ¬ upN xs i < upN xs k) : possAt s l p (upN xs) i = true := by
 unfold possAt
 rw [hu, Int.toNat_natCast]
 by_cases e : upN xs k = upN xs i
 · rw [decide_eq_true e]; simp
 · rw [decide_eq_true (show upN xs k < upN xs i by omega)]; simp
theorem poss_lt {k : Nat} (hu : upN l i = (k : Int)) (hk : freeP s p = false) (h : upN xs i < upN xs k) : possAt s l p (upN xs) i = false := by
 unfold possAt
 rw [hu, Int.toNat_natCast, hk, decide_eq_false (show ¬ (k : Int) = -1 by omega), decide_eq_false (show ¬ upN xs k = upN xs i by omega), decide_eq_false (show ¬ upN xs k < upN xs i by omega)]
 rfl
theorem free_no (h : (s.pl p).kind = 1) : freeP s p = false := by unfold freeP; rw [h]; rfl
theorem free_yes (hv : ValidT s) (hp : p < s.places.length) (h : (s.pl p).kind ≠ 1) : freeP s p = true := by
 have := hv.kind p hp
 exact decide_eq_true (by omega)
theorem sum_chg_bound {g : Nat → Int} {k : Nat} : 0 ≤ sumN k (chg l g) ∧ sumN k (chg l g) ≤ k := by
 induction k with
 | zero => exact ⟨Int.le_refl _, Int.le_refl _⟩
 | succ k ih =>
   have := chg_bound (l := l) (g := g) (k := k)
   show 0 ≤ sumN k _ + _ ∧ sumN k _ + _ ≤ _
   omega
theorem chg_root {g : Nat → Int} (hu : upN l i = -1) : chg l g i = 0 := if_pos hu
theorem chg_same {g : Nat → Int} {k : Nat} (hu : upN l i = (k : Int)) (h : g k = g i) : chg l g i = 0 := by rw [chg_at hu, if_pos h]
theorem chg_not {g : Nat → Int} {k : Nat} (hu : upN l i = (k : Int)) (h : g k ≠ g i) : chg l g i = 1 := by rw [chg_at hu, if_neg h]
theorem sum_least_bound {k : Nat} : 0 ≤ sumN k (leastL s l) ∧ sumN k (leastL s l) ≤ 1000 * k := by
 induction k with
 | zero => exact ⟨Int.le_refl _, Int.le_refl _⟩
 | succ k ih =>
   have := Dh (s := s) (l := l) (p := k)
   show 0 ≤ sumN k _ + _ ∧ sumN k _ + _ ≤ _
   omega
theorem costL_fits (h : fitsT s l = true) : costL s l = min (sumN s.places.length (leastL s l)) 1000 := if_pos h
theorem costL_no (h : fitsT s l = false) : costL s l = 1000 := if_neg (by unfold fitsT at h; rw [h]; simp)
end
section
variable {s : Stm} {l : List Int} {r i : Nat} {lo hi : Nat → Int}
end
end Go.Proofs.Ytccogmkhijgelaa
