/-
  A part of a proof: TopFolios returns true of any press, any room and whatever is shelved, and leaves what it is handed as it was.
-/
import Derived.Test.YtkjfmibiinfhfaaGreatPad
namespace Go.Proofs.YtkjfmibiinfhfaaGreat
set_option synthInstance.maxSize 4000
set_option synthInstance.maxHeartbeats 1000000
section
set_option maxRecDepth 100000
open Go.RowKit
theorem bd_15 : Body Tryz.prog 15 := AB (by kernel_rfl)
theorem bd_16 : Body Tryz.prog 16 := AB (by kernel_rfl)
def fnames (p : Prs) (k : Nat) : List ByteArray := (p.formats.take k).map (·.name)
def pnames (p : Prs) (k : Nat) : List ByteArray := (p.papers.take k).map (·.name)
theorem Pf {p : Prs} {k : Nat} (h : k < p.formats.length) : fnames p (k + 1) = fnames p k ++ [p.formats[k].name] := by unfold fnames; rw [List.take_succ_eq_append_getElem h, List.map_append]; rfl
theorem Oy {p : Prs} {k : Nat} (h : k < p.papers.length) : pnames p (k + 1) = pnames p k ++ [p.papers[k].name] := by unfold pnames; rw [List.take_succ_eq_append_getElem h, List.map_append]; rfl
theorem Q3 {p : Prs} {k : Nat} (h : k ≤ p.formats.length) : (fnames p k).length = k := by simp [fnames]; omega
theorem Qa {p : Prs} {k : Nat} (h : k ≤ p.papers.length) : (pnames p k).length = k := by simp [pnames]; omega
theorem Lr {p : Prs} {k : Nat} (hk : k < p.formats.length) : fmtErr p k = if freshE p.formats[k].name (fnames p k) ≠ 0 then freshE p.formats[k].name (fnames p k) else if inB 1 4 p.formats[k].folds.size = false then 3 else if foldsB p.formats[k].folds = false then 6 else 0 := Do hk
theorem KT {p : Prs} {k : Nat} (hk : k < p.papers.length) : pprErr p k = if freshE p.papers[k].name (pnames p k) ≠ 0 then freshE p.papers[k].name (pnames p k) else spansE 1 2000 p.papers[k].wlo p.papers[k].whi p.papers[k].hlo p.papers[k].hhi := Fz hk
theorem Ew {F : Heap} {vf vp : Value} {p : Prs} (hr : PrsR F vf vp p) : Ok Tryz.prog 4 [prsV vf vp p].toArray F fun r _ => r = checkFV p := by
 refine Ok.intro Tryz.func4 rfl Tryz.ntmps4 rfl fun w0 => ?_
 have hL1 := hr.formats.plain.lt
 have hL2 := hr.papers.plain.lt
 by_cases h1 : inB 1 6 p.formats.length = true
 ·have hp6 : p.formats.length ≤ 6 := by have h := h1; rw [BZ] at h; omega
  refine Ac <| Aj fun ds => A5 rfl <| AX Aa rfl fun b1 hb1 nb1 => Aw (Ag 3) <| Ac <| Ax (Ag 2) fun ds => Ad rfl (AA Cc Aa hr.formats.plain) <| AE rfl (As Eo Aa AO (C9 _ _ _) (fun _ _ h => h)) <| Aw (Ag 1) <| Ae Aa (by rw [h1]; rfl) <| Ak <| Ab <| AD (Ag 1) <| Ac <| AD (Ag 1) <| Aq ?_
  refine AH [2, 3, 4, 5, 6, 7, 15, 16, 17, 18, 19, 20, 21, 22, 23, 24, 25, 26, 27, 28, 29, 30, 31, 32, 33, 34, 35, 36, 37, 38, 39, 40, 41, 42, 43, 44, 45, 46, 47, 48, 49, 50, 51] (fun m e σ => ∃ k : Nat, m + k = p.formats.length ∧ Fct e 6 (.int .i64 (k : Int)) ∧ ∃ (v : Value) (R : List (Nat × Obj)), Fct e 5 v ∧ Own 9 1 v (fnames p k).length ((fnames p k).flatMap strE) R ∧ σ = ⟨F, (b1, bx 25 [vf, vp, .int .i64 p.trim, .int .i64 p.sheets]) :: R⟩ ∧ ∀ j, j < k → fmtErr p j = 0) (p.formats.length) ?_ ?_
  · exact ⟨0, by omega, Ba, _, _, Ba, Own.nil, rfl, fun j h => absurd h (by omega)⟩
  rintro m e _ ⟨k, hm, hs6, v4, R4, hs5, ho, rfl, hno⟩
  by_cases hlt : k < p.formats.length
  ·have hnl := Q3 (Nat.le_of_lt hlt)
   refine Ac <| Ax (Ag 3) fun ds => Ad rfl (AA Cc Aa hr.formats.plain) <| Aw (Ag 1) <| Ah Aa (by first | rfl | exact dT (by omega)) ?_
   by_cases hf : freshE p.formats[k].name (fnames p k) = 0
   ·refine Ak <| Ab <| Ac <| Aq <| Ax (Ag 3) fun ds => Ad rfl (A1 (k := k) Cc Aa hr.formats.plain Aa rfl hlt) <| Ao (Ag 1) <| Ad rfl (Ap BU Aa (hr.formats.cell hlt rfl)) <| Ao (Ag 1) <| AE rfl (ER Kf Aa AO (fun G _ hG => Ej (ho.sl (fun _ => rfl) (fun p hp => hG p (List.mem_cons_of_mem _ hp)) (by omega)) _) (fun _ _ h => h)) <| Aw (Ag 1) <| Ax (Ag 4) fun ds => Ad rfl (A1 (k := k) Cc Aa hr.formats.plain Aa rfl hlt) <| Ao (Ag 1) <| Ad rfl (Ap BU Aa (hr.formats.cell hlt rfl)) <| A5 rfl <| AS Ds NN rfl (.cons Aa .nil) rfl rfl (by decide) (by simp [Value.oneCell']) fun b3 hb3 nb3 => A5 rfl <| Bd Ds Pq Aa ho Aa (Bv (s := 1) 0 rfl rfl (by simp [Value.oneCell'])) (by omega) (by omega) (.s <| .s <| .z) .last fun v4 R5 ho6 => ?_
    have ho2 := ho6.snoc (x := p.formats[k].name) rfl rfl
    refine Aw (Ag 1) <| Ac <| AD (Ag 2) <| Ah Aa (dT hf) ?_
    by_cases hv : (if inB 1 4 p.formats[k].folds.size = false then (3 : Int) else if foldsB p.formats[k].folds = false then 6 else 0) = 0
    ·refine Aj fun ds => Ao (Ag 3) <| Ad rfl (A1 (k := k) Cc Aa hr.formats.plain Aa rfl hlt) <| Ao (Ag 1) <| Ad rfl (Ap BU Aa (hr.formats.cell hlt rfl)) <| AE rfl (As bd_15 Aa AO (MC _) (fun _ _ h => h)) <| Aw (Ag 1) <| AD (Ag 2) <| Ae Aa (dF (fun h => h hv)) <| Ak <| A4 <| Ab <| Bk (fun _ _ h => h.drop (kD <| kK <| .refl _)) <| Aj fun ds => Ao (Ag 1) <| Ad rfl (AJ Aa Aa rfl (by omega) (by omega)) <| Ao (Ag 1) <| Al ?_
     refine Ab ⟨_, m - 1, Off.eq (DG rfl <| BI rfl <| BF rfl <| BQ rfl <| A3), by omega, ?_⟩
     refine ⟨k + 1, by omega, Ba, _, _, Ba, by rw [Pf hlt]; exact ho2, rfl, fun j hjk => ?_⟩
     rcases Nat.lt_succ_iff_lt_or_eq.1 hjk with hjk | rfl
     · exact hno j hjk
     rw [Lr hlt, if_neg (fun h => h hf)]; exact hv
    refine Aj fun ds => Ao (Ag 3) <| Ad rfl (A1 (k := k) Cc Aa hr.formats.plain Aa rfl hlt) <| Ao (Ag 1) <| Ad rfl (Ap BU Aa (hr.formats.cell hlt rfl)) <| AE rfl (As bd_15 Aa AO (MC _) (fun _ _ h => h)) <| Aw (Ag 1) <| AD (Ag 2) <| Ah Aa (dT hv) <| AD (Ag 5) <| Au ?_
    refine A7 (Ay (Ay (A7 (Ay ?_))))
    refine Am rfl Bi ?_
    have hE : fmtErr p k = (if inB 1 4 p.formats[k].folds.size = false then (3 : Int) else if foldsB p.formats[k].folds = false then 6 else 0) := by rw [Lr hlt, if_neg (fun h => h hf)]
    have hQ := L9 h1 (D7 hlt hno (by rw [hE]; exact hv)) (by rw [hE]; exact hv)
    rw [hE] at hQ
    exact hQ.symm
   refine Ak <| Ab <| Ac <| Aq <| Ax (Ag 3) fun ds => Ad rfl (A1 (k := k) Cc Aa hr.formats.plain Aa rfl hlt) <| Ao (Ag 1) <| Ad rfl (Ap BU Aa (hr.formats.cell hlt rfl)) <| Ao (Ag 1) <| AE rfl (ER Kf Aa AO (fun G _ hG => Ej (ho.sl (fun _ => rfl) (fun p hp => hG p (List.mem_cons_of_mem _ hp)) (by omega)) _) (fun _ _ h => h)) <| Aw (Ag 1) <| Ax (Ag 4) fun ds => Ad rfl (A1 (k := k) Cc Aa hr.formats.plain Aa rfl hlt) <| Ao (Ag 1) <| Ad rfl (Ap BU Aa (hr.formats.cell hlt rfl)) <| A5 rfl <| AS Ds NN rfl (.cons Aa .nil) rfl rfl (by decide) (by simp [Value.oneCell']) fun b7 hb7 nb7 => A5 rfl <| Bd Ds Pq Aa ho Aa (Bv (s := 1) 0 rfl rfl (by simp [Value.oneCell'])) (by omega) (by omega) (.s <| .s <| .z) .last fun v8 R9 ho10 => ?_
   have ho2 := ho10.snoc (x := p.formats[k].name) rfl rfl
   refine Aw (Ag 1) <| Ac <| AD (Ag 2) <| Ae Aa (dF hf) <| Ak <| Ab <| AD (Ag 2) <| Ah Aa (dT hf) <| AD (Ag 5) <| Au ?_
   refine A7 (Ay (Ay (A7 (Ay ?_))))
   refine Am rfl Bi ?_
   have hE : fmtErr p k = freshE p.formats[k].name (fnames p k) := by rw [Lr hlt, if_pos hf]
   have hQ := L9 h1 (D7 hlt hno (by rw [hE]; exact hf)) (by rw [hE]; exact hf)
   rw [hE] at hQ
   exact hQ.symm
  refine Ac <| Ax (Ag 3) fun ds => Ad rfl (AA Cc Aa hr.formats.plain) <| Aw (Ag 1) <| Ae Aa (by first | rfl | exact dF (by omega)) ?_
  have h2 : firstQ p.formats.length (fmtErr p) = (0, 0) := DA fun j hj => hno j (by omega)
  refine Sk (.cons (.here) <| .nil) ?_
  by_cases h3 : inB 1 4 p.papers.length = true
  ·have hp4 : p.papers.length ≤ 4 := by have h := h3; rw [BZ] at h; omega
   refine AG ?_
   refine A2 <| A2 <| A8 <| Ab <| Ac <| Ax (Ag 2) fun ds => Ad rfl (AA Cx Aa hr.papers.plain) <| AE rfl (As Eo Aa AO (C9 _ _ _) (fun _ _ h => h)) <| Aw (Ag 1) <| Ae Aa (by rw [h3]; rfl) <| Ak <| Ab <| AD (Ag 1) <| Ac <| AD (Ag 1) <| Aq ?_
   refine AH [2, 3, 4, 5, 8, 9, 57, 58, 59, 60, 61, 62, 63, 64, 65, 66, 67, 68, 69, 70, 71, 72, 73, 74, 75, 76, 77, 78, 79, 80, 81, 82, 83, 84, 85, 86, 87, 88, 89, 90, 91, 92, 93, 94, 95, 96, 97, 98, 99] (fun m e σ => ∃ k : Nat, m + k = p.papers.length ∧ Fct e 8 (.int .i64 (k : Int)) ∧ ∃ (v : Value) (R : List (Nat × Obj)), Fct e 5 v ∧ Own 9 1 v (pnames p k).length ((pnames p k).flatMap strE) R ∧ σ = ⟨F, (b1, bx 25 [vf, vp, .int .i64 p.trim, .int .i64 p.sheets]) :: R⟩ ∧ ∀ j, j < k → pprErr p j = 0) (p.papers.length) ?_ ?_
   · exact ⟨0, by omega, Ba, _, _, Ba, Own.nil, rfl, fun j h => absurd h (by omega)⟩
   rintro m e _ ⟨k, hm, ht8, v4, R4, ht5, ho, rfl, hno⟩
   by_cases hlt : k < p.papers.length
   ·have hnl := Qa (Nat.le_of_lt hlt)
    refine Ac <| Ax (Ag 3) fun ds => Ad rfl (AA Cx Aa hr.papers.plain) <| Aw (Ag 1) <| Ah Aa (by first | rfl | exact dT (by omega)) ?_
    by_cases hf : freshE p.papers[k].name (pnames p k) = 0
    ·refine Ak <| Ab <| Ac <| Aq <| Ax (Ag 3) fun ds => Ad rfl (A1 (k := k) Cx Aa hr.papers.plain Aa rfl hlt) <| Ao (Ag 1) <| Ad rfl (Ap BU Aa (hr.papers.cell hlt rfl)) <| Ao (Ag 1) <| AE rfl (ER Kf Aa AO (fun G _ hG => Ej (ho.sl (fun _ => rfl) (fun p hp => hG p (List.mem_cons_of_mem _ hp)) (by omega)) _) (fun _ _ h => h)) <| Aw (Ag 1) <| Ax (Ag 4) fun ds => Ad rfl (A1 (k := k) Cx Aa hr.papers.plain Aa rfl hlt) <| Ao (Ag 1) <| Ad rfl (Ap BU Aa (hr.papers.cell hlt rfl)) <| A5 rfl <| AS Ds NN rfl (.cons Aa .nil) rfl rfl (by decide) (by simp [Value.oneCell']) fun b12 hb12 nb12 => A5 rfl <| Bd Ds Pq Aa ho Aa (Bv (s := 1) 0 rfl rfl (by simp [Value.oneCell'])) (by omega) (by omega) (.s <| .s <| .z) .last fun v13 R14 ho15 => ?_
     have ho2 := ho15.snoc (x := p.papers[k].name) rfl rfl
     refine Aw (Ag 1) <| Ac <| AD (Ag 2) <| Ah Aa (dT hf) ?_
     by_cases hv : (spansE 1 2000 p.papers[k].wlo p.papers[k].whi p.papers[k].hlo p.papers[k].hhi) = 0
     ·refine B9 (.inl rfl) (fun _ _ h => h) (by kernel_rfl) (by kernel_rfl) fun ds => Bu (Ag 3) <| Bh rfl (A1 (k := k) Cx Aa hr.papers.plain Aa rfl hlt) <| Bu (Ag 1) <| Bh rfl (A6 (vs := [.int .i64 p.papers[k].wlo, .int .i64 p.papers[k].whi]) BP Aa rfl rfl (hr.papers.part hlt (rest := [.int .i64 p.papers[k].hlo, .int .i64 p.papers[k].hhi]) rfl)) <| Bu (Ag 3) <| Bh rfl (A1 (k := k) Cx Aa hr.papers.plain Aa rfl hlt) <| Bu (Ag 1) <| Bh rfl (A6 (vs := [.int .i64 p.papers[k].hlo, .int .i64 p.papers[k].hhi]) BP Aa rfl rfl (hr.papers.part hlt (rest := []) rfl)) <| E2 rfl (As bd_16 Aa AO (RU _ _ _ _ _ _) (fun _ _ h => h)) <| Bu (Ag 1) <| BS <| Ab <| AD (Ag 2) <| Ae Aa (dF (fun h => h hv)) <| Ak <| A4 <| Ab <| Bk (fun _ _ h => h.drop (kD <| kK <| .refl _)) <| Aj fun ds => Ao (Ag 1) <| Ad rfl (AJ Aa Aa rfl (by omega) (by omega)) <| Ao (Ag 1) <| Al ?_
      refine Ab ⟨_, m - 1, Off.eq (DG rfl <| Ci rfl <| BI rfl <| BQ rfl <| A3), by omega, ?_⟩
      refine ⟨k + 1, by omega, Ba, _, _, Ba, by rw [Oy hlt]; exact ho2, rfl, fun j hjk => ?_⟩
      rcases Nat.lt_succ_iff_lt_or_eq.1 hjk with hjk | rfl
      · exact hno j hjk
      rw [KT hlt, if_neg (fun h => h hf)]; exact hv
     refine B9 (.inl rfl) (fun _ _ h => h) (by kernel_rfl) (by kernel_rfl) fun ds => Bu (Ag 3) <| Bh rfl (A1 (k := k) Cx Aa hr.papers.plain Aa rfl hlt) <| Bu (Ag 1) <| Bh rfl (A6 (vs := [.int .i64 p.papers[k].wlo, .int .i64 p.papers[k].whi]) BP Aa rfl rfl (hr.papers.part hlt (rest := [.int .i64 p.papers[k].hlo, .int .i64 p.papers[k].hhi]) rfl)) <| Bu (Ag 3) <| Bh rfl (A1 (k := k) Cx Aa hr.papers.plain Aa rfl hlt) <| Bu (Ag 1) <| Bh rfl (A6 (vs := [.int .i64 p.papers[k].hlo, .int .i64 p.papers[k].hhi]) BP Aa rfl rfl (hr.papers.part hlt (rest := []) rfl)) <| E2 rfl (As bd_16 Aa AO (RU _ _ _ _ _ _) (fun _ _ h => h)) <| Bu (Ag 1) <| BS <| Ab <| AD (Ag 2) <| Ah Aa (dT hv) <| AD (Ag 5) <| Au ?_
     refine A7 (Ay (Ay (A7 (Ay ?_))))
     refine Am rfl Bi ?_
     have hE : pprErr p k = (spansE 1 2000 p.papers[k].wlo p.papers[k].whi p.papers[k].hlo p.papers[k].hhi) := by rw [KT hlt, if_neg (fun h => h hf)]
     have hQ := L8 h1 h2 h3 (D7 hlt hno (by rw [hE]; exact hv)) (by rw [hE]; exact hv)
     rw [hE] at hQ
     exact hQ.symm
    refine Ak <| Ab <| Ac <| Aq <| Ax (Ag 3) fun ds => Ad rfl (A1 (k := k) Cx Aa hr.papers.plain Aa rfl hlt) <| Ao (Ag 1) <| Ad rfl (Ap BU Aa (hr.papers.cell hlt rfl)) <| Ao (Ag 1) <| AE rfl (ER Kf Aa AO (fun G _ hG => Ej (ho.sl (fun _ => rfl) (fun p hp => hG p (List.mem_cons_of_mem _ hp)) (by omega)) _) (fun _ _ h => h)) <| Aw (Ag 1) <| Ax (Ag 4) fun ds => Ad rfl (A1 (k := k) Cx Aa hr.papers.plain Aa rfl hlt) <| Ao (Ag 1) <| Ad rfl (Ap BU Aa (hr.papers.cell hlt rfl)) <| A5 rfl <| AS Ds NN rfl (.cons Aa .nil) rfl rfl (by decide) (by simp [Value.oneCell']) fun b16 hb16 nb16 => A5 rfl <| Bd Ds Pq Aa ho Aa (Bv (s := 1) 0 rfl rfl (by simp [Value.oneCell'])) (by omega) (by omega) (.s <| .s <| .z) .last fun v17 R18 ho19 => ?_
    have ho2 := ho19.snoc (x := p.papers[k].name) rfl rfl
    refine Aw (Ag 1) <| Ac <| AD (Ag 2) <| Ae Aa (dF hf) <| Ak <| Ab <| AD (Ag 2) <| Ah Aa (dT hf) <| AD (Ag 5) <| Au ?_
    refine A7 (Ay (Ay (A7 (Ay ?_))))
    refine Am rfl Bi ?_
    have hE : pprErr p k = freshE p.papers[k].name (pnames p k) := by rw [KT hlt, if_pos hf]
    have hQ := L8 h1 h2 h3 (D7 hlt hno (by rw [hE]; exact hf)) (by rw [hE]; exact hf)
    rw [hE] at hQ
    exact hQ.symm
   refine Ac <| Ax (Ag 3) fun ds => Ad rfl (AA Cx Aa hr.papers.plain) <| Aw (Ag 1) <| Ae Aa (by first | rfl | exact dF (by omega)) ?_
   have h4 : firstQ p.papers.length (pprErr p) = (0, 0) := DA fun j hj => hno j (by omega)
   by_cases ht : inB 0 60 p.trim = true
   ·refine AG ?_
    refine A2 <| A2 <| A8 <| Ab <| Ac <| Ax (Ag 2) fun ds => AE rfl (As Eo Aa AO (C9 _ _ _) (fun _ _ h => h)) <| Ao (Ag 2) <| Ai rfl rfl Aa (by rw [ht]; rfl) <| Ao (Ag 1) <| Ai rfl rfl Aa (by rw [ht]; rfl) <| Ao (Ag 1) <| Ai rfl rfl Aa (by rw [ht]; rfl) <| AE rfl (As Eo Aa AO (C9 _ _ _) (fun _ _ h => h)) <| Ai rfl rfl Aa (by rw [ht]; rfl) <| Ao (Ag 1) <| Ad rfl (A9 Aa (by rw [ht]; rfl) Aa) <| Al <| Ab ?_
    by_cases hs : inB 1 4 p.sheets = true
    ·refine Ae Aa (by rw [hs]; rfl) <| Ak <| Ab <| AD (Ag 3) <| Au <| Am rfl Bi ?_
     exact (Px h1 h2 h3 h4 (by rw [ht, hs]; rfl)).symm
    replace hs : inB 1 4 p.sheets = false := by simpa using hs
    refine Ah Aa (by rw [hs]; rfl) <| AD (Ag 3) <| Au <| Ay <| Am rfl Bi ?_
    exact (HT h1 h2 h3 h4 (by rw [ht, hs]; rfl)).symm
   replace ht : inB 0 60 p.trim = false := by simpa using ht
   refine AG ?_
   refine A2 <| A2 <| A8 <| Ab <| Ac <| Ax (Ag 2) fun ds => AE rfl (As Eo Aa AO (C9 _ _ _) (fun _ _ h => h)) <| Ao (Ag 2) <| Ar rfl rfl Aa (.inl (congrArg Value.bool (by simp [ht]))) rfl <| Ar rfl rfl Aa (.inl (congrArg Value.bool (by simp [ht]))) rfl <| Ar rfl rfl Aa (.inl (congrArg Value.bool (by simp [ht]))) rfl <| Ar rfl rfl Aa (.inl (congrArg Value.bool (by simp [ht]))) rfl <| Ad rfl (At Aa (by simp [ht]) Aa) <| Al <| Ab <| Ah Aa rfl <| AD (Ag 3) <| Au <| Ay <| Am rfl Bi ?_
   exact (HT h1 h2 h3 h4 (by rw [ht]; rfl)).symm
  replace h3 : inB 1 4 p.papers.length = false := by simpa using h3
  refine AG ?_
  refine A2 <| A2 <| A8 <| Ab <| Ac <| Ax (Ag 2) fun ds => Ad rfl (AA Cx Aa hr.papers.plain) <| AE rfl (As Eo Aa AO (C9 _ _ _) (fun _ _ h => h)) <| Aw (Ag 1) <| Ah Aa (by rw [h3]; rfl) <| AD (Ag 3) <| Au <| Ay <| Am rfl Bi ?_
  exact (Pu h1 h2 h3).symm
 replace h1 : inB 1 6 p.formats.length = false := by simpa using h1
 refine Ac <| Aj fun ds => A5 rfl <| AX Aa rfl fun b20 hb20 nb20 => Aw (Ag 3) <| Ac <| Ax (Ag 2) fun ds => Ad rfl (AA Cc Aa hr.formats.plain) <| AE rfl (As Eo Aa AO (C9 _ _ _) (fun _ _ h => h)) <| Aw (Ag 1) <| Ah Aa (by rw [h1]; rfl) <| AD (Ag 3) <| Au <| Ay <| Am rfl Bi ?_
 exact (Pw h1).symm
end
section
set_option maxRecDepth 100000
open Go.RowKit
theorem EV : ZeroT Tryz.prog 119 (.agg #[.slice none 0 0, .slice none 0 0, .int .i64 0, .int .i64 0]) := Bw (by kernel_rfl)
theorem Cn : AggT Tryz.prog 119 4 := C2 (by kernel_rfl)
instance : AggI Tryz.prog 119 4 := ⟨Cn⟩
theorem Cq : AggT Tryz.prog 25 4 := C2 (by kernel_rfl)
instance : AggI Tryz.prog 25 4 := ⟨Cq⟩
theorem BD : AggT Tryz.prog 49 4 := C2 (by kernel_rfl)
instance : AggI Tryz.prog 49 4 := ⟨BD⟩
theorem bd_4 : Body Tryz.prog 4 := AB (by kernel_rfl)
theorem LM : Body Tryz.prog 62 := AB (by kernel_rfl)
theorem Vl : Body Tryz.prog 88 := AB (by kernel_rfl)
theorem bd_96 : Body Tryz.prog 96 := AB (by kernel_rfl)
theorem Vh : BuildT Tryz.prog 119 [.slice none 0 0, .slice none 0 0, .int .i64 0, .int .i64 0] [(0, 4)] := BG EV (by kernel_rfl) (by decide)
theorem HO : FieldT Tryz.prog 119 0 0 := AU (by kernel_rfl)
instance : FieldI Tryz.prog 119 0 0 := ⟨HO⟩
theorem Ky : FieldT Tryz.prog 49 0 0 := AU (by kernel_rfl)
instance : FieldI Tryz.prog 49 0 0 := ⟨Ky⟩
theorem N8 : FieldT Tryz.prog 49 1 1 := AU (by kernel_rfl)
instance : FieldI Tryz.prog 49 1 1 := ⟨N8⟩
instance : FieldI Tryz.prog 49 2 2 := ⟨AU (by kernel_rfl)⟩
theorem RF : FieldT Tryz.prog 49 3 3 := AU (by kernel_rfl)
instance : FieldI Tryz.prog 49 3 3 := ⟨RF⟩
theorem Fv : SizeT Tryz.prog 119 4 := B1 (by kernel_rfl)
theorem Ko {p : Prs} {m : Mk} (h : (inB 0 (p.formats.length - 1) m.fmt && inB 0 (p.papers.length - 1) m.ppr) = false) : mkErr p m = 4 := if_pos h
theorem Rr {p : Prs} {m : Mk} (h : (inB 0 (p.formats.length - 1) m.fmt && inB 0 (p.papers.length - 1) m.ppr) = true) (h2 : inB 1 p.sheets m.sheets = false) : mkErr p m = 7 := by unfold mkErr; rw [if_neg (by rw [h]; simp), if_pos h2]
theorem Kp {p : Prs} {m : Mk} (h : (inB 0 (p.formats.length - 1) m.fmt && inB 0 (p.papers.length - 1) m.ppr) = true) (h2 : inB 1 p.sheets m.sheets = true) (h3 : m.half = true ∧ (m.sheets ≠ 1 ∨ (p.fold m).length < 2)) : mkErr p m = 2 := by unfold mkErr; rw [if_neg (by rw [h]; simp), if_neg (by rw [h2]; simp), if_pos h3]
theorem Kq {p : Prs} {m : Mk} (h : (inB 0 (p.formats.length - 1) m.fmt && inB 0 (p.papers.length - 1) m.ppr) = true) (h2 : inB 1 p.sheets m.sheets = true) (h3 : ¬ (m.half = true ∧ (m.sheets ≠ 1 ∨ (p.fold m).length < 2))) : mkErr p m = 0 := by unfold mkErr; rw [if_neg (by rw [h]; simp), if_neg (by rw [h2]; simp), if_neg h3]
theorem Lq {p : Prs} {m : Mk} : (p.fold m).length = (p.ft m.fmt.toNat).folds.size := EZ
theorem Sp {p : Prs} {b : Bok} (h : (checkB p b).2.2 = 0) : (checkF p).2.2 = 0 ∧ inB 1 64 b.leaves = true ∧ inB 0 2 b.chain = true ∧ spansE 0 2000 b.wlo b.whi b.hlo b.hhi = 0 ∧ b.marks.length ≤ 8 ∧ firstQ b.marks.length (mrkErr b) = (0, 0) := by
 unfold checkB at h
 split at h
 · rename_i h1; exact absurd h h1
 rename_i h1
 split at h
 · cases h
 rename_i h2
 split at h
 · cases h
 rename_i h3
 split at h
 · rename_i h4; exact absurd h h4
 rename_i h4
 split at h
 · cases h
 rename_i h5
 split at h
 · rename_i h6; exact absurd h h6
 rename_i h6
 rw [Classical.not_not] at h1 h4 h6
 exact ⟨h1, by simpa using h2, by simpa using h3, h4, by omega, DA (Ek h6)⟩
theorem HX {F : Heap} {b : Bok} {vm : Value} (hm : Sl F vm 2 Mrk.enc b.marks) : ∀ u ∈ [.int .i64 b.leaves, .int .i64 b.chain, .int .i64 b.wlo, .int .i64 b.whi, .int .i64 b.hlo, .int .i64 b.hhi, vm], u.oneCell' = true := by
 intro u hu
 simp only [List.mem_cons, List.not_mem_nil, or_false] at hu
 rcases hu with rfl | rfl | rfl | rfl | rfl | rfl | rfl
 · rfl
 · rfl
 · rfl
 · rfl
 · rfl
 · rfl
 exact hm.plain.one
theorem DU {F : Heap} {vf vp : Value} {p : Prs} (hr : PrsR F vf vp p) {m : Mk} (hf : 0 ≤ m.fmt ∧ m.fmt < p.formats.length) : Ok Tryz.prog 62 [prsV vf vp p, mkV m].toArray F fun r _ => r = .string (p.ft m.fmt.toNat).folds := by
 refine Ok.intro Tryz.func62 rfl Tryz.ntmps62 rfl fun w0 => ?_
 have hk : m.fmt.toNat < p.formats.length := by omega
 have hL1 := hr.formats.plain.lt
 refine Ac <| Aj fun ds => A5 rfl <| AX Aa rfl fun b1 hb1 nb1 => A5 rfl <| AX Aa rfl fun b2 hb2 nb2 => Aw (Ag 1) <| Ax (Ag 5) fun ds => Ad rfl (A1 (k := m.fmt.toNat) Cc Aa hr.formats.plain Aa (by omega) hk) <| Ao (Ag 1) <| Ad rfl (Ap BU Aa (hr.formats.cell hk rfl)) <| Aw (Ag 1) <| Au <| Am rfl Bi ?_
 show Value.string _ = Value.string _
 rw [Fo hk]
theorem J2 {F : Heap} {vf vp : Value} {p : Prs} (hr : PrsR F vf vp p) {m : Mk} : Ok Tryz.prog 88 [prsV vf vp p, mkV m].toArray F fun r _ => r = .int .i64 (mkErr p m) := by
 refine Ok.intro Tryz.func88 rfl Tryz.ntmps88 rfl fun w0 => ?_
 have hL1 := hr.formats.plain.lt
 have hL2 := hr.papers.plain.lt
 by_cases hf : inB 0 (p.formats.length - 1) m.fmt = true
 ·have hfb : 0 ≤ m.fmt ∧ m.fmt < p.formats.length := by have h := hf; rw [BZ] at h; omega
  refine Ac <| Aj fun ds => A5 rfl <| AX Aa rfl fun b1 hb1 nb1 => A5 rfl <| AX Aa rfl fun b2 hb2 nb2 => Aw (Ag 1) <| Ac <| Aq <| Ax (Ag 3) fun ds => Ad rfl (AA Cc Aa hr.formats.plain) <| Ad rfl (Br Aa Aa rfl (by omega) (by omega)) <| Ao (Ag 2) <| A5 rfl <| AS AR B3 rfl (.cons Aa .nil) rfl rfl (by decide) (by simp [Value.oneCell']) fun b3 hb3 nb3 => AQ (i := 0) rfl hb3 .here fun F4 hF5 hz6 => ?_
  replace hr := hr.mono hF5
  have hsl7 := Be hz6
  refine AE rfl (As CK Aa AO (Bp _ _ hsl7) (fun _ _ h => h)) <| Ao (Ag 1) <| Ai rfl rfl Aa (by simp [hf]) <| Ao (Ag 1) <| Ai rfl rfl Aa (by simp [hf]) <| Ao (Ag 1) <| Ai rfl rfl Aa (by simp [hf]) <| Ao (Ag 1) <| Ai rfl rfl Aa (by simp [hf]) <| Ad rfl (AA Cx Aa hr.papers.plain) <| Ai rfl rfl Aa (by simp [hf]) <| Ad rfl (Br Aa Aa rfl (by omega) (by omega)) <| Ai rfl rfl Aa (by simp [hf]) <| Ao (Ag 1) <| Ai rfl rfl Aa (by simp [hf]) <| Ao (Ag 1) <| Ai rfl rfl Aa (by simp [hf]) <| A5 rfl <| AS AR B3 rfl (.cons Aa .nil) rfl rfl (by decide) (by simp [Value.oneCell']) fun b8 hb8 nb8 => AQ (i := 0) rfl hb8 .here fun F9 hF10 hz11 => ?_
  replace hr := hr.mono hF10
  have hsl12 := Be hz11
  refine Ai rfl rfl Aa (by simp [hf]) <| AE rfl (As CK Aa AO (Bp _ _ hsl12) (fun _ _ h => h)) <| Ad rfl (A9 Aa (by simp [hf]) Aa) <| Aw (Ag 1) ?_
  by_cases hp : inB 0 (p.papers.length - 1) m.ppr = true
  ·refine Ae Aa (by simp [hp]) ?_
   by_cases hs : inB 1 p.sheets m.sheets = true
   ·refine Ax (Ag 5) fun ds => A5 rfl <| AS AR B3 rfl (.cons Aa .nil) rfl rfl (by decide) (by simp [Value.oneCell']) fun b13 hb13 nb13 => AQ (i := 0) rfl hb13 .here fun F14 hF15 hz16 => ?_
    replace hr := hr.mono hF15
    have hsl17 := Be hz16
    refine AE rfl (As CK Aa AO (Bp _ _ hsl17) (fun _ _ h => h)) <| Aw (Ag 1) <| Ae Aa (by simp [hs]) ?_
    by_cases hh : m.half = true
    ·refine Ax (Ag 3) fun ds => Ai rfl rfl Aa hh <| Ao (Ag 1) <| Ai rfl rfl Aa hh <| Ao (Ag 1) <| Ai rfl rfl Aa hh <| Ao (Ag 1) <| Ai rfl rfl Aa hh <| Ao (Ag 1) ?_
     by_cases h1 : m.sheets = 1
     ·refine Ai rfl rfl Aa (dF (fun h => h h1)) <| Ao (Ag 1) <| Ai rfl rfl Aa (dF (fun h => h h1)) <| Ao (Ag 1) <| Ai rfl rfl Aa (dF (fun h => h h1)) <| AE rfl (As LM Aa AO (DU hr hfb) (fun _ _ h => h)) <| Ai rfl rfl Aa (dF (fun h => h h1)) <| Ad rfl (Cg Tryz.underlying9 Aa) <| Ai rfl rfl Aa (dF (fun h => h h1)) <| Ao (Ag 1) <| Ai rfl rfl Aa hh <| Ad rfl (A9 Aa (dF (fun h => h h1)) Aa) <| Ad rfl (At Aa hh Aa) <| Aw (Ag 1) ?_
      by_cases h2 : (p.fold m).length < 2
      ·refine Ah Aa (dT (by rw [Lq] at h2; omega)) <| AD (Ag 1) <| Au <| A7 <| Ay <| Am rfl Bi ?_
       show Value.int .i64 _ = Value.int .i64 _
       rw [Kp (by rw [hf, hp]; rfl) hs ⟨hh, .inr h2⟩]
      refine Ae Aa (dF (by rw [Lq] at h2; omega)) <| Ak <| A4 <| Ab <| AD (Ag 1) <| Au <| Am rfl Bi ?_
      show Value.int .i64 _ = Value.int .i64 _
      rw [Kq (by rw [hf, hp]; rfl) hs (fun h => h.2.elim (fun k => k h1) h2)]
     refine Ar rfl rfl Aa (.inl (congrArg Value.bool (dT h1))) rfl <| Ar rfl rfl Aa (.inl (congrArg Value.bool (dT h1))) rfl <| Ar rfl rfl Aa (.inl (congrArg Value.bool (dT h1))) rfl <| Ar rfl rfl Aa (.inl (congrArg Value.bool (dT h1))) rfl <| Ar rfl rfl Aa (.inl (congrArg Value.bool (dT h1))) rfl <| Ai rfl rfl Aa hh <| Ad rfl (At Aa (dT h1) Aa) <| Ad rfl (At Aa hh Aa) <| Aw (Ag 1) <| Ah Aa rfl <| AD (Ag 1) <| Au <| A7 <| Ay <| Am rfl Bi ?_
     show Value.int .i64 _ = Value.int .i64 _
     rw [Kp (by rw [hf, hp]; rfl) hs ⟨hh, .inl h1⟩]
    replace hh : m.half = false := by simpa using hh
    refine Ax (Ag 3) fun ds => Ar rfl rfl Aa (.inl (congrArg Value.bool hh)) rfl <| Ar rfl rfl Aa (.inl (congrArg Value.bool hh)) rfl <| Ar rfl rfl Aa (.inl (congrArg Value.bool hh)) rfl <| Ar rfl rfl Aa (.inl (congrArg Value.bool hh)) rfl <| Ar rfl rfl Aa (.inr rfl) rfl <| Ar rfl rfl Aa (.inr rfl) rfl <| Ar rfl rfl Aa (.inr rfl) rfl <| Ar rfl rfl Aa (.inr rfl) rfl <| Ar rfl rfl Aa (.inr rfl) rfl <| Ar rfl rfl Aa (.inl (congrArg Value.bool hh)) rfl <| Ad rfl (A9 Aa hh AV) <| Aw (Ag 1) <| Ae Aa rfl <| Ak <| A4 <| Ab <| AD (Ag 1) <| Au <| Am rfl Bi ?_
    show Value.int .i64 _ = Value.int .i64 _
    rw [Kq (by rw [hf, hp]; rfl) hs (fun h => by rw [hh] at h; cases h.1)]
   replace hs : inB 1 p.sheets m.sheets = false := by simpa using hs
   refine Ax (Ag 5) fun ds => A5 rfl <| AS AR B3 rfl (.cons Aa .nil) rfl rfl (by decide) (by simp [Value.oneCell']) fun b18 hb18 nb18 => AQ (i := 0) rfl hb18 .here fun F19 hF20 hz21 => ?_
   have hsl22 := Be hz21
   refine AE rfl (As CK Aa AO (Bp _ _ hsl22) (fun _ _ h => h)) <| Aw (Ag 1) <| Ah Aa (by simp [hs]) <| AD (Ag 1) <| Au <| A7 <| Ay <| Am rfl Bi ?_
   show Value.int .i64 _ = Value.int .i64 _
   rw [Rr (by rw [hf, hp]; rfl) hs]
  replace hp : inB 0 (p.papers.length - 1) m.ppr = false := by simpa using hp
  refine Ah Aa (by simp [hp]) <| AD (Ag 1) <| Au <| A7 <| Ay <| Am rfl Bi ?_
  show Value.int .i64 _ = Value.int .i64 _
  rw [Ko (by rw [hp, Bool.and_false])]
 replace hf : inB 0 (p.formats.length - 1) m.fmt = false := by simpa using hf
 refine Ac <| Aj fun ds => A5 rfl <| AX Aa rfl fun b23 hb23 nb23 => A5 rfl <| AX Aa rfl fun b24 hb24 nb24 => Aw (Ag 1) <| Ac <| Aq <| Ax (Ag 3) fun ds => Ad rfl (AA Cc Aa hr.formats.plain) <| Ad rfl (Br Aa Aa rfl (by omega) (by omega)) <| Ao (Ag 2) <| A5 rfl <| AS AR B3 rfl (.cons Aa .nil) rfl rfl (by decide) (by simp [Value.oneCell']) fun b25 hb25 nb25 => AQ (i := 0) rfl hb25 .here fun F26 hF27 hz28 => ?_
 have hsl29 := Be hz28
 refine AE rfl (As CK Aa AO (Bp _ _ hsl29) (fun _ _ h => h)) <| Ao (Ag 1) <| Ar rfl rfl Aa (.inl (congrArg Value.bool (by simp [hf]))) rfl <| Ar rfl rfl Aa (.inl (congrArg Value.bool (by simp [hf]))) rfl <| Ar rfl rfl Aa (.inl (congrArg Value.bool (by simp [hf]))) rfl <| Ar rfl rfl Aa (.inl (congrArg Value.bool (by simp [hf]))) rfl <| Ar rfl rfl Aa (.inl (congrArg Value.bool (by simp [hf]))) rfl <| Ar rfl rfl Aa (.inl (congrArg Value.bool (by simp [hf]))) rfl <| Ar rfl rfl Aa (.inl (congrArg Value.bool (by simp [hf]))) rfl <| Ar rfl rfl Aa (.inl (congrArg Value.bool (by simp [hf]))) rfl <| Ar rfl rfl Aa (.inl (congrArg Value.bool (by simp [hf]))) rfl <| Ad rfl (At Aa (by simp [hf]) Aa) <| Aw (Ag 1) <| Ah Aa rfl <| AD (Ag 1) <| Au <| A7 <| Ay <| Am rfl Bi ?_
 show Value.int .i64 _ = Value.int .i64 _
 rw [Ko (by rw [hf, Bool.false_and])]
theorem OL {F : Heap} {vf vp : Value} {p : Prs} (hr : PrsR F vf vp p) {m : Mk} (h0 : (checkF p).2.2 = 0) : Ok Tryz.prog 112 [prsV vf vp p, mkV m].toArray F fun r _ => r = .int .i64 (mkErr p m) := by
 refine Ok.intro Tryz.func112 rfl Tryz.ntmps112 rfl fun w0 => ?_
 have hL1 := hr.formats.plain.lt
 have hL2 := hr.papers.plain.lt
 refine Ac <| Aj fun ds => A5 rfl <| AX Aa rfl fun b1 hb1 nb1 => A5 rfl <| AX Aa rfl fun b2 hb2 nb2 => Aw (Ag 1) <| Ax (Ag 1) fun ds => AE rfl (As bd_4 Aa AO (Ew hr) (fun _ _ h => h)) <| Aw (Ag 7) <| Ac <| AD (Ag 2) <| Ae Aa (by rw [h0]; rfl) ?_
 by_cases hf : inB 0 (p.formats.length - 1) m.fmt = true
 ·have hfb : 0 ≤ m.fmt ∧ m.fmt < p.formats.length := by have h := hf; rw [BZ] at h; omega
  refine Ak <| Ab <| Ac <| Ax (Ag 4) fun ds => Ad rfl (AA Cc Aa hr.formats.plain) <| Ad rfl (Br Aa Aa rfl (by omega) (by omega)) <| AE rfl (As Eo Aa AO (C9 _ _ _) (fun _ _ h => h)) <| Ao (Ag 2) <| Ai rfl rfl Aa (by rw [hf]; rfl) <| Ao (Ag 1) <| Ai rfl rfl Aa (by rw [hf]; rfl) <| Ao (Ag 1) <| Ai rfl rfl Aa (by rw [hf]; rfl) <| Ao (Ag 1) <| Ai rfl rfl Aa (by rw [hf]; rfl) <| Ao (Ag 1) <| Ai rfl rfl Aa (by rw [hf]; rfl) <| Ad rfl (AA Cx Aa hr.papers.plain) <| Ai rfl rfl Aa (by rw [hf]; rfl) <| Ad rfl (Br Aa Aa rfl (by omega) (by omega)) <| Ai rfl rfl Aa (by rw [hf]; rfl) <| AE rfl (As Eo Aa AO (C9 _ _ _) (fun _ _ h => h)) <| Ai rfl rfl Aa (by rw [hf]; rfl) <| Ao (Ag 1) <| Ad rfl (A9 Aa (by rw [hf]; rfl) Aa) <| Al <| Ab ?_
  by_cases hp : inB 0 (p.papers.length - 1) m.ppr = true
  ·refine Ae Aa (by rw [hp]; rfl) ?_
   by_cases hs : inB 1 p.sheets m.sheets = true
   ·refine Ak <| Ab <| Ac <| Ax (Ag 4) fun ds => AE rfl (As Eo Aa AO (C9 _ _ _) (fun _ _ h => h)) <| Aw (Ag 1) <| Ae Aa (by rw [hs]; rfl) ?_
    by_cases hh : m.half = true
    ·refine Ak <| Ab <| Ac <| Ax (Ag 3) fun ds => Ai rfl rfl Aa hh <| Ao (Ag 1) <| Ai rfl rfl Aa hh <| Ao (Ag 1) <| Ai rfl rfl Aa hh <| Ao (Ag 1) <| Ai rfl rfl Aa hh <| Ao (Ag 1) ?_
     by_cases h1 : m.sheets = 1
     ·have hk : m.fmt.toNat < p.formats.length := by omega
      have hfe : (p.fold m).length = p.formats[m.fmt.toNat].folds.size := by rw [Lq, Fo hk]
      refine Ai rfl rfl Aa (dF (fun h => h h1)) <| Ao (Ag 1) <| Ai rfl rfl Aa (dF (fun h => h h1)) <| Ao (Ag 1) <| Ai rfl rfl Aa (dF (fun h => h h1)) <| Ao (Ag 1) <| Ai rfl rfl Aa (dF (fun h => h h1)) <| Ao (Ag 1) <| Ai rfl rfl Aa (dF (fun h => h h1)) <| Ad rfl (A1 (k := m.fmt.toNat) Cc Aa hr.formats.plain Aa (by omega) hk) <| Ai rfl rfl Aa (dF (fun h => h h1)) <| Ao (Ag 1) <| Ai rfl rfl Aa (dF (fun h => h h1)) <| Ad rfl (Ap BU Aa (hr.formats.cell hk rfl)) <| Ai rfl rfl Aa (dF (fun h => h h1)) <| Ad rfl (Cg Tryz.underlying9 Aa) <| Ai rfl rfl Aa (dF (fun h => h h1)) <| Ao (Ag 1) <| Ai rfl rfl Aa hh <| Ad rfl (A9 Aa (dF (fun h => h h1)) Aa) <| Ad rfl (At Aa hh Aa) <| Al <| Ab ?_
      by_cases h2 : (p.fold m).length < 2
      ·refine Ah Aa (dT (by rw [hfe] at h2; omega)) <| AD (Ag 1) <| Au <| Ay <| Am rfl Bi ?_
       show Value.int .i64 _ = Value.int .i64 _
       rw [Kp (by rw [hf, hp]; rfl) hs ⟨hh, .inr h2⟩]
      refine Ae Aa (dF (by rw [hfe] at h2; omega)) <| Ak <| Ab <| AD (Ag 1) <| Au <| Am rfl Bi ?_
      show Value.int .i64 _ = Value.int .i64 _
      rw [Kq (by rw [hf, hp]; rfl) hs (fun h => h.2.elim (fun k => k h1) h2)]
     refine Ar rfl rfl Aa (.inl (congrArg Value.bool (dT h1))) rfl <| Ar rfl rfl Aa (.inl (congrArg Value.bool (dT h1))) rfl <| Ar rfl rfl Aa (.inl (congrArg Value.bool (dT h1))) rfl <| Ar rfl rfl Aa (.inl (congrArg Value.bool (dT h1))) rfl <| Ar rfl rfl Aa (.inl (congrArg Value.bool (dT h1))) rfl <| Ar rfl rfl Aa (.inl (congrArg Value.bool (dT h1))) rfl <| Ar rfl rfl Aa (.inl (congrArg Value.bool (dT h1))) rfl <| Ar rfl rfl Aa (.inl (congrArg Value.bool (dT h1))) rfl <| Ar rfl rfl Aa (.inl (congrArg Value.bool (dT h1))) rfl <| Ai rfl rfl Aa hh <| Ad rfl (At Aa (dT h1) Aa) <| Ad rfl (At Aa hh Aa) <| Al <| Ab <| Ah Aa rfl <| AD (Ag 1) <| Au <| Ay <| Am rfl Bi ?_
     show Value.int .i64 _ = Value.int .i64 _
     rw [Kp (by rw [hf, hp]; rfl) hs ⟨hh, .inl h1⟩]
    replace hh : m.half = false := by simpa using hh
    refine Ak <| Ab <| Ac <| Ax (Ag 3) fun ds => Ar rfl rfl Aa (.inl (congrArg Value.bool hh)) rfl <| Ar rfl rfl Aa (.inl (congrArg Value.bool hh)) rfl <| Ar rfl rfl Aa (.inl (congrArg Value.bool hh)) rfl <| Ar rfl rfl Aa (.inl (congrArg Value.bool hh)) rfl <| Ar rfl rfl Aa (.inr rfl) rfl <| Ar rfl rfl Aa (.inr rfl) rfl <| Ar rfl rfl Aa (.inr rfl) rfl <| Ar rfl rfl Aa (.inr rfl) rfl <| Ar rfl rfl Aa (.inr rfl) rfl <| Ar rfl rfl Aa (.inr rfl) rfl <| Ar rfl rfl Aa (.inr rfl) rfl <| Ar rfl rfl Aa (.inr rfl) rfl <| Ar rfl rfl Aa (.inr rfl) rfl <| Ar rfl rfl Aa (.inl (congrArg Value.bool hh)) rfl <| Ad rfl (A9 Aa hh AV) <| Al <| Ab <| Ae Aa rfl <| Ak <| Ab <| AD (Ag 1) <| Au <| Am rfl Bi ?_
    show Value.int .i64 _ = Value.int .i64 _
    rw [Kq (by rw [hf, hp]; rfl) hs (fun h => by rw [hh] at h; cases h.1)]
   replace hs : inB 1 p.sheets m.sheets = false := by simpa using hs
   refine Ak <| Ab <| Ac <| Ax (Ag 4) fun ds => AE rfl (As Eo Aa AO (C9 _ _ _) (fun _ _ h => h)) <| Aw (Ag 1) <| Ah Aa (by rw [hs]; rfl) <| AD (Ag 1) <| Au <| Ay <| Am rfl Bi ?_
   show Value.int .i64 _ = Value.int .i64 _
   rw [Rr (by rw [hf, hp]; rfl) hs]
  replace hp : inB 0 (p.papers.length - 1) m.ppr = false := by simpa using hp
  refine Ah Aa (by rw [hp]; rfl) <| AD (Ag 1) <| Au <| Ay <| Am rfl Bi ?_
  show Value.int .i64 _ = Value.int .i64 _
  rw [Ko (by rw [hp, Bool.and_false])]
 replace hf : inB 0 (p.formats.length - 1) m.fmt = false := by simpa using hf
 refine Ak <| Ab <| Ac <| Ax (Ag 4) fun ds => Ad rfl (AA Cc Aa hr.formats.plain) <| Ad rfl (Br Aa Aa rfl (by omega) (by omega)) <| AE rfl (As Eo Aa AO (C9 _ _ _) (fun _ _ h => h)) <| Ao (Ag 2) <| Ar rfl rfl Aa (.inl (congrArg Value.bool (by simp [hf]))) rfl <| Ar rfl rfl Aa (.inl (congrArg Value.bool (by simp [hf]))) rfl <| Ar rfl rfl Aa (.inl (congrArg Value.bool (by simp [hf]))) rfl <| Ar rfl rfl Aa (.inl (congrArg Value.bool (by simp [hf]))) rfl <| Ar rfl rfl Aa (.inl (congrArg Value.bool (by simp [hf]))) rfl <| Ar rfl rfl Aa (.inl (congrArg Value.bool (by simp [hf]))) rfl <| Ar rfl rfl Aa (.inl (congrArg Value.bool (by simp [hf]))) rfl <| Ar rfl rfl Aa (.inl (congrArg Value.bool (by simp [hf]))) rfl <| Ad rfl (At Aa (by simp [hf]) Aa) <| Al <| Ab <| Ah Aa rfl <| AD (Ag 1) <| Au <| Ay <| Am rfl Bi ?_
 show Value.int .i64 _ = Value.int .i64 _
 rw [Ko (by rw [hf, Bool.false_and])]
theorem GM {F : Heap} {vf vp : Value} {p : Prs} (hr : PrsR F vf vp p) {m : Mk} (h0 : (checkF p).2.2 = 0) : Ok Tryz.prog 58 [prsV vf vp p, mkV m].toArray F fun r _ => r = .tuple #[prsV vf vp p, .int .i64 (mkErr p m)] := by
 refine Ok.intro Tryz.func58 rfl Tryz.ntmps58 rfl fun w0 => Ac <| Aj fun ds => A5 rfl <| AX Aa rfl fun b1 hb1 nb1 => A5 rfl <| AX Aa rfl fun b2 hb2 nb2 => A5 rfl <| AF EV rfl fun b3 hb3 nb3 => Aw (Ag 1) <| Ac <| Ax (Ag 1) fun ds => AE rfl (As bd_96 Aa AO (ML hr) (fun _ _ h => h)) <| Aw (Ag 7) <| AD (Ag 2) <| Ae Aa (by rw [h0]; rfl) <| Ak <| Ab <| Ax (Ag 1) fun ds => Ad rfl (Bg Vh (.cons Aa rfl .nil) (.cons rfl rfl (Nat.le_of_ble_eq_true rfl) (.cons (.here) (.cons (.next <| .here) (.cons (.next <| .next <| .here) (.cons (.next <| .next <| .next <| .here) .nil)))) .nil)) <| A5 rfl <| AF EV rfl fun b4 hb4 nb4 => AZ <| AC Fv Aa Aa (i := 0) rfl rfl rfl rfl hr.ones (.here) <| Al <| Ab <| Ac <| Bf (.inl rfl) (fun _ _ h => h) (kK <| kD <| kK <| kK <| .refl _) [] (by kernel_rfl) fun ds => Af 0 rfl (by kernel_rfl) (by kernel_rfl) (by kernel_rfl) (by kernel_rfl) rfl rfl (fun _ h => h.drop (kK <| kD <| kK <| kK <| .refl _)) (fun _ _ _ h => h) (A6 Cn Aa rfl rfl (Bj 0 rfl)) <| Af 1 rfl (by kernel_rfl) (by kernel_rfl) (by kernel_rfl) (by kernel_rfl) rfl rfl (fun _ h => h.drop (kK <| kD <| kK <| kK <| .refl _)) (fun _ _ _ h => h) (A6 Cn Aa rfl rfl (Bj 0 rfl)) <| Af 2 rfl (by kernel_rfl) (by kernel_rfl) (by kernel_rfl) (by kernel_rfl) rfl rfl (fun _ h => h.drop (kK <| kD <| kK <| kK <| .refl _)) (fun _ _ _ h => h) (A6 BD Aa rfl rfl (Bj 1 rfl)) ?_
 refine Bl 3 rfl (by kernel_rfl) rfl (AI (As Vl Aa AO (J2 hr) (fun _ _ h => h)) ⟨fun _ _ => (fun _ h => h.drop (kK <| kD <| kK <| kK <| .refl _)), ?_⟩)
 refine Bt 4 rfl (by kernel_rfl) (AC Fv Aa Aa (i := 1) rfl rfl rfl rfl hr.ones (.next <| .here) ⟨fun _ _ => (fun _ h => h.drop (kK <| kD <| kK <| kK <| .refl _)), ?_⟩)
 refine Af 5 rfl (by kernel_rfl) (by kernel_rfl) (by kernel_rfl) (by kernel_rfl) rfl rfl (fun _ h => h.drop (kK <| kD <| kK <| kK <| .refl _)) (fun _ _ _ h => h) (AL Aa) ?_
 refine AY (by kernel_rfl) ?_ _
 refine Ab <| Au <| Am rfl (.agg Cn Aa rfl rfl (Bj 1 rfl) Bi) ?_
 rfl
end
section
set_option maxRecDepth 100000
open Go.RowKit
theorem FP : AggT Tryz.prog 47 7 := C2 (by kernel_rfl)
instance : AggI Tryz.prog 47 7 := ⟨FP⟩
theorem bd_115 : Body Tryz.prog 115 := AB (by kernel_rfl)
theorem bd_116 : Body Tryz.prog 116 := AB (by kernel_rfl)
theorem bd_86 : Body Tryz.prog 86 := AB (by kernel_rfl)
instance : FieldI Tryz.prog 117 0 0 := ⟨AU (by kernel_rfl)⟩
instance : FieldI Tryz.prog 47 0 0 := ⟨AU (by kernel_rfl)⟩
instance : FieldI Tryz.prog 47 1 1 := ⟨AU (by kernel_rfl)⟩
instance : FieldI Tryz.prog 47 2 2 := ⟨AU (by kernel_rfl)⟩
instance : FieldI Tryz.prog 47 3 4 := ⟨AU (by kernel_rfl)⟩
theorem N9 : FieldT Tryz.prog 47 4 6 := AU (by kernel_rfl)
instance : FieldI Tryz.prog 47 4 6 := ⟨N9⟩
theorem Nm : OneT Tryz.prog 45 := BA (by kernel_rfl)
instance : OneI Tryz.prog 45 := ⟨Nm⟩
theorem M0 {b : Bok} {k : Nat} (hk : k < b.marks.length) : mrkErr b k = if inB 0 (b.leaves - 1) b.marks[k].leaf = false then 4 else 0 := by
 unfold mrkErr; rw [List.getElem?_eq_getElem hk]
theorem QD {F : Heap} {b : Bok} {vm : Value} (hm : Sl F vm 2 Mrk.enc b.marks) {c : Nat} (hc : F c = some (bx 47 [.int .i64 b.leaves, .int .i64 b.chain, .int .i64 b.wlo, .int .i64 b.whi, .int .i64 b.hlo, .int .i64 b.hhi, vm])) (hl : 1 ≤ b.leaves ∧ b.leaves ≤ 64) {k : Nat} (hk : k < b.marks.length) {i : Int} : Ok Tryz.prog 116 [.int .i64 i, .agg (Mrk.enc b.marks[k]).toArray, .pointer (some ⟨c, 0, none⟩)].toArray F fun r _ => r = .int .i64 (mrkErr b k) := by
 refine Ok.intro Tryz.func116 rfl Tryz.ntmps116 rfl fun w0 => ?_
 by_cases h1 : inB 0 (b.leaves - 1) b.marks[k].leaf = true
 ·refine Ac <| Aj fun ds => A5 rfl <| AX Aa rfl fun b1 hb1 nb1 => Aw (Ag 1) <| Ac <| Ax (Ag 1) fun ds => Ad rfl (Ap AM Aa (AP hc rfl)) <| Ad rfl (Br Aa Aa rfl (by omega) (by omega)) <| Ao (Ag 2) <| A5 rfl <| AS AR B3 rfl (.cons Aa .nil) rfl rfl (by decide) (by simp [Value.oneCell']) fun b2 hb2 nb2 => AQ (i := 0) rfl hb2 .here fun F3 hF4 hz5 => ?_
  have hsl6 := Be hz5
  refine AE rfl (As CK Aa AO (Bp _ _ hsl6) (fun _ _ h => h)) <| Al <| Ab <| Ae Aa (by simp [h1]) <| Ak <| Ab <| AD (Ag 1) <| Au <| Am rfl Bi ?_
  show Value.int .i64 _ = Value.int .i64 _
  rw [M0 hk, if_neg (by rw [h1]; simp)]
 replace h1 : inB 0 (b.leaves - 1) b.marks[k].leaf = false := by simpa using h1
 refine Ac <| Aj fun ds => A5 rfl <| AX Aa rfl fun b7 hb7 nb7 => Aw (Ag 1) <| Ac <| Ax (Ag 1) fun ds => Ad rfl (Ap AM Aa (AP hc rfl)) <| Ad rfl (Br Aa Aa rfl (by omega) (by omega)) <| Ao (Ag 2) <| A5 rfl <| AS AR B3 rfl (.cons Aa .nil) rfl rfl (by decide) (by simp [Value.oneCell']) fun b8 hb8 nb8 => AQ (i := 0) rfl hb8 .here fun F9 hF10 hz11 => ?_
 have hsl12 := Be hz11
 refine AE rfl (As CK Aa AO (Bp _ _ hsl12) (fun _ _ h => h)) <| Al <| Ab <| Ah Aa (by simp [h1]) <| AD (Ag 1) <| Au <| Ay <| Am rfl Bi ?_
 show Value.int .i64 _ = Value.int .i64 _
 rw [M0 hk, if_pos h1]
theorem NE {F : Heap} {vf vp : Value} {p : Prs} (hr : PrsR F vf vp p) {b : Bok} {vm : Value} (hm : Sl F vm 2 Mrk.enc b.marks) (hb : (checkB p b).2.2 = 0) : Ok Tryz.prog 86 [prsV vf vp p, bokV vm b].toArray F fun r _ => r = .tuple #[.int .i64 0, .int .i64 0, .int .i64 0] := by
 refine Ok.intro Tryz.func86 rfl Tryz.ntmps86 rfl fun w0 => ?_
 obtain ⟨h0, h1, h2, h3, h4, h5⟩ := Sp hb
 have hlb : 1 ≤ b.leaves ∧ b.leaves ≤ 64 := BZ.1 h1
 have hL3 := hm.plain.lt
 refine Ac <| Aj fun ds => A5 rfl <| AX Aa rfl fun b1 hb1 nb1 => A5 rfl <| AX Aa rfl fun b2 hb2 nb2 => Aw (Ag 3) <| Ac <| Ax (Ag 1) fun ds => AE rfl (As bd_96 Aa AO (ML hr) (fun _ _ h => h)) <| Aw (Ag 5) <| AD (Ag 2) <| Ae Aa (by rw [h0]; rfl) <| Ak <| Ab <| Ac <| Aq <| Ax (Ag 2) fun ds => A5 rfl <| AS AR B3 rfl (.cons Aa .nil) rfl rfl (by decide) (by simp [Value.oneCell']) fun b3 hb3 nb3 => AQ (i := 0) rfl hb3 .here fun F4 hF5 hz6 => ?_
 replace hm := hm.mono hF5
 have hsl7 := Be hz6
 refine AE rfl (As CK Aa AO (Bp _ _ hsl7) (fun _ _ h => h)) <| Aw (Ag 1) <| Ae Aa (by simp [h1]) <| Ax (Ag 2) fun ds => A5 rfl <| AS AR B3 rfl (.cons Aa .nil) rfl rfl (by decide) (by simp [Value.oneCell']) fun b8 hb8 nb8 => AQ (i := 0) rfl hb8 .here fun F9 hF10 hz11 => ?_
 replace hm := hm.mono hF10
 have hsl12 := Be hz11
 refine AE rfl (As CK Aa AO (Bp _ _ hsl12) (fun _ _ h => h)) <| Aw (Ag 1) <| Ae Aa (by simp [h2]) <| Ak <| A4 <| Ab <| Ac <| Ax (Ag 1) fun ds => Ad rfl (A6 (vs := [.int .i64 b.wlo, .int .i64 b.whi]) BP Aa rfl rfl (KW 0 rfl rfl)) <| Ao (Ag 1) <| Ad rfl (A6 (vs := [.int .i64 b.hlo, .int .i64 b.hhi]) BP Aa rfl rfl (KW 0 rfl rfl)) <| AE rfl (As V4 Aa AO (NX _ _ _ _ _ _) (fun _ _ h => h)) <| Aw (Ag 1) <| AD (Ag 2) <| Ae Aa (by rw [h3]; rfl) <| Ak <| Ab <| Ac <| Ax (Ag 2) fun ds => Ad rfl (AA GU Aa hm.plain) <| Aw (Ag 1) <| Ae Aa (dF (by omega)) <| Ak <| Ab <| Ac <| AN (i := 0) rfl hb2 (.here) fun F13 hF14 hc3 => ?_
 replace hm := hm.mono hF14
 refine Aj fun ds => Ao (Ag 1) <| Ad rfl (Ap Nm Aa (AP hc3 rfl)) <| Ad rfl (Bm AO) <| AE rfl (As bd_115 Aa AO (Pj hm (mrkErr b) bd_116 fun k hk _ => QD hm hc3 hlb hk) (fun _ _ h => h.trans (show Value.tuple #[.int .i64 (firstQ b.marks.length (mrkErr b)).1, .int .i64 (firstQ b.marks.length (mrkErr b)).2] = Value.tuple #[.int .i64 0, .int .i64 0] by rw [h5]))) <| Aw (Ag 5) <| Ac <| AD (Ag 2) <| Ae Aa rfl <| Ak <| Ab <| AD (Ag 3) <| Au <| Am rfl Bi ?_
 rfl
theorem OM {F : Heap} {vf vp : Value} {p : Prs} (hr : PrsR F vf vp p) {b : Bok} {vm : Value} (hm : Sl F vm 2 Mrk.enc b.marks) (hb : (checkB p b).2.2 = 0) : Ok Tryz.prog 49 [prsV vf vp p, bokV vm b].toArray F fun r _ => r = .tuple #[prsV vf vp p, .int .i64 0] := by
 refine Ok.intro Tryz.func49 rfl Tryz.ntmps49 rfl fun w0 => Ac <| Aj fun ds => A5 rfl <| AX Aa rfl fun b1 hb1 nb1 => A5 rfl <| AX Aa rfl fun b2 hb2 nb2 => A5 rfl <| AF EV rfl fun b3 hb3 nb3 => Aw (Ag 1) <| Ax (Ag 2) fun ds => AE rfl (As bd_86 Aa AO (NE hr hm hb) (fun _ _ h => h)) <| Aw (Ag 7) <| Ax (Ag 1) fun ds => Ad rfl (Bg Vh (.cons Aa rfl .nil) (.cons rfl rfl (Nat.le_of_ble_eq_true rfl) (.cons (.here) (.cons (.next <| .here) (.cons (.next <| .next <| .here) (.cons (.next <| .next <| .next <| .here) .nil)))) .nil)) <| Ao (Ag 1) <| AZ <| AC Fv Aa Aa (i := 0) rfl rfl rfl rfl hr.ones (.here) <| Aw (Ag 1) <| Au <| Am rfl (.agg Cn Aa rfl rfl (Bj 0 rfl) Bi) ?_
 rfl
theorem Fm {F : Heap} {s : ByteArray} (h4 : s.size ≤ 4) (hf : foldsB s = true) : Ok Tryz.prog 61 [.string s].toArray F fun r _ => r = .tuple #[.int .i64 (timesN s.toList 120 : Int), .int .i64 (timesN s.toList 121 : Int)] := by
 refine Ok.intro Tryz.func61 rfl Tryz.ntmps61 rfl fun w0 => AD (Ag 2) <| AD (Ag 2) <| Ac <| Ax (Ag 1) fun ds => A5 rfl <| Ht Tryz.underlying9 Aa fun b1 hb1 nb1 => Al <| Ab <| Aq ?_
 refine AH [2, 3, 5, 8, 9, 10, 11, 12, 13, 14, 15, 16] (fun m e σ => ∃ k : Nat, m + k = s.size ∧ Fct e 2 (.int .i64 (timesTo s.toList 120 k : Int)) ∧ Fct e 3 (.int .i64 (timesTo s.toList 121 k : Int)) ∧ σ = ⟨F, [(b1, .stringIter s k)]⟩) (s.size) ?_ ?_
 · exact ⟨0, by omega, BC (congrArg (Value.int .i64) (by rw [Ft]; rfl)), BC (congrArg (Value.int .i64) (by rw [Ft]; rfl)), rfl⟩
 rintro m e _ ⟨k, hm, hs2, hs3, rfl⟩
 by_cases hlt : k < s.size
 ·have hx2 := Ju hf hlt
  have ha : s[k].toNat < 128 := by rcases hx2 with e | e <;> rw [e] <;> decide
  have hdec := decode_ascii s k hlt ha
  have hb1 := Fu (s := s.toList) (c := 120) (k := k) (n := 4) (by omega)
  have hb2 := Fu (s := s.toList) (c := 121) (k := k) (n := 4) (by omega)
  refine Ac <| Aj fun ds => A5 rfl <| G7 Aa (i := 0) rfl hlt hdec (.here) <| Aw (Ag 1) <| Ac <| Ah Aa rfl ?_
  by_cases hx : s[k] = 120
  ·have hy : ¬ s[k] = 121 := by rw [hx]; decide
   refine Ak <| Ab <| Aq <| AD (Ag 2) <| AD (Ag 2) <| Ah Aa (dT ((Ch (n := 120) (by decide)).2 hx)) <| Aj fun ds => Ao (Ag 1) <| Ad rfl (BM Aa Aa rfl (by omega) (by omega)) <| Ao (Ag 1) <| Al <| A4 ?_
   refine Ab ⟨_, m - 1, Off.eq (Ci rfl <| BQ rfl <| A3), by omega, ?_⟩
   exact ⟨k + 1, by omega, BC (congrArg (Value.int .i64) (by rw [Gb hlt hx]; push_cast; rfl)), BC (congrArg (Value.int .i64) (by rw [Hk hlt hy])), rfl⟩
  have hy : s[k] = 121 := hx2.resolve_left hx
  refine Ak <| Ab <| Aq <| AD (Ag 2) <| AD (Ag 2) <| Ae Aa (dF (fun h => hx ((Ch (n := 120) (by decide)).1 h))) <| Aj fun ds => Ao (Ag 1) <| Ad rfl (BM Aa Aa rfl (by omega) (by omega)) <| Ao (Ag 1) <| Al <| A4 ?_
  refine Ab ⟨_, m - 1, Off.eq (Ci rfl <| BQ rfl <| A3), by omega, ?_⟩
  exact ⟨k + 1, by omega, BC (congrArg (Value.int .i64) (by rw [Hk hlt hx])), BC (congrArg (Value.int .i64) (by rw [Gb hlt hy]; push_cast; rfl)), rfl⟩
 refine Ac <| Aj fun ds => A5 rfl <| Ki Aa (i := 0) rfl hlt <| Aw (Ag 1) <| Ac <| Ae Aa rfl ?_
 obtain rfl : k = s.size := by omega
 refine AG ?_
 refine A2 <| A2 <| A8 <| Ab <| AD (Ag 4) <| Au <| Am rfl Bi ?_
 show Value.tuple _ = Value.tuple _
 rw [← EN, ← EN, EZ]
end
section
open Go.RowKit
section
variable {P : Program} {n : Nat} {B : Base} {e : Env} {σ : St} {d : Option Nat} {ty : TypeId} {pos : String} {af : Array Edge} {gd : Option (Nat × Bool)}
theorem CW {α : Type} {enc : α → List Value} {s : Nat} (hs : ∀ x, (enc x).length = s) : ∀ xs : List α, (xs.flatMap enc).length = xs.length * s
 | [] => by simp
 | x :: xs => by rw [List.flatMap_cons, List.length_append, hs, CW hs xs, List.length_cons, Nat.add_mul, Nat.one_mul]; omega
theorem SC {α : Type} {z : Value} {zl : List Value} {enc : α → List Value} {x0 : α} {s k : Nat} (hzl : z.cells = zl.toArray) (hx0 : enc x0 = zl) (hs : ∀ x, (enc x).length = s) (h0 : 0 < s) : madeCells z.cells (k * s) = ((List.replicate k x0).flatMap enc).toArray := by
 have hl : zl.length = s := by rw [← hx0]; exact hs x0
 rw [hzl]
 unfold madeCells
 apply Array.ext'
 simp only [Array.toList_map, Array.toList_range]
 apply List.ext_getElem
 · rw [List.length_map, List.length_range, CW hs, List.length_replicate]
 intro q h1 h2
 rw [List.length_map, List.length_range] at h1
 have hq : q / s < k := Nat.div_lt_of_lt_mul (by rw [Nat.mul_comm]; exact h1)
 have hm : q % s < s := Nat.mod_lt _ h0
 have h3 : (enc ((List.replicate k x0)[q / s]'(by rw [List.length_replicate]; exact hq)))[q % s]? = some (zl[q % s]'(by omega)) := by
   rw [List.getElem_replicate, hx0, List.getElem?_eq_getElem (by omega)]
 have h4 := Kt (enc := enc) (s := s) hs (j := q % s) (List.replicate k x0) (q / s) (by rw [List.length_replicate]; exact hq) h3
 rw [show q / s * s + q % s = q by rw [Nat.mul_comm]; exact Nat.div_add_mod q s, List.getElem?_eq_getElem h2] at h4
 rw [Option.some.inj h4]
 simp only [List.getElem_map, List.getElem_range, List.size_toArray, hl]
 rw [getElem!_pos _ _ (by simp; omega)]
 simp
theorem x_makeN {α : Type} {T E s bytes : Nat} {x y : Operand} {z : Value} {zl : List Value} {enc : α → List Value} {x0 : α} {k : Nat} {i : Int} {K : Value → St → Prop} (hT : SliceT P T E s) (hE : ElemT P E s bytes z) (hzl : z.cells = zl.toArray) (hx0 : enc x0 = zl) (hs : ∀ x, (enc x).length = s) (h0 : 0 < s) (hx : ev e x = .int .i64 i) (hy : ev e y = .int .i64 i) (hi : i = (k : Int)) (hroom : bytes * k ≤ 281474976710656) (hk : k ≤ 9223372036854775807)
   (hn : ∀ v R, Own E s v (List.replicate k x0).length ((List.replicate k x0).flatMap enc) R → K v ⟨σ.F, R ++ σ.H⟩) :
   OpX P n B ⟨d, .makeSlice T x y, ty, pos, af, gd⟩ e σ K := .run fun w hw => by
 obtain ⟨j, hj, hj1, hj2, hj3⟩ := hE.ex
 subst hi
 subst hj2
 have hby : (j.bytes : Int) * (k : Int) ≤ 281474976710656 := by
   have : ((j.bytes * k : Nat) : Int) ≤ 281474976710656 := by omega
   rwa [Int.natCast_mul] at this
 have hr := run_make (P := P) w T E j z hT.1 hj hj3 .i64 .i64 k k (by omega) (Int.le_refl _) hby (by omega)
 rw [hj1, Int.toNat_natCast, SC hzl hx0 hs h0] at hr
 have ho := hn (.slice (some ⟨w.heap.size, 0, none⟩) k k) [(w.heap.size, bx E ((List.replicate k x0).flatMap enc))] (by
   rw [List.length_replicate]
   exact FA (by rw [CW hs, List.length_replicate]))
 refine ⟨_, _, _, .inl ?_, hw.alloc (bx E ((List.replicate k x0).flatMap enc)), ho⟩
 simp [execOp, hx, hy, hr, bx]
theorem K7 {α : Type} {T E s bytes : Nat} {x y : Operand} {z : Value} {zl : List Value} {enc : α → List Value} {x0 : α} {k : Nat} {i : Int} {K : Value → St → Prop} (hH : σ.H = []) (hT : SliceT P T E s) (hE : ElemT P E s bytes z) (hzl : z.cells = zl.toArray) (hx0 : enc x0 = zl) (hs : ∀ x, (enc x).length = s) (h0 : 0 < s) (hx : ev e x = .int .i64 i) (hy : ev e y = .int .i64 i) (hi : i = (k : Int)) (hroom : bytes * k ≤ 281474976710656) (hk : k ≤ 9223372036854775807)
   (hn : ∀ v R, Own E s v (List.replicate k x0).length ((List.replicate k x0).flatMap enc) R → K v ⟨σ.F, R⟩) :
   OpX P n B ⟨d, .makeSlice T x y, ty, pos, af, gd⟩ e σ K := x_makeN hT hE hzl hx0 hs h0 hx hy hi hroom hk fun v R ho => by
 rw [hH, List.append_nil]; exact hn v R ho
theorem x_copyR {T E s m k : Nat} {x y : Operand} {v u : Value} {cs news : List Value} {R TT : List (Nat × Obj)} {f g : List (Nat × Obj) → List (Nat × Obj)} {K : Value → St → Prop} {ts : Array TypeId} (hts : ts[0]? = some T) (hT : SliceT P T E s) (hx : ev e x = v) (hy : ev e y = u)
   (hown : Own E s v m cs R) (h0 : 0 < m) (hsrc : Src σ u k news s) (hkm : k ≤ m) (hnl : news.length = k * s) (hH : Hole σ.H TT f) (hR : Tail TT R g) (hn : ∀ R', Own E s v m (news ++ cs.drop news.length) R' → K (.int .i64 k) ⟨σ.F, f (g R')⟩) :
   OpX P n B ⟨d, .call ⟨.builtin .copy, #[x, y], ts⟩, ty, pos, af, gd⟩ e σ K := .run fun w hw => by
 obtain ⟨A, q1, q2⟩ := hH.eq
 obtain ⟨C, r1, r2⟩ := hR.eq
 match R, hown with
 | [], h => obtain ⟨-, h2, -⟩ := h; omega
 | [(bb, o)], h =>
   obtain ⟨cap, spare, rfl, rfl, h3, h4, h5⟩ := h
   have hH' : σ.H = A ++ ([(bb, bx E (cs ++ spare))] ++ C) := by rw [q1, r1]
   have hb := (hw.own (bb, bx E (cs ++ spare)) (by rw [hH']; simp)).1
   have hlen := hsrc.len (P := P) w
   have hcells := hsrc.run (P := P) hw
   obtain ⟨h1, h2, -⟩ := hsrc
   have hle : news.length ≤ cs.length := by rw [hnl, h3]; exact Nat.mul_le_mul_right s hkm
   obtain ⟨w', e1, e2, e3, e4, e5, e6, e7⟩ := CG (P := P) news 0 0 (cs ++ spare).toArray w hb (by simp; omega) h2
   have hset := KN news [] (cs ++ spare) (by simp; omega)
   simp only [List.nil_append, List.length_nil] at hset
   rw [Nat.zero_add, hset, List.drop_append_of_le_length hle, ← List.append_assoc] at e6
   have hs := BE (P := P) (T := E) (s := s) hT.2
   have hmin : Nat.min k m = k := Nat.min_eq_left hkm
   have hl : (news ++ cs.drop news.length).length = cs.length := by simp; omega
   have hnew := hn [(bb, bx E ((news ++ cs.drop news.length) ++ spare))] ⟨cap, spare, rfl, rfl, by rw [hl]; exact h3, by rw [List.length_append, hl]; simpa using h4, h5⟩
   rw [r2, q2] at hnew
   refine ⟨_, _, _, .inl ?_, hw.rewrite hH' e2 e3 e4 e5 e6 e7, hnew⟩
   simp only [execOp, resolve, invoke, builtin, Builtin.copy_]
   simp [Bq hT.1, hs, hlen, hcells, hmin, e1, goInt, hts, hx, hy]
end
def overTo (onto pile : List Lf) (tn : Bool) (i : Nat) : List Lf := onto ++ (List.replicate (pile.length - i) lf0 ++ ((pile.take i).map (Lf.flip tn)).reverse)
theorem FB {onto pile : List Lf} {tn : Bool} {i : Nat} (h : i ≤ pile.length) : (overTo onto pile tn i).length = onto.length + pile.length := by unfold overTo; simp; omega
theorem O5 {onto pile : List Lf} {tn : Bool} : overTo onto pile tn 0 = onto ++ List.replicate pile.length lf0 := by simp [overTo]
theorem Qc {onto pile : List Lf} {tn : Bool} : overTo onto pile tn pile.length = overL onto pile tn := by simp [overTo, overL]
theorem O6 {onto pile : List Lf} {tn : Bool} {i : Nat} (h : i < pile.length) : (overTo onto pile tn i).set (onto.length + pile.length - 1 - i) (pile[i].flip tn) = overTo onto pile tn (i + 1) := by
 unfold overTo
 rw [List.set_append_right _ _ (by omega), List.set_append_left _ _ (by rw [List.length_replicate]; omega)]
 congr 1
 obtain ⟨d, hd⟩ : ∃ d, pile.length - i = d + 1 := ⟨pile.length - i - 1, by omega⟩
 rw [hd, show pile.length - (i + 1) = d by omega, show onto.length + pile.length - 1 - i - onto.length = d by omega, List.replicate_succ', List.set_append_right _ _ (by simp), List.length_replicate, Nat.sub_self, List.set_cons_zero, List.take_succ_eq_append_getElem h, List.map_append, List.reverse_append, List.append_assoc]
 rfl
end
section
open Go.RowKit
section
variable {P : Program} {n : Nat} {B : Base} {e : Env} {σ : St} {ty : TypeId} {pos : String} {af : Array Edge}
end
theorem Sl.srcM {α : Type} {F : Heap} {H : List (Nat × Obj)} {v : Value} {s : Nat} {enc : α → List Value} {xs : List α} (h : Sl F v s enc xs) (hs : ∀ x, (enc x).length = s) (h1 : ∀ x ∈ xs, ∀ u ∈ enc x, u.oneCell' = true) :
   Src ⟨F, H⟩ v xs.length (xs.flatMap enc) s := by
 have hlen : ∀ l : List α, (l.flatMap enc).length = l.length * s := by
   intro l; induction l with
   | nil => simp
   | cons x l ih => simp [List.flatMap_cons, hs, ih, Nat.add_mul, Nat.add_comm]
 obtain ⟨a, c, rfl, hsp, hno, hlc, -⟩ := h.plain
 refine ⟨hlen xs, fun u hu => ?_, a, c, rfl, fun ha => (hno ha).1, fun x hx => ⟨fun h0 => hsp (by omega) x hx, fun j u hj => ?_⟩⟩
 · obtain ⟨x, hm, hx⟩ := List.mem_flatMap.1 hu
   exact h1 x hm u hx
 subst hx
 have key : ∀ (l : List α) (j : Nat) (u : Value), (l.flatMap enc)[j]? = some u → ∃ i k, ∃ hi : i < l.length, j = i * s + k ∧ (enc l[i])[k]? = some u := by
   intro l
   induction l with
   | nil => intro j u hj; simp at hj
   | cons x l ih =>
     intro j u hj
     rw [List.flatMap_cons, List.getElem?_append] at hj
     split at hj
     · exact ⟨0, j, by simp, by simp, by simpa using hj⟩
     rename_i hge
     rw [hs] at hj hge
     obtain ⟨i, k, hi, e1, e2⟩ := ih _ u hj
     exact ⟨i + 1, k, by simpa using hi, by rw [Nat.add_mul]; omega, by simpa using e2⟩
 obtain ⟨i, k, hi, rfl, hk⟩ := key xs j u hj
 have := h.cells i hi k u hk
 have hb : addc (base (.slice (some x) xs.length c)) (i * s + k) = addc x (i * s + k) := by
   simp [base, addc]
 rw [hb] at this
 exact this.cell
end
section
set_option maxRecDepth 100000
open Go.RowKit
theorem E6 : ZeroT Tryz.prog 97 (.agg #[.int .i64 0, .int .i64 0, .int .i64 0, .bool false, .bool false]) := Bw (by kernel_rfl)
theorem CP : AggT Tryz.prog 97 5 := C2 (by kernel_rfl)
instance : AggI Tryz.prog 97 5 := ⟨CP⟩
theorem JX : ElemT Tryz.prog 97 5 32 (.agg #[.int .i64 0, .int .i64 0, .int .i64 0, .bool false, .bool false]) := Dx (by kernel_rfl) rfl (by decide)
instance : FieldI Tryz.prog 97 3 3 := ⟨AU (by kernel_rfl)⟩
instance : FieldI Tryz.prog 97 4 4 := ⟨AU (by kernel_rfl)⟩
theorem Bz : SliceT Tryz.prog 81 97 5 := BO (by kernel_rfl)
instance : SliceI Tryz.prog 81 := ⟨_, _, Bz⟩
theorem Ss : SizeT Tryz.prog 4 1 := B1 (by kernel_rfl)
theorem Fd : SizeT Tryz.prog 97 5 := B1 (by kernel_rfl)
theorem TO {α : Type} {enc : α → List Value} {s : Nat} (hs : ∀ x, (enc x).length = s) {x0 : α} {p : Nat} {l : List α} : ((List.replicate (l.length + p) x0).flatMap enc).drop (l.flatMap enc).length = (List.replicate p x0).flatMap enc := by
 rw [← List.replicate_append_replicate, List.flatMap_append, List.drop_left' (by rw [CW hs, CW hs, List.length_replicate])]
theorem U3 {x : Lf} {tn : Bool} : (Value.agg #[.int .i64 x.sheet, .int .i64 x.col, .int .i64 x.row, .bool (!x.inner), .bool (!(x.turned == tn))]).cells = (x.flip tn).enc.toArray := rfl
theorem Km {F : Heap} {v u : Value} {onto pile : List Lf} (hx : Sl F v 5 Lf.enc onto) (hy : Sl F u 5 Lf.enc pile) {tn : Bool} (h1 : 1 ≤ onto.length) (h64 : onto.length + pile.length ≤ 64) : Ok Tryz.prog 129 [v, u, .bool tn].toArray F fun w F' => Sl F' w 5 Lf.enc (overL onto pile tn) := by
 refine Ok.intro Tryz.func129 rfl Tryz.ntmps129 rfl fun w0 => ?_
 have hL1 := hx.plain.lt
 have hL2 := hy.plain.lt
 refine AD (Ag 1) <| Ax (Ag 1) fun ds => Ad rfl (AA Bz Aa hx.plain) <| Ao (Ag 1) <| Ad rfl (AA Bz Aa hy.plain) <| Ad rfl (AJ Aa Aa rfl (by omega) (by omega)) <| A5 rfl <| K7 (enc := Lf.enc) (x0 := lf0) (k := onto.length + pile.length) rfl Bz JX rfl rfl (fun _ => rfl) (by decide) Aa Aa (by push_cast; rfl) (by omega) (by omega) fun v1 R2 ho5 => ?_
 obtain ⟨v7, hv7⟩ : ∃ y, y = v1 := ⟨_, rfl⟩
 subst hv7
 refine Aw (Ag 1) <| Ax (Ag 2) fun ds => A5 rfl <| x_copyR rfl Bz Aa Aa ho5 (by rw [List.length_replicate]; omega) (hx.srcM (fun _ => rfl) fun p _ => Lf.enc_one) (show onto.length ≤ _ by rw [List.length_replicate]; omega) (CW (enc := Lf.enc) (s := 5) (fun _ => rfl) _) (.z) .last fun R9 ho6 => Al <| Ab <| Ac <| Ac ?_
 have ho8 : Own 97 5 v7 (overTo onto pile tn 0).length ((overTo onto pile tn 0).flatMap Lf.enc) R9 := by have h9 := ho6; rw [TO (enc := Lf.enc) (s := 5) (fun _ => rfl), ← List.flatMap_append, ← O5 (tn := tn)] at h9; exact h9.to (by rw [FB (by omega), List.length_replicate])
 refine Aj fun ds => Ao (Ag 1) <| Ad rfl (AA Bz Aa hy.plain) <| Aw (Ag 1) <| Aq ?_
 refine AH [8, 9, 21, 22, 23, 24, 25, 26, 27, 28, 29, 30, 31, 32, 33, 34, 35, 36, 37, 38, 39, 40, 41, 42, 43] (fun m e σ => ∃ k : Nat, m + k = pile.length ∧ Fct e 21 (.int .i64 (k : Int)) ∧ ∃ R7, Own 97 5 v7 (overTo onto pile tn k).length ((overTo onto pile tn k).flatMap Lf.enc) R7 ∧ σ = ⟨F, R7⟩) (pile.length) ?_ ?_
 · exact ⟨0, by omega, Ba, _, ho8, rfl⟩
 rintro m e _ ⟨k, hm, hs21, R7, ho, rfl⟩
 by_cases hlt : k < pile.length
 ·have hol := FB (onto := onto) (pile := pile) (tn := tn) (i := k) (by omega)
  refine AD (Ag 1) <| Ac <| Ah Aa (by first | rfl | exact dT (by omega)) <| Ak <| Ab <| Ac <| Aq <| Ax (Ag 1) fun ds => Ad rfl (A1 (k := k) Bz Aa hy.plain Aa rfl hlt) <| Ad rfl (A6 CP Aa rfl rfl (hy.whole hlt)) <| A5 rfl <| AF E6 rfl fun b4 hb4 nb4 => Ao (Ag 1) <| AZ <| AC Fd Aa Aa (i := 0) rfl rfl rfl rfl Lf.enc_one (.here) <| Al <| Ab <| Ax (Ag 4) fun ds => AZ <| AW Ss Aa Aa (i := 0) rfl (.next <| .next <| .next <| .here) rfl (.here) <| Al <| Ab <| Ax (Ag 3) fun ds => Ad rfl (Oo Tryz.underlying4 Aa Aa) <| Ao (Ag 1) <| AZ <| AW Ss Aa Aa (i := 0) rfl (.next <| .next <| .next <| .next <| .here) rfl (.here) <| Al <| Ab <| Aj fun ds => Ao (Ag 2) <| Ad rfl (AA Bz Aa (ho.plain (by omega))) <| Ad rfl (Br Aa Aa rfl (by omega) (by omega)) <| Ao (Ag 1) <| Ad rfl (Br Aa Aa rfl (by omega) (by omega)) <| Ao (Ag 1) <| Ad rfl (A1 (k := onto.length + pile.length - 1 - k) Bz Aa (ho.plain (by omega)) Aa (by omega) (by omega)) <| AZ <| Ji (vs := (Lf.flip tn pile[k]).enc) Fd Aa Aa U3 rfl ho (by rw [CW (enc := Lf.enc) (s := 5) (fun _ => rfl)]; omega) (by decide) Lf.enc_one (.s <| .z) .last fun R9 ho9 => Al <| A4 <| Ab ?_
  have ho2 : Own 97 5 v7 (overTo onto pile tn (k + 1)).length ((overTo onto pile tn (k + 1)).flatMap Lf.enc) R9 := by have h9 := ho9; rw [HJ (enc := Lf.enc) (s := 5) (fun _ => rfl) _ _ (by omega), O6 hlt] at h9; exact h9.to (by rw [FB (by omega), FB (by omega)])
  refine Bk (fun _ _ h => h.drop (kD <| .refl _)) <| Aj fun ds => Ad rfl (AJ Aa Aa rfl (by omega) (by omega)) <| Ao (Ag 1) <| Al ?_
  refine Ab ⟨_, m - 1, Off.eq (Bx rfl <| Ci rfl <| BQ rfl <| A3), by omega, ?_⟩
  exact ⟨k + 1, by omega, Ba, _, ho2, rfl⟩
 refine AD (Ag 1) <| Ac <| Ae Aa (by first | rfl | exact dF (by omega)) ?_
 obtain rfl : k = pile.length := by omega
 rw [Qc] at ho
 have hol : (overL onto pile tn).length = onto.length + pile.length := by simp [overL]
 refine Bo (σ := ⟨_, _⟩) (by rfl) ho (.z) .last fun F5 hF6 hz7 => ?_
 have hres := ho.sl (fun _ => rfl) hz7 (by omega)
 refine AG ?_
 refine A2 <| A2 <| A8 <| Ab <| AD (Ag 2) <| Au <| Am rfl Bi ?_
 exact hres
end
section
open Go.RowKit
def cellsP (f : Nat → Value) : List Value := (List.range 256).map f
theorem EI {f : Nat → Value} : (cellsP f).length = 256 := by simp [cellsP]
theorem Tk {f : Nat → Value} {i : Nat} (h : i < 256) : (cellsP f)[i]? = some (f i) := by simp [cellsP, h]
theorem QE {f : Nat → Value} {i : Nat} {v : Value} : (cellsP f).set i v = cellsP fun j => if j = i then v else f j := by
 apply List.ext_getElem
 · simp [cellsP]
 intro j h1 h2
 rw [List.getElem_set]
 simp only [cellsP, List.getElem_map, List.getElem_range]
 by_cases hij : i = j
 · rw [if_pos hij, if_pos hij.symm]
 rw [if_neg hij, if_neg (fun q => hij q.symm)]
def PilS (F : Heap) (f : Nat → Value) (S : Nat → Nat → Prop) (P : Piles) : Prop := ∀ c r, c < 16 → r < 16 → S c r → Sl F (f (c * 16 + r)) 5 Lf.enc (P c r)
theorem PilS.mono {F F' : Heap} {f : Nat → Value} {S : Nat → Nat → Prop} {P : Piles} (h : PilS F f S P) (hF : F.le F') : PilS F' f S P := fun c r hc hr hs => (h c r hc hr hs).mono hF
theorem PilS.less {F : Heap} {f : Nat → Value} {S S' : Nat → Nat → Prop} {P : Piles} (h : PilS F f S P) (hs : ∀ c r, S' c r → S c r) : PilS F f S' P := fun c r hc hr h1 => h c r hc hr (hs c r h1)
theorem PilS.put {F : Heap} {f : Nat → Value} {S S' : Nat → Nat → Prop} {P P' : Piles} {v : Value} {a b : Nat} (h : PilS F f S P) (hb : b < 16) (hv : Sl F v 5 Lf.enc (P' a b)) (hs : ∀ c r, S' c r → ¬ (c = a ∧ r = b) → S c r ∧ P' c r = P c r) : PilS F (fun j => if j = a * 16 + b then v else f j) S' P' := fun c r hc hr h1 => by
 by_cases hcr : c = a ∧ r = b
 · obtain ⟨rfl, rfl⟩ := hcr
   show Sl F (if c * 16 + r = c * 16 + r then v else _) 5 Lf.enc _
   rw [if_pos rfl]; exact hv
 obtain ⟨h2, h3⟩ := hs c r h1 hcr
 show Sl F (if c * 16 + r = a * 16 + b then v else _) 5 Lf.enc _
 rw [if_neg (by intro e; exact hcr (by omega)), h3]
 exact h c r hc hr h2
theorem lf_box1 {F : Heap} {b T : Nat} {c r : Int} (h : F b = some (bx T [.int .i64 0, .int .i64 c, .int .i64 r, .bool false, .bool false])) : Sl F (.slice (some ⟨b, 0, none⟩) 1 1) 5 Lf.enc [⟨0, c, r, false, false⟩] :=
 D0 (xs := [(⟨0, c, r, false, false⟩ : Lf)]) h rfl rfl (fun _ => rfl) (by decide)
theorem QA {s : List UInt8} {half : Bool} (hc : ∀ c ∈ s, c = 120 ∨ c = 121) : ∀ k, k ≤ s.length → (foldTo s half k).1 = 2 ^ (s.drop k).countP (· == 120) ∧ (foldTo s half k).2.1 = 2 ^ (s.drop k).countP (· == 121)
 | 0, _ => by simp [foldTo, timesN]
 | k + 1, hk => by
   obtain ⟨h1, h2⟩ := QA (half := half) hc k (by omega)
   have hlt : k < s.length := by omega
   rw [List.drop_eq_getElem_cons hlt] at h1 h2
   rw [List.countP_cons] at h1 h2
   unfold foldTo
   simp only [List.getElem?_eq_getElem hlt, Option.getD_some]
   rcases hc s[k] (List.getElem_mem _) with e | e
   · rw [if_pos e]
     rw [e] at h1 h2
     refine ⟨?_, ?_⟩
     · show (foldTo s half k).1 / 2 = _
       rw [h1]; simp [Nat.pow_succ]
     show (foldTo s half k).2.1 = _
     rw [h2]; simp
   have hne : ¬ s[k] = 120 := by rw [e]; decide
   rw [if_neg hne]
   rw [e] at h1 h2
   refine ⟨?_, ?_⟩
   · show (foldTo s half k).1 = _
     rw [h1]; simp
   show (foldTo s half k).2.1 / 2 = _
   rw [h2]; simp [Nat.pow_succ]
theorem HP {s : List UInt8} {half : Bool} (hc : ∀ c ∈ s, c = 120 ∨ c = 121) (h4 : s.length ≤ 4) {k : Nat} (hk : k ≤ s.length) : (1 ≤ (foldTo s half k).1 ∧ (foldTo s half k).1 ≤ 16) ∧ 1 ≤ (foldTo s half k).2.1 ∧ (foldTo s half k).2.1 ≤ 16 := by
 obtain ⟨h1, h2⟩ := QA (half := half) hc k hk
 have key : ∀ c : UInt8, 1 ≤ 2 ^ (s.drop k).countP (· == c) ∧ 2 ^ (s.drop k).countP (· == c) ≤ 16 := fun c => by
   refine ⟨Nat.one_le_two_pow, ?_⟩
   have := List.countP_le_length (l := s.drop k) (p := (· == c))
   rw [List.length_drop] at this
   exact Nat.le_trans (Nat.pow_le_pow_right (by omega) (show _ ≤ 4 by omega)) (by decide)
 rw [h1, h2]
 exact ⟨key 120, key 121⟩
theorem UR {s : List UInt8} {half : Bool} (hc : ∀ c ∈ s, c = 120 ∨ c = 121) {k : Nat} (hk : k < s.length) (e : s[k] = 120) : (foldTo s half k).1 = 2 * (foldTo s half (k + 1)).1 ∧ (foldTo s half (k + 1)).2.1 = (foldTo s half k).2.1 ∧ (foldTo s half (k + 1)).1 = (foldTo s half k).1 / 2 := by
 have h1 := (QA (half := half) hc k (by omega)).1
 have h2 := (QA (half := half) hc (k + 1) (by omega)).1
 rw [List.drop_eq_getElem_cons hk, List.countP_cons, e] at h1
 refine ⟨by rw [h1, h2]; simp [Nat.pow_succ]; omega, ?_, ?_⟩
 · show (if s[k]?.getD 0 = 120 then _ else _ : Nat × Nat × Piles).2.1 = _
   rw [List.getElem?_eq_getElem hk, Option.getD_some, if_pos e]
 show (if s[k]?.getD 0 = 120 then _ else _ : Nat × Nat × Piles).1 = _
 rw [List.getElem?_eq_getElem hk, Option.getD_some, if_pos e]
theorem UQ {s : List UInt8} {half : Bool} (hc : ∀ c ∈ s, c = 120 ∨ c = 121) {k : Nat} (hk : k < s.length) (e : s[k] = 121) : (foldTo s half k).2.1 = 2 * (foldTo s half (k + 1)).2.1 ∧ (foldTo s half (k + 1)).1 = (foldTo s half k).1 ∧ (foldTo s half (k + 1)).2.1 = (foldTo s half k).2.1 / 2 := by
 have h1 := (QA (half := half) hc k (by omega)).2
 have h2 := (QA (half := half) hc (k + 1) (by omega)).2
 have hne : ¬ s[k] = 120 := by rw [e]; decide
 rw [List.drop_eq_getElem_cons hk, List.countP_cons, e] at h1
 refine ⟨by rw [h1, h2]; simp [Nat.pow_succ]; omega, ?_, ?_⟩
 · show (if s[k]?.getD 0 = 120 then _ else _ : Nat × Nat × Piles).1 = _
   rw [List.getElem?_eq_getElem hk, Option.getD_some, if_neg hne]
 show (if s[k]?.getD 0 = 120 then _ else _ : Nat × Nat × Piles).2.1 = _
 rw [List.getElem?_eq_getElem hk, Option.getD_some, if_neg hne]
theorem D3 {s : List UInt8} {half : Bool} {k : Nat} (hk : k < s.length) : (foldTo s half (k + 1)).2.2 = if k = 0 ∧ half = true then (foldTo s half k).2.2 else if s[k] = 120 then foldX (foldTo s half (k + 1)).1 (lastC s != 120) (foldTo s half k).2.2 else foldY (foldTo s half (k + 1)).2.1 (lastC s != 121) (foldTo s half k).2.2 := by
 have key : foldTo s half (k + 1) = if s[k] = 120 then ((foldTo s half k).1 / 2, (foldTo s half k).2.1, if k = 0 ∧ half = true then (foldTo s half k).2.2 else foldX ((foldTo s half k).1 / 2) (lastC s != 120) (foldTo s half k).2.2) else ((foldTo s half k).1, (foldTo s half k).2.1 / 2, if k = 0 ∧ half = true then (foldTo s half k).2.2 else foldY ((foldTo s half k).2.1 / 2) (lastC s != 121) (foldTo s half k).2.2) := by
   show (if s[k]?.getD 0 = 120 then _ else _ : Nat × Nat × Piles) = _
   rw [List.getElem?_eq_getElem hk, Option.getD_some]
 rw [key]
 by_cases h1 : k = 0 ∧ half = true
 · rw [if_pos h1]; split <;> simp [h1]
 rw [if_neg h1]; split <;> simp
theorem Dl {s : List UInt8} {half : Bool} (hc : ∀ c ∈ s, c = 120 ∨ c = 121) : ∀ k, k ≤ s.length → ∀ a b, a < (foldTo s half k).1 → b < (foldTo s half k).2.1 → 1 ≤ ((foldTo s half k).2.2 a b).length ∧ ((foldTo s half k).2.2 a b).length ≤ 2 ^ k
 | 0, _, a, b, _, _ => by simp [foldTo, pile0]
 | k + 1, hk, a, b, ha, hb => by
   have hlt : k < s.length := by omega
   have ih := Dl (half := half) hc k (by omega)
   rw [D3 hlt]
   have hp : 2 ^ (k + 1) = 2 ^ k + 2 ^ k := by rw [Nat.pow_succ]; omega
   rcases hc s[k] (List.getElem_mem _) with e | e
   · obtain ⟨d1, d2, -⟩ := UR (half := half) hc hlt e
     by_cases hk0 : k = 0 ∧ half = true
     · rw [if_pos hk0]; have := ih a b (by omega) (by omega); omega
     rw [if_neg hk0, if_pos e]
     unfold foldX
     rw [if_pos ha]
     have h1 := ih a b (by omega) (by omega)
     have h2 := ih (2 * (foldTo s half (k + 1)).1 - 1 - a) b (by omega) (by omega)
     unfold overL; simp; omega
   obtain ⟨d1, d2, -⟩ := UQ (half := half) hc hlt e
   have hne : ¬ s[k] = 120 := by rw [e]; decide
   by_cases hk0 : k = 0 ∧ half = true
   · rw [if_pos hk0]; have := ih a b (by omega) (by omega); omega
   rw [if_neg hk0, if_neg hne]
   unfold foldY
   rw [if_pos hb]
   have h1 := ih a b (by omega) (by omega)
   have h2 := ih a (2 * (foldTo s half (k + 1)).2.1 - 1 - b) (by omega) (by omega)
   unfold overL; simp; omega
theorem CO {f : Nat → Value} {a b : Nat} (ha : a < 16) (hb : b < 16) : (cellsP f)[0 + a * 16 + b * 1]? = some (f (a * 16 + b)) := by
 rw [show 0 + a * 16 + b * 1 = a * 16 + b by omega]; exact Tk (by omega)
theorem El {f : Nat → Value} {a b : Nat} {v : Value} : (cellsP f).set (0 + a * 16 + b * 1) v = cellsP fun j => if j = a * 16 + b then v else f j := by
 rw [show 0 + a * 16 + b * 1 = a * 16 + b by omega]; exact QE
def mixP (new old : Piles) (R a b : Nat) : Piles := fun c r => if (c < a ∧ r < R) ∨ (c = a ∧ r < b) then new c r else old c r
theorem DH {new old : Piles} {R a b c r : Nat} (h : ¬ ((c < a ∧ r < R) ∨ (c = a ∧ r < b))) : mixP new old R a b c r = old c r := if_neg h
theorem OH {new old : Piles} {R a b c r : Nat} (h : (c < a ∧ r < R) ∨ (c = a ∧ r < b)) : mixP new old R a b c r = new c r := if_pos h
theorem PilS.step {F : Heap} {f : Nat → Value} {S : Nat → Nat → Prop} {new old : Piles} {R a b : Nat} {v : Value} (h : PilS F f S (mixP new old R a b)) (hb : b < 16) (hv : Sl F v 5 Lf.enc (new a b)) : PilS F (fun j => if j = a * 16 + b then v else f j) S (mixP new old R a (b + 1)) :=
 h.put hb (by rw [OH (.inr ⟨rfl, by omega⟩)]; exact hv) fun c r hs hn => ⟨hs, by
   unfold mixP
   by_cases h1 : (c < a ∧ r < R) ∨ (c = a ∧ r < b)
   · rw [if_pos h1, if_pos (by omega)]
   rw [if_neg h1, if_neg (by omega)]⟩
theorem PilS.row {F : Heap} {f : Nat → Value} {S : Nat → Nat → Prop} {new old : Piles} {R a : Nat} (h : PilS F f S (mixP new old R a R)) : PilS F f S (mixP new old R (a + 1) 0) := fun c r hc hr hs => by
 have h1 := h c r hc hr hs
 unfold mixP at h1 ⊢
 by_cases h2 : (c < a ∧ r < R) ∨ (c = a ∧ r < R)
 · rw [if_pos h2] at h1; rw [if_pos (by omega)]; exact h1
 rw [if_neg h2] at h1; rw [if_neg (by omega)]; exact h1
theorem PilS.start {F : Heap} {f : Nat → Value} {S : Nat → Nat → Prop} {new old : Piles} {R : Nat} (h : PilS F f S old) : PilS F f S (mixP new old R 0 0) := fun c r hc hr hs => by
 rw [DH (by omega)]; exact h c r hc hr hs
theorem PilS.done {F : Heap} {f : Nat → Value} {S : Nat → Nat → Prop} {new old : Piles} {R C : Nat} (h : PilS F f S (mixP new old R C 0)) (hs : ∀ c r, c < C ∧ r < R → S c r) : PilS F f (fun c r => c < C ∧ r < R) new := fun c r hc hr h1 => by
 have h2 := h c r hc hr (hs c r h1)
 rw [OH (.inl h1)] at h2; exact h2
theorem tn_eq {s : ByteArray} (h : 0 < s.size) {n : Nat} (hn : n < 256) : decide (((s[s.size - 1]'(by omega)).toNat : Int) ≠ (n : Int)) = (lastC s.toList != UInt8.ofNat n) := by
 rw [HG h, Bool.eq_iff_iff, decide_eq_true_iff, bne_iff_ne]
 exact not_congr (Ch hn)
theorem tn_x {s : ByteArray} (h : 0 < s.size) : decide (((s[s.size - 1]'(by omega)).toNat : Int) ≠ 120) = (lastC s.toList != 120) := tn_eq h (n := 120) (by decide)
theorem tn_y {s : ByteArray} (h : 0 < s.size) : decide (((s[s.size - 1]'(by omega)).toNat : Int) ≠ 121) = (lastC s.toList != 121) := tn_eq h (n := 121) (by decide)
theorem Pe {cols a b : Nat} {tn : Bool} {p : Piles} (h : a < cols) : foldX cols tn p a b = overL (p a b) (p (2 * cols - 1 - a) b) tn := if_pos h
theorem Pd {rows a b : Nat} {tn : Bool} {p : Piles} (h : b < rows) : foldY rows tn p a b = overL (p a b) (p a (2 * rows - 1 - b)) tn := if_pos h
theorem US {s : List UInt8} {half : Bool} (hc : ∀ c ∈ s, c = 120 ∨ c = 121) : (foldTo s half s.length).1 = 1 ∧ (foldTo s half s.length).2.1 = 1 := by
 obtain ⟨h1, h2⟩ := QA (half := half) hc s.length (Nat.le_refl _)
 rw [List.drop_length] at h1 h2
 exact ⟨h1, h2⟩
theorem Q1 {s : ByteArray} (h : foldsB s = true) : ∀ c ∈ s.toList, c = 120 ∨ c = 121 := fun c hc => by simpa using List.all_eq_true.1 h c hc
end
section
set_option maxHeartbeats 1000000
set_option maxRecDepth 100000
open Go.RowKit
theorem zr_216 : ZeroT Tryz.prog 216 (.agg (cellsP fun _ => .slice none 0 0).toArray) := Bw (by kernel_rfl)
theorem DK : ArrT Tryz.prog 214 16 81 1 := K3 (by kernel_rfl)
theorem DJ : ArrT Tryz.prog 216 16 214 16 := K3 (by kernel_rfl)
theorem NG : Body Tryz.prog 129 := AB (by kernel_rfl)
theorem MR : Body Tryz.prog 61 := AB (by kernel_rfl)
theorem LE : BuildT Tryz.prog 97 [.int .i64 0, .int .i64 0, .int .i64 0, .bool false, .bool false] [(0, 1), (1, 1), (2, 1), (3, 1), (4, 1)] := BG E6 (by kernel_rfl) (by decide)
theorem D4 : OneT Tryz.prog 81 := BA (by kernel_rfl)
instance : OneI Tryz.prog 81 := ⟨D4⟩
theorem Ml : SizeT Tryz.prog 81 1 := B1 (by kernel_rfl)
theorem SU {F : Heap} {s : ByteArray} (h1 : 1 ≤ s.size) (h4 : s.size ≤ 4) (hf : foldsB s = true) {half : Bool} : Ok Tryz.prog 97 [.string s, .bool half].toArray F fun u F' => Sl F' u 5 Lf.enc (sheetL s.toList half) := by
 refine Ok.intro Tryz.func97 rfl Tryz.ntmps97 rfl fun w0 => ?_
 have hcl := Q1 hf
 have hc0 : (foldTo s.toList half 0).1 = timesN s.toList 120 := rfl
 have hr0 : (foldTo s.toList half 0).2.1 = timesN s.toList 121 := rfl
 have hlen := EZ (s := s)
 have hd0 := HP (half := half) hcl (by omega) (k := 0) (by omega)
 refine AD (Ag 1) <| Ax (Ag 1) fun ds => AE rfl (As MR Aa AO (Fm h4 hf) (fun _ _ h => h)) <| Aw (Ag 5) <| Ac <| Aj fun ds => A5 rfl <| AF zr_216 rfl fun b1 hb1 nb1 => Al <| Ab <| Ac <| AD (Ag 2) <| Aq ?_
 refine AH [8, 9, 21, 22, 23, 24, 25, 26, 27, 28, 29, 30, 31, 32, 33, 34, 35, 36, 37] (fun m e σ => ∃ c : Nat, m + c = (foldTo s.toList half 0).1 ∧ Fct e 21 (.int .i64 (c : Int)) ∧ ∃ G f, F.le G ∧ PilS G f (fun c2 r2 => c2 < c ∧ r2 < (foldTo s.toList half 0).2.1) pile0 ∧ σ = ⟨G, [(b1, bx 216 (cellsP f))]⟩) ((foldTo s.toList half 0).1) ?_ ?_
 · exact ⟨0, by omega, Ba, _, _, Heap.le_refl _, (fun c2 r2 _ _ hs => absurd hs.1 (by omega)), rfl⟩
 rintro m e _ ⟨c, hm, hs21, G1, f1, hle0, hP, rfl⟩
 by_cases hlt : c < (foldTo s.toList half 0).1
 ·refine AD (Ag 1) <| Ac <| Ah Aa (by first | rfl | exact dT (by omega)) <| Ak <| Ab <| Ac <| Aq <| AD (Ag 2) <| AD (Ag 2) <| Aq ?_
  refine AH [9, 25, 26, 27, 28, 29, 30, 31, 32, 33, 34, 35, 36] (fun m e σ => ∃ r : Nat, m + r = (foldTo s.toList half 0).2.1 ∧ Fct e 25 (.int .i64 (r : Int)) ∧ ∃ G f, F.le G ∧ PilS G f (fun c2 r2 => (c2 < c ∧ r2 < (foldTo s.toList half 0).2.1) ∨ (c2 = c ∧ r2 < r)) pile0 ∧ σ = ⟨G, [(b1, bx 216 (cellsP f))]⟩) ((foldTo s.toList half 0).2.1) ?_ ?_
  · exact ⟨0, by omega, Ba, _, _, hle0, hP.less (fun c2 r2 hs => by omega), rfl⟩
  rintro m2 e2 _ ⟨r, hm2, ht25, G2, f2, hle0, hP, rfl⟩
  by_cases hlt2 : r < (foldTo s.toList half 0).2.1
  ·refine AD (Ag 1) <| Ac <| Ah Aa (by first | rfl | exact dT (by omega)) <| Ak <| Ab <| Ac <| Aq <| AD (Ag 2) <| Aj fun ds => Ao (Ag 4) <| Ad rfl (Bg LE (.cons Aa rfl (.cons Aa rfl .nil)) (.cons rfl rfl (Nat.le_of_ble_eq_true rfl) (.cons (.next <| .here) .nil) (.cons rfl rfl (Nat.le_of_ble_eq_true rfl) (.cons (.next <| .next <| .here) .nil) .nil))) <| A5 rfl <| B0 (offs := [(0, 5)]) (zl := [.int .i64 0, .int .i64 0, .int .i64 0, .bool false, .bool false]) Bz E6 rfl (.cons Aa rfl .nil) (by intro i p h; rcases i with _ | i <;> simp at h <;> subst h <;> rfl) (.cons rfl rfl (Nat.le_of_ble_eq_true rfl) (.cons (.here) (.cons (.next <| .here) (.cons (.next <| .next <| .here) (.cons (.next <| .next <| .next <| .here) (.cons (.next <| .next <| .next <| .next <| .here) .nil))))) .nil) (by decide) (by decide) fun b4 hb4 nb4 => AQ (i := 0) rfl hb4 .here fun F5 hF6 hz7 => ?_
   replace hP := hP.mono hF6
   replace hle0 := Heap.le_trans hle0 hF6
   have hsl8 := lf_box1 hz7
   refine Ad rfl (Bc (k := c) DJ Aa Aa rfl (by omega)) <| Ad rfl (Bc (k := r) DK Aa Aa rfl (by omega)) <| AZ <| Ef Ml Aa rfl Aa (i := 0) rfl (by rw [EI]; omega) hsl8.plain.one .here <| Al <| A4 <| Ab ?_
   rw [El]
   refine Aj fun ds => Ad rfl (AJ Aa Aa rfl (by omega) (by omega)) <| Ao (Ag 1) <| Al ?_
   refine Ab ⟨_, m2 - 1, Off.eq (Ci rfl <| BI rfl <| BQ rfl <| A3), by omega, ?_⟩
   exact ⟨r + 1, by omega, Ba, _, _, hle0, hP.put (by omega) hsl8 (fun c2 r2 hs hn => ⟨by omega, rfl⟩), rfl⟩
  refine AD (Ag 1) <| Ac <| Ae Aa (by first | rfl | exact dF (by omega)) ?_
  obtain rfl : r = (foldTo s.toList half 0).2.1 := by omega
  refine AG ?_
  refine A2 <| A2 <| A8 <| A4 <| Ab <| Aj fun ds => Ad rfl (AJ Aa Aa rfl (by omega) (by omega)) <| Ao (Ag 1) <| Al ?_
  refine Ab ⟨_, m - 1, Off.eq (BF rfl <| BQ rfl <| B7 rfl <| BI rfl <| BQ rfl <| A3), by omega, ?_⟩
  exact ⟨c + 1, by omega, Ba, _, _, hle0, hP.less (fun c2 r2 hs => by omega), rfl⟩
 refine AD (Ag 1) <| Ac <| Ae Aa (by first | rfl | exact dF (by omega)) ?_
 obtain rfl : c = (foldTo s.toList half 0).1 := by omega
 refine AG ?_
 refine A2 <| A2 <| A8 <| Ab <| Ax (Ag 2) fun ds => Ad rfl (Cg Tryz.underlying9 Aa) <| Ad rfl (Br Aa Aa rfl (by omega) (by omega)) <| Ad rfl (BJ Tryz.underlying9 Aa Aa (show _ = ((s.size - 1 : Nat) : Int) by omega) (show s.size - 1 < s.size by omega)) <| Aw (Ag 1) <| Ac <| Ax (Ag 1) fun ds => A5 rfl <| Ht Tryz.underlying9 Aa fun b9 hb9 nb9 => Al <| Ab <| Aq ?_
 refine AH [5, 6, 11, 12, 13, 14, 45, 46, 47, 48, 49, 50, 51, 52, 53, 54, 55, 56, 57, 58, 59, 60, 61, 62, 63, 64, 65, 66, 67, 68, 69, 70, 71, 72, 73, 74, 75, 76, 77, 78, 79, 80, 81, 82, 83, 84, 85, 86, 87, 88, 89, 90, 91, 92, 93, 94, 95, 96, 97, 98, 99, 100, 101, 102, 103, 104, 105, 106, 107, 108, 109, 110, 111, 112, 113] (fun m e σ => ∃ k : Nat, m + k = s.size ∧ Fct e 5 (.int .i64 ((foldTo s.toList half k).1 : Int)) ∧ Fct e 6 (.int .i64 ((foldTo s.toList half k).2.1 : Int)) ∧ ∃ G f, F.le G ∧ PilS G f (fun c2 r2 => c2 < (foldTo s.toList half k).1 ∧ r2 < (foldTo s.toList half k).2.1) (foldTo s.toList half k).2.2 ∧ σ = ⟨G, [(b9, .stringIter s k), (b1, bx 216 (cellsP f))]⟩) (s.size) ?_ ?_
 · exact ⟨0, by omega, Ba, Ba, _, _, hle0, hP, rfl⟩
 rintro m9 e9 _ ⟨k, hm9, hw5, hw6, G9, f9, hle0, hP, rfl⟩
 by_cases hlt : k < s.size
 ·have hx2 := Ju hf hlt
  have ha : s[k].toNat < 128 := by rcases hx2 with e | e <;> rw [e] <;> decide
  have hdec := decode_ascii s k hlt ha
  have hkl : k < s.toList.length := by omega
  refine Ac <| Aj fun ds => A5 rfl <| G7 Aa (i := 0) rfl hlt hdec (.here) <| Aw (Ag 1) <| Ac <| Ah Aa rfl ?_
  by_cases hx : s[k] = 120
  ·have hx9 :  s.toList[k] = 120 := by rw [HY hlt]; exact hx
   obtain ⟨d1, d2, d3⟩ := UR (half := half) hcl hkl (by rw [HY hlt]; exact hx)
   have hd := HP (half := half) hcl (by omega) (k := k) (by omega)
   have hd1 := HP (half := half) hcl (by omega) (k := k + 1) (by omega)
   have hpw : 2 ^ k ≤ 2 ^ 3 := Nat.pow_le_pow_right (by omega) (by omega)
   refine Ak <| Ab <| Aq <| AD (Ag 4) <| Ac <| AD (Ag 2) <| Ah Aa (dT ((Ch (n := 120) (by decide)).2 hx)) ?_
   by_cases h00 : k = 0
   ·refine Aj fun ds => Ao (Ag 1) <| Ad rfl (CE Aa Aa (Int.natCast_nonneg _) (by omega) (by decide)) <| Aw (Ag 1) <| Ac <| Ax (Ag 3) fun ds => Ai rfl rfl Aa (dT (by omega)) <| Ao (Ag 1) <| Ad rfl (At Aa (dT (by omega)) Aa) <| Al <| Ab ?_
    by_cases hh : half = true
    ·have hk0 : k = 0 ∧ half = true := ⟨h00, hh⟩
     refine Ah Aa hh <| AG <| A2 <| A8 ?_
     refine Ab ⟨_, m9 - 1, Off.eq (Bx rfl <| A3), by omega, ?_⟩
     exact ⟨k + 1, by omega, BC (congrArg (Value.int .i64) (by rw [d3]; push_cast; rfl)), BC (congrArg (Value.int .i64) (by rw [d2])), _, _, hle0, by rw [D3 hkl, if_pos hk0]; exact hP.less (fun c2 r2 hs => by omega), rfl⟩
    replace hh : half = false := by simpa using hh
    have hk0 : ¬ (k = 0 ∧ half = true) := fun h => by rw [hh] at h; cases h.2
    refine Ae Aa hh <| Ak <| Ab <| AD (Ag 2) <| Aq ?_
    refine AH [13, 14, 61, 62, 63, 64, 65, 66, 67, 68, 69, 70, 71, 72, 73, 74, 75, 76, 77, 78, 79, 80, 81, 82, 83, 84, 85, 86, 87, 88, 89, 90, 91, 92, 93, 94, 95, 96, 97, 98, 99, 100, 101, 102, 103, 104, 105, 106, 107, 108, 109, 110, 111, 112, 113] (fun m e σ => ∃ a : Nat, m + a = (foldTo s.toList half (k + 1)).1 ∧ Fct e 61 (.int .i64 (a : Int)) ∧ ∃ G f, F.le G ∧ PilS G f (fun c2 r2 => c2 < (foldTo s.toList half k).1 ∧ r2 < (foldTo s.toList half k).2.1) (mixP (foldX (foldTo s.toList half (k + 1)).1 (lastC s.toList != 120) (foldTo s.toList half k).2.2) (foldTo s.toList half k).2.2 (foldTo s.toList half (k + 1)).2.1 a 0) ∧ σ = ⟨G, [(b9, .stringIter s (k + 1)), (b1, bx 216 (cellsP f))]⟩) ((foldTo s.toList half (k + 1)).1) ?_ ?_
    · exact ⟨0, by omega, Ba, _, _, hle0, PilS.start hP, rfl⟩
    rintro m3 e3 _ ⟨a, hm3, hu61, G3, f3, hle0, hP, rfl⟩
    by_cases hlt3 : a < (foldTo s.toList half (k + 1)).1
    ·refine AD (Ag 1) <| Ac <| Ah Aa (by first | rfl | exact dT (by omega)) <| Ak <| Ab <| Ac <| Aq <| AD (Ag 2) <| AD (Ag 2) <| Aq ?_
     refine AH [14, 65, 66, 67, 68, 69, 70, 71, 72, 73, 74, 75, 76, 77, 78, 79, 80, 81, 82, 83, 84, 85, 86, 87, 88, 89, 90, 91, 92, 93, 94, 95, 96, 97, 98, 99, 100, 101, 102, 103, 104, 105, 106, 107, 108, 109, 110, 111, 112] (fun m e σ => ∃ b : Nat, m + b = (foldTo s.toList half (k + 1)).2.1 ∧ Fct e 65 (.int .i64 (b : Int)) ∧ ∃ G f, F.le G ∧ PilS G f (fun c2 r2 => c2 < (foldTo s.toList half k).1 ∧ r2 < (foldTo s.toList half k).2.1) (mixP (foldX (foldTo s.toList half (k + 1)).1 (lastC s.toList != 120) (foldTo s.toList half k).2.2) (foldTo s.toList half k).2.2 (foldTo s.toList half (k + 1)).2.1 a b) ∧ σ = ⟨G, [(b9, .stringIter s (k + 1)), (b1, bx 216 (cellsP f))]⟩) ((foldTo s.toList half (k + 1)).2.1) ?_ ?_
     · exact ⟨0, by omega, Ba, _, _, hle0, hP, rfl⟩
     rintro m4 e4 _ ⟨b, hm4, hv65, G4, f4, hle0, hP, rfl⟩
     by_cases hlt4 : b < (foldTo s.toList half (k + 1)).2.1
     ·have hA := hP a b (by omega) (by omega) (by omega)
      rw [DH (by omega)] at hA
      have hB := hP (2 * (foldTo s.toList half (k + 1)).1 - 1 - a) b (by omega) (by omega) (by omega)
      rw [DH (by omega)] at hB
      have hla := Dl (half := half) hcl k (by omega) a b (by omega) (by omega)
      have hlb := Dl (half := half) hcl k (by omega) (2 * (foldTo s.toList half (k + 1)).1 - 1 - a) b (by omega) (by omega)
      refine AD (Ag 1) <| Ac <| Ah Aa (by first | rfl | exact dT (by omega)) <| Ak <| Ab <| Ac <| Aq <| AD (Ag 2) <| AD (Ag 2) <| Ah Aa (dT ((Ch (n := 120) (by decide)).2 hx)) ?_
      have hleS := hle0
      refine Bf (.inl rfl) (fun _ _ h => h) (kK <| kK <| .refl _) [21] (by kernel_rfl) fun ds => Af 0 rfl (by kernel_rfl) (by kernel_rfl) (by kernel_rfl) (by kernel_rfl) rfl rfl (fun _ h => h.drop (kK <| kK <| .refl _)) (fun _ _ _ h => h) (A0 Aa) <| Af 1 rfl (by kernel_rfl) (by kernel_rfl) (by kernel_rfl) (by kernel_rfl) rfl rfl (fun _ h => h.drop (kK <| kK <| .refl _)) (fun _ _ _ h => h) (A0 Aa) <| Af 2 rfl (by kernel_rfl) (by kernel_rfl) (by kernel_rfl) (by kernel_rfl) rfl rfl (fun _ h => h.drop (kK <| kK <| .refl _)) (fun _ _ _ h => h) (A0 Aa) <| Af 3 rfl (by kernel_rfl) (by kernel_rfl) (by kernel_rfl) (by kernel_rfl) rfl rfl (fun _ h => h.drop (kK <| kK <| .refl _)) (fun _ _ _ h => h) (A0 Aa) <| Af 4 rfl (by kernel_rfl) (by kernel_rfl) (by kernel_rfl) (by kernel_rfl) rfl rfl (fun _ h => h.drop (kK <| kK <| .refl _)) (fun _ _ _ h => h) (Bc (k := a) DJ Aa Aa rfl (by omega)) <| Af 5 rfl (by kernel_rfl) (by kernel_rfl) (by kernel_rfl) (by kernel_rfl) rfl rfl (fun _ h => h.drop (kK <| kK <| .refl _)) (fun _ _ _ h => h) (Bc (k := b) DK Aa Aa rfl (by omega)) <| Af 6 rfl (by kernel_rfl) (by kernel_rfl) (by kernel_rfl) (by kernel_rfl) rfl rfl (fun _ h => h.drop (kK <| kK <| .refl _)) (fun _ _ _ h => h) (Ap D4 Aa (Cell.own 1 rfl (CO (by omega) (by omega)))) ?_
      refine Af 7 rfl (by kernel_rfl) (by kernel_rfl) (by kernel_rfl) (by kernel_rfl) rfl rfl (fun _ h => h.drop (kK <| kK <| .refl _)) (fun _ _ _ h => h) (A0 Aa) <| Af 8 rfl (by kernel_rfl) (by kernel_rfl) (by kernel_rfl) (by kernel_rfl) rfl rfl (fun _ h => h.drop (kK <| kK <| .refl _)) (fun _ _ _ h => h) (BM Aa Aa rfl (by omega) (by omega)) <| Af 9 rfl (by kernel_rfl) (by kernel_rfl) (by kernel_rfl) (by kernel_rfl) rfl rfl (fun _ h => h.drop (kK <| kK <| .refl _)) (fun _ _ _ h => h) (Br Aa Aa rfl (by omega) (by omega)) <| Af 10 rfl (by kernel_rfl) (by kernel_rfl) (by kernel_rfl) (by kernel_rfl) rfl rfl (fun _ h => h.drop (kK <| kK <| .refl _)) (fun _ _ _ h => h) (A0 Aa) <| Af 11 rfl (by kernel_rfl) (by kernel_rfl) (by kernel_rfl) (by kernel_rfl) rfl rfl (fun _ h => h.drop (kK <| kK <| .refl _)) (fun _ _ _ h => h) (Br Aa Aa rfl (by omega) (by omega)) <| Af 12 rfl (by kernel_rfl) (by kernel_rfl) (by kernel_rfl) (by kernel_rfl) rfl rfl (fun _ h => h.drop (kK <| kK <| .refl _)) (fun _ _ _ h => h) (A0 Aa) <| Af 13 rfl (by kernel_rfl) (by kernel_rfl) (by kernel_rfl) (by kernel_rfl) rfl rfl (fun _ h => h.drop (kK <| kK <| .refl _)) (fun _ _ _ h => h) (Bc (k := 2 * (foldTo s.toList half (k + 1)).1 - 1 - a) DJ Aa Aa (by omega) (by omega)) <| Af 14 rfl (by kernel_rfl) (by kernel_rfl) (by kernel_rfl) (by kernel_rfl) rfl rfl (fun _ h => h.drop (kK <| kK <| .refl _)) (fun _ _ _ h => h) (Bc (k := b) DK Aa Aa rfl (by omega)) ?_
      refine Af 15 rfl (by kernel_rfl) (by kernel_rfl) (by kernel_rfl) (by kernel_rfl) rfl rfl (fun _ h => h.drop (kK <| kK <| .refl _)) (fun _ _ _ h => h) (Ap D4 Aa (Cell.own 1 rfl (CO (by omega) (by omega)))) <| Af 16 rfl (by kernel_rfl) (by kernel_rfl) (by kernel_rfl) (by kernel_rfl) rfl rfl (fun _ h => h.drop (kK <| kK <| .refl _)) (fun _ _ _ h => h) (A0 Aa) <| Af 17 rfl (by kernel_rfl) (by kernel_rfl) (by kernel_rfl) (by kernel_rfl) rfl rfl (fun _ h => h.drop (kK <| kK <| .refl _)) (fun _ _ _ h => h) (H7 Aa Aa) <| Af 19 rfl (by kernel_rfl) (by kernel_rfl) (by kernel_rfl) (by kernel_rfl) rfl rfl (fun _ h => h.drop (kK <| kK <| .refl _)) (fun _ _ _ h => h) (Bc (k := a) DJ Aa Aa rfl (by omega)) ?_
      refine Bl 18 rfl (by kernel_rfl) rfl (Bb NG Aa AO (Km hA hB (by omega) (by omega)) fun v13 F14 hr15 hF16 => ⟨fun _ _ _ h => (h.drop (kK <| kK <| .refl _)).weak hF16 hleS, ?_⟩)
      replace hP := hP.mono hF16
      replace hle0 := Heap.le_trans hle0 hF16
      have hov := hr15
      rw [tn_x (by omega)] at hov
      rw [← Pe (p := (foldTo s.toList half k).2.2) (cols := (foldTo s.toList half (k + 1)).1) (a := a) (b := b) (by omega)] at hov
      refine Af 20 rfl (by kernel_rfl) (by kernel_rfl) (by kernel_rfl) (by kernel_rfl) rfl rfl (fun _ h => (h.drop (kK <| kK <| .refl _)).weak hF16 hleS) (fun _ _ _ h => h) (Bc (k := b) DK Aa Aa rfl (by omega)) ?_
      refine Bt 21 rfl (by kernel_rfl) (Ef Ml Aa rfl Aa (i := 1) rfl (by rw [EI]; omega) hov.plain.one (.next .here) ⟨(fun h => nomatch h), ?_⟩)
      refine AY (by kernel_rfl) ?_ _
      refine A4 <| Ab ?_
      rw [El]
      refine Aj fun ds => Ad rfl (AJ Aa Aa rfl (by omega) (by omega)) <| Ao (Ag 1) <| Al ?_
      refine Ab ⟨_, m4 - 1, Off.eq (Bx rfl <| Ci rfl <| BI rfl <| A3), by omega, ?_⟩
      exact ⟨b + 1, by omega, Ba, _, _, hle0, hP.step (by omega) hov, rfl⟩
     refine AD (Ag 1) <| Ac <| Ae Aa (by first | rfl | exact dF (by omega)) ?_
     obtain rfl : b = (foldTo s.toList half (k + 1)).2.1 := by omega
     refine AG ?_
     refine A2 <| A2 <| A8 <| A4 <| Ab <| Aj fun ds => Ad rfl (AJ Aa Aa rfl (by omega) (by omega)) <| Ao (Ag 1) <| Al ?_
     refine Ab ⟨_, m3 - 1, Off.eq (BF rfl <| BQ rfl <| B7 rfl <| BI rfl <| BQ rfl <| A3), by omega, ?_⟩
     exact ⟨a + 1, by omega, Ba, _, _, hle0, hP.row, rfl⟩
    refine AD (Ag 1) <| Ac <| Ae Aa (by first | rfl | exact dF (by omega)) ?_
    obtain rfl : a = (foldTo s.toList half (k + 1)).1 := by omega
    refine AG ?_
    refine A2 <| A2 <| A8 <| A4 ?_
    refine Ab ⟨_, m9 - 1, Off.eq (BQ rfl <| B7 rfl <| Bx rfl <| BF rfl <| A3), by omega, ?_⟩
    exact ⟨k + 1, by omega, BC (congrArg (Value.int .i64) (by rw [d3]; push_cast; rfl)), BC (congrArg (Value.int .i64) (by rw [d2])), _, _, hle0, by rw [D3 hkl, if_neg hk0, if_pos hx9]; exact hP.done (fun c2 r2 hs => by omega), rfl⟩
   have hk0 : ¬ (k = 0 ∧ half = true) := fun h => h00 h.1
   refine Aj fun ds => Ao (Ag 1) <| Ad rfl (CE Aa Aa (Int.natCast_nonneg _) (by omega) (by decide)) <| Aw (Ag 1) <| Ac <| Ax (Ag 3) fun ds => Ar rfl rfl Aa (.inl (congrArg Value.bool (dF (by omega)))) rfl <| Ad rfl (A9 Aa (dF (by omega)) Aa) <| Al <| Ab <| Ae Aa rfl <| Ak <| Ab <| AD (Ag 2) <| Aq ?_
   refine AH [13, 14, 61, 62, 63, 64, 65, 66, 67, 68, 69, 70, 71, 72, 73, 74, 75, 76, 77, 78, 79, 80, 81, 82, 83, 84, 85, 86, 87, 88, 89, 90, 91, 92, 93, 94, 95, 96, 97, 98, 99, 100, 101, 102, 103, 104, 105, 106, 107, 108, 109, 110, 111, 112, 113] (fun m e σ => ∃ a : Nat, m + a = (foldTo s.toList half (k + 1)).1 ∧ Fct e 61 (.int .i64 (a : Int)) ∧ ∃ G f, F.le G ∧ PilS G f (fun c2 r2 => c2 < (foldTo s.toList half k).1 ∧ r2 < (foldTo s.toList half k).2.1) (mixP (foldX (foldTo s.toList half (k + 1)).1 (lastC s.toList != 120) (foldTo s.toList half k).2.2) (foldTo s.toList half k).2.2 (foldTo s.toList half (k + 1)).2.1 a 0) ∧ σ = ⟨G, [(b9, .stringIter s (k + 1)), (b1, bx 216 (cellsP f))]⟩) ((foldTo s.toList half (k + 1)).1) ?_ ?_
   · exact ⟨0, by omega, Ba, _, _, hle0, PilS.start hP, rfl⟩
   rintro m3 e3 _ ⟨a, hm3, hu61, G3, f3, hle0, hP, rfl⟩
   by_cases hlt3 : a < (foldTo s.toList half (k + 1)).1
   ·refine AD (Ag 1) <| Ac <| Ah Aa (by first | rfl | exact dT (by omega)) <| Ak <| Ab <| Ac <| Aq <| AD (Ag 2) <| AD (Ag 2) <| Aq ?_
    refine AH [14, 65, 66, 67, 68, 69, 70, 71, 72, 73, 74, 75, 76, 77, 78, 79, 80, 81, 82, 83, 84, 85, 86, 87, 88, 89, 90, 91, 92, 93, 94, 95, 96, 97, 98, 99, 100, 101, 102, 103, 104, 105, 106, 107, 108, 109, 110, 111, 112] (fun m e σ => ∃ b : Nat, m + b = (foldTo s.toList half (k + 1)).2.1 ∧ Fct e 65 (.int .i64 (b : Int)) ∧ ∃ G f, F.le G ∧ PilS G f (fun c2 r2 => c2 < (foldTo s.toList half k).1 ∧ r2 < (foldTo s.toList half k).2.1) (mixP (foldX (foldTo s.toList half (k + 1)).1 (lastC s.toList != 120) (foldTo s.toList half k).2.2) (foldTo s.toList half k).2.2 (foldTo s.toList half (k + 1)).2.1 a b) ∧ σ = ⟨G, [(b9, .stringIter s (k + 1)), (b1, bx 216 (cellsP f))]⟩) ((foldTo s.toList half (k + 1)).2.1) ?_ ?_
    · exact ⟨0, by omega, Ba, _, _, hle0, hP, rfl⟩
    rintro m4 e4 _ ⟨b, hm4, hv65, G4, f4, hle0, hP, rfl⟩
    by_cases hlt4 : b < (foldTo s.toList half (k + 1)).2.1
    ·have hA := hP a b (by omega) (by omega) (by omega)
     rw [DH (by omega)] at hA
     have hB := hP (2 * (foldTo s.toList half (k + 1)).1 - 1 - a) b (by omega) (by omega) (by omega)
     rw [DH (by omega)] at hB
     have hla := Dl (half := half) hcl k (by omega) a b (by omega) (by omega)
     have hlb := Dl (half := half) hcl k (by omega) (2 * (foldTo s.toList half (k + 1)).1 - 1 - a) b (by omega) (by omega)
     refine AD (Ag 1) <| Ac <| Ah Aa (by first | rfl | exact dT (by omega)) <| Ak <| Ab <| Ac <| Aq <| AD (Ag 2) <| AD (Ag 2) <| Ah Aa (dT ((Ch (n := 120) (by decide)).2 hx)) ?_
     have hleS := hle0
     refine Bf (.inl rfl) (fun _ _ h => h) (kK <| kK <| .refl _) [21] (by kernel_rfl) fun ds => Af 0 rfl (by kernel_rfl) (by kernel_rfl) (by kernel_rfl) (by kernel_rfl) rfl rfl (fun _ h => h.drop (kK <| kK <| .refl _)) (fun _ _ _ h => h) (A0 Aa) <| Af 1 rfl (by kernel_rfl) (by kernel_rfl) (by kernel_rfl) (by kernel_rfl) rfl rfl (fun _ h => h.drop (kK <| kK <| .refl _)) (fun _ _ _ h => h) (A0 Aa) <| Af 2 rfl (by kernel_rfl) (by kernel_rfl) (by kernel_rfl) (by kernel_rfl) rfl rfl (fun _ h => h.drop (kK <| kK <| .refl _)) (fun _ _ _ h => h) (A0 Aa) <| Af 3 rfl (by kernel_rfl) (by kernel_rfl) (by kernel_rfl) (by kernel_rfl) rfl rfl (fun _ h => h.drop (kK <| kK <| .refl _)) (fun _ _ _ h => h) (A0 Aa) <| Af 4 rfl (by kernel_rfl) (by kernel_rfl) (by kernel_rfl) (by kernel_rfl) rfl rfl (fun _ h => h.drop (kK <| kK <| .refl _)) (fun _ _ _ h => h) (Bc (k := a) DJ Aa Aa rfl (by omega)) <| Af 5 rfl (by kernel_rfl) (by kernel_rfl) (by kernel_rfl) (by kernel_rfl) rfl rfl (fun _ h => h.drop (kK <| kK <| .refl _)) (fun _ _ _ h => h) (Bc (k := b) DK Aa Aa rfl (by omega)) <| Af 6 rfl (by kernel_rfl) (by kernel_rfl) (by kernel_rfl) (by kernel_rfl) rfl rfl (fun _ h => h.drop (kK <| kK <| .refl _)) (fun _ _ _ h => h) (Ap D4 Aa (Cell.own 1 rfl (CO (by omega) (by omega)))) ?_
     refine Af 7 rfl (by kernel_rfl) (by kernel_rfl) (by kernel_rfl) (by kernel_rfl) rfl rfl (fun _ h => h.drop (kK <| kK <| .refl _)) (fun _ _ _ h => h) (A0 Aa) <| Af 8 rfl (by kernel_rfl) (by kernel_rfl) (by kernel_rfl) (by kernel_rfl) rfl rfl (fun _ h => h.drop (kK <| kK <| .refl _)) (fun _ _ _ h => h) (BM Aa Aa rfl (by omega) (by omega)) <| Af 9 rfl (by kernel_rfl) (by kernel_rfl) (by kernel_rfl) (by kernel_rfl) rfl rfl (fun _ h => h.drop (kK <| kK <| .refl _)) (fun _ _ _ h => h) (Br Aa Aa rfl (by omega) (by omega)) <| Af 10 rfl (by kernel_rfl) (by kernel_rfl) (by kernel_rfl) (by kernel_rfl) rfl rfl (fun _ h => h.drop (kK <| kK <| .refl _)) (fun _ _ _ h => h) (A0 Aa) <| Af 11 rfl (by kernel_rfl) (by kernel_rfl) (by kernel_rfl) (by kernel_rfl) rfl rfl (fun _ h => h.drop (kK <| kK <| .refl _)) (fun _ _ _ h => h) (Br Aa Aa rfl (by omega) (by omega)) <| Af 12 rfl (by kernel_rfl) (by kernel_rfl) (by kernel_rfl) (by kernel_rfl) rfl rfl (fun _ h => h.drop (kK <| kK <| .refl _)) (fun _ _ _ h => h) (A0 Aa) <| Af 13 rfl (by kernel_rfl) (by kernel_rfl) (by kernel_rfl) (by kernel_rfl) rfl rfl (fun _ h => h.drop (kK <| kK <| .refl _)) (fun _ _ _ h => h) (Bc (k := 2 * (foldTo s.toList half (k + 1)).1 - 1 - a) DJ Aa Aa (by omega) (by omega)) <| Af 14 rfl (by kernel_rfl) (by kernel_rfl) (by kernel_rfl) (by kernel_rfl) rfl rfl (fun _ h => h.drop (kK <| kK <| .refl _)) (fun _ _ _ h => h) (Bc (k := b) DK Aa Aa rfl (by omega)) ?_
     refine Af 15 rfl (by kernel_rfl) (by kernel_rfl) (by kernel_rfl) (by kernel_rfl) rfl rfl (fun _ h => h.drop (kK <| kK <| .refl _)) (fun _ _ _ h => h) (Ap D4 Aa (Cell.own 1 rfl (CO (by omega) (by omega)))) <| Af 16 rfl (by kernel_rfl) (by kernel_rfl) (by kernel_rfl) (by kernel_rfl) rfl rfl (fun _ h => h.drop (kK <| kK <| .refl _)) (fun _ _ _ h => h) (A0 Aa) <| Af 17 rfl (by kernel_rfl) (by kernel_rfl) (by kernel_rfl) (by kernel_rfl) rfl rfl (fun _ h => h.drop (kK <| kK <| .refl _)) (fun _ _ _ h => h) (H7 Aa Aa) <| Af 19 rfl (by kernel_rfl) (by kernel_rfl) (by kernel_rfl) (by kernel_rfl) rfl rfl (fun _ h => h.drop (kK <| kK <| .refl _)) (fun _ _ _ h => h) (Bc (k := a) DJ Aa Aa rfl (by omega)) ?_
     refine Bl 18 rfl (by kernel_rfl) rfl (Bb NG Aa AO (Km hA hB (by omega) (by omega)) fun v19 F20 hr21 hF22 => ⟨fun _ _ _ h => (h.drop (kK <| kK <| .refl _)).weak hF22 hleS, ?_⟩)
     replace hP := hP.mono hF22
     replace hle0 := Heap.le_trans hle0 hF22
     have hov := hr21
     rw [tn_x (by omega)] at hov
     rw [← Pe (p := (foldTo s.toList half k).2.2) (cols := (foldTo s.toList half (k + 1)).1) (a := a) (b := b) (by omega)] at hov
     refine Af 20 rfl (by kernel_rfl) (by kernel_rfl) (by kernel_rfl) (by kernel_rfl) rfl rfl (fun _ h => (h.drop (kK <| kK <| .refl _)).weak hF22 hleS) (fun _ _ _ h => h) (Bc (k := b) DK Aa Aa rfl (by omega)) ?_
     refine Bt 21 rfl (by kernel_rfl) (Ef Ml Aa rfl Aa (i := 1) rfl (by rw [EI]; omega) hov.plain.one (.next .here) ⟨(fun h => nomatch h), ?_⟩)
     refine AY (by kernel_rfl) ?_ _
     refine A4 <| Ab ?_
     rw [El]
     refine Aj fun ds => Ad rfl (AJ Aa Aa rfl (by omega) (by omega)) <| Ao (Ag 1) <| Al ?_
     refine Ab ⟨_, m4 - 1, Off.eq (Bx rfl <| Ci rfl <| BI rfl <| A3), by omega, ?_⟩
     exact ⟨b + 1, by omega, Ba, _, _, hle0, hP.step (by omega) hov, rfl⟩
    refine AD (Ag 1) <| Ac <| Ae Aa (by first | rfl | exact dF (by omega)) ?_
    obtain rfl : b = (foldTo s.toList half (k + 1)).2.1 := by omega
    refine AG ?_
    refine A2 <| A2 <| A8 <| A4 <| Ab <| Aj fun ds => Ad rfl (AJ Aa Aa rfl (by omega) (by omega)) <| Ao (Ag 1) <| Al ?_
    refine Ab ⟨_, m3 - 1, Off.eq (BF rfl <| BQ rfl <| B7 rfl <| BI rfl <| BQ rfl <| A3), by omega, ?_⟩
    exact ⟨a + 1, by omega, Ba, _, _, hle0, hP.row, rfl⟩
   refine AD (Ag 1) <| Ac <| Ae Aa (by first | rfl | exact dF (by omega)) ?_
   obtain rfl : a = (foldTo s.toList half (k + 1)).1 := by omega
   refine AG ?_
   refine A2 <| A2 <| A8 <| A4 ?_
   refine Ab ⟨_, m9 - 1, Off.eq (BQ rfl <| B7 rfl <| Bx rfl <| BF rfl <| A3), by omega, ?_⟩
   exact ⟨k + 1, by omega, BC (congrArg (Value.int .i64) (by rw [d3]; push_cast; rfl)), BC (congrArg (Value.int .i64) (by rw [d2])), _, _, hle0, by rw [D3 hkl, if_neg hk0, if_pos hx9]; exact hP.done (fun c2 r2 hs => by omega), rfl⟩
  have hx9 : ¬ s.toList[k] = 120 := by rw [HY hlt]; exact hx
  obtain ⟨d1, d2, d3⟩ := UQ (half := half) hcl hkl (by rw [HY hlt]; exact hx2.resolve_left hx)
  have hd := HP (half := half) hcl (by omega) (k := k) (by omega)
  have hd1 := HP (half := half) hcl (by omega) (k := k + 1) (by omega)
  have hpw : 2 ^ k ≤ 2 ^ 3 := Nat.pow_le_pow_right (by omega) (by omega)
  refine Ak <| Ab <| Aq <| AD (Ag 4) <| Ac <| AD (Ag 2) <| Ae Aa (dF (fun h => hx ((Ch (n := 120) (by decide)).1 h))) ?_
  by_cases h00 : k = 0
  ·refine Aj fun ds => Ao (Ag 1) <| Ad rfl (CE Aa Aa (Int.natCast_nonneg _) (by omega) (by decide)) <| Aw (Ag 1) <| Ac <| Ax (Ag 3) fun ds => Ai rfl rfl Aa (dT (by omega)) <| Ao (Ag 1) <| Ad rfl (At Aa (dT (by omega)) Aa) <| Al <| Ab ?_
   by_cases hh : half = true
   ·have hk0 : k = 0 ∧ half = true := ⟨h00, hh⟩
    refine Ah Aa hh <| AG <| A2 <| A8 ?_
    refine Ab ⟨_, m9 - 1, Off.eq (Bx rfl <| A3), by omega, ?_⟩
    exact ⟨k + 1, by omega, BC (congrArg (Value.int .i64) (by rw [d2])), BC (congrArg (Value.int .i64) (by rw [d3]; push_cast; rfl)), _, _, hle0, by rw [D3 hkl, if_pos hk0]; exact hP.less (fun c2 r2 hs => by omega), rfl⟩
   replace hh : half = false := by simpa using hh
   have hk0 : ¬ (k = 0 ∧ half = true) := fun h => by rw [hh] at h; cases h.2
   refine Ae Aa hh <| Ak <| Ab <| AD (Ag 2) <| Aq ?_
   refine AH [13, 14, 61, 62, 63, 64, 65, 66, 67, 68, 69, 70, 71, 72, 73, 74, 75, 76, 77, 78, 79, 80, 81, 82, 83, 84, 85, 86, 87, 88, 89, 90, 91, 92, 93, 94, 95, 96, 97, 98, 99, 100, 101, 102, 103, 104, 105, 106, 107, 108, 109, 110, 111, 112, 113] (fun m e σ => ∃ a : Nat, m + a = (foldTo s.toList half (k + 1)).1 ∧ Fct e 61 (.int .i64 (a : Int)) ∧ ∃ G f, F.le G ∧ PilS G f (fun c2 r2 => c2 < (foldTo s.toList half k).1 ∧ r2 < (foldTo s.toList half k).2.1) (mixP (foldY (foldTo s.toList half (k + 1)).2.1 (lastC s.toList != 121) (foldTo s.toList half k).2.2) (foldTo s.toList half k).2.2 (foldTo s.toList half (k + 1)).2.1 a 0) ∧ σ = ⟨G, [(b9, .stringIter s (k + 1)), (b1, bx 216 (cellsP f))]⟩) ((foldTo s.toList half (k + 1)).1) ?_ ?_
   · exact ⟨0, by omega, Ba, _, _, hle0, PilS.start hP, rfl⟩
   rintro m3 e3 _ ⟨a, hm3, hu61, G3, f3, hle0, hP, rfl⟩
   by_cases hlt3 : a < (foldTo s.toList half (k + 1)).1
   ·refine AD (Ag 1) <| Ac <| Ah Aa (by first | rfl | exact dT (by omega)) <| Ak <| Ab <| Ac <| Aq <| AD (Ag 2) <| AD (Ag 2) <| Aq ?_
    refine AH [14, 65, 66, 67, 68, 69, 70, 71, 72, 73, 74, 75, 76, 77, 78, 79, 80, 81, 82, 83, 84, 85, 86, 87, 88, 89, 90, 91, 92, 93, 94, 95, 96, 97, 98, 99, 100, 101, 102, 103, 104, 105, 106, 107, 108, 109, 110, 111, 112] (fun m e σ => ∃ b : Nat, m + b = (foldTo s.toList half (k + 1)).2.1 ∧ Fct e 65 (.int .i64 (b : Int)) ∧ ∃ G f, F.le G ∧ PilS G f (fun c2 r2 => c2 < (foldTo s.toList half k).1 ∧ r2 < (foldTo s.toList half k).2.1) (mixP (foldY (foldTo s.toList half (k + 1)).2.1 (lastC s.toList != 121) (foldTo s.toList half k).2.2) (foldTo s.toList half k).2.2 (foldTo s.toList half (k + 1)).2.1 a b) ∧ σ = ⟨G, [(b9, .stringIter s (k + 1)), (b1, bx 216 (cellsP f))]⟩) ((foldTo s.toList half (k + 1)).2.1) ?_ ?_
    · exact ⟨0, by omega, Ba, _, _, hle0, hP, rfl⟩
    rintro m4 e4 _ ⟨b, hm4, hv65, G4, f4, hle0, hP, rfl⟩
    by_cases hlt4 : b < (foldTo s.toList half (k + 1)).2.1
    ·have hA := hP a b (by omega) (by omega) (by omega)
     rw [DH (by omega)] at hA
     have hB := hP a (2 * (foldTo s.toList half (k + 1)).2.1 - 1 - b) (by omega) (by omega) (by omega)
     rw [DH (by omega)] at hB
     have hla := Dl (half := half) hcl k (by omega) a b (by omega) (by omega)
     have hlb := Dl (half := half) hcl k (by omega) a (2 * (foldTo s.toList half (k + 1)).2.1 - 1 - b) (by omega) (by omega)
     refine AD (Ag 1) <| Ac <| Ah Aa (by first | rfl | exact dT (by omega)) <| Ak <| Ab <| Ac <| Aq <| AD (Ag 2) <| AD (Ag 2) <| Ae Aa (dF (fun h => hx ((Ch (n := 120) (by decide)).1 h))) ?_
     have hleS := hle0
     refine Bf (.inl rfl) (fun _ _ h => h) (kK <| kK <| .refl _) [21] (by kernel_rfl) fun ds => Af 0 rfl (by kernel_rfl) (by kernel_rfl) (by kernel_rfl) (by kernel_rfl) rfl rfl (fun _ h => h.drop (kK <| kK <| .refl _)) (fun _ _ _ h => h) (A0 Aa) <| Af 1 rfl (by kernel_rfl) (by kernel_rfl) (by kernel_rfl) (by kernel_rfl) rfl rfl (fun _ h => h.drop (kK <| kK <| .refl _)) (fun _ _ _ h => h) (A0 Aa) <| Af 2 rfl (by kernel_rfl) (by kernel_rfl) (by kernel_rfl) (by kernel_rfl) rfl rfl (fun _ h => h.drop (kK <| kK <| .refl _)) (fun _ _ _ h => h) (A0 Aa) <| Af 3 rfl (by kernel_rfl) (by kernel_rfl) (by kernel_rfl) (by kernel_rfl) rfl rfl (fun _ h => h.drop (kK <| kK <| .refl _)) (fun _ _ _ h => h) (A0 Aa) <| Af 4 rfl (by kernel_rfl) (by kernel_rfl) (by kernel_rfl) (by kernel_rfl) rfl rfl (fun _ h => h.drop (kK <| kK <| .refl _)) (fun _ _ _ h => h) (Bc (k := a) DJ Aa Aa rfl (by omega)) <| Af 5 rfl (by kernel_rfl) (by kernel_rfl) (by kernel_rfl) (by kernel_rfl) rfl rfl (fun _ h => h.drop (kK <| kK <| .refl _)) (fun _ _ _ h => h) (Bc (k := b) DK Aa Aa rfl (by omega)) <| Af 6 rfl (by kernel_rfl) (by kernel_rfl) (by kernel_rfl) (by kernel_rfl) rfl rfl (fun _ h => h.drop (kK <| kK <| .refl _)) (fun _ _ _ h => h) (Ap D4 Aa (Cell.own 1 rfl (CO (by omega) (by omega)))) ?_
     refine Af 7 rfl (by kernel_rfl) (by kernel_rfl) (by kernel_rfl) (by kernel_rfl) rfl rfl (fun _ h => h.drop (kK <| kK <| .refl _)) (fun _ _ _ h => h) (A0 Aa) <| Af 8 rfl (by kernel_rfl) (by kernel_rfl) (by kernel_rfl) (by kernel_rfl) rfl rfl (fun _ h => h.drop (kK <| kK <| .refl _)) (fun _ _ _ h => h) (A0 Aa) <| Af 9 rfl (by kernel_rfl) (by kernel_rfl) (by kernel_rfl) (by kernel_rfl) rfl rfl (fun _ h => h.drop (kK <| kK <| .refl _)) (fun _ _ _ h => h) (BM Aa Aa rfl (by omega) (by omega)) <| Af 10 rfl (by kernel_rfl) (by kernel_rfl) (by kernel_rfl) (by kernel_rfl) rfl rfl (fun _ h => h.drop (kK <| kK <| .refl _)) (fun _ _ _ h => h) (Br Aa Aa rfl (by omega) (by omega)) <| Af 11 rfl (by kernel_rfl) (by kernel_rfl) (by kernel_rfl) (by kernel_rfl) rfl rfl (fun _ h => h.drop (kK <| kK <| .refl _)) (fun _ _ _ h => h) (A0 Aa) <| Af 12 rfl (by kernel_rfl) (by kernel_rfl) (by kernel_rfl) (by kernel_rfl) rfl rfl (fun _ h => h.drop (kK <| kK <| .refl _)) (fun _ _ _ h => h) (Br Aa Aa rfl (by omega) (by omega)) <| Af 13 rfl (by kernel_rfl) (by kernel_rfl) (by kernel_rfl) (by kernel_rfl) rfl rfl (fun _ h => h.drop (kK <| kK <| .refl _)) (fun _ _ _ h => h) (Bc (k := a) DJ Aa Aa rfl (by omega)) <| Af 14 rfl (by kernel_rfl) (by kernel_rfl) (by kernel_rfl) (by kernel_rfl) rfl rfl (fun _ h => h.drop (kK <| kK <| .refl _)) (fun _ _ _ h => h) (Bc (k := 2 * (foldTo s.toList half (k + 1)).2.1 - 1 - b) DK Aa Aa (by omega) (by omega)) ?_
     refine Af 15 rfl (by kernel_rfl) (by kernel_rfl) (by kernel_rfl) (by kernel_rfl) rfl rfl (fun _ h => h.drop (kK <| kK <| .refl _)) (fun _ _ _ h => h) (Ap D4 Aa (Cell.own 1 rfl (CO (by omega) (by omega)))) <| Af 16 rfl (by kernel_rfl) (by kernel_rfl) (by kernel_rfl) (by kernel_rfl) rfl rfl (fun _ h => h.drop (kK <| kK <| .refl _)) (fun _ _ _ h => h) (A0 Aa) <| Af 17 rfl (by kernel_rfl) (by kernel_rfl) (by kernel_rfl) (by kernel_rfl) rfl rfl (fun _ h => h.drop (kK <| kK <| .refl _)) (fun _ _ _ h => h) (H7 Aa Aa) <| Af 19 rfl (by kernel_rfl) (by kernel_rfl) (by kernel_rfl) (by kernel_rfl) rfl rfl (fun _ h => h.drop (kK <| kK <| .refl _)) (fun _ _ _ h => h) (Bc (k := a) DJ Aa Aa rfl (by omega)) ?_
     refine Bl 18 rfl (by kernel_rfl) rfl (Bb NG Aa AO (Km hA hB (by omega) (by omega)) fun v25 F26 hr27 hF28 => ⟨fun _ _ _ h => (h.drop (kK <| kK <| .refl _)).weak hF28 hleS, ?_⟩)
     replace hP := hP.mono hF28
     replace hle0 := Heap.le_trans hle0 hF28
     have hov := hr27
     rw [tn_y (by omega)] at hov
     rw [← Pd (p := (foldTo s.toList half k).2.2) (rows := (foldTo s.toList half (k + 1)).2.1) (a := a) (b := b) (by omega)] at hov
     refine Af 20 rfl (by kernel_rfl) (by kernel_rfl) (by kernel_rfl) (by kernel_rfl) rfl rfl (fun _ h => (h.drop (kK <| kK <| .refl _)).weak hF28 hleS) (fun _ _ _ h => h) (Bc (k := b) DK Aa Aa rfl (by omega)) ?_
     refine Bt 21 rfl (by kernel_rfl) (Ef Ml Aa rfl Aa (i := 1) rfl (by rw [EI]; omega) hov.plain.one (.next .here) ⟨(fun h => nomatch h), ?_⟩)
     refine AY (by kernel_rfl) ?_ _
     refine A4 <| Ab ?_
     rw [El]
     refine Aj fun ds => Ad rfl (AJ Aa Aa rfl (by omega) (by omega)) <| Ao (Ag 1) <| Al ?_
     refine Ab ⟨_, m4 - 1, Off.eq (Bx rfl <| Ci rfl <| BI rfl <| A3), by omega, ?_⟩
     exact ⟨b + 1, by omega, Ba, _, _, hle0, hP.step (by omega) hov, rfl⟩
    refine AD (Ag 1) <| Ac <| Ae Aa (by first | rfl | exact dF (by omega)) ?_
    obtain rfl : b = (foldTo s.toList half (k + 1)).2.1 := by omega
    refine AG ?_
    refine A2 <| A2 <| A8 <| A4 <| Ab <| Aj fun ds => Ad rfl (AJ Aa Aa rfl (by omega) (by omega)) <| Ao (Ag 1) <| Al ?_
    refine Ab ⟨_, m3 - 1, Off.eq (BF rfl <| BQ rfl <| B7 rfl <| BI rfl <| BQ rfl <| A3), by omega, ?_⟩
    exact ⟨a + 1, by omega, Ba, _, _, hle0, hP.row, rfl⟩
   refine AD (Ag 1) <| Ac <| Ae Aa (by first | rfl | exact dF (by omega)) ?_
   obtain rfl : a = (foldTo s.toList half (k + 1)).1 := by omega
   refine AG ?_
   refine A2 <| A2 <| A8 <| A4 ?_
   refine Ab ⟨_, m9 - 1, Off.eq (BQ rfl <| B7 rfl <| Bx rfl <| BF rfl <| A3), by omega, ?_⟩
   exact ⟨k + 1, by omega, BC (congrArg (Value.int .i64) (by rw [d2])), BC (congrArg (Value.int .i64) (by rw [d3]; push_cast; rfl)), _, _, hle0, by rw [D3 hkl, if_neg hk0, if_neg hx9]; exact hP.done (fun c2 r2 hs => by omega), rfl⟩
  have hk0 : ¬ (k = 0 ∧ half = true) := fun h => h00 h.1
  refine Aj fun ds => Ao (Ag 1) <| Ad rfl (CE Aa Aa (Int.natCast_nonneg _) (by omega) (by decide)) <| Aw (Ag 1) <| Ac <| Ax (Ag 3) fun ds => Ar rfl rfl Aa (.inl (congrArg Value.bool (dF (by omega)))) rfl <| Ad rfl (A9 Aa (dF (by omega)) Aa) <| Al <| Ab <| Ae Aa rfl <| Ak <| Ab <| AD (Ag 2) <| Aq ?_
  refine AH [13, 14, 61, 62, 63, 64, 65, 66, 67, 68, 69, 70, 71, 72, 73, 74, 75, 76, 77, 78, 79, 80, 81, 82, 83, 84, 85, 86, 87, 88, 89, 90, 91, 92, 93, 94, 95, 96, 97, 98, 99, 100, 101, 102, 103, 104, 105, 106, 107, 108, 109, 110, 111, 112, 113] (fun m e σ => ∃ a : Nat, m + a = (foldTo s.toList half (k + 1)).1 ∧ Fct e 61 (.int .i64 (a : Int)) ∧ ∃ G f, F.le G ∧ PilS G f (fun c2 r2 => c2 < (foldTo s.toList half k).1 ∧ r2 < (foldTo s.toList half k).2.1) (mixP (foldY (foldTo s.toList half (k + 1)).2.1 (lastC s.toList != 121) (foldTo s.toList half k).2.2) (foldTo s.toList half k).2.2 (foldTo s.toList half (k + 1)).2.1 a 0) ∧ σ = ⟨G, [(b9, .stringIter s (k + 1)), (b1, bx 216 (cellsP f))]⟩) ((foldTo s.toList half (k + 1)).1) ?_ ?_
  · exact ⟨0, by omega, Ba, _, _, hle0, PilS.start hP, rfl⟩
  rintro m3 e3 _ ⟨a, hm3, hu61, G3, f3, hle0, hP, rfl⟩
  by_cases hlt3 : a < (foldTo s.toList half (k + 1)).1
  ·refine AD (Ag 1) <| Ac <| Ah Aa (by first | rfl | exact dT (by omega)) <| Ak <| Ab <| Ac <| Aq <| AD (Ag 2) <| AD (Ag 2) <| Aq ?_
   refine AH [14, 65, 66, 67, 68, 69, 70, 71, 72, 73, 74, 75, 76, 77, 78, 79, 80, 81, 82, 83, 84, 85, 86, 87, 88, 89, 90, 91, 92, 93, 94, 95, 96, 97, 98, 99, 100, 101, 102, 103, 104, 105, 106, 107, 108, 109, 110, 111, 112] (fun m e σ => ∃ b : Nat, m + b = (foldTo s.toList half (k + 1)).2.1 ∧ Fct e 65 (.int .i64 (b : Int)) ∧ ∃ G f, F.le G ∧ PilS G f (fun c2 r2 => c2 < (foldTo s.toList half k).1 ∧ r2 < (foldTo s.toList half k).2.1) (mixP (foldY (foldTo s.toList half (k + 1)).2.1 (lastC s.toList != 121) (foldTo s.toList half k).2.2) (foldTo s.toList half k).2.2 (foldTo s.toList half (k + 1)).2.1 a b) ∧ σ = ⟨G, [(b9, .stringIter s (k + 1)), (b1, bx 216 (cellsP f))]⟩) ((foldTo s.toList half (k + 1)).2.1) ?_ ?_
   · exact ⟨0, by omega, Ba, _, _, hle0, hP, rfl⟩
   rintro m4 e4 _ ⟨b, hm4, hv65, G4, f4, hle0, hP, rfl⟩
   by_cases hlt4 : b < (foldTo s.toList half (k + 1)).2.1
   ·have hA := hP a b (by omega) (by omega) (by omega)
    rw [DH (by omega)] at hA
    have hB := hP a (2 * (foldTo s.toList half (k + 1)).2.1 - 1 - b) (by omega) (by omega) (by omega)
    rw [DH (by omega)] at hB
    have hla := Dl (half := half) hcl k (by omega) a b (by omega) (by omega)
    have hlb := Dl (half := half) hcl k (by omega) a (2 * (foldTo s.toList half (k + 1)).2.1 - 1 - b) (by omega) (by omega)
    refine AD (Ag 1) <| Ac <| Ah Aa (by first | rfl | exact dT (by omega)) <| Ak <| Ab <| Ac <| Aq <| AD (Ag 2) <| AD (Ag 2) <| Ae Aa (dF (fun h => hx ((Ch (n := 120) (by decide)).1 h))) ?_
    have hleS := hle0
    refine Bf (.inl rfl) (fun _ _ h => h) (kK <| kK <| .refl _) [21] (by kernel_rfl) fun ds => Af 0 rfl (by kernel_rfl) (by kernel_rfl) (by kernel_rfl) (by kernel_rfl) rfl rfl (fun _ h => h.drop (kK <| kK <| .refl _)) (fun _ _ _ h => h) (A0 Aa) <| Af 1 rfl (by kernel_rfl) (by kernel_rfl) (by kernel_rfl) (by kernel_rfl) rfl rfl (fun _ h => h.drop (kK <| kK <| .refl _)) (fun _ _ _ h => h) (A0 Aa) <| Af 2 rfl (by kernel_rfl) (by kernel_rfl) (by kernel_rfl) (by kernel_rfl) rfl rfl (fun _ h => h.drop (kK <| kK <| .refl _)) (fun _ _ _ h => h) (A0 Aa) <| Af 3 rfl (by kernel_rfl) (by kernel_rfl) (by kernel_rfl) (by kernel_rfl) rfl rfl (fun _ h => h.drop (kK <| kK <| .refl _)) (fun _ _ _ h => h) (A0 Aa) <| Af 4 rfl (by kernel_rfl) (by kernel_rfl) (by kernel_rfl) (by kernel_rfl) rfl rfl (fun _ h => h.drop (kK <| kK <| .refl _)) (fun _ _ _ h => h) (Bc (k := a) DJ Aa Aa rfl (by omega)) <| Af 5 rfl (by kernel_rfl) (by kernel_rfl) (by kernel_rfl) (by kernel_rfl) rfl rfl (fun _ h => h.drop (kK <| kK <| .refl _)) (fun _ _ _ h => h) (Bc (k := b) DK Aa Aa rfl (by omega)) <| Af 6 rfl (by kernel_rfl) (by kernel_rfl) (by kernel_rfl) (by kernel_rfl) rfl rfl (fun _ h => h.drop (kK <| kK <| .refl _)) (fun _ _ _ h => h) (Ap D4 Aa (Cell.own 1 rfl (CO (by omega) (by omega)))) ?_
    refine Af 7 rfl (by kernel_rfl) (by kernel_rfl) (by kernel_rfl) (by kernel_rfl) rfl rfl (fun _ h => h.drop (kK <| kK <| .refl _)) (fun _ _ _ h => h) (A0 Aa) <| Af 8 rfl (by kernel_rfl) (by kernel_rfl) (by kernel_rfl) (by kernel_rfl) rfl rfl (fun _ h => h.drop (kK <| kK <| .refl _)) (fun _ _ _ h => h) (A0 Aa) <| Af 9 rfl (by kernel_rfl) (by kernel_rfl) (by kernel_rfl) (by kernel_rfl) rfl rfl (fun _ h => h.drop (kK <| kK <| .refl _)) (fun _ _ _ h => h) (BM Aa Aa rfl (by omega) (by omega)) <| Af 10 rfl (by kernel_rfl) (by kernel_rfl) (by kernel_rfl) (by kernel_rfl) rfl rfl (fun _ h => h.drop (kK <| kK <| .refl _)) (fun _ _ _ h => h) (Br Aa Aa rfl (by omega) (by omega)) <| Af 11 rfl (by kernel_rfl) (by kernel_rfl) (by kernel_rfl) (by kernel_rfl) rfl rfl (fun _ h => h.drop (kK <| kK <| .refl _)) (fun _ _ _ h => h) (A0 Aa) <| Af 12 rfl (by kernel_rfl) (by kernel_rfl) (by kernel_rfl) (by kernel_rfl) rfl rfl (fun _ h => h.drop (kK <| kK <| .refl _)) (fun _ _ _ h => h) (Br Aa Aa rfl (by omega) (by omega)) <| Af 13 rfl (by kernel_rfl) (by kernel_rfl) (by kernel_rfl) (by kernel_rfl) rfl rfl (fun _ h => h.drop (kK <| kK <| .refl _)) (fun _ _ _ h => h) (Bc (k := a) DJ Aa Aa rfl (by omega)) <| Af 14 rfl (by kernel_rfl) (by kernel_rfl) (by kernel_rfl) (by kernel_rfl) rfl rfl (fun _ h => h.drop (kK <| kK <| .refl _)) (fun _ _ _ h => h) (Bc (k := 2 * (foldTo s.toList half (k + 1)).2.1 - 1 - b) DK Aa Aa (by omega) (by omega)) ?_
    refine Af 15 rfl (by kernel_rfl) (by kernel_rfl) (by kernel_rfl) (by kernel_rfl) rfl rfl (fun _ h => h.drop (kK <| kK <| .refl _)) (fun _ _ _ h => h) (Ap D4 Aa (Cell.own 1 rfl (CO (by omega) (by omega)))) <| Af 16 rfl (by kernel_rfl) (by kernel_rfl) (by kernel_rfl) (by kernel_rfl) rfl rfl (fun _ h => h.drop (kK <| kK <| .refl _)) (fun _ _ _ h => h) (A0 Aa) <| Af 17 rfl (by kernel_rfl) (by kernel_rfl) (by kernel_rfl) (by kernel_rfl) rfl rfl (fun _ h => h.drop (kK <| kK <| .refl _)) (fun _ _ _ h => h) (H7 Aa Aa) <| Af 19 rfl (by kernel_rfl) (by kernel_rfl) (by kernel_rfl) (by kernel_rfl) rfl rfl (fun _ h => h.drop (kK <| kK <| .refl _)) (fun _ _ _ h => h) (Bc (k := a) DJ Aa Aa rfl (by omega)) ?_
    refine Bl 18 rfl (by kernel_rfl) rfl (Bb NG Aa AO (Km hA hB (by omega) (by omega)) fun v31 F32 hr33 hF34 => ⟨fun _ _ _ h => (h.drop (kK <| kK <| .refl _)).weak hF34 hleS, ?_⟩)
    replace hP := hP.mono hF34
    replace hle0 := Heap.le_trans hle0 hF34
    have hov := hr33
    rw [tn_y (by omega)] at hov
    rw [← Pd (p := (foldTo s.toList half k).2.2) (rows := (foldTo s.toList half (k + 1)).2.1) (a := a) (b := b) (by omega)] at hov
    refine Af 20 rfl (by kernel_rfl) (by kernel_rfl) (by kernel_rfl) (by kernel_rfl) rfl rfl (fun _ h => (h.drop (kK <| kK <| .refl _)).weak hF34 hleS) (fun _ _ _ h => h) (Bc (k := b) DK Aa Aa rfl (by omega)) ?_
    refine Bt 21 rfl (by kernel_rfl) (Ef Ml Aa rfl Aa (i := 1) rfl (by rw [EI]; omega) hov.plain.one (.next .here) ⟨(fun h => nomatch h), ?_⟩)
    refine AY (by kernel_rfl) ?_ _
    refine A4 <| Ab ?_
    rw [El]
    refine Aj fun ds => Ad rfl (AJ Aa Aa rfl (by omega) (by omega)) <| Ao (Ag 1) <| Al ?_
    refine Ab ⟨_, m4 - 1, Off.eq (Bx rfl <| Ci rfl <| BI rfl <| A3), by omega, ?_⟩
    exact ⟨b + 1, by omega, Ba, _, _, hle0, hP.step (by omega) hov, rfl⟩
   refine AD (Ag 1) <| Ac <| Ae Aa (by first | rfl | exact dF (by omega)) ?_
   obtain rfl : b = (foldTo s.toList half (k + 1)).2.1 := by omega
   refine AG ?_
   refine A2 <| A2 <| A8 <| A4 <| Ab <| Aj fun ds => Ad rfl (AJ Aa Aa rfl (by omega) (by omega)) <| Ao (Ag 1) <| Al ?_
   refine Ab ⟨_, m3 - 1, Off.eq (BF rfl <| BQ rfl <| B7 rfl <| BI rfl <| BQ rfl <| A3), by omega, ?_⟩
   exact ⟨a + 1, by omega, Ba, _, _, hle0, hP.row, rfl⟩
  refine AD (Ag 1) <| Ac <| Ae Aa (by first | rfl | exact dF (by omega)) ?_
  obtain rfl : a = (foldTo s.toList half (k + 1)).1 := by omega
  refine AG ?_
  refine A2 <| A2 <| A8 <| A4 ?_
  refine Ab ⟨_, m9 - 1, Off.eq (BQ rfl <| B7 rfl <| Bx rfl <| BF rfl <| A3), by omega, ?_⟩
  exact ⟨k + 1, by omega, BC (congrArg (Value.int .i64) (by rw [d2])), BC (congrArg (Value.int .i64) (by rw [d3]; push_cast; rfl)), _, _, hle0, by rw [D3 hkl, if_neg hk0, if_neg hx9]; exact hP.done (fun c2 r2 hs => by omega), rfl⟩
 refine Ac <| Aj fun ds => A5 rfl <| Ki Aa (i := 0) rfl hlt <| Aw (Ag 1) <| Ac <| Ae Aa rfl ?_
 obtain rfl : k = s.size := by omega
 obtain ⟨d1, d2⟩ := US (half := half) hcl
 rw [hlen] at d1 d2
 have hR := hP 0 0 (by omega) (by omega) (by omega)
 refine AG ?_
 refine A2 <| A2 <| A8 <| Ab <| Ac <| Aj fun ds => Ad rfl (Bc (k := 0) DJ Aa Aa rfl (by omega)) <| Ad rfl (Bc (k := 0) DK Aa Aa rfl (by omega)) <| Ad rfl (Ap D4 Aa (Cell.own 1 rfl (CO (a := 0) (b := 0) (by omega) (by omega)))) <| Aw (Ag 1) <| Au <| Am rfl Bi ?_
 show Sl _ _ 5 Lf.enc _
 unfold sheetL; rw [hlen]; exact hR
end
section
theorem Ma {sh : List Lf} {m : Nat} : leavesTo sh m 0 = List.replicate (2 * m * (sh.length / 2)) lf0 := by
 show (List.replicate (2 * m * (sh.length / 2)) (none : Option (Nat × Nat))).map (lfP sh) = _
 rw [List.map_replicate]; rfl
theorem GY {sh : List Lf} {m n s i : Nat} (hn : sh.length = 2 * n) (hi : i < 2 * n) : leavesTo sh m (s * (2 * n) + i + 1) = (leavesTo sh m (s * (2 * n) + i)).set (posN n m s i) { sh[i]'(by omega) with sheet := (s : Int) } := by
 have h0 : sh.length / 2 = n := by omega
 have h1 : (s * (2 * n) + i) / (2 * n) = s := by rw [Nat.mul_comm s, Nat.mul_add_div (by omega), Nat.div_eq_of_lt hi, Nat.add_zero]
 have h2 : (s * (2 * n) + i) % (2 * n) = i := by rw [Nat.mul_comm s, Nat.mul_add_mod, Nat.mod_eq_of_lt hi]
 rw [Mb, h0, h1, h2]
 congr 1
 unfold lfP
 simp only
 rw [List.getElem?_eq_getElem (by omega), Option.getD_some]
theorem pos_lt {n m s i : Nat} (hn : n = 1 ∨ n = 2 ∨ n = 4 ∨ n = 8) (hs : s < m) (hi : i < 2 * n) : posN n m s i < 2 * m * n ∧ (i < n → posN n m s i = s * n + i) ∧ (¬ i < n → (posN n m s i : Int) = ((2 * m * n : Nat) : Int) - ((s : Int) + 2) * (n : Int) + (i : Int)) := by
 unfold posN
 rcases hn with rfl | rfl | rfl | rfl
 · split
   · refine ⟨by omega, fun _ => rfl, fun h => by omega⟩
   refine ⟨by omega, fun h => by omega, fun _ => by omega⟩
 · split
   · refine ⟨by omega, fun _ => rfl, fun h => by omega⟩
   refine ⟨by omega, fun h => by omega, fun _ => by omega⟩
 · split
   · refine ⟨by omega, fun _ => rfl, fun h => by omega⟩
   refine ⟨by omega, fun h => by omega, fun _ => by omega⟩
 split
 · refine ⟨by omega, fun _ => rfl, fun h => by omega⟩
 refine ⟨by omega, fun h => by omega, fun _ => by omega⟩
theorem mul_len {M n : Nat} : (M : Int) * ((2 * n : Nat) : Int) = ((2 * M * n : Nat) : Int) := by
 push_cast; rw [← Int.mul_assoc, Int.mul_comm (M : Int) 2]
theorem Qs {n M : Nat} (hn : n = 1 ∨ n = 2 ∨ n = 4 ∨ n = 8) (hM : M ≤ 4) : 2 * M * n ≤ 64 := by
 rcases hn with rfl | rfl | rfl | rfl <;> omega
theorem TW {n s : Nat} (hn : n = 1 ∨ n = 2 ∨ n = 4 ∨ n = 8) (hs : s ≤ 8) : 0 ≤ (s : Int) * (n : Int) ∧ (s : Int) * (n : Int) ≤ 64 ∧ 0 ≤ ((s : Int) + 2) * (n : Int) ∧ ((s : Int) + 2) * (n : Int) ≤ 80 := by
 rcases hn with rfl | rfl | rfl | rfl <;> omega
theorem Le {sh : List Lf} {M n : Nat} (hl : sh.length = 2 * n) (hn : n = 1 ∨ n = 2 ∨ n = 4 ∨ n = 8) (hM : 1 ≤ M ∧ M ≤ 4) : leavesTo sh M (M * (2 * n)) = leavesG sh M := by
 have h0 : sh.length / 2 = n := by omega
 rw [← N0 (by rw [h0]; exact hn) hM, h0]
 congr 1
 rw [Nat.mul_left_comm, Nat.mul_assoc]
end
section
set_option maxRecDepth 100000
open Go.RowKit
theorem bd_97 : Body Tryz.prog 97 := AB (by kernel_rfl)
theorem R1 : FieldT Tryz.prog 97 0 0 := AU (by kernel_rfl)
instance : FieldI Tryz.prog 97 0 0 := ⟨R1⟩
theorem EC {F : Heap} {vf vp : Value} {p : Prs} (hr : PrsR F vf vp p) {m : Mk} (hv : ValidF p) (hok : MkOk p m) : Ok Tryz.prog 59 [prsV vf vp p, mkV m].toArray F fun u F' => Sl F' u 5 Lf.enc (leavesP p m) := by
 have hle0 : F.le F := Heap.le_refl _
 have hfi := hok.fmt
 have hfm := hv.fm (i := m.fmt.toNat) (by omega)
 obtain ⟨hsR, n, hn, hsh⟩ := hok.sheet hv
 obtain ⟨M, hM⟩ := Int.eq_ofNat_of_zero_le (show 0 ≤ m.sheets by have := hok.sheets; omega)
 have hMb : 1 ≤ M ∧ M ≤ 4 := by have := hok.sheets; have := hv.sheets; omega
 have hmax := Qs hn hMb.2
 obtain ⟨sh, hshe⟩ : ∃ x, x = sheetL (p.fold m) m.half := ⟨_, rfl⟩
 rw [← hshe] at hsh
 have hq2 : (sh.length : Int) / 2 = (n : Int) := by omega
 have hh2 : 2 * M * (sh.length / 2) = 2 * M * n := by rw [hsh, Nat.mul_div_cancel_left _ (by omega)]
 refine Ok.intro Tryz.func59 rfl Tryz.ntmps59 rfl fun w0 => Ac <| Aj fun ds => A5 rfl <| AX Aa rfl fun b1 hb1 nb1 => A5 rfl <| AX Aa rfl fun b2 hb2 nb2 => Aw (Ag 1) <| Ac <| AN (i := 1) rfl hb1 (.next <| .here) fun F3 hF4 hz2 => ?_
 replace hr := hr.mono hF4
 replace hle0 := Heap.le_trans hle0 hF4
 refine AN (i := 0) rfl hb2 (.here) fun F5 hF6 hz3 => ?_
 replace hr := hr.mono hF6
 replace hle0 := Heap.le_trans hle0 hF6
 replace hz2 := hF6 _ _ hz2
 have hleS := hle0
 refine Bf (.inl rfl) (fun _ _ h => h) (List.nil_sublist _) [] (by kernel_rfl) fun ds => Af 0 rfl (by kernel_rfl) (by kernel_rfl) (by kernel_rfl) (by kernel_rfl) rfl rfl (fun _ h => h.drop (List.nil_sublist _)) (fun _ _ _ h => h) (A6 Cn Aa rfl rfl (AK hz2)) <| Af 1 rfl (by kernel_rfl) (by kernel_rfl) (by kernel_rfl) (by kernel_rfl) rfl rfl (fun _ h => h.drop (List.nil_sublist _)) (fun _ _ _ h => h) (A6 BD Aa rfl rfl (AK hz3)) <| Af 3 rfl (by kernel_rfl) (by kernel_rfl) (by kernel_rfl) (by kernel_rfl) rfl rfl (fun _ h => h.drop (List.nil_sublist _)) (fun _ _ _ h => h) (Az RF Aa) <| Af 4 rfl (by kernel_rfl) (by kernel_rfl) (by kernel_rfl) (by kernel_rfl) rfl rfl (fun _ h => h.drop (List.nil_sublist _)) (fun _ _ _ h => h) (Ap GX Aa (AP hz3 rfl)) ?_
 refine Bl 2 rfl (by kernel_rfl) rfl (AI (As LM Aa AO (DU hr hfi) (fun _ _ h => h)) ⟨fun _ _ => (fun _ h => h.drop (List.nil_sublist _)), ?_⟩)
 refine Bl 5 rfl (by kernel_rfl) rfl (Bb bd_97 Aa AO (SU hfm.2.1.1 hfm.2.1.2 hfm.2.2) fun v7 F8 hr9 hF10 => ⟨fun _ _ _ h => (h.drop (List.nil_sublist _)).weak hF10 hleS, ?_⟩)
 replace hz3 := hF10 _ _ hz3
 have hsl := hr9
 rw [show sheetL (p.ft m.fmt.toNat).folds.toList m.half = sh from hshe.symm] at hsl
 refine Af 6 rfl (by kernel_rfl) (by kernel_rfl) (by kernel_rfl) (by kernel_rfl) rfl rfl (fun _ h => (h.drop (List.nil_sublist _)).weak hF10 hleS) (fun _ _ _ h => h) (AL Aa) ?_
 refine AY (by kernel_rfl) ?_ _
 refine Ab <| Ax (Ag 1) fun ds => Ad rfl (AA Bz Aa hsl.plain) <| Ad rfl (CE Aa Aa (by omega) (by omega) (by decide)) <| Aw (Ag 1) <| Ax (Ag 1) fun ds => Ad rfl (Ap AM Aa (AP hz3 rfl)) <| Ao (Ag 1) <| Ad rfl (AA Bz Aa hsl.plain) <| Ad rfl (BM Aa Aa (show _ = ((2 * M * n : Nat) : Int) by rw [hM, hsh]; exact mul_len) (by omega) (by omega)) <| A5 rfl <| K7 (enc := Lf.enc) (x0 := lf0) (k := 2 * M * n) rfl Bz JX rfl rfl (fun _ => rfl) (by decide) Aa Aa rfl (by omega) (by omega) fun v11 R12 ho5 => ?_
 obtain ⟨v7, hv7⟩ : ∃ y, y = v11 := ⟨_, rfl⟩
 subst hv7
 obtain ⟨R7_, hR7_⟩ : ∃ y, y = R12 := ⟨_, rfl⟩
 subst hR7_
 refine Aw (Ag 1) <| Ac <| Ac ?_
 have ho8 : Own 97 5 v7 (leavesTo sh M (0)).length ((leavesTo sh M (0)).flatMap Lf.enc) R7_ := by have h9 := ho5; rw [← hh2, ← Ma] at h9; exact h9
 refine Aj fun ds => Ao (Ag 1) <| Ad rfl (Ap AM Aa (AP hz3 rfl)) <| Aw (Ag 1) <| Aq ?_
 refine AH [8, 9, 10, 28, 29, 30, 31, 32, 33, 34, 35, 36, 37, 38, 39, 40, 41, 42, 43, 44, 45, 46, 47, 48, 49, 50, 51, 52, 53, 54, 55, 56, 57, 58, 59, 60, 61, 62, 63, 64] (fun m3 e σ => ∃ s : Nat, m3 + s = M ∧ Fct e 28 (.int .i64 (s : Int)) ∧ ∃ R7, Own 97 5 v7 (leavesTo sh M (s * (2 * n))).length ((leavesTo sh M (s * (2 * n))).flatMap Lf.enc) R7 ∧ σ = ⟨F8, R7⟩) (M) ?_ ?_
 · exact ⟨0, by omega, Ba, _, (by rw [Nat.zero_mul]; exact ho8), rfl⟩
 rintro m1 e1 _ ⟨s, hm1, hs28, R7, ho, rfl⟩
 by_cases hlt : s < M
 ·refine AD (Ag 1) <| Ac <| Ah Aa (by first | rfl | exact dT (by omega)) <| Ak <| Ab <| Ac <| Aq <| AD (Ag 2) <| Ax (Ag 1) fun ds => Ad rfl (AA Bz Aa hsl.plain) <| Aw (Ag 1) <| Aq ?_
  refine AH [9, 10, 33, 34, 35, 36, 37, 38, 39, 40, 41, 42, 43, 44, 45, 46, 47, 48, 49, 50, 51, 52, 53, 54, 55, 56, 57, 58, 59, 60, 61, 62, 63] (fun m3 e σ => ∃ i : Nat, m3 + i = 2 * n ∧ Fct e 33 (.int .i64 (i : Int)) ∧ ∃ R7, Own 97 5 v7 (leavesTo sh M (s * (2 * n) + i)).length ((leavesTo sh M (s * (2 * n) + i)).flatMap Lf.enc) R7 ∧ σ = ⟨F8, R7⟩) (2 * n) ?_ ?_
  · exact ⟨0, by omega, Ba, _, ho, rfl⟩
  rintro m2 e2 _ ⟨i, hm2, ht33, R7, ho, rfl⟩
  by_cases hlt2 : i < 2 * n
  ·have hil : i < sh.length := by omega
   have hol := Dm (sh := sh) (m := M) (t := s * (2 * n) + i)
   obtain ⟨hp1, hp2, hp3⟩ := pos_lt (m := M) (s := s) hn hlt hlt2
   have hpm := TW hn (s := s) (by omega)
   refine AD (Ag 1) <| Ac <| Ah Aa (by first | rfl | exact dT (by omega)) ?_
   by_cases hin : i < n
   ·have hp4 := hp2 hin
    refine Ak <| Ab <| Ac <| Aq <| Ax (Ag 1) fun ds => Ad rfl (A1 (k := i) Bz Aa hsl.plain Aa rfl hil) <| Ad rfl (A6 CP Aa rfl rfl (hsl.whole hil)) <| A5 rfl <| AF E6 rfl fun b15 hb15 nb15 => Ao (Ag 1) <| AZ <| AC Fd Aa Aa (i := 0) rfl rfl rfl rfl Lf.enc_one (.here) <| Al <| Ab <| Ax (Ag 2) fun ds => AZ <| AW Dr Aa Aa (i := 0) rfl (.here) rfl (.here) <| Al <| Ab <| AD (Ag 3) <| Ah Aa (dT (by omega)) <| Aj fun ds => Ao (Ag 3) <| Ad rfl (BM Aa Aa (show (s : Int) * ((sh.length : Int) / 2) = (s : Int) * (n : Int) by rw [hq2]) (by omega) (by omega)) <| Ao (Ag 1) <| Ad rfl (AJ Aa Aa rfl (by omega) (by omega)) <| Ao (Ag 1) <| Ad rfl (A1 (k := posN n M s i) Bz Aa (ho.plain (by omega)) Aa (by omega) (by omega)) <| AZ <| Ji (vs := ({ sh[i] with sheet := (s : Int) } : Lf).enc) Fd Aa Aa rfl rfl ho (by rw [CW (enc := Lf.enc) (s := 5) (fun _ => rfl)]; omega) (by decide) Lf.enc_one (.s <| .z) .last fun R9 ho9 => Al <| A4 <| Ab ?_
    have ho2 : Own 97 5 v7 (leavesTo sh M (s * (2 * n) + i + 1)).length ((leavesTo sh M (s * (2 * n) + i + 1)).flatMap Lf.enc) R9 := by have h9 := ho9; rw [HJ (enc := Lf.enc) (s := 5) (fun _ => rfl) _ _ (by omega), ← GY hsh hlt2] at h9; exact h9.to (by rw [Dm, Dm])
    refine Bk (fun _ _ h => h.drop (kD <| .refl _)) <| Aj fun ds => Ad rfl (AJ Aa Aa rfl (by omega) (by omega)) <| Ao (Ag 1) <| Al ?_
    refine Ab ⟨_, m2 - 1, Off.eq (Bx rfl <| BI rfl <| BQ rfl <| A3), by omega, ?_⟩
    exact ⟨i + 1, by omega, Ba, _, ho2, rfl⟩
   have hp4 := hp3 hin
   refine Ak <| Ab <| Ac <| Aq <| Ax (Ag 1) fun ds => Ad rfl (A1 (k := i) Bz Aa hsl.plain Aa rfl hil) <| Ad rfl (A6 CP Aa rfl rfl (hsl.whole hil)) <| A5 rfl <| AF E6 rfl fun b16 hb16 nb16 => Ao (Ag 1) <| AZ <| AC Fd Aa Aa (i := 0) rfl rfl rfl rfl Lf.enc_one (.here) <| Al <| Ab <| Ax (Ag 2) fun ds => AZ <| AW Dr Aa Aa (i := 0) rfl (.here) rfl (.here) <| Al <| Ab <| AD (Ag 3) <| Ae Aa (dF (by omega)) <| Aj fun ds => Ao (Ag 2) <| Ad rfl (AA Bz Aa (ho.plain (by omega))) <| Ao (Ag 1) <| Ad rfl (AJ Aa Aa rfl (by omega) (by omega)) <| Ao (Ag 1) <| Ad rfl (BM Aa Aa (show ((s : Int) + 2) * ((sh.length : Int) / 2) = ((s : Int) + 2) * (n : Int) by rw [hq2]) (by omega) (by omega)) <| Ad rfl (Br Aa Aa rfl (by omega) (by omega)) <| Ao (Ag 1) <| Ad rfl (AJ Aa Aa rfl (by omega) (by omega)) <| Ao (Ag 1) <| Ad rfl (A1 (k := posN n M s i) Bz Aa (ho.plain (by omega)) Aa (by omega) (by omega)) <| AZ <| Ji (vs := ({ sh[i] with sheet := (s : Int) } : Lf).enc) Fd Aa Aa rfl rfl ho (by rw [CW (enc := Lf.enc) (s := 5) (fun _ => rfl)]; omega) (by decide) Lf.enc_one (.s <| .z) .last fun R9 ho9 => Al <| A4 <| Ab ?_
   have ho2 : Own 97 5 v7 (leavesTo sh M (s * (2 * n) + i + 1)).length ((leavesTo sh M (s * (2 * n) + i + 1)).flatMap Lf.enc) R9 := by have h9 := ho9; rw [HJ (enc := Lf.enc) (s := 5) (fun _ => rfl) _ _ (by omega), ← GY hsh hlt2] at h9; exact h9.to (by rw [Dm, Dm])
   refine Bk (fun _ _ h => h.drop (kD <| .refl _)) <| Aj fun ds => Ad rfl (AJ Aa Aa rfl (by omega) (by omega)) <| Ao (Ag 1) <| Al ?_
   refine Ab ⟨_, m2 - 1, Off.eq (Bx rfl <| Ci rfl <| BQ rfl <| A3), by omega, ?_⟩
   exact ⟨i + 1, by omega, Ba, _, ho2, rfl⟩
  refine AD (Ag 1) <| Ac <| Ae Aa (by first | rfl | exact dF (by omega)) ?_
  obtain rfl : i = 2 * n := by omega
  refine AG ?_
  refine A2 <| A2 <| A8 <| A4 <| Ab <| Aj fun ds => Ad rfl (AJ Aa Aa rfl (by omega) (by omega)) <| Ao (Ag 1) <| Al ?_
  refine Ab ⟨_, m1 - 1, Off.eq (BF rfl <| BQ rfl <| B7 rfl <| BI rfl <| BF rfl <| A3), by omega, ?_⟩
  exact ⟨s + 1, by omega, Ba, _, by rw [Nat.add_mul, Nat.one_mul]; exact ho, rfl⟩
 refine AD (Ag 1) <| Ac <| Ae Aa (by first | rfl | exact dF (by omega)) ?_
 obtain rfl : s = M := by omega
 rw [Le hsh hn (by omega)] at ho
 have hol : (leavesG sh s).length ≤ 64 := by rw [← Le hsh hn (by omega), Dm, hh2]; omega
 refine Bo (σ := ⟨_, _⟩) (by rfl) ho (.z) .last fun F17 hF18 hz19 => ?_
 have hres := ho.sl (fun _ => rfl) hz19 (by omega)
 refine AG ?_
 refine A2 <| A2 <| A8 <| Ab <| AD (Ag 2) <| Au <| Am rfl Bi ?_
 show Sl _ _ 5 Lf.enc _
 unfold leavesP; rw [hM, Int.toNat_natCast, ← hshe]; exact hres
end
section
set_option maxRecDepth 100000
open Go.RowKit
theorem NI : Body Tryz.prog 100 := AB (by kernel_rfl)
theorem bd_132 : Body Tryz.prog 132 := AB (by kernel_rfl)
theorem Sb : Body Tryz.prog 58 := AB (by kernel_rfl)
theorem P6 : Body Tryz.prog 59 := AB (by kernel_rfl)
theorem Vn : Body Tryz.prog 65 := AB (by kernel_rfl)
theorem SF {F : Heap} {n : Nat} (h : n < 2048) : Ok Tryz.prog 134 [.int .u64 (n : Int)].toArray F fun r _ => r = .int .i64 (bitLen n : Int) := by
 refine Ok.intro Tryz.func134 rfl Tryz.ntmps134 rfl fun w0 => ?_
 have hlt := Fc
 refine AD (Ag 1) <| Ac <| AD (Ag 2) <| Ae Aa (dF (by omega)) <| Ak <| Ab <| Ac <| AD (Ag 2) <| Ae Aa (dF (by omega)) ?_
 by_cases h8 : n < 256
 ·refine Ak <| Ab <| Ac <| AD (Ag 2) <| Ae Aa (dF (by omega)) <| Ak <| Ab <| Ax (Ag 2) fun ds => Ad rfl (Cl ⟨_, Tryz.underlying222⟩ Tryz.underlying5 Aa (show IntKind.u8.wrap ((n : Nat) : Int) = ((n : Nat) : Int) by have := h8; simp [IntKind.wrap, IntKind.signed, IntKind.bits]; omega)) <| Ad rfl (BJ Tryz.underlying9 Aa Aa rfl (show n < tab8.size by have := h8; rw [Fc]; omega)) <| Ad rfl (Cl ⟨_, Tryz.underlying5⟩ Tryz.underlying3 Aa (show IntKind.i64.wrap _ = (bitLen (n) : Int) from (congrArg IntKind.i64.wrap (QY h8 (by have := h8; rw [Fc]; omega))).trans (CZ (by omega) (by have := GP h8; omega)))) <| Ad rfl (AJ Aa Aa rfl (by omega) (by have := GP h8; omega)) <| Aw (Ag 1) <| Au <| Am rfl Bi ?_
  show Value.int .i64 _ = _
  simp
 have h8b : n / 2 ^ 8 < 256 := by omega
 have hb8 := Vj h (by omega)
 refine Ak <| Ab <| Ac <| AD (Ag 2) <| Ah Aa (dT (by omega)) <| Ax (Ag 1) fun ds => Ad rfl (Hm Aa Aa (k := 8) (by decide)) <| Aw (Ag 1) <| Aj fun ds => Ao (Ag 1) <| Ad rfl (AJ Aa Aa rfl (by omega) (by omega)) <| Aw (Ag 1) <| Ax (Ag 2) fun ds => Ad rfl (Cl ⟨_, Tryz.underlying222⟩ Tryz.underlying5 Aa (show IntKind.u8.wrap ((n / 2 ^ 8 : Nat) : Int) = ((n / 2 ^ 8 : Nat) : Int) by have := h8b; simp [IntKind.wrap, IntKind.signed, IntKind.bits]; omega)) <| Ad rfl (BJ Tryz.underlying9 Aa Aa rfl (show n / 2 ^ 8 < tab8.size by have := h8b; rw [Fc]; omega)) <| Ad rfl (Cl ⟨_, Tryz.underlying5⟩ Tryz.underlying3 Aa (show IntKind.i64.wrap _ = (bitLen (n / 2 ^ 8) : Int) from (congrArg IntKind.i64.wrap (QY h8b (by have := h8b; rw [Fc]; omega))).trans (CZ (by omega) (by have := GP h8b; omega)))) <| Ad rfl (AJ Aa Aa rfl (by omega) (by have := GP h8b; omega)) <| Aw (Ag 1) <| Au <| Am rfl Bi ?_
 show Value.int .i64 _ = _
 rw [hb8]; push_cast; rfl
theorem P3 {F : Heap} {n : Nat} (h : n < 2048) : Ok Tryz.prog 101 [.int .u64 (n : Int)].toArray F fun r _ => r = .int .i64 (bitLen n : Int) := by
 refine Ok.intro Tryz.func101 rfl Tryz.ntmps101 rfl fun w0 => AD (Ag 1) <| Ac <| Ae Aa rfl <| Ak <| Ab <| Ax (Ag 1) fun ds => AE rfl (As Vt Aa AO (SF h) (fun _ _ h => h)) <| Aw (Ag 1) <| Au <| Am rfl Bi ?_
 rfl
theorem Ld {F : Heap} {n : Nat} (h : n < 2048) : Ok Tryz.prog 65 [.int .i64 (n : Int)].toArray F fun u F' => Nats F' u (bitsF n) := by
 refine Ok.intro Tryz.func65 rfl Tryz.ntmps65 rfl fun w0 => ?_
 have hl8 := P4 h
 refine AD (Ag 1) <| Ac <| Ax (Ag 1) fun ds => Ad rfl (Cl ⟨_, Tryz.underlying3⟩ Tryz.underlying188 Aa (K8 (by omega) (by omega))) <| AE rfl (As VD Aa AO (P3 h) (fun _ _ h => h)) <| Aw (Ag 1) <| Aq ?_
 refine AH [2, 3, 7, 8, 9, 10, 11, 12, 13, 14, 15, 16, 17, 18, 19] (fun m e σ => ∃ k : Nat, m + k = bitLen n ∧ Fct e 7 (.int .i64 (k : Int)) ∧ ∃ (v : Value) (R : List (Nat × Obj)), Fct e 2 v ∧ Own 3 1 v (bitsFT n k).length ((bitsFT n k).flatMap natE) R ∧ σ = ⟨F, R⟩) (bitLen n) ?_ ?_
 · exact ⟨0, by omega, Ba, _, _, Ba, Own.nil, rfl⟩
 rintro m e _ ⟨k, hm, hs7, v2, R2, hs2, ho, rfl⟩
 by_cases hlt : k < bitLen n
 ·have hbl := LJ (n := n) (k := k)
  refine AD (Ag 1) <| Ac <| Ah Aa (by first | rfl | exact dT (by omega)) ?_
  by_cases hb : n.testBit k = true
  ·refine Ak <| Ab <| Ac <| Aq <| AD (Ag 2) <| Ax (Ag 2) fun ds => Ad rfl (FR Aa Aa rfl (show k < 64 by omega) (show _ = ((n / 2 ^ k : Nat) : Int) by simp)) <| Ad rfl (GW Aa Aa rfl (k := 1) rfl (by have := Nat.div_le_self n (2 ^ k); omega) (by omega) rfl) <| Aw (Ag 1) <| Ah Aa (dT (RW.2 hb)) <| Aj fun ds => Ao (Ag 2) <| A5 rfl <| AS AR B3 rfl (.cons Aa .nil) rfl rfl (by decide) (by simp [Value.oneCell']) fun b2 hb2 nb2 => A5 rfl <| Bd AR GR Aa ho Aa (Bv (s := 1) 0 rfl rfl (by simp [Value.oneCell'])) (by omega) (by omega) (.s <| .z) .last fun v3 R4 ho5 => ?_
   have ho2 := ho5.snoc (x := k) rfl rfl
   refine Ao (Ag 1) <| Al <| A4 <| Ab <| Bk (fun _ _ h => h.drop (kD <| .refl _)) <| Aj fun ds => Ad rfl (AJ Aa Aa rfl (by omega) (by omega)) <| Ao (Ag 1) <| Al ?_
   refine Ab ⟨_, m - 1, Off.eq (Ci rfl <| BI rfl <| BF rfl <| BQ rfl <| A3), by omega, ?_⟩
   exact ⟨k + 1, by omega, Ba, _, _, Ba, by rw [QM hb]; exact ho2, rfl⟩
  replace hb : n.testBit k = false := by simpa using hb
  refine Ak <| Ab <| Ac <| Aq <| AD (Ag 2) <| Ax (Ag 2) fun ds => Ad rfl (FR Aa Aa rfl (show k < 64 by omega) (show _ = ((n / 2 ^ k : Nat) : Int) by simp)) <| Ad rfl (GW Aa Aa rfl (k := 1) rfl (by have := Nat.div_le_self n (2 ^ k); omega) (by omega) rfl) <| Aw (Ag 1) <| Ae Aa (dF (fun hq => by rw [RW.1 hq] at hb; cases hb)) <| Ak <| A4 <| Ab <| Aj fun ds => Ad rfl (AJ Aa Aa rfl (by omega) (by omega)) <| Ao (Ag 1) <| Al ?_
  refine Ab ⟨_, m - 1, Off.eq (Ci rfl <| BF rfl <| A3), by omega, ?_⟩
  exact ⟨k + 1, by omega, Ba, _, _, Ba, by rw [To hb]; exact ho, rfl⟩
 refine AD (Ag 1) <| Ac <| Ae Aa (by first | rfl | exact dF (by omega)) ?_
 obtain rfl : k = bitLen n := by omega
 have hbl := LJ (n := n) (k := bitLen n)
 refine Bo (σ := ⟨_, _⟩) (by rfl) ho (.z) .last fun F6 hF7 hz8 => ?_
 have hre := ho.sl (fun _ => rfl) hz8 (by omega)
 rw [QN h] at hre
 refine AG ?_
 refine A2 <| A2 <| A8 <| Ab <| AD (Ag 2) <| Au <| Am rfl Bi ?_
 exact hre
theorem Qd {F : Heap} {n : Nat} (h : n < 2048) : Ok Tryz.prog 132 [.int .u64 (n : Int)].toArray F fun r _ => r = .int .i64 ((bitsF n).length : Int) := by
 refine Ok.intro Tryz.func132 rfl Tryz.ntmps132 rfl fun w0 => ?_
 have hs := S4 n h
 obtain ⟨s1, s2, s3, s4, s5, s6⟩ := hs
 refine AD (Ag 1) <| Ax (Ag 1) fun ds => Ad rfl (Hm Aa Aa (k := 1) (by decide)) <| Ad rfl (KS Aa Aa (k := 6148914691236517205) (by have := Nat.div_le_self n (2 ^ 1); omega) (by decide)) <| Ao (Ag 1) <| Ad rfl (KS Aa Aa (k := 6148914691236517205) (by omega) (by decide)) <| Ad rfl (Jn Aa Aa (show on1 n < _ by omega)) <| Aw (Ag 1) <| Ax (Ag 1) fun ds => Ad rfl (Hm Aa Aa (m := on1 n) (k := 2) (by decide)) <| Ad rfl (KS Aa Aa (k := 3689348814741910323) (by have := Nat.div_le_self (on1 n) (2 ^ 2); omega) (by decide)) <| Ao (Ag 1) <| Ad rfl (KS Aa Aa (m := on1 n) (k := 3689348814741910323) (by omega) (by decide)) <| Ad rfl (Jn Aa Aa (show on2 (on1 n) < _ by omega)) <| Aw (Ag 1) <| Ax (Ag 1) fun ds => Ad rfl (Hm Aa Aa (m := on2 (on1 n)) (k := 4) (by decide)) <| Ao (Ag 1) <| Ad rfl (Jn Aa Aa (b := on2 (on1 n)) (by have := Nat.div_le_self (on2 (on1 n)) (2 ^ 4); omega)) <| Ad rfl (KS Aa Aa (k := 1085102592571150095) (by have := Nat.div_le_self (on2 (on1 n)) (2 ^ 4); omega) (by decide)) <| Aw (Ag 1) <| Ax (Ag 2) fun ds => Ad rfl (Hm Aa Aa (m := on3 (on2 (on1 n))) (k := 8) (by decide)) <| Ad rfl (Jn Aa Aa (a := on3 (on2 (on1 n))) (show on4 (on3 (on2 (on1 n))) < _ by omega)) <| Aw (Ag 1) <| Ax (Ag 2) fun ds => Ad rfl (Hm Aa Aa (m := on4 (on3 (on2 (on1 n)))) (k := 16) (by decide)) <| Ad rfl (Jn Aa Aa (a := on4 (on3 (on2 (on1 n)))) (show on5 (on4 (on3 (on2 (on1 n)))) < _ by omega)) ?_
 refine Aw (Ag 1) <| Ax (Ag 2) fun ds => Ad rfl (Hm Aa Aa (m := on5 (on4 (on3 (on2 (on1 n))))) (k := 32) (by decide)) <| Ad rfl (Jn Aa Aa (a := on5 (on4 (on3 (on2 (on1 n))))) (show on6 (on5 (on4 (on3 (on2 (on1 n))))) < _ by omega)) <| Aw (Ag 1) <| Ax (Ag 1) fun ds => Ad rfl (Cl ⟨_, Tryz.underlying222⟩ Tryz.underlying3 Aa (show IntKind.i64.wrap (on6 (on5 (on4 (on3 (on2 (on1 n))))) : Int) = (on6 (on5 (on4 (on3 (on2 (on1 n))))) : Int) from CZ (by omega) (by omega))) <| Ad rfl (GW Aa Aa (m := on6 (on5 (on4 (on3 (on2 (on1 n)))))) (k := 127) rfl rfl (by omega) (by omega) rfl) <| Aw (Ag 1) <| Au <| Am rfl Bi ?_
 show Value.int .i64 ((onN n : Nat) : Int) = _
 rw [onN_eq n h]
theorem HB {F : Heap} {n : Nat} (h : n < 2048) : Ok Tryz.prog 100 [.int .u64 (n : Int)].toArray F fun r _ => r = .int .i64 ((bitsF n).length : Int) := by
 refine Ok.intro Tryz.func100 rfl Tryz.ntmps100 rfl fun w0 => AD (Ag 1) <| Ac <| Ae Aa rfl <| Ak <| Ab <| Ax (Ag 1) fun ds => AE rfl (As bd_132 Aa AO (Qd h) (fun _ _ h => h)) <| Aw (Ag 1) <| Au <| Am rfl Bi ?_
 rfl
theorem Kb (n : Nat) : (bitsF n).length ≤ 16 := by have := List.length_filter_le (fun i => n.testBit i) (List.range 16); rw [List.length_range] at this; exact this
theorem Cv {F : Heap} {a b : Nat} (ha : a < 2048) (hb : b < 2048) : Ok Tryz.prog 64 [.int .i64 (a : Int), .int .i64 (b : Int)].toArray F fun r _ => r = .bool (fewF a b) := by
 refine Ok.intro Tryz.func64 rfl Tryz.ntmps64 rfl fun w0 => ?_
 have hla := Kb a
 have hlb := Kb b
 by_cases h1 : ((bitsF a).length : Int) - ((bitsF b).length : Int) = 0
 ·refine AD (Ag 1) <| Ac <| Ax (Ag 1) fun ds => Ad rfl (Cl ⟨_, Tryz.underlying3⟩ Tryz.underlying188 Aa (K8 (by omega) (by omega))) <| AE rfl (As NI Aa AO (HB (n := a) (by omega)) (fun _ _ h => h)) <| Ao (Ag 1) <| Ad rfl (Cl ⟨_, Tryz.underlying3⟩ Tryz.underlying188 Aa (K8 (by omega) (by omega))) <| AE rfl (As NI Aa AO (HB (n := b) (by omega)) (fun _ _ h => h)) <| Ad rfl (Br Aa Aa rfl (by omega) (by omega)) <| Aw (Ag 1) <| AD (Ag 2) <| Ae Aa (dF (fun h => h h1)) <| Ak <| Ab <| Ax (Ag 1) fun ds => A5 rfl <| Bb Vn Aa AO (Ld (n := a) ha) fun v1 F2 hr3 hF4 => ?_
  have al := hr3
  refine Ao (Ag 1) <| A5 rfl <| Bb Vn Aa AO (Ld (n := b) hb) fun v5 F6 hr7 hF8 => ?_
  replace al := al.mono hF8
  have bl := hr7
  refine AE rfl (As Kd Aa AO (Dh al bl) (fun _ _ h => h)) <| Aw (Ag 2) <| Au <| Am rfl Bi ?_
  show Value.bool _ = Value.bool _
  unfold fewF; rw [if_neg (fun h => h h1)]
 refine AD (Ag 1) <| Ac <| Ax (Ag 1) fun ds => Ad rfl (Cl ⟨_, Tryz.underlying3⟩ Tryz.underlying188 Aa (K8 (by omega) (by omega))) <| AE rfl (As NI Aa AO (HB (n := a) (by omega)) (fun _ _ h => h)) <| Ao (Ag 1) <| Ad rfl (Cl ⟨_, Tryz.underlying3⟩ Tryz.underlying188 Aa (K8 (by omega) (by omega))) <| AE rfl (As NI Aa AO (HB (n := b) (by omega)) (fun _ _ h => h)) <| Ad rfl (Br Aa Aa rfl (by omega) (by omega)) <| Aw (Ag 1) <| AD (Ag 2) <| Ah Aa (dT h1) <| AD (Ag 3) <| Au <| Ay <| Am rfl Bi ?_
 show Value.bool _ = Value.bool _
 unfold fewF; rw [if_pos h1]
theorem Nz {F : Heap} {vf vp : Value} {p : Prs} (hr : PrsR F vf vp p) {m : Mk} (h0 : (checkF p).2.2 = 0) (hok : MkOk p m) : Ok Tryz.prog 21 [prsV vf vp p, mkV m].toArray F fun u F' => ∃ v, u = .tuple #[v, .int .i64 0] ∧ Sl F' v 5 Lf.enc (leavesP p m) := by
 refine Ok.intro Tryz.func21 rfl Tryz.ntmps21 rfl fun w0 => ?_
 have he := Du.2 hok
 refine Ac <| Aj fun ds => A5 rfl <| AX Aa rfl fun b1 hb1 nb1 => A5 rfl <| AX Aa rfl fun b2 hb2 nb2 => Aw (Ag 2) <| Ax (Ag 2) fun ds => AE rfl (As Sb Aa AO (GM hr h0) (fun _ _ h => h)) <| Ao (Ag 3) <| A5 rfl <| AF EV rfl fun b3 hb3 nb3 => AZ <| AC Fv Aa Aa (i := 0) rfl rfl rfl rfl hr.ones (.here) <| Aw (Ag 1) <| Ac <| AD (Ag 2) <| Ae Aa (by rw [he]; rfl) <| Ak <| Ab <| Ax (Ag 2) fun ds => A5 rfl <| Bb P6 Aa AO (EC hr (Di h0) hok) fun v4 F5 hr6 hF7 => ?_
 have hsl := hr6
 refine Aw (Ag 2) <| Au <| Am rfl Bi ?_
 exact ⟨_, rfl, hsl⟩
end
section
set_option maxRecDepth 100000
open Go.RowKit
instance : FieldI Tryz.prog 97 1 1 := ⟨AU (by kernel_rfl)⟩
instance : FieldI Tryz.prog 97 2 2 := ⟨AU (by kernel_rfl)⟩
theorem BT {s : List UInt8} {c : UInt8} (h : s.length ≤ 4) : 1 ≤ timesN s c ∧ timesN s c ≤ 16 := by
 have := Fu (s := s) (c := c) (k := s.length) (n := 4) h
 rw [EN] at this; omega
theorem Lb {F : Heap} {vf vp : Value} {p : Prs} (hr : PrsR F vf vp p) {m : Mk} (hv : ValidF p) (hok : MkOk p m) {x : Lf} {half : Int} (hx : (0 ≤ x.col ∧ x.col ≤ 100) ∧ 0 ≤ x.row ∧ x.row ≤ 100) (hh : half = 0 ∨ half = 1) : Ok Tryz.prog 63 [prsV vf vp p, mkV m, .agg #[.int .i64 x.sheet, .int .i64 x.col, .int .i64 x.row, .bool x.inner, .bool x.turned], .int .i64 half].toArray F fun r _ => r = .bool (hasB p m x half) := by
 have hfi := hok.fmt
 have hfm := hv.fm (i := m.fmt.toNat) (by omega)
 have hcb := BT (s := p.fold m) (c := 120) (hok.fold hv).1.2
 have hpb : 0 ≤ (colN p m : Int) * (1 + 2 * half) ∧ (colN p m : Int) * (1 + 2 * half) ≤ 48 := by
   unfold colN
   rcases hh with rfl | rfl
   · omega
   omega
 refine Ok.intro Tryz.func63 rfl Tryz.ntmps63 rfl fun w0 => ?_
 by_cases h1 : inB (4 * x.col) (4 * x.col + 4) ((colN p m : Int) * (1 + 2 * half)) = true
 ·refine Ac <| Aj fun ds => A5 rfl <| AX Aa rfl fun b1 hb1 nb1 => A5 rfl <| AX Aa rfl fun b2 hb2 nb2 => A5 rfl <| AX Aa rfl fun b3 hb3 nb3 => Aw (Ag 1) <| Ax (Ag 2) fun ds => AE rfl (As LM Aa AO (DU hr hfi) (fun _ _ h => h)) <| AE rfl (As MR Aa AO (Fm hfm.2.1.2 hfm.2.2) (fun _ _ h => h)) <| Aw (Ag 5) <| Ax (Ag 2) fun ds => Ad rfl (BM Aa Aa rfl (by omega) (by omega)) <| Ao (Ag 2) <| Ad rfl (BM Aa Aa rfl (by omega) (by omega)) <| Ad rfl (AJ Aa Aa rfl (by omega) (by omega)) <| Ao (Ag 2) <| Ad rfl (BM Aa Aa rfl (by omega) (by omega)) <| Ad rfl (AJ Aa Aa rfl (by omega) (by omega)) <| Ad rfl (BM Aa Aa (show (timesN (p.ft m.fmt.toNat).folds.toList 120 : Int) * (1 + 2 * half) = (colN p m : Int) * (1 + 2 * half) from rfl) (by omega) (by omega)) <| A5 rfl <| AS AR B3 rfl (.cons Aa .nil) rfl rfl (by decide) (by simp [Value.oneCell']) fun b4 hb4 nb4 => AQ (i := 0) rfl hb4 .here fun F5 hF6 hz7 => ?_
  have hsl8 := Be hz7
  refine AE rfl (As CK Aa AO (Bp _ _ hsl8) (fun _ _ h => h)) <| Ao (Ag 2) <| Ai rfl rfl Aa (by simpa using h1) <| Ao (Ag 1) <| Ai rfl rfl Aa (by simpa using h1) <| Ao (Ag 1) <| Ai rfl rfl Aa (by simpa using h1) <| Ad rfl (BM Aa Aa rfl (by omega) (by omega)) <| Ai rfl rfl Aa (by simpa using h1) <| Ao (Ag 1) <| Ai rfl rfl Aa (by simpa using h1) <| Ao (Ag 1) <| Ai rfl rfl Aa (by simpa using h1) <| Ad rfl (BM Aa Aa rfl (by omega) (by omega)) <| Ai rfl rfl Aa (by simpa using h1) <| Ad rfl (AJ Aa Aa rfl (by omega) (by omega)) <| Ai rfl rfl Aa (by simpa using h1) <| Ao (Ag 1) <| Ai rfl rfl Aa (by simpa using h1) <| A5 rfl <| AS AR B3 rfl (.cons Aa .nil) rfl rfl (by decide) (by simp [Value.oneCell']) fun b9 hb9 nb9 => AQ (i := 0) rfl hb9 .here fun F10 hF11 hz12 => ?_
  have hsl13 := Be hz12
  refine Ai rfl rfl Aa (by simpa using h1) <| AE rfl (As CK Aa AO (Bp _ _ hsl13) (fun _ _ h => h)) <| Ai rfl rfl Aa (by simpa using h1) <| Ao (Ag 1) <| Ad rfl (At Aa (by simpa using h1) Aa) <| Aw (Ag 1) <| Au <| Am rfl Bi ?_
  show Value.bool _ = Value.bool _
  refine congrArg Value.bool ?_
  unfold hasB; rw [h1, Bool.true_and]
  simp only [List.any_cons, List.any_nil, Bool.or_false, Bool.not_not]; rfl
 replace h1 : inB (4 * x.col) (4 * x.col + 4) ((colN p m : Int) * (1 + 2 * half)) = false := by simpa using h1
 refine Ac <| Aj fun ds => A5 rfl <| AX Aa rfl fun b14 hb14 nb14 => A5 rfl <| AX Aa rfl fun b15 hb15 nb15 => A5 rfl <| AX Aa rfl fun b16 hb16 nb16 => Aw (Ag 1) <| Ax (Ag 2) fun ds => AE rfl (As LM Aa AO (DU hr hfi) (fun _ _ h => h)) <| AE rfl (As MR Aa AO (Fm hfm.2.1.2 hfm.2.2) (fun _ _ h => h)) <| Aw (Ag 5) <| Ax (Ag 2) fun ds => Ad rfl (BM Aa Aa rfl (by omega) (by omega)) <| Ao (Ag 2) <| Ad rfl (BM Aa Aa rfl (by omega) (by omega)) <| Ad rfl (AJ Aa Aa rfl (by omega) (by omega)) <| Ao (Ag 2) <| Ad rfl (BM Aa Aa rfl (by omega) (by omega)) <| Ad rfl (AJ Aa Aa rfl (by omega) (by omega)) <| Ad rfl (BM Aa Aa (show (timesN (p.ft m.fmt.toNat).folds.toList 120 : Int) * (1 + 2 * half) = (colN p m : Int) * (1 + 2 * half) from rfl) (by omega) (by omega)) <| A5 rfl <| AS AR B3 rfl (.cons Aa .nil) rfl rfl (by decide) (by simp [Value.oneCell']) fun b17 hb17 nb17 => AQ (i := 0) rfl hb17 .here fun F18 hF19 hz20 => ?_
 have hsl21 := Be hz20
 refine AE rfl (As CK Aa AO (Bp _ _ hsl21) (fun _ _ h => h)) <| Ao (Ag 2) <| Ar rfl rfl Aa (.inl (congrArg Value.bool (by simpa using h1))) rfl <| Ar rfl rfl Aa (.inl (congrArg Value.bool (by simpa using h1))) rfl <| Ar rfl rfl Aa (.inl (congrArg Value.bool (by simpa using h1))) rfl <| Ar rfl rfl Aa (.inl (congrArg Value.bool (by simpa using h1))) rfl <| Ar rfl rfl Aa (.inl (congrArg Value.bool (by simpa using h1))) rfl <| Ar rfl rfl Aa (.inl (congrArg Value.bool (by simpa using h1))) rfl <| Ar rfl rfl Aa (.inl (congrArg Value.bool (by simpa using h1))) rfl <| Ar rfl rfl Aa (.inl (congrArg Value.bool (by simpa using h1))) rfl <| Ar rfl rfl Aa (.inl (congrArg Value.bool (by simpa using h1))) rfl <| Ar rfl rfl Aa (.inl (congrArg Value.bool (by simpa using h1))) rfl <| Ar rfl rfl Aa (.inl (congrArg Value.bool (by simpa using h1))) rfl <| Ad rfl (A9 Aa (by simpa using h1) Aa) <| Aw (Ag 1) <| Au <| Am rfl Bi ?_
 show Value.bool _ = Value.bool _
 unfold hasB; rw [h1, Bool.false_and]
end
section
set_option maxRecDepth 100000
open Go.RowKit
theorem Ee : ZeroT Tryz.prog 49 (.agg #[.int .i64 0, .int .i64 0, .int .i64 0, .bool false]) := Bw (by kernel_rfl)
theorem En : Body Tryz.prog 30 := AB (by kernel_rfl)
theorem CL : Body Tryz.prog 44 := AB (by kernel_rfl)
theorem Hg : Body Tryz.prog 82 := AB (by kernel_rfl)
theorem LF : BuildT Tryz.prog 49 [.int .i64 0, .int .i64 0, .int .i64 0, .bool false] [(0, 1), (1, 1), (2, 1), (3, 1)] := BG Ee (by kernel_rfl) (by decide)
theorem Fe : SizeT Tryz.prog 49 4 := B1 (by kernel_rfl)
theorem hasR_ok {F : Heap} {vf vp : Value} {p : Prs} (hr : PrsR F vf vp p) {m : Mk} (hv : ValidF p) (hok : MkOk p m) {x : Lf} {half : Int} (hx : (0 ≤ x.col ∧ x.col ≤ 100) ∧ 0 ≤ x.row ∧ x.row ≤ 100) (hh : half = 0 ∨ half = 1) : Ok Tryz.prog 84 [prsV vf vp p, mkV m, .agg #[.int .i64 x.sheet, .int .i64 x.col, .int .i64 x.row, .bool x.inner, .bool x.turned], .int .i64 half].toArray F fun r _ => r = .bool (hasB p m x half) := by
 have hfi := hok.fmt
 have hk : m.fmt.toNat < p.formats.length := by omega
 have hfm := hv.fm (i := m.fmt.toNat) hk
 rw [← Fo hk] at hfm
 have hcb := BT (s := p.fold m) (c := 120) (hok.fold hv).1.2
 have hrb := BT (s := p.fold m) (c := 121) (hok.fold hv).1.2
 have hfe : p.formats[m.fmt.toNat].folds.toList = p.fold m := by rw [Fo hk]; rfl
 have hL1 := hr.formats.plain.lt
 have hpb : 0 ≤ (colN p m : Int) * (1 + 2 * half) ∧ (colN p m : Int) * (1 + 2 * half) ≤ 48 := by
   unfold colN
   rcases hh with rfl | rfl
   · omega
   omega
 refine Ok.intro Tryz.func84 rfl Tryz.ntmps84 rfl fun w0 => ?_
 by_cases h1 : inB (4 * x.col) (4 * x.col + 4) ((colN p m : Int) * (1 + 2 * half)) = true
 ·refine Ac <| Aj fun ds => A5 rfl <| AX Aa rfl fun b1 hb1 nb1 => A5 rfl <| AX Aa rfl fun b2 hb2 nb2 => A5 rfl <| AX Aa rfl fun b3 hb3 nb3 => Aw (Ag 1) <| Ax (Ag 4) fun ds => Ad rfl (A1 (k := m.fmt.toNat) Cc Aa hr.formats.plain Aa (by omega) hk) <| Ao (Ag 1) <| Ad rfl (Ap BU Aa (hr.formats.cell hk rfl)) <| Aw (Ag 1) <| Ax (Ag 1) fun ds => AE rfl (As Hg Aa AO (CT (c := 120) hfm.2.1.2 (by decide)) (fun _ _ h => h.trans (show Value.int .i64 (timesN p.formats[m.fmt.toNat].folds.toList (UInt8.ofNat 120) : Int) = .int .i64 (timesN (p.fold m) 120 : Int) by rw [hfe]; rfl))) <| Ao (Ag 1) <| AE rfl (As Hg Aa AO (CT (c := 121) hfm.2.1.2 (by decide)) (fun _ _ h => h.trans (show Value.int .i64 (timesN p.formats[m.fmt.toNat].folds.toList (UInt8.ofNat 121) : Int) = .int .i64 (timesN (p.fold m) 121 : Int) by rw [hfe]; rfl))) <| Aw (Ag 2) <| Ax (Ag 2) fun ds => Ad rfl (BM Aa Aa rfl (by omega) (by omega)) <| Ad rfl (AJ Aa Aa rfl (by omega) (by omega)) <| Ad rfl (BM Aa Aa (show (timesN (p.fold m) 120 : Int) * (1 + 2 * half) = (colN p m : Int) * (1 + 2 * half) from rfl) (by omega) (by omega)) <| Aw (Ag 3) <| Ax (Ag 3) fun ds => Ad rfl (BM Aa Aa rfl (by omega) (by omega)) <| Ao (Ag 2) <| Ad rfl (BM Aa Aa rfl (by omega) (by omega)) <| Ad rfl (AJ Aa Aa rfl (by omega) (by omega)) <| AE rfl (As Eo Aa AO (C9 _ _ _) (fun _ _ h => h)) <| Ao (Ag 1) ?_
  refine Ai rfl rfl Aa h1 <| Ao (Ag 1) <| Ai rfl rfl Aa h1 <| Ao (Ag 1) <| Ai rfl rfl Aa h1 <| Ao (Ag 1) <| Ai rfl rfl Aa h1 <| Ad rfl (BM Aa Aa rfl (by omega) (by omega)) <| Ai rfl rfl Aa h1 <| Ao (Ag 1) <| Ai rfl rfl Aa h1 <| Ao (Ag 1) <| Ai rfl rfl Aa h1 <| Ad rfl (BM Aa Aa rfl (by omega) (by omega)) <| Ai rfl rfl Aa h1 <| Ad rfl (AJ Aa Aa rfl (by omega) (by omega)) <| Ai rfl rfl Aa h1 <| AE rfl (As Eo Aa AO (C9 _ _ _) (fun _ _ h => h)) <| Ad rfl (At Aa h1 Aa) <| Aw (Ag 1) <| Au <| Am rfl Bi ?_
  show Value.bool _ = Value.bool _
  refine congrArg Value.bool ?_
  unfold hasB; rw [h1, Bool.true_and]; rfl
 replace h1 : inB (4 * x.col) (4 * x.col + 4) ((colN p m : Int) * (1 + 2 * half)) = false := by simpa using h1
 refine Ac <| Aj fun ds => A5 rfl <| AX Aa rfl fun b4 hb4 nb4 => A5 rfl <| AX Aa rfl fun b5 hb5 nb5 => A5 rfl <| AX Aa rfl fun b6 hb6 nb6 => Aw (Ag 1) <| Ax (Ag 4) fun ds => Ad rfl (A1 (k := m.fmt.toNat) Cc Aa hr.formats.plain Aa (by omega) hk) <| Ao (Ag 1) <| Ad rfl (Ap BU Aa (hr.formats.cell hk rfl)) <| Aw (Ag 1) <| Ax (Ag 1) fun ds => AE rfl (As Hg Aa AO (CT (c := 120) hfm.2.1.2 (by decide)) (fun _ _ h => h.trans (show Value.int .i64 (timesN p.formats[m.fmt.toNat].folds.toList (UInt8.ofNat 120) : Int) = .int .i64 (timesN (p.fold m) 120 : Int) by rw [hfe]; rfl))) <| Ao (Ag 1) <| AE rfl (As Hg Aa AO (CT (c := 121) hfm.2.1.2 (by decide)) (fun _ _ h => h.trans (show Value.int .i64 (timesN p.formats[m.fmt.toNat].folds.toList (UInt8.ofNat 121) : Int) = .int .i64 (timesN (p.fold m) 121 : Int) by rw [hfe]; rfl))) <| Aw (Ag 2) <| Ax (Ag 2) fun ds => Ad rfl (BM Aa Aa rfl (by omega) (by omega)) <| Ad rfl (AJ Aa Aa rfl (by omega) (by omega)) <| Ad rfl (BM Aa Aa (show (timesN (p.fold m) 120 : Int) * (1 + 2 * half) = (colN p m : Int) * (1 + 2 * half) from rfl) (by omega) (by omega)) <| Aw (Ag 3) <| Ax (Ag 3) fun ds => Ad rfl (BM Aa Aa rfl (by omega) (by omega)) <| Ao (Ag 2) <| Ad rfl (BM Aa Aa rfl (by omega) (by omega)) <| Ad rfl (AJ Aa Aa rfl (by omega) (by omega)) <| AE rfl (As Eo Aa AO (C9 _ _ _) (fun _ _ h => h)) <| Ao (Ag 1) ?_
 refine Ar rfl rfl Aa (.inl (congrArg Value.bool h1)) rfl <| Ar rfl rfl Aa (.inl (congrArg Value.bool h1)) rfl <| Ar rfl rfl Aa (.inl (congrArg Value.bool h1)) rfl <| Ar rfl rfl Aa (.inl (congrArg Value.bool h1)) rfl <| Ar rfl rfl Aa (.inl (congrArg Value.bool h1)) rfl <| Ar rfl rfl Aa (.inl (congrArg Value.bool h1)) rfl <| Ar rfl rfl Aa (.inl (congrArg Value.bool h1)) rfl <| Ar rfl rfl Aa (.inl (congrArg Value.bool h1)) rfl <| Ar rfl rfl Aa (.inl (congrArg Value.bool h1)) rfl <| Ad rfl (A9 Aa h1 AV) <| Aw (Ag 1) <| Au <| Am rfl Bi ?_
 show Value.bool _ = Value.bool _
 unfold hasB; rw [h1, Bool.false_and]
theorem Gk {F : Heap} (z : Int) : Ok Tryz.prog 22 [.int .i64 z].toArray F fun r _ => r = mkV ⟨z, 0, 1, false⟩ := by
 refine Ok.intro Tryz.func22 rfl Tryz.ntmps22 rfl fun w0 => Ac <| Aj fun ds => A5 rfl <| AF Ee rfl fun b1 hb1 nb1 => Al <| Ab <| Ax (Ag 1) fun ds => Ad rfl (Bg LF (.cons Aa rfl (.cons Aa rfl .nil)) (.cons rfl rfl (Nat.le_of_ble_eq_true rfl) (.cons (.here) .nil) (.cons rfl rfl (Nat.le_of_ble_eq_true rfl) (.cons (.next <| .next <| .here) .nil) .nil))) <| AZ <| AC Fe Aa Aa (i := 0) rfl rfl rfl rfl (by simp [Value.oneCell']) (.here) <| Al <| Ab <| Au <| Am rfl (.agg BD Aa rfl rfl (Bj 0 rfl) .nil) ?_
 rfl
theorem EG {F : Heap} : Ok Tryz.prog 27 [].toArray F fun r _ => r = .agg #[.int .i64 0, .int .i64 2000] := by
 refine Ok.intro Tryz.func27 rfl Tryz.ntmps27 rfl fun w0 => Ac <| Aj fun ds => A5 rfl <| AF GS rfl fun b1 hb1 nb1 => Al <| Ab <| Ac <| Aj fun ds => AE rfl (As En Aa AO (Cj _ _) (fun _ _ h => h)) <| AZ <| AC Gc Aa Aa (i := 0) rfl rfl rfl rfl (by simp [Value.oneCell']) (.here) <| Al <| Ab <| Au <| Am rfl (.agg BP Aa rfl rfl (Bj 0 rfl) .nil) ?_
 rfl
def halL (xs : List Nat) (n : Nat) : List Int := (List.range n).map fun i => ((turnF xs i : Nat) : Int) % 2
theorem SN {xs : List Nat} {n : Nat} : halL xs (n + 1) = halL xs n ++ [((turnF xs n : Nat) : Int) % 2] := by unfold halL; rw [List.range_succ, List.map_append]; rfl
theorem Gm {xs : List Nat} {n : Nat} : (halL xs n).length = n := by simp [halL]
theorem Qy {F : Heap} {m : Mk} (hms : 1 ≤ m.sheets ∧ m.sheets ≤ 4) {vx : Value} {xs : List Nat} (hxs : Sl F vx 1 u16F xs) (hxb : ∀ x ∈ xs, x < 65536) : Ok Tryz.prog 85 [mkV m, vx].toArray F fun u F' => Ints F' u (halL xs m.sheets.toNat) := by
 obtain ⟨M, hM⟩ := Int.eq_ofNat_of_zero_le (show 0 ≤ m.sheets by omega)
 refine Ok.intro Tryz.func85 rfl Tryz.ntmps85 rfl fun w0 => Ac <| Aj fun ds => A5 rfl <| AX Aa rfl fun b1 hb1 nb1 => Aw (Ag 1) <| AD (Ag 1) <| Ac <| AD (Ag 1) <| Aq ?_
 refine AH [5, 6, 7, 8, 9, 10, 11, 12, 13, 14, 15, 16, 17, 18, 19] (fun m2 e σ => ∃ k : Nat, m2 + k = M ∧ Fct e 6 (.int .i64 (k : Int)) ∧ ∃ (v : Value) (R : List (Nat × Obj)), Fct e 5 v ∧ Own 3 1 v (halL xs k).length ((halL xs k).flatMap intE) R ∧ σ = ⟨F, (b1, bx 49 [.int .i64 m.fmt, .int .i64 m.ppr, .int .i64 m.sheets, .bool m.half]) :: R⟩) (M) ?_ ?_
 · exact ⟨0, by omega, Ba, _, _, Ba, Own.nil, rfl⟩
 rintro m1 e _ ⟨k, hm1, hs6, v5, R5, hs5, ho, rfl⟩; have hhl := Gm (xs := xs) (n := k)
 by_cases hlt : k < M
 ·have htb := KG (n := k) (by decide) hxb
  refine Ac <| AD (Ag 4) <| Ah Aa (by first | rfl | exact dT (by omega)) <| Ak <| Ab <| Ac <| Aq <| Aj fun ds => Ao (Ag 3) <| AE rfl (As CL Aa AO (B6 hxs hxb rfl) (fun _ _ h => h)) <| Ad rfl (Cf Aa Aa (Int.natCast_nonneg _) (by decide)) <| A5 rfl <| AS AR B3 rfl (.cons Aa .nil) rfl rfl (by decide) (by simp [Value.oneCell']) fun b3 hb3 nb3 => A5 rfl <| Bd AR GR Aa ho Aa (Bv (s := 1) 0 rfl rfl (by simp [Value.oneCell'])) (by omega) (by omega) (.s <| .s <| .z) .last fun v4 R5 ho6 => ?_
  have ho2 : Own 3 1 v4 (halL xs (k + 1)).length ((halL xs k).flatMap intE ++ [((turnF xs k : Nat) : Int) % 2].flatMap intE) R5 := ho6.to (by rw [Gm, Gm])
  refine Ao (Ag 1) <| Al <| A4 <| Ab <| Bk (fun _ _ h => h.drop (kD <| kK <| .refl _)) <| Aj fun ds => Ao (Ag 1) <| Ad rfl (AJ Aa Aa rfl (by omega) (by omega)) <| Ao (Ag 1) <| Al ?_
  refine Ab ⟨_, m1 - 1, Off.eq (Ci rfl <| BI rfl <| BF rfl <| BQ rfl <| A3), by omega, ?_⟩
  exact ⟨k + 1, by omega, Ba, _, _, Ba, (by have h := ho2; rw [← List.flatMap_append, ← SN] at h; exact h), rfl⟩
 refine Ac <| AD (Ag 4) <| Ae Aa (by first | rfl | exact dF (by omega)) ?_
 obtain rfl : k = M := by omega
 have hhl := Gm (xs := xs) (n := k)
 refine Bo (σ := ⟨_, _⟩) (by rfl) ho (.s <| .z) .last fun F7 hF8 hz9 => ?_
 have hre := ho.sl (fun _ => rfl) hz9 (by omega)
 refine AG ?_
 refine A2 <| A2 <| A8 <| Ab <| AD (Ag 2) <| Au <| Am rfl Bi ?_
 show Ints _ _ _
 rw [hM, Int.toNat_natCast]; exact hre
end
section
def inLf (x : Lf) : Bool := decide (0 ≤ x.col ∧ x.col ≤ 100 ∧ 0 ≤ x.row ∧ x.row ≤ 100)
def boundB (k : Nat) : Bool := (words k).all fun w => (sheetL w false).all inLf && (k < 2 || (sheetL w true).all inLf)
theorem bound_1 : boundB 1 = true := by kernel_rfl
theorem bound_2 : boundB 2 = true := by kernel_rfl
theorem bound_3 : boundB 3 = true := by kernel_rfl
theorem bound_4 : boundB 4 = true := by kernel_rfl
theorem Oc {s : List UInt8} (h : 1 ≤ s.length ∧ s.length ≤ 4) (hc : ∀ c ∈ s, c = 120 ∨ c = 121) {half : Bool} (hh : half = true → 2 ≤ s.length) : ∀ x ∈ sheetL s half, inLf x = true := by
 have key : ∀ k, boundB k = true → s.length = k → ∀ x ∈ sheetL s half, inLf x = true := by
   intro k hk hl x hx
   have := List.all_eq_true.1 hk s (GE hl hc)
   simp only [Bool.and_eq_true, Bool.or_eq_true, decide_eq_true_eq] at this
   cases half with
   | false => exact List.all_eq_true.1 this.1 x hx
   | true => exact List.all_eq_true.1 (this.2.resolve_left (by have := hh rfl; omega)) x hx
 have : s.length = 1 ∨ s.length = 2 ∨ s.length = 3 ∨ s.length = 4 := by omega
 rcases this with e | e | e | e
 · exact key 1 bound_1 e
 · exact key 2 bound_2 e
 · exact key 3 bound_3 e
 exact key 4 bound_4 e
theorem ED {p : Prs} {m : Mk} (hv : ValidF p) (h : MkOk p m) {x : Lf} (hx : x ∈ leavesP p m) : (0 ≤ x.col ∧ x.col ≤ 100) ∧ 0 ≤ x.row ∧ x.row ≤ 100 := by
 obtain ⟨h1, h2⟩ := h.fold hv
 have hb := Oc h1 h2 fun hh => (h.half hh).2
 unfold leavesP leavesG at hx
 obtain ⟨⟨s, i⟩, h3, rfl⟩ := List.mem_map.1 hx
 have h4 := (O1 h3).2
 have hi : i < (sheetL (p.fold m) m.half).length := by omega
 have h5 := hb _ (List.getElem_mem hi)
 unfold inLf at h5
 have h6 := of_decide_eq_true h5
 have e : lfP (sheetL (p.fold m) m.half) (some (s, i)) = { (sheetL (p.fold m) m.half)[i] with sheet := (s : Int) } := by
   unfold lfP
   simp only
   rw [List.getElem?_eq_getElem hi, Option.getD_some]
 rw [e]
 show (0 ≤ (sheetL (p.fold m) m.half)[i].col ∧ (sheetL (p.fold m) m.half)[i].col ≤ 100) ∧ 0 ≤ (sheetL (p.fold m) m.half)[i].row ∧ (sheetL (p.fold m) m.half)[i].row ≤ 100
 omega
end
section
set_option maxRecDepth 100000
open Go.RowKit
theorem Vo : Body Tryz.prog 63 := AB (by kernel_rfl)
instance : FieldI Tryz.prog 117 1 1 := ⟨AU (by kernel_rfl)⟩
theorem BW {F : Heap} {vf vp : Value} {p : Prs} (hr : PrsR F vf vp p) {m : Mk} (hv : ValidF p) (hok : MkOk p m) {b : Bok} {vm : Value} (hm : Sl F vm 2 Mrk.enc b.marks) {vl : Value} (hl : Sl F vl 5 Lf.enc (leavesP p m)) {c1 c2 c3 c4 c5 : Nat} {s half : Int} (hc1 : F c1 = some (bx 47 [.int .i64 b.leaves, .int .i64 b.chain, .int .i64 b.wlo, .int .i64 b.whi, .int .i64 b.hlo, .int .i64 b.hhi, vm])) (hc2 : F c2 = some (bx 81 [vl])) (hc3 : F c3 = some (bx 3 [.int .i64 s])) (hc4 : F c4 = some (bx 119 [vf, vp, .int .i64 p.trim, .int .i64 p.sheets])) (hc5 : F c5 = some (bx 49 [.int .i64 m.fmt, .int .i64 m.ppr, .int .i64 m.sheets, .bool m.half])) (h8 : b.marks.length ≤ 8) (hmr : ∀ k, k < b.marks.length → 0 ≤ (b.mr k).leaf ∧ (b.mr k).leaf < ((leavesP p m).length : Int)) (hh : half = 0 ∨ half = 1) : Ok Tryz.prog 91 [.int .i64 half, .pointer (some ⟨c1, 0, none⟩), .pointer (some ⟨c2, 0, none⟩), .pointer (some ⟨c3, 0, none⟩), .pointer (some ⟨c4, 0, none⟩), .pointer (some ⟨c5, 0, none⟩)].toArray F fun r _ => r = .int .i64 (untrueN p m b s half : Int) := by
 have hll := hok.len hv
 refine Ok.intro Tryz.func91 rfl Tryz.ntmps91 rfl fun w0 => AD (Ag 1) <| Ac <| Ax (Ag 1) fun ds => Ad rfl (Ap Nm Aa (AP hc1 rfl)) <| Ad rfl (AA GU Aa hm.plain) <| Aw (Ag 1) <| Aq ?_
 refine AH [7, 8, 9, 13, 14, 15, 16, 17, 18, 19, 20, 21, 22, 23, 24, 25, 26, 27, 28, 29, 30, 31, 32, 33, 34, 35, 36, 37, 38, 39, 40, 41, 42, 43, 44] (fun m2 e σ => ∃ k : Nat, m2 + k = b.marks.length ∧ Fct e 13 (.int .i64 (k : Int)) ∧ Fct e 7 (.int .i64 (untrueTo p m b s half k : Int)) ∧ σ = ⟨F, []⟩) (b.marks.length) ?_ ?_
 · exact ⟨0, by omega, Ba, Ba, rfl⟩
 rintro m1 e _ ⟨k, hm1, hs13, hs7, rfl⟩
 by_cases hlt : k < b.marks.length
 ·have hmk := hmr k hlt
  have hmb := Rp hlt
  have hjl : (b.mr k).leaf.toNat < (leavesP p m).length := by omega
  have hml : b.marks[k].leaf = (b.mr k).leaf ∧ b.marks[k].seen = (b.mr k).seen := by rw [hmb]; exact ⟨rfl, rfl⟩
  have hge : (leavesP p m)[(b.mr k).leaf.toNat]?.getD lf0 = (leavesP p m)[(b.mr k).leaf.toNat] := by rw [List.getElem?_eq_getElem hjl]; rfl
  have hxb := ED hv hok (List.getElem_mem hjl)
  have hu := CF (p := p) (m := m) (b := b) (s := s) (half := half) k (by omega)
  have hpk : 2 ^ k ≤ 2 ^ 7 := Nat.pow_le_pow_right (by omega) (by omega)
  refine AD (Ag 1) <| Ac <| Ah Aa (by first | rfl | exact dT (by omega)) ?_
  by_cases hs : (leavesP p m)[(b.mr k).leaf.toNat].sheet = s
  ·refine Ak <| Ab <| Ac <| Aq <| Ax (Ag 1) fun ds => Ad rfl (A1 (k := k) GU Aa hm.plain Aa rfl hlt) <| Ad rfl (A6 Jf Aa rfl rfl (hm.whole hlt)) <| A5 rfl <| AF Jh rfl fun b2 hb2 nb2 => Ao (Ag 1) <| AZ <| AC MZ Aa Aa (i := 0) rfl rfl rfl rfl Mrk.enc_one (.here) <| Al <| Ab <| Ac <| B9 (.inl rfl) (fun _ _ h => h) (by kernel_rfl) (by kernel_rfl) fun ds => Bh rfl (Ap D4 Aa (AP hc2 rfl)) <| Bu (Ag 2) <| Bh rfl (A1 (k := (b.mr k).leaf.toNat) Bz Aa hl.plain Aa (by omega) hjl) <| Bu (Ag 1) <| Bh rfl (Ap AM Aa (hl.cell hjl rfl)) <| Bh rfl (Ap AM Aa (AP hc3 rfl)) <| Bu (Ag 2) <| B5 rfl rfl Aa (dT hs) <| Bh rfl (A6 Cn Aa rfl rfl (AK hc4)) <| B5 rfl rfl Aa (dT hs) <| Bh rfl (A6 BD Aa rfl rfl (AK hc5)) <| B5 rfl rfl Aa (dT hs) <| Bh rfl (Ap D4 Aa (AP hc2 rfl)) <| B5 rfl rfl Aa (dT hs) <| Bu (Ag 1) <| B5 rfl rfl Aa (dT hs) <| Bu (Ag 1) <| B5 rfl rfl Aa (dT hs) <| Bh rfl (A1 (k := (b.mr k).leaf.toNat) Bz Aa hl.plain Aa (by omega) hjl) <| B5 rfl rfl Aa (dT hs) <| Bh rfl (A6 CP Aa rfl rfl (hl.whole hjl)) <| B5 rfl rfl Aa (dT hs) <| Bu (Ag 1) <| B5 rfl rfl Aa (dT hs) <| E2 rfl (As Vo Aa AO (Lb hr hv hok hxb hh) (fun _ _ h => h)) ?_
   refine B5 rfl rfl Aa (dT hs) <| Bu (Ag 1) <| B5 rfl rfl Aa (dT hs) <| Bu (Ag 1) <| B5 rfl rfl Aa (dT hs) <| Bh rfl (Oo Tryz.underlying4 Aa Aa) <| Bh rfl (At Aa (dT hs) Aa) <| BS <| Ab ?_
   by_cases hn : (!(hasB p m (leavesP p m)[(b.mr k).leaf.toNat] half == b.marks[k].seen)) = true
   ·refine Ah Aa hn <| Aj fun ds => Ao (Ag 2) <| Ad rfl (Mr Aa Aa rfl (by omega) (show _ = ((8 * 2 ^ k : Nat) : Int) by push_cast; rfl) (by omega) (by omega)) <| Ad rfl (DC Aa Aa rfl rfl (by omega) (by omega) rfl) <| Ao (Ag 1) <| Al <| A4 <| Ab <| Bk (fun _ _ h => h.drop (kD <| .refl _)) <| Aj fun ds => Ad rfl (AJ Aa Aa rfl (by omega) (by omega)) <| Ao (Ag 1) <| Al ?_
    refine Ab ⟨_, m1 - 1, Off.eq (DG rfl <| BF rfl <| BQ rfl <| A3), by omega, ?_⟩
    exact ⟨k + 1, by omega, Ba, BC (congrArg (fun z : Nat => Value.int .i64 (z : Int)) (by rw [untrueTo, hge, if_pos ⟨hs, by rw [hml.2] at hn; simpa using hn⟩])), rfl⟩
   replace hn : (!(hasB p m (leavesP p m)[(b.mr k).leaf.toNat] half == b.marks[k].seen)) = false := by simpa using hn
   refine Ae Aa hn <| Ak <| A4 <| Ab <| Bk (fun _ _ h => h.drop (kD <| .refl _)) <| Aj fun ds => Ad rfl (AJ Aa Aa rfl (by omega) (by omega)) <| Ao (Ag 1) <| Al ?_
   refine Ab ⟨_, m1 - 1, Off.eq (Bx rfl <| Ci rfl <| BI rfl <| BF rfl <| A3), by omega, ?_⟩
   exact ⟨k + 1, by omega, Ba, BC (congrArg (fun z : Nat => Value.int .i64 (z : Int)) (by rw [untrueTo, hge, if_neg (fun h => h.2 (by rw [hml.2] at hn; simpa using hn))])), rfl⟩
  refine Ak <| Ab <| Ac <| Aq <| Ax (Ag 1) fun ds => Ad rfl (A1 (k := k) GU Aa hm.plain Aa rfl hlt) <| Ad rfl (A6 Jf Aa rfl rfl (hm.whole hlt)) <| A5 rfl <| AF Jh rfl fun b3 hb3 nb3 => Ao (Ag 1) <| AZ <| AC MZ Aa Aa (i := 0) rfl rfl rfl rfl Mrk.enc_one (.here) <| Al <| Ab <| Ac <| B9 (.inl rfl) (fun _ _ h => h) (by kernel_rfl) (by kernel_rfl) fun ds => Bh rfl (Ap D4 Aa (AP hc2 rfl)) <| Bu (Ag 2) <| Bh rfl (A1 (k := (b.mr k).leaf.toNat) Bz Aa hl.plain Aa (by omega) hjl) <| Bu (Ag 1) <| Bh rfl (Ap AM Aa (hl.cell hjl rfl)) <| Bh rfl (Ap AM Aa (AP hc3 rfl)) <| Bu (Ag 2) <| BN rfl rfl Aa (.inl (congrArg Value.bool (dF hs))) rfl <| BN rfl rfl Aa (.inl (congrArg Value.bool (dF hs))) rfl <| BN rfl rfl Aa (.inl (congrArg Value.bool (dF hs))) rfl <| BN rfl rfl Aa (.inl (congrArg Value.bool (dF hs))) rfl <| BN rfl rfl Aa (.inl (congrArg Value.bool (dF hs))) rfl <| BN rfl rfl Aa (.inl (congrArg Value.bool (dF hs))) rfl <| BN rfl rfl Aa (.inl (congrArg Value.bool (dF hs))) rfl <| BN rfl rfl Aa (.inl (congrArg Value.bool (dF hs))) rfl <| BN rfl rfl Aa (.inl (congrArg Value.bool (dF hs))) rfl <| BN rfl rfl Aa (.inl (congrArg Value.bool (dF hs))) rfl <| BN rfl rfl Aa (.inl (congrArg Value.bool (dF hs))) rfl ?_
  refine BN rfl rfl Aa (.inl (congrArg Value.bool (dF hs))) rfl <| Bh rfl (A9 Aa (dF hs) Aa) <| BS <| Ab <| Ae Aa rfl <| Ak <| A4 <| Ab <| Bk (fun _ _ h => h.drop (kD <| .refl _)) <| Aj fun ds => Ad rfl (AJ Aa Aa rfl (by omega) (by omega)) <| Ao (Ag 1) <| Al ?_
  refine Ab ⟨_, m1 - 1, Off.eq (Bx rfl <| Ci rfl <| BI rfl <| BF rfl <| A3), by omega, ?_⟩
  exact ⟨k + 1, by omega, Ba, BC (congrArg (fun z : Nat => Value.int .i64 (z : Int)) (by rw [untrueTo, hge, if_neg (fun h => hs h.1)])), rfl⟩
 refine AD (Ag 1) <| Ac <| Ae Aa (by first | rfl | exact dF (by omega)) ?_
 obtain rfl : k = b.marks.length := by omega
 refine AG ?_
 refine A2 <| A2 <| A8 <| Ab <| AD (Ag 2) <| Au <| Am rfl Bi ?_
 rfl
end
section
set_option maxRecDepth 100000
open Go.RowKit
theorem TF {F : Heap} {vf vp : Value} {p : Prs} (hr : PrsR F vf vp p) {m : Mk} (hv : ValidF p) (hok : MkOk p m) {w h : Int} (hw : 0 ≤ w ∧ w ≤ 2000) (hh : 0 ≤ h ∧ h ≤ 2000) : Ok Tryz.prog 45 [prsV vf vp p, mkV m, .int .i64 w, .int .i64 h].toArray F fun r _ => r = .tuple #[.int .i64 (if upB (p.fold m) = true then w / (colN p m : Int) else h / (rowN p m : Int)), .int .i64 (if upB (p.fold m) = true then h / (rowN p m : Int) else w / (colN p m : Int))] := by
 have hfi := hok.fmt
 have hk : m.fmt.toNat < p.formats.length := by omega
 have hfm := hv.fm (i := m.fmt.toNat) hk
 rw [← Fo hk] at hfm
 have hcb := BT (s := p.fold m) (c := 120) (hok.fold hv).1.2
 have hrb := BT (s := p.fold m) (c := 121) (hok.fold hv).1.2
 have hfe : p.formats[m.fmt.toNat].folds.toList = p.fold m := by rw [Fo hk]; rfl
 have hL1 := hr.formats.plain.lt
 have hup : decide (((p.formats[m.fmt.toNat].folds[p.formats[m.fmt.toNat].folds.size - 1]'(by omega)).toNat : Int) = 120) = upB (p.fold m) := by
   rw [← hfe]
   unfold upB
   rw [HG (by omega), Bool.eq_iff_iff, decide_eq_true_iff, beq_iff_eq]
   exact Ch (n := 120) (by decide)
 refine Ok.intro Tryz.func45 rfl Tryz.ntmps45 rfl fun w0 => ?_
 by_cases hu : upB (p.fold m) = true
 ·refine Ac <| Aj fun ds => A5 rfl <| AX Aa rfl fun b1 hb1 nb1 => A5 rfl <| AX Aa rfl fun b2 hb2 nb2 => Aw (Ag 2) <| Ax (Ag 4) fun ds => Ad rfl (A1 (k := m.fmt.toNat) Cc Aa hr.formats.plain Aa (by omega) hk) <| Ao (Ag 1) <| Ad rfl (Ap BU Aa (hr.formats.cell hk rfl)) <| Aw (Ag 1) <| Ac <| B9 (.inl rfl) (fun _ _ h => h) (by kernel_rfl) (by kernel_rfl) fun ds => Bu (Ag 2) <| E2 rfl (As Hg Aa AO (CT (c := 120) hfm.2.1.2 (by decide)) (fun _ _ h => h.trans (show Value.int .i64 (timesN p.formats[m.fmt.toNat].folds.toList (UInt8.ofNat 120) : Int) = .int .i64 (timesN (p.fold m) 120 : Int) by rw [hfe]; rfl))) <| Bh rfl (CE Aa Aa (by omega) (by omega) (by omega)) <| Bu (Ag 2) <| E2 rfl (As Hg Aa AO (CT (c := 121) hfm.2.1.2 (by decide)) (fun _ _ h => h.trans (show Value.int .i64 (timesN p.formats[m.fmt.toNat].folds.toList (UInt8.ofNat 121) : Int) = .int .i64 (timesN (p.fold m) 121 : Int) by rw [hfe]; rfl))) <| Bh rfl (CE Aa Aa (by omega) (by omega) (by omega)) <| Bu (Ag 2) <| BS <| Ab <| Ac <| Ax (Ag 2) fun ds => Ad rfl (Cg Tryz.underlying9 Aa) <| Ad rfl (Br Aa Aa rfl (by omega) (by omega)) <| Ad rfl (BJ Tryz.underlying9 Aa Aa (show _ = ((p.formats[m.fmt.toNat].folds.size - 1 : Nat) : Int) by omega) (show p.formats[m.fmt.toNat].folds.size - 1 < p.formats[m.fmt.toNat].folds.size by omega)) <| Aw (Ag 1) <| Ah Aa (hup.trans hu) <| AD (Ag 4) ?_
  refine Au <| Ay <| Am rfl Bi ?_
  show Value.tuple _ = Value.tuple _
  rw [if_pos hu, if_pos hu]; rfl
 replace hu : upB (p.fold m) = false := by simpa using hu
 refine Ac <| Aj fun ds => A5 rfl <| AX Aa rfl fun b3 hb3 nb3 => A5 rfl <| AX Aa rfl fun b4 hb4 nb4 => Aw (Ag 2) <| Ax (Ag 4) fun ds => Ad rfl (A1 (k := m.fmt.toNat) Cc Aa hr.formats.plain Aa (by omega) hk) <| Ao (Ag 1) <| Ad rfl (Ap BU Aa (hr.formats.cell hk rfl)) <| Aw (Ag 1) <| Ac <| B9 (.inl rfl) (fun _ _ h => h) (by kernel_rfl) (by kernel_rfl) fun ds => Bu (Ag 2) <| E2 rfl (As Hg Aa AO (CT (c := 120) hfm.2.1.2 (by decide)) (fun _ _ h => h.trans (show Value.int .i64 (timesN p.formats[m.fmt.toNat].folds.toList (UInt8.ofNat 120) : Int) = .int .i64 (timesN (p.fold m) 120 : Int) by rw [hfe]; rfl))) <| Bh rfl (CE Aa Aa (by omega) (by omega) (by omega)) <| Bu (Ag 2) <| E2 rfl (As Hg Aa AO (CT (c := 121) hfm.2.1.2 (by decide)) (fun _ _ h => h.trans (show Value.int .i64 (timesN p.formats[m.fmt.toNat].folds.toList (UInt8.ofNat 121) : Int) = .int .i64 (timesN (p.fold m) 121 : Int) by rw [hfe]; rfl))) <| Bh rfl (CE Aa Aa (by omega) (by omega) (by omega)) <| Bu (Ag 2) <| BS <| Ab <| Ac <| Ax (Ag 2) fun ds => Ad rfl (Cg Tryz.underlying9 Aa) <| Ad rfl (Br Aa Aa rfl (by omega) (by omega)) <| Ad rfl (BJ Tryz.underlying9 Aa Aa (show _ = ((p.formats[m.fmt.toNat].folds.size - 1 : Nat) : Int) by omega) (show p.formats[m.fmt.toNat].folds.size - 1 < p.formats[m.fmt.toNat].folds.size by omega)) <| Aw (Ag 1) <| Ae Aa (hup.trans hu) ?_
 refine Ak <| Ab <| AD (Ag 4) <| Au <| Am rfl Bi ?_
 show Value.tuple _ = Value.tuple _
 rw [if_neg (by rw [hu]; simp), if_neg (by rw [hu]; simp)]; rfl
end
section
set_option maxRecDepth 100000
open Go.RowKit
theorem M4 {F : Heap} {vf vp : Value} {p : Prs} (hr : PrsR F vf vp p) : Ok Tryz.prog 50 [prsV vf vp p].toArray F fun u F' => ∃ d, u = .func (.func 87) #[] #[.pointer (some ⟨d, 0, none⟩)] ∧ F' d = some (bx 119 [vf, vp, .int .i64 p.trim, .int .i64 p.sheets]) := by
 refine Ok.intro Tryz.func50 rfl Tryz.ntmps50 rfl fun w0 => Ac <| Aj fun ds => A5 rfl <| AX Aa rfl fun b1 hb1 nb1 => Aw (Ag 1) <| Ac <| AN (i := 0) rfl hb1 (.here) fun F2 hF3 hz => ?_
 refine Aj fun ds => Ad rfl (Bm AO) <| Aw (Ag 1) <| Au <| Am rfl Bi ?_
 exact ⟨_, rfl, hz⟩
end
section
set_option maxRecDepth 100000
open Go.RowKit
theorem zr_81 : ZeroT Tryz.prog 81 (.slice none 0 0) := Bw (by kernel_rfl)
theorem Fq : Body Tryz.prog 64 := AB (by kernel_rfl)
theorem bd_89 : Body Tryz.prog 89 := AB (by kernel_rfl)
theorem FW : Body Tryz.prog 90 := AB (by kernel_rfl)
theorem Db : Body Tryz.prog 91 := AB (by kernel_rfl)
theorem Eh {p : Prs} {m : Mk} {b : Bok} (h8 : b.marks.length ≤ 8) : ∀ s, offTo p m b s < 2048
 | 0 => by
   show bit3 p m b < 2048
   unfold bit3
   refine Nat.or_lt_two_pow (n := 11) (Nat.or_lt_two_pow (n := 11) ?_ ?_) ?_ <;> split <;> omega
 | s + 1 => by
   refine Nat.or_lt_two_pow (n := 11) (Eh h8 s) ?_
   unfold lessN
   split
   · exact CF _ h8
   exact CF _ h8
theorem MH {a c : Int} (h : 0 ≤ a ∧ a ≤ 2000) (hc : 1 ≤ c) : 0 ≤ a / c ∧ a / c ≤ 2000 := ⟨Int.ediv_nonneg h.1 (by omega), Int.le_trans (Int.ediv_le_self _ h.1) h.2⟩
theorem Kn {F : Heap} {vf vp : Value} {p : Prs} (hr : PrsR F vf vp p) {m : Mk} (hv : ValidF p) (hok : MkOk p m) {b : Bok} {vm : Value} (hm : Sl F vm 2 Mrk.enc b.marks) (h8 : b.marks.length ≤ 8) (hmr0 : ((leavesP p m).length : Int) = b.leaves → ∀ k, k < b.marks.length → 0 ≤ (b.mr k).leaf ∧ (b.mr k).leaf < ((leavesP p m).length : Int)) : Ok Tryz.prog 51 [prsV vf vp p, mkV m, bokV vm b].toArray F fun r _ => r = .int .i64 (offP p m b) := by
 have hle0 : F.le F := Heap.le_refl _
 have hfi := hok.fmt
 have hpi := hok.ppr
 have hkp : m.ppr.toNat < p.papers.length := by omega
 have hpe : p.papers[m.ppr.toNat] = p.pap m := Ox hkp
 have hpv := hv.pp hkp
 rw [← Ox hkp] at hpv
 have hfm := hv.fm (i := m.fmt.toNat) (by omega)
 have hcb := BT (s := p.fold m) (c := 120) (hok.fold hv).1.2
 have hrb := BT (s := p.fold m) (c := 121) (hok.fold hv).1.2
 have hll := hok.len hv
 have hcb3 : 1 ≤ colN p m ∧ colN p m ≤ 16 := hcb
 have hrb3 : 1 ≤ rowN p m ∧ rowN p m ≤ 16 := hrb
 have hL2 := hr.papers.plain.lt
 have hvt := hv.trim
 have hwb : (0 ≤ (wideP p m).1 ∧ (wideP p m).1 ≤ 2000) ∧ 0 ≤ (highP p m).1 ∧ (highP p m).1 ≤ 2000 := by
   rw [hpe] at hpv
   have q1 := MH (a := (p.pap m).wlo) (c := (colN p m : Int)) (by omega) (by omega)
   have q2 := MH (a := (p.pap m).hlo) (c := (rowN p m : Int)) (by omega) (by omega)
   unfold wideP highP
   cases upB (p.fold m) with
   | true => exact ⟨q1, q2⟩
   | false => exact ⟨q2, q1⟩
 obtain ⟨M, hM⟩ := Int.eq_ofNat_of_zero_le (show 0 ≤ m.sheets by have := hok.sheets; omega)
 have hMb : 1 ≤ M ∧ M ≤ 4 := by have := hok.sheets; have := hv.sheets; omega
 refine Ok.intro Tryz.func51 rfl Tryz.ntmps51 rfl fun w0 => Ac <| Aj fun ds => A5 rfl <| AX Aa rfl fun b1 hb1 nb1 => A5 rfl <| AX Aa rfl fun b2 hb2 nb2 => A5 rfl <| AX Aa rfl fun b3 hb3 nb3 => Aw (Ag 1) <| Ax (Ag 2) fun ds => A5 rfl <| Bb P6 Aa AO (EC hr hv hok) fun v4 F5 hr6 hF7 => ?_
 replace hr := hr.mono hF7
 replace hm := hm.mono hF7
 replace hle0 := Heap.le_trans hle0 hF7
 have hsl := hr6
 refine A5 rfl <| AF zr_81 rfl fun b8 hb8 nb8 => AZ <| AW Ml Aa Aa (i := 0) rfl (.here) hsl.plain.one (.here) <| Al <| Ab <| Ac <| Ac <| AN (i := 3) rfl hb1 (.next <| .next <| .next <| .here) fun F9 hF10 hz3 => ?_
 replace hr := hr.mono hF10
 replace hm := hm.mono hF10
 replace hle0 := Heap.le_trans hle0 hF10
 replace hsl := hsl.mono hF10
 refine AN (i := 2) rfl hb2 (.next <| .next <| .here) fun F11 hF12 hz4 => ?_
 replace hr := hr.mono hF12
 replace hm := hm.mono hF12
 replace hle0 := Heap.le_trans hle0 hF12
 replace hsl := hsl.mono hF12
 replace hz3 := hF12 _ _ hz3
 refine AN (i := 1) rfl hb3 (.next <| .here) fun F13 hF14 hz5 => ?_
 replace hr := hr.mono hF14
 replace hm := hm.mono hF14
 replace hle0 := Heap.le_trans hle0 hF14
 replace hsl := hsl.mono hF14
 replace hz3 := hF14 _ _ hz3
 replace hz4 := hF14 _ _ hz4
 refine AN (i := 0) rfl hb8 (.here) fun F15 hF16 hz7 => ?_
 replace hr := hr.mono hF16
 replace hm := hm.mono hF16
 replace hle0 := Heap.le_trans hle0 hF16
 replace hsl := hsl.mono hF16
 replace hz3 := hF16 _ _ hz3
 replace hz4 := hF16 _ _ hz4
 replace hz5 := hF16 _ _ hz5
 by_cases hle : ((leavesP p m).length : Int) = b.leaves
 ·have hmr := hmr0 hle
  refine Aj fun ds => Ad rfl (Ap D4 Aa (AP hz7 rfl)) <| Ad rfl (AA Bz Aa hsl.plain) <| Ao (Ag 1) <| Ad rfl (Ap AM Aa (AP hz5 rfl)) <| Aw (Ag 1) <| Ae Aa (dF (fun h => h hle)) <| Ak <| Ab <| Ac ?_
  have hleS := hle0
  refine Bf (.inl rfl) (fun _ _ h => h) (List.nil_sublist _) [12] (by kernel_rfl) fun ds => Af 0 rfl (by kernel_rfl) (by kernel_rfl) (by kernel_rfl) (by kernel_rfl) rfl rfl (fun _ h => h.drop (List.nil_sublist _)) (fun _ _ _ h => h) (A6 Cn Aa rfl rfl (AK hz3)) <| Af 1 rfl (by kernel_rfl) (by kernel_rfl) (by kernel_rfl) (by kernel_rfl) rfl rfl (fun _ h => h.drop (List.nil_sublist _)) (fun _ _ _ h => h) (A6 BD Aa rfl rfl (AK hz4)) <| Af 3 rfl (by kernel_rfl) (by kernel_rfl) (by kernel_rfl) (by kernel_rfl) rfl rfl (fun _ h => h.drop (List.nil_sublist _)) (fun _ _ _ h => h) (Az HO Aa) <| Af 4 rfl (by kernel_rfl) (by kernel_rfl) (by kernel_rfl) (by kernel_rfl) rfl rfl (fun _ h => h.drop (List.nil_sublist _)) (fun _ _ _ h => h) (Az Kz Aa) <| Af 5 rfl (by kernel_rfl) (by kernel_rfl) (by kernel_rfl) (by kernel_rfl) rfl rfl (fun _ h => h.drop (List.nil_sublist _)) (fun _ _ _ h => h) (Ap DQ Aa (AP hz3 rfl)) <| Af 6 rfl (by kernel_rfl) (by kernel_rfl) (by kernel_rfl) (by kernel_rfl) rfl rfl (fun _ h => h.drop (List.nil_sublist _)) (fun _ _ _ h => h) (Az N8 Aa) <| Af 7 rfl (by kernel_rfl) (by kernel_rfl) (by kernel_rfl) (by kernel_rfl) rfl rfl (fun _ h => h.drop (List.nil_sublist _)) (fun _ _ _ h => h) (Ap AM Aa (AP hz4 rfl)) <| Af 8 rfl (by kernel_rfl) (by kernel_rfl) (by kernel_rfl) (by kernel_rfl) rfl rfl (fun _ h => h.drop (List.nil_sublist _)) (fun _ _ _ h => h) (A1 (k := m.ppr.toNat) Cx Aa hr.papers.plain Aa (by omega) hkp) ?_
  refine Af 9 rfl (by kernel_rfl) (by kernel_rfl) (by kernel_rfl) (by kernel_rfl) rfl rfl (fun _ h => h.drop (List.nil_sublist _)) (fun _ _ _ h => h) (A6 JA Aa rfl rfl (hr.papers.whole hkp)) ?_
  refine BX [2, 10] (by kernel_rfl) (by decide) (Li ?_ ?_)
  ·refine By rfl rfl (AI (As LM Aa AO (DU hr hfi) (fun _ _ h => h)) ⟨fun _ _ => (fun _ h => h.drop (List.nil_sublist _)), ?_⟩)
   refine Bl 10 rfl (by kernel_rfl) rfl (AF JD rfl fun b17 hb17 nb17 => ⟨fun _ _ => (fun _ h => h.drop (List.nil_sublist _)), ?_⟩)
   refine Af 11 rfl (by kernel_rfl) (by kernel_rfl) (by kernel_rfl) (by kernel_rfl) rfl rfl (fun _ h => h.drop (List.nil_sublist _)) (fun _ _ _ h => h) (AL Aa) ?_
   refine Bt 12 rfl (by kernel_rfl) (AC Mn Aa Aa (i := 0) rfl rfl rfl rfl Ppr.enc_one (.here) ⟨(fun h => nomatch h), ?_⟩)
   refine AY (by kernel_rfl) ?_ _
   refine Ab <| Ax (Ag 1) fun ds => AE rfl (As MR Aa AO (Fm hfm.2.1.2 hfm.2.2) (fun _ _ h => h.trans (show _ = Value.tuple #[.int .i64 (colN p m : Int), .int .i64 (rowN p m : Int)] from rfl))) <| Aw (Ag 5) <| Ac ?_
   have hleS := hle0
   refine Bf (.inl rfl) (fun _ _ h => h) (kK <| .refl _) [12] (by kernel_rfl) fun ds => Af 0 rfl (by kernel_rfl) (by kernel_rfl) (by kernel_rfl) (by kernel_rfl) rfl rfl (fun _ h => h.drop (kK <| .refl _)) (fun _ _ _ h => h) (Az HL Aa) <| Af 1 rfl (by kernel_rfl) (by kernel_rfl) (by kernel_rfl) (by kernel_rfl) rfl rfl (fun _ h => h.drop (kK <| .refl _)) (fun _ _ _ h => h) (Az EU Aa) <| Af 2 rfl (by kernel_rfl) (by kernel_rfl) (by kernel_rfl) (by kernel_rfl) rfl rfl (fun _ h => h.drop (kK <| .refl _)) (fun _ _ _ h => h) (Ap AM Aa (Cell.own 0 rfl rfl)) <| Af 3 rfl (by kernel_rfl) (by kernel_rfl) (by kernel_rfl) (by kernel_rfl) rfl rfl (fun _ h => h.drop (kK <| .refl _)) (fun _ _ _ h => h) (A0 Aa) <| Af 4 rfl (by kernel_rfl) (by kernel_rfl) (by kernel_rfl) (by kernel_rfl) rfl rfl (fun _ h => h.drop (kK <| .refl _)) (fun _ _ _ h => h) (CE Aa Aa (by omega) (by omega) (by omega)) <| Af 5 rfl (by kernel_rfl) (by kernel_rfl) (by kernel_rfl) (by kernel_rfl) rfl rfl (fun _ h => h.drop (kK <| .refl _)) (fun _ _ _ h => h) (Az HL Aa) <| Af 6 rfl (by kernel_rfl) (by kernel_rfl) (by kernel_rfl) (by kernel_rfl) rfl rfl (fun _ h => h.drop (kK <| .refl _)) (fun _ _ _ h => h) (Az ET Aa) <| Af 7 rfl (by kernel_rfl) (by kernel_rfl) (by kernel_rfl) (by kernel_rfl) rfl rfl (fun _ h => h.drop (kK <| .refl _)) (fun _ _ _ h => h) (Ap AM Aa (Cell.own 0 rfl rfl)) ?_
   refine Af 8 rfl (by kernel_rfl) (by kernel_rfl) (by kernel_rfl) (by kernel_rfl) rfl rfl (fun _ h => h.drop (kK <| .refl _)) (fun _ _ _ h => h) (A0 Aa) <| Af 9 rfl (by kernel_rfl) (by kernel_rfl) (by kernel_rfl) (by kernel_rfl) rfl rfl (fun _ h => h.drop (kK <| .refl _)) (fun _ _ _ h => h) (CE Aa Aa (by omega) (by omega) (by omega)) <| Af 10 rfl (by kernel_rfl) (by kernel_rfl) (by kernel_rfl) (by kernel_rfl) rfl rfl (fun _ h => h.drop (kK <| .refl _)) (fun _ _ _ h => h) (Bg MO (.cons Aa rfl (.cons Aa rfl .nil)) (.cons rfl rfl (Nat.le_of_ble_eq_true rfl) (.cons (.here) .nil) (.cons rfl rfl (Nat.le_of_ble_eq_true rfl) (.cons (.next <| .here) .nil) .nil))) ?_
   refine Bl 11 rfl (by kernel_rfl) rfl (AF GS rfl fun b18 hb18 nb18 => ⟨fun _ _ => (fun _ h => h.drop (kD <| kK <| .refl _)), ?_⟩)
   refine Bt 12 rfl (by kernel_rfl) (AC Gc Aa Aa (i := 0) rfl rfl rfl rfl (by simp [Value.oneCell']) (.here) ⟨(fun h => nomatch h), ?_⟩)
   refine AY (by kernel_rfl) ?_ _
   refine Ab <| Ac ?_
   have hleS := hle0
   refine Bf (.inl rfl) (fun _ _ h => h) (kK <| kK <| .refl _) [12] (by kernel_rfl) fun ds => Af 0 rfl (by kernel_rfl) (by kernel_rfl) (by kernel_rfl) (by kernel_rfl) rfl rfl (fun _ h => h.drop (kK <| kK <| .refl _)) (fun _ _ _ h => h) (Az HK Aa) <| Af 1 rfl (by kernel_rfl) (by kernel_rfl) (by kernel_rfl) (by kernel_rfl) rfl rfl (fun _ h => h.drop (kK <| kK <| .refl _)) (fun _ _ _ h => h) (Az EU Aa) <| Af 2 rfl (by kernel_rfl) (by kernel_rfl) (by kernel_rfl) (by kernel_rfl) rfl rfl (fun _ h => h.drop (kK <| kK <| .refl _)) (fun _ _ _ h => h) (Ap AM Aa (Cell.own 1 rfl rfl)) <| Af 3 rfl (by kernel_rfl) (by kernel_rfl) (by kernel_rfl) (by kernel_rfl) rfl rfl (fun _ h => h.drop (kK <| kK <| .refl _)) (fun _ _ _ h => h) (A0 Aa) <| Af 4 rfl (by kernel_rfl) (by kernel_rfl) (by kernel_rfl) (by kernel_rfl) rfl rfl (fun _ h => h.drop (kK <| kK <| .refl _)) (fun _ _ _ h => h) (CE Aa Aa (by omega) (by omega) (by omega)) <| Af 5 rfl (by kernel_rfl) (by kernel_rfl) (by kernel_rfl) (by kernel_rfl) rfl rfl (fun _ h => h.drop (kK <| kK <| .refl _)) (fun _ _ _ h => h) (Az HK Aa) <| Af 6 rfl (by kernel_rfl) (by kernel_rfl) (by kernel_rfl) (by kernel_rfl) rfl rfl (fun _ h => h.drop (kK <| kK <| .refl _)) (fun _ _ _ h => h) (Az ET Aa) ?_
   refine Af 7 rfl (by kernel_rfl) (by kernel_rfl) (by kernel_rfl) (by kernel_rfl) rfl rfl (fun _ h => h.drop (kK <| kK <| .refl _)) (fun _ _ _ h => h) (Ap AM Aa (Cell.own 1 rfl rfl)) <| Af 8 rfl (by kernel_rfl) (by kernel_rfl) (by kernel_rfl) (by kernel_rfl) rfl rfl (fun _ h => h.drop (kK <| kK <| .refl _)) (fun _ _ _ h => h) (A0 Aa) <| Af 9 rfl (by kernel_rfl) (by kernel_rfl) (by kernel_rfl) (by kernel_rfl) rfl rfl (fun _ h => h.drop (kK <| kK <| .refl _)) (fun _ _ _ h => h) (CE Aa Aa (by omega) (by omega) (by omega)) <| Af 10 rfl (by kernel_rfl) (by kernel_rfl) (by kernel_rfl) (by kernel_rfl) rfl rfl (fun _ h => h.drop (kK <| kK <| .refl _)) (fun _ _ _ h => h) (Bg MO (.cons Aa rfl (.cons Aa rfl .nil)) (.cons rfl rfl (Nat.le_of_ble_eq_true rfl) (.cons (.here) .nil) (.cons rfl rfl (Nat.le_of_ble_eq_true rfl) (.cons (.next <| .here) .nil) .nil))) ?_
   refine Bl 11 rfl (by kernel_rfl) rfl (AF GS rfl fun b19 hb19 nb19 => ⟨fun _ _ => (fun _ h => h.drop (kD <| kK <| kK <| .refl _)), ?_⟩)
   refine Bt 12 rfl (by kernel_rfl) (AC Gc Aa Aa (i := 0) rfl rfl rfl rfl (by simp [Value.oneCell']) (.here) ⟨(fun h => nomatch h), ?_⟩)
   refine AY (by kernel_rfl) ?_ _
   refine Ab <| AD (Ag 1) <| Ac <| Ax (Ag 1) fun ds => AE rfl (As bd_89 Aa AO (KD hfm.2.1.1 hfm.2.1.2) (fun _ _ h => h.trans (show _ = Value.bool (upB (p.fold m)) from rfl))) <| Aw (Ag 1) ?_
   refine BH [14, 67, 68] (fun st σ => Fct st 14 (.int .i64 (chainP p m)) ∧ σ = ⟨F15, [(b19, bx 44 [.int .i64 (highP p m).1, .int .i64 (highP p m).2]), (b18, bx 44 [.int .i64 (wideP p m).1, .int .i64 (wideP p m).2]), (b17, bx 71 p.papers[m.ppr.toNat].enc)]⟩) ?_ ?_
   ·by_cases hu : upB (p.fold m) = true
    ·refine Ae Aa (by rw [hu]; rfl) <| Ak ?_
     refine Ab ⟨_, Off.eq (AT), ?_⟩
     exact ⟨BC (by unfold chainP; rw [if_pos hu]), by unfold wideP highP; rw [if_pos hu, if_pos hu, ← hpe]⟩
    replace hu : upB (p.fold m) = false := by simpa using hu
    refine Ah Aa (by rw [hu]; rfl) <| Aj fun ds => Ao (Ag 2) <| AZ <| AC Gc Aa Aa (i := 1) rfl rfl rfl rfl (by simp [Value.oneCell']) (.next <| .here) <| AZ <| AC Gc Aa Aa (i := 0) rfl rfl rfl rfl (by simp [Value.oneCell']) (.here) <| Ao (Ag 1) <| Al ?_
    refine Ab ⟨_, Off.eq (BF rfl <| BQ rfl <| AT), ?_⟩
    exact ⟨BC (by unfold chainP; rw [if_neg (by rw [hu]; simp)]), by unfold wideP highP; rw [if_neg (by rw [hu]; simp), if_neg (by rw [hu]; simp), ← hpe]⟩
   rintro e14 _ ⟨hc14, rfl⟩
   refine Ac <| Ac ?_
   by_cases h1 : b.chain = 0
   ·have hc1 : (if b.chain ≠ 0 ∧ b.chain ≠ chainP p m then 1 else 0 : Nat) = 0 := if_neg (fun h => h.1 h1)
    refine Aj fun ds => Ao (Ag 1) <| Ad rfl (Ap AM Aa (AP hz5 rfl)) <| Ao (Ag 2) <| Ar rfl rfl Aa (.inl (congrArg Value.bool (dF (fun h => h h1)))) rfl <| Ar rfl rfl Aa (.inl (congrArg Value.bool (dF (fun h => h h1)))) rfl <| Ar rfl rfl Aa (.inl (congrArg Value.bool (dF (fun h => h h1)))) rfl <| Ar rfl rfl Aa (.inl (congrArg Value.bool (dF (fun h => h h1)))) rfl <| Ad rfl (A9 Aa (dF (fun h => h h1)) Aa) <| Al <| Ab <| Ae Aa rfl <| Ak <| Ab <| Ac <| Ax (Ag 6) fun ds => Ad rfl (Ap AM Aa (AP hz3 rfl)) <| Ao (Ag 1) <| Ad rfl (A6 (vs := [.int .i64 b.wlo, .int .i64 b.whi]) BP Aa rfl rfl (Ca hz5 (n := 2) rfl)) <| AE rfl (As FW Aa AO (Cp (by omega) (by omega)) (fun _ _ h => h)) <| Aw (Ag 1) ?_
    refine BH [6, 91, 92] (fun st σ => Fct st 6 (.int .i64 (((if b.chain ≠ 0 ∧ b.chain ≠ chainP p m then 1 else 0 : Nat) ||| (if reachB (wideP p m).1 (wideP p m).2 p.trim b.wlo b.whi = false then 2 else 0 : Nat) : Nat) : Int)) ∧ σ = ⟨F15, [(b19, bx 44 [.int .i64 (highP p m).1, .int .i64 (highP p m).2]), (b18, bx 44 [.int .i64 (wideP p m).1, .int .i64 (wideP p m).2]), (b17, bx 71 p.papers[m.ppr.toNat].enc)]⟩) ?_ ?_
    ·by_cases hr1 : reachB (wideP p m).1 (wideP p m).2 p.trim b.wlo b.whi = true
     ·refine Ae Aa (by rw [hr1]; rfl) <| Ak ?_
      refine Ab ⟨_, Off.eq (AT), ?_⟩
      exact ⟨BC (by rw [hc1, if_neg (by rw [hr1]; simp)]; rfl), rfl⟩
     replace hr1 : reachB (wideP p m).1 (wideP p m).2 p.trim b.wlo b.whi = false := by simpa using hr1
     refine Ah Aa (by rw [hr1]; rfl) <| Aj fun ds => Ao (Ag 1) <| Ad rfl (DC Aa Aa (m := 0) (k := 2) rfl rfl (by decide) (by decide) rfl) <| Ao (Ag 1) <| Al ?_
     refine Ab ⟨_, Off.eq (BF rfl <| BQ rfl <| AT), ?_⟩
     exact ⟨BC (by rw [hc1, if_pos hr1] <;> rfl), rfl⟩
    rintro e7 _ ⟨hd6, rfl⟩
    refine Ac <| Ax (Ag 6) fun ds => Ad rfl (Ap AM Aa (AP hz3 rfl)) <| Ad rfl (BM Aa Aa rfl (by omega) (by omega)) <| Ao (Ag 1) <| Ad rfl (A6 (vs := [.int .i64 b.hlo, .int .i64 b.hhi]) BP Aa rfl rfl (Ca hz5 (n := 2) rfl)) <| AE rfl (As FW Aa AO (Cp (by omega) (by omega)) (fun _ _ h => h)) <| Aw (Ag 1) ?_
    refine BH [6, 105, 106] (fun st σ => Fct st 6 (.int .i64 (bit3 p m b : Int)) ∧ σ = ⟨F15, [(b19, bx 44 [.int .i64 (highP p m).1, .int .i64 (highP p m).2]), (b18, bx 44 [.int .i64 (wideP p m).1, .int .i64 (wideP p m).2]), (b17, bx 71 p.papers[m.ppr.toNat].enc)]⟩) ?_ ?_
    ·by_cases hr2 : reachB (highP p m).1 (highP p m).2 (2 * p.trim) b.hlo b.hhi = true
     ·refine Ae Aa (by rw [hr2]; rfl) <| Ak ?_
      refine Ab ⟨_, Off.eq (AT), ?_⟩
      exact ⟨BC (by unfold bit3; rw [if_neg (c := reachB (highP p m).1 (highP p m).2 (2 * p.trim) b.hlo b.hhi = false) (by rw [hr2]; simp), Nat.or_zero]), rfl⟩
     replace hr2 : reachB (highP p m).1 (highP p m).2 (2 * p.trim) b.hlo b.hhi = false := by simpa using hr2
     refine Ah Aa (by rw [hr2]; rfl) <| Aj fun ds => Ao (Ag 1) <| Ad rfl (DC Aa Aa (k := 4) rfl rfl (Nat.lt_of_lt_of_le (Nat.or_lt_two_pow (n := 2) (by split <;> omega) (by split <;> omega)) (by decide)) (by decide) rfl) <| Ao (Ag 1) <| Al ?_
     refine Ab ⟨_, Off.eq (BF rfl <| BQ rfl <| AT), ?_⟩
     exact ⟨BC (by unfold bit3; rw [if_pos (c := reachB (highP p m).1 (highP p m).2 (2 * p.trim) b.hlo b.hhi = false) hr2]), rfl⟩
    rintro e8 _ ⟨hf6, rfl⟩
    refine Ac <| Ax (Ag 1) fun ds => Ad rfl (Ap AM Aa (AP hz4 rfl)) <| Aw (Ag 1) <| Aq ?_
    refine AH [6, 15, 16, 17, 18, 109, 110, 111, 112, 113, 114, 115, 116, 117, 118, 119, 120, 121, 122, 123, 124] (fun m2 e σ => ∃ s : Nat, m2 + s = M ∧ Fct e 109 (.int .i64 (s : Int)) ∧ Fct e 6 (.int .i64 (offTo p m b s : Int)) ∧ ∃ G, F15.le G ∧ σ = ⟨G, [(b19, bx 44 [.int .i64 (highP p m).1, .int .i64 (highP p m).2]), (b18, bx 44 [.int .i64 (wideP p m).1, .int .i64 (wideP p m).2]), (b17, bx 71 p.papers[m.ppr.toNat].enc)]⟩) (M) ?_ ?_
    · exact ⟨0, by omega, Ba, Ba, _, Heap.le_refl _, rfl⟩
    rintro m1 e _ ⟨s, hm1, hs109, hs6, G, hFG, rfl⟩; replace hr := hr.mono hFG; replace hm := hm.mono hFG; replace hsl := hsl.mono hFG; replace hz3 := hFG _ _ hz3; replace hz4 := hFG _ _ hz4; replace hz5 := hFG _ _ hz5; replace hz7 := hFG _ _ hz7
    by_cases hlt : s < M
    ·have hul := fun (z : Int) => CF (p := p) (m := m) (b := b) (s := (s : Int)) (half := z) b.marks.length h8
     have hu0 : untrueN p m b s 0 < 2048 := hul 0
     have hu1 : untrueN p m b s 1 < 2048 := hul 1
     have hot := Eh (p := p) (m := m) (b := b) h8 s
     refine AD (Ag 1) <| Ac <| Ah Aa (by first | rfl | exact dT (by omega)) <| Ak <| Ab <| Ac <| Aq <| Ax (Ag 1) fun ds => A5 rfl <| AF B3 rfl fun b21 hb21 nb21 => AZ <| AW Dr Aa Aa (i := 0) rfl (.here) rfl (.here) <| Al <| Ab <| Ac <| AN (i := 0) rfl hb21 (.here) fun F22 hF23 hz15 => ?_
     replace hr := hr.mono hF23
     replace hm := hm.mono hF23
     replace hsl := hsl.mono hF23
     replace hFG := Heap.le_trans hFG hF23
     replace hz3 := hF23 _ _ hz3
     replace hz4 := hF23 _ _ hz4
     replace hz5 := hF23 _ _ hz5
     replace hz7 := hF23 _ _ hz7
     by_cases hfw : fewF (untrueN p m b s 1) (untrueN p m b s 0) = true
     ·refine Aj fun ds => Ad rfl (Bm AO) <| Aw (Ag 1) <| Ax (Ag 1) fun ds => AE rfl (As Db Aa AO (BW hr hv hok hm hsl hz5 hz7 hz15 hz3 hz4 h8 hmr (.inl rfl)) (fun _ _ h => h)) <| Aw (Ag 1) <| Ac <| Ax (Ag 1) fun ds => AE rfl (As Db Aa AO (BW hr hv hok hm hsl hz5 hz7 hz15 hz3 hz4 h8 hmr (.inr rfl)) (fun _ _ h => h)) <| Aw (Ag 1) <| Ax (Ag 2) fun ds => AE rfl (As Fq Aa AO (Cv hu1 hu0) (fun _ _ h => h)) <| Al <| Ab <| Ah Aa hfw <| Aj fun ds => Aw (Ag 2) <| Aj fun ds => Ao (Ag 2) <| Ad rfl (DC Aa Aa rfl rfl (by omega) (by omega) rfl) <| Ao (Ag 1) <| Al <| A4 <| Ab <| Aj fun ds => Ad rfl (AJ Aa Aa rfl (by omega) (by omega)) <| Ao (Ag 1) <| Al ?_
      refine Ab ⟨_, m1 - 1, Off.eq (Bx rfl <| BI rfl <| BF rfl <| A3), by omega, ?_⟩
      exact ⟨s + 1, by omega, Ba, BC (by show _ = Value.int .i64 ((offTo p m b s ||| lessN p m b s : Nat) : Int); unfold lessN; rw [if_pos hfw]), _, hFG, rfl⟩
     replace hfw : fewF (untrueN p m b s 1) (untrueN p m b s 0) = false := by simpa using hfw
     refine Aj fun ds => Ad rfl (Bm AO) <| Aw (Ag 1) <| Ax (Ag 1) fun ds => AE rfl (As Db Aa AO (BW hr hv hok hm hsl hz5 hz7 hz15 hz3 hz4 h8 hmr (.inl rfl)) (fun _ _ h => h)) <| Aw (Ag 1) <| Ac <| Ax (Ag 1) fun ds => AE rfl (As Db Aa AO (BW hr hv hok hm hsl hz5 hz7 hz15 hz3 hz4 h8 hmr (.inr rfl)) (fun _ _ h => h)) <| Aw (Ag 1) <| Ax (Ag 2) fun ds => AE rfl (As Fq Aa AO (Cv hu1 hu0) (fun _ _ h => h)) <| Al <| Ab <| Ae Aa hfw <| Ak <| Ab <| Aj fun ds => Ao (Ag 2) <| Ad rfl (DC Aa Aa rfl rfl (by omega) (by omega) rfl) <| Ao (Ag 1) <| Al <| A4 <| Ab <| Aj fun ds => Ad rfl (AJ Aa Aa rfl (by omega) (by omega)) <| Ao (Ag 1) <| Al ?_
     refine Ab ⟨_, m1 - 1, Off.eq (Bx rfl <| BI rfl <| A3), by omega, ?_⟩
     exact ⟨s + 1, by omega, Ba, BC (by show _ = Value.int .i64 ((offTo p m b s ||| lessN p m b s : Nat) : Int); unfold lessN; rw [if_neg (by rw [hfw]; simp)]), _, hFG, rfl⟩
    refine AD (Ag 1) <| Ac <| Ae Aa (by first | rfl | exact dF (by omega)) ?_
    obtain rfl : s = M := by omega
    refine AG ?_
    refine A2 <| A2 <| A8 <| Ab <| AD (Ag 2) <| Au <| Am rfl Bi ?_
    show Value.int .i64 _ = Value.int .i64 _
    unfold offP; rw [if_neg (fun h => h hle), hM, Int.toNat_natCast]
   refine Aj fun ds => Ao (Ag 1) <| Ad rfl (Ap AM Aa (AP hz5 rfl)) <| Ao (Ag 2) <| Ai rfl rfl Aa (dT h1) <| Ao (Ag 1) <| Ai rfl rfl Aa (dT h1) <| Ad rfl (Ap AM Aa (AP hz5 rfl)) <| Ai rfl rfl Aa (dT h1) <| Ao (Ag 1) <| Ai rfl rfl Aa (dT h1) <| Ao (Ag 1) <| Ad rfl (At Aa (dT h1) Aa) <| Al <| Ab ?_
   by_cases h2 : b.chain = chainP p m
   ·have hc1 : (if b.chain ≠ 0 ∧ b.chain ≠ chainP p m then 1 else 0 : Nat) = 0 := if_neg (fun h => h.2 h2)
    refine Ae Aa (dF (fun h => h h2)) <| Ak <| Ab <| Ac <| Ax (Ag 6) fun ds => Ad rfl (Ap AM Aa (AP hz3 rfl)) <| Ao (Ag 1) <| Ad rfl (A6 (vs := [.int .i64 b.wlo, .int .i64 b.whi]) BP Aa rfl rfl (Ca hz5 (n := 2) rfl)) <| AE rfl (As FW Aa AO (Cp (by omega) (by omega)) (fun _ _ h => h)) <| Aw (Ag 1) ?_
    refine BH [6, 91, 92] (fun st σ => Fct st 6 (.int .i64 (((if b.chain ≠ 0 ∧ b.chain ≠ chainP p m then 1 else 0 : Nat) ||| (if reachB (wideP p m).1 (wideP p m).2 p.trim b.wlo b.whi = false then 2 else 0 : Nat) : Nat) : Int)) ∧ σ = ⟨F15, [(b19, bx 44 [.int .i64 (highP p m).1, .int .i64 (highP p m).2]), (b18, bx 44 [.int .i64 (wideP p m).1, .int .i64 (wideP p m).2]), (b17, bx 71 p.papers[m.ppr.toNat].enc)]⟩) ?_ ?_
    ·by_cases hr1 : reachB (wideP p m).1 (wideP p m).2 p.trim b.wlo b.whi = true
     ·refine Ae Aa (by rw [hr1]; rfl) <| Ak ?_
      refine Ab ⟨_, Off.eq (AT), ?_⟩
      exact ⟨BC (by rw [hc1, if_neg (by rw [hr1]; simp)]; rfl), rfl⟩
     replace hr1 : reachB (wideP p m).1 (wideP p m).2 p.trim b.wlo b.whi = false := by simpa using hr1
     refine Ah Aa (by rw [hr1]; rfl) <| Aj fun ds => Ao (Ag 1) <| Ad rfl (DC Aa Aa (m := 0) (k := 2) rfl rfl (by decide) (by decide) rfl) <| Ao (Ag 1) <| Al ?_
     refine Ab ⟨_, Off.eq (BF rfl <| BQ rfl <| AT), ?_⟩
     exact ⟨BC (by rw [hc1, if_pos hr1] <;> rfl), rfl⟩
    rintro e7 _ ⟨hd6, rfl⟩
    refine Ac <| Ax (Ag 6) fun ds => Ad rfl (Ap AM Aa (AP hz3 rfl)) <| Ad rfl (BM Aa Aa rfl (by omega) (by omega)) <| Ao (Ag 1) <| Ad rfl (A6 (vs := [.int .i64 b.hlo, .int .i64 b.hhi]) BP Aa rfl rfl (Ca hz5 (n := 2) rfl)) <| AE rfl (As FW Aa AO (Cp (by omega) (by omega)) (fun _ _ h => h)) <| Aw (Ag 1) ?_
    refine BH [6, 105, 106] (fun st σ => Fct st 6 (.int .i64 (bit3 p m b : Int)) ∧ σ = ⟨F15, [(b19, bx 44 [.int .i64 (highP p m).1, .int .i64 (highP p m).2]), (b18, bx 44 [.int .i64 (wideP p m).1, .int .i64 (wideP p m).2]), (b17, bx 71 p.papers[m.ppr.toNat].enc)]⟩) ?_ ?_
    ·by_cases hr2 : reachB (highP p m).1 (highP p m).2 (2 * p.trim) b.hlo b.hhi = true
     ·refine Ae Aa (by rw [hr2]; rfl) <| Ak ?_
      refine Ab ⟨_, Off.eq (AT), ?_⟩
      exact ⟨BC (by unfold bit3; rw [if_neg (c := reachB (highP p m).1 (highP p m).2 (2 * p.trim) b.hlo b.hhi = false) (by rw [hr2]; simp), Nat.or_zero]), rfl⟩
     replace hr2 : reachB (highP p m).1 (highP p m).2 (2 * p.trim) b.hlo b.hhi = false := by simpa using hr2
     refine Ah Aa (by rw [hr2]; rfl) <| Aj fun ds => Ao (Ag 1) <| Ad rfl (DC Aa Aa (k := 4) rfl rfl (Nat.lt_of_lt_of_le (Nat.or_lt_two_pow (n := 2) (by split <;> omega) (by split <;> omega)) (by decide)) (by decide) rfl) <| Ao (Ag 1) <| Al ?_
     refine Ab ⟨_, Off.eq (BF rfl <| BQ rfl <| AT), ?_⟩
     exact ⟨BC (by unfold bit3; rw [if_pos (c := reachB (highP p m).1 (highP p m).2 (2 * p.trim) b.hlo b.hhi = false) hr2]), rfl⟩
    rintro e8 _ ⟨hf6, rfl⟩
    refine Ac <| Ax (Ag 1) fun ds => Ad rfl (Ap AM Aa (AP hz4 rfl)) <| Aw (Ag 1) <| Aq ?_
    refine AH [6, 15, 16, 17, 18, 109, 110, 111, 112, 113, 114, 115, 116, 117, 118, 119, 120, 121, 122, 123, 124] (fun m2 e σ => ∃ s : Nat, m2 + s = M ∧ Fct e 109 (.int .i64 (s : Int)) ∧ Fct e 6 (.int .i64 (offTo p m b s : Int)) ∧ ∃ G, F15.le G ∧ σ = ⟨G, [(b19, bx 44 [.int .i64 (highP p m).1, .int .i64 (highP p m).2]), (b18, bx 44 [.int .i64 (wideP p m).1, .int .i64 (wideP p m).2]), (b17, bx 71 p.papers[m.ppr.toNat].enc)]⟩) (M) ?_ ?_
    · exact ⟨0, by omega, Ba, Ba, _, Heap.le_refl _, rfl⟩
    rintro m1 e _ ⟨s, hm1, hs109, hs6, G, hFG, rfl⟩; replace hr := hr.mono hFG; replace hm := hm.mono hFG; replace hsl := hsl.mono hFG; replace hz3 := hFG _ _ hz3; replace hz4 := hFG _ _ hz4; replace hz5 := hFG _ _ hz5; replace hz7 := hFG _ _ hz7
    by_cases hlt : s < M
    ·have hul := fun (z : Int) => CF (p := p) (m := m) (b := b) (s := (s : Int)) (half := z) b.marks.length h8
     have hu0 : untrueN p m b s 0 < 2048 := hul 0
     have hu1 : untrueN p m b s 1 < 2048 := hul 1
     have hot := Eh (p := p) (m := m) (b := b) h8 s
     refine AD (Ag 1) <| Ac <| Ah Aa (by first | rfl | exact dT (by omega)) <| Ak <| Ab <| Ac <| Aq <| Ax (Ag 1) fun ds => A5 rfl <| AF B3 rfl fun b25 hb25 nb25 => AZ <| AW Dr Aa Aa (i := 0) rfl (.here) rfl (.here) <| Al <| Ab <| Ac <| AN (i := 0) rfl hb25 (.here) fun F26 hF27 hz15 => ?_
     replace hr := hr.mono hF27
     replace hm := hm.mono hF27
     replace hsl := hsl.mono hF27
     replace hFG := Heap.le_trans hFG hF27
     replace hz3 := hF27 _ _ hz3
     replace hz4 := hF27 _ _ hz4
     replace hz5 := hF27 _ _ hz5
     replace hz7 := hF27 _ _ hz7
     by_cases hfw : fewF (untrueN p m b s 1) (untrueN p m b s 0) = true
     ·refine Aj fun ds => Ad rfl (Bm AO) <| Aw (Ag 1) <| Ax (Ag 1) fun ds => AE rfl (As Db Aa AO (BW hr hv hok hm hsl hz5 hz7 hz15 hz3 hz4 h8 hmr (.inl rfl)) (fun _ _ h => h)) <| Aw (Ag 1) <| Ac <| Ax (Ag 1) fun ds => AE rfl (As Db Aa AO (BW hr hv hok hm hsl hz5 hz7 hz15 hz3 hz4 h8 hmr (.inr rfl)) (fun _ _ h => h)) <| Aw (Ag 1) <| Ax (Ag 2) fun ds => AE rfl (As Fq Aa AO (Cv hu1 hu0) (fun _ _ h => h)) <| Al <| Ab <| Ah Aa hfw <| Aj fun ds => Aw (Ag 2) <| Aj fun ds => Ao (Ag 2) <| Ad rfl (DC Aa Aa rfl rfl (by omega) (by omega) rfl) <| Ao (Ag 1) <| Al <| A4 <| Ab <| Aj fun ds => Ad rfl (AJ Aa Aa rfl (by omega) (by omega)) <| Ao (Ag 1) <| Al ?_
      refine Ab ⟨_, m1 - 1, Off.eq (Bx rfl <| BI rfl <| BF rfl <| A3), by omega, ?_⟩
      exact ⟨s + 1, by omega, Ba, BC (by show _ = Value.int .i64 ((offTo p m b s ||| lessN p m b s : Nat) : Int); unfold lessN; rw [if_pos hfw]), _, hFG, rfl⟩
     replace hfw : fewF (untrueN p m b s 1) (untrueN p m b s 0) = false := by simpa using hfw
     refine Aj fun ds => Ad rfl (Bm AO) <| Aw (Ag 1) <| Ax (Ag 1) fun ds => AE rfl (As Db Aa AO (BW hr hv hok hm hsl hz5 hz7 hz15 hz3 hz4 h8 hmr (.inl rfl)) (fun _ _ h => h)) <| Aw (Ag 1) <| Ac <| Ax (Ag 1) fun ds => AE rfl (As Db Aa AO (BW hr hv hok hm hsl hz5 hz7 hz15 hz3 hz4 h8 hmr (.inr rfl)) (fun _ _ h => h)) <| Aw (Ag 1) <| Ax (Ag 2) fun ds => AE rfl (As Fq Aa AO (Cv hu1 hu0) (fun _ _ h => h)) <| Al <| Ab <| Ae Aa hfw <| Ak <| Ab <| Aj fun ds => Ao (Ag 2) <| Ad rfl (DC Aa Aa rfl rfl (by omega) (by omega) rfl) <| Ao (Ag 1) <| Al <| A4 <| Ab <| Aj fun ds => Ad rfl (AJ Aa Aa rfl (by omega) (by omega)) <| Ao (Ag 1) <| Al ?_
     refine Ab ⟨_, m1 - 1, Off.eq (Bx rfl <| BI rfl <| A3), by omega, ?_⟩
     exact ⟨s + 1, by omega, Ba, BC (by show _ = Value.int .i64 ((offTo p m b s ||| lessN p m b s : Nat) : Int); unfold lessN; rw [if_neg (by rw [hfw]; simp)]), _, hFG, rfl⟩
    refine AD (Ag 1) <| Ac <| Ae Aa (by first | rfl | exact dF (by omega)) ?_
    obtain rfl : s = M := by omega
    refine AG ?_
    refine A2 <| A2 <| A8 <| Ab <| AD (Ag 2) <| Au <| Am rfl Bi ?_
    show Value.int .i64 _ = Value.int .i64 _
    unfold offP; rw [if_neg (fun h => h hle), hM, Int.toNat_natCast]
   have hc1 : (if b.chain ≠ 0 ∧ b.chain ≠ chainP p m then 1 else 0 : Nat) = 1 := if_pos ⟨h1, h2⟩
   refine Ah Aa (dT h2) <| Aj fun ds => Ao (Ag 1) <| Ad rfl (DC Aa Aa (m := 0) (k := 1) rfl rfl (by decide) (by decide) rfl) <| Aw (Ag 1) <| Ac <| Ax (Ag 6) fun ds => Ad rfl (Ap AM Aa (AP hz3 rfl)) <| Ao (Ag 1) <| Ad rfl (A6 (vs := [.int .i64 b.wlo, .int .i64 b.whi]) BP Aa rfl rfl (Ca hz5 (n := 2) rfl)) <| AE rfl (As FW Aa AO (Cp (by omega) (by omega)) (fun _ _ h => h)) <| Aw (Ag 1) ?_
   refine BH [6, 91, 92] (fun st σ => Fct st 6 (.int .i64 (((if b.chain ≠ 0 ∧ b.chain ≠ chainP p m then 1 else 0 : Nat) ||| (if reachB (wideP p m).1 (wideP p m).2 p.trim b.wlo b.whi = false then 2 else 0 : Nat) : Nat) : Int)) ∧ σ = ⟨F15, [(b19, bx 44 [.int .i64 (highP p m).1, .int .i64 (highP p m).2]), (b18, bx 44 [.int .i64 (wideP p m).1, .int .i64 (wideP p m).2]), (b17, bx 71 p.papers[m.ppr.toNat].enc)]⟩) ?_ ?_
   ·by_cases hr1 : reachB (wideP p m).1 (wideP p m).2 p.trim b.wlo b.whi = true
    ·refine Ae Aa (by rw [hr1]; rfl) <| Ak ?_
     refine Ab ⟨_, Off.eq (AT), ?_⟩
     exact ⟨BC (by rw [hc1, if_neg (by rw [hr1]; simp)]; rfl), rfl⟩
    replace hr1 : reachB (wideP p m).1 (wideP p m).2 p.trim b.wlo b.whi = false := by simpa using hr1
    refine Ah Aa (by rw [hr1]; rfl) <| Aj fun ds => Ao (Ag 1) <| Ad rfl (DC Aa Aa (m := 0 ||| 1) (k := 2) rfl rfl (by decide) (by decide) rfl) <| Ao (Ag 1) <| Al ?_
    refine Ab ⟨_, Off.eq (BF rfl <| BQ rfl <| AT), ?_⟩
    exact ⟨BC (by rw [hc1, if_pos hr1] <;> rfl), rfl⟩
   rintro e7 _ ⟨hd6, rfl⟩
   refine Ac <| Ax (Ag 6) fun ds => Ad rfl (Ap AM Aa (AP hz3 rfl)) <| Ad rfl (BM Aa Aa rfl (by omega) (by omega)) <| Ao (Ag 1) <| Ad rfl (A6 (vs := [.int .i64 b.hlo, .int .i64 b.hhi]) BP Aa rfl rfl (Ca hz5 (n := 2) rfl)) <| AE rfl (As FW Aa AO (Cp (by omega) (by omega)) (fun _ _ h => h)) <| Aw (Ag 1) ?_
   refine BH [6, 105, 106] (fun st σ => Fct st 6 (.int .i64 (bit3 p m b : Int)) ∧ σ = ⟨F15, [(b19, bx 44 [.int .i64 (highP p m).1, .int .i64 (highP p m).2]), (b18, bx 44 [.int .i64 (wideP p m).1, .int .i64 (wideP p m).2]), (b17, bx 71 p.papers[m.ppr.toNat].enc)]⟩) ?_ ?_
   ·by_cases hr2 : reachB (highP p m).1 (highP p m).2 (2 * p.trim) b.hlo b.hhi = true
    ·refine Ae Aa (by rw [hr2]; rfl) <| Ak ?_
     refine Ab ⟨_, Off.eq (AT), ?_⟩
     exact ⟨BC (by unfold bit3; rw [if_neg (c := reachB (highP p m).1 (highP p m).2 (2 * p.trim) b.hlo b.hhi = false) (by rw [hr2]; simp), Nat.or_zero]), rfl⟩
    replace hr2 : reachB (highP p m).1 (highP p m).2 (2 * p.trim) b.hlo b.hhi = false := by simpa using hr2
    refine Ah Aa (by rw [hr2]; rfl) <| Aj fun ds => Ao (Ag 1) <| Ad rfl (DC Aa Aa (k := 4) rfl rfl (Nat.lt_of_lt_of_le (Nat.or_lt_two_pow (n := 2) (by split <;> omega) (by split <;> omega)) (by decide)) (by decide) rfl) <| Ao (Ag 1) <| Al ?_
    refine Ab ⟨_, Off.eq (BF rfl <| BQ rfl <| AT), ?_⟩
    exact ⟨BC (by unfold bit3; rw [if_pos (c := reachB (highP p m).1 (highP p m).2 (2 * p.trim) b.hlo b.hhi = false) hr2]), rfl⟩
   rintro e8 _ ⟨hf6, rfl⟩
   refine Ac <| Ax (Ag 1) fun ds => Ad rfl (Ap AM Aa (AP hz4 rfl)) <| Aw (Ag 1) <| Aq ?_
   refine AH [6, 15, 16, 17, 18, 109, 110, 111, 112, 113, 114, 115, 116, 117, 118, 119, 120, 121, 122, 123, 124] (fun m2 e σ => ∃ s : Nat, m2 + s = M ∧ Fct e 109 (.int .i64 (s : Int)) ∧ Fct e 6 (.int .i64 (offTo p m b s : Int)) ∧ ∃ G, F15.le G ∧ σ = ⟨G, [(b19, bx 44 [.int .i64 (highP p m).1, .int .i64 (highP p m).2]), (b18, bx 44 [.int .i64 (wideP p m).1, .int .i64 (wideP p m).2]), (b17, bx 71 p.papers[m.ppr.toNat].enc)]⟩) (M) ?_ ?_
   · exact ⟨0, by omega, Ba, Ba, _, Heap.le_refl _, rfl⟩
   rintro m1 e _ ⟨s, hm1, hs109, hs6, G, hFG, rfl⟩; replace hr := hr.mono hFG; replace hm := hm.mono hFG; replace hsl := hsl.mono hFG; replace hz3 := hFG _ _ hz3; replace hz4 := hFG _ _ hz4; replace hz5 := hFG _ _ hz5; replace hz7 := hFG _ _ hz7
   by_cases hlt : s < M
   ·have hul := fun (z : Int) => CF (p := p) (m := m) (b := b) (s := (s : Int)) (half := z) b.marks.length h8
    have hu0 : untrueN p m b s 0 < 2048 := hul 0
    have hu1 : untrueN p m b s 1 < 2048 := hul 1
    have hot := Eh (p := p) (m := m) (b := b) h8 s
    refine AD (Ag 1) <| Ac <| Ah Aa (by first | rfl | exact dT (by omega)) <| Ak <| Ab <| Ac <| Aq <| Ax (Ag 1) fun ds => A5 rfl <| AF B3 rfl fun b29 hb29 nb29 => AZ <| AW Dr Aa Aa (i := 0) rfl (.here) rfl (.here) <| Al <| Ab <| Ac <| AN (i := 0) rfl hb29 (.here) fun F30 hF31 hz15 => ?_
    replace hr := hr.mono hF31
    replace hm := hm.mono hF31
    replace hsl := hsl.mono hF31
    replace hFG := Heap.le_trans hFG hF31
    replace hz3 := hF31 _ _ hz3
    replace hz4 := hF31 _ _ hz4
    replace hz5 := hF31 _ _ hz5
    replace hz7 := hF31 _ _ hz7
    by_cases hfw : fewF (untrueN p m b s 1) (untrueN p m b s 0) = true
    ·refine Aj fun ds => Ad rfl (Bm AO) <| Aw (Ag 1) <| Ax (Ag 1) fun ds => AE rfl (As Db Aa AO (BW hr hv hok hm hsl hz5 hz7 hz15 hz3 hz4 h8 hmr (.inl rfl)) (fun _ _ h => h)) <| Aw (Ag 1) <| Ac <| Ax (Ag 1) fun ds => AE rfl (As Db Aa AO (BW hr hv hok hm hsl hz5 hz7 hz15 hz3 hz4 h8 hmr (.inr rfl)) (fun _ _ h => h)) <| Aw (Ag 1) <| Ax (Ag 2) fun ds => AE rfl (As Fq Aa AO (Cv hu1 hu0) (fun _ _ h => h)) <| Al <| Ab <| Ah Aa hfw <| Aj fun ds => Aw (Ag 2) <| Aj fun ds => Ao (Ag 2) <| Ad rfl (DC Aa Aa rfl rfl (by omega) (by omega) rfl) <| Ao (Ag 1) <| Al <| A4 <| Ab <| Aj fun ds => Ad rfl (AJ Aa Aa rfl (by omega) (by omega)) <| Ao (Ag 1) <| Al ?_
     refine Ab ⟨_, m1 - 1, Off.eq (Bx rfl <| BI rfl <| BF rfl <| A3), by omega, ?_⟩
     exact ⟨s + 1, by omega, Ba, BC (by show _ = Value.int .i64 ((offTo p m b s ||| lessN p m b s : Nat) : Int); unfold lessN; rw [if_pos hfw]), _, hFG, rfl⟩
    replace hfw : fewF (untrueN p m b s 1) (untrueN p m b s 0) = false := by simpa using hfw
    refine Aj fun ds => Ad rfl (Bm AO) <| Aw (Ag 1) <| Ax (Ag 1) fun ds => AE rfl (As Db Aa AO (BW hr hv hok hm hsl hz5 hz7 hz15 hz3 hz4 h8 hmr (.inl rfl)) (fun _ _ h => h)) <| Aw (Ag 1) <| Ac <| Ax (Ag 1) fun ds => AE rfl (As Db Aa AO (BW hr hv hok hm hsl hz5 hz7 hz15 hz3 hz4 h8 hmr (.inr rfl)) (fun _ _ h => h)) <| Aw (Ag 1) <| Ax (Ag 2) fun ds => AE rfl (As Fq Aa AO (Cv hu1 hu0) (fun _ _ h => h)) <| Al <| Ab <| Ae Aa hfw <| Ak <| Ab <| Aj fun ds => Ao (Ag 2) <| Ad rfl (DC Aa Aa rfl rfl (by omega) (by omega) rfl) <| Ao (Ag 1) <| Al <| A4 <| Ab <| Aj fun ds => Ad rfl (AJ Aa Aa rfl (by omega) (by omega)) <| Ao (Ag 1) <| Al ?_
    refine Ab ⟨_, m1 - 1, Off.eq (Bx rfl <| BI rfl <| A3), by omega, ?_⟩
    exact ⟨s + 1, by omega, Ba, BC (by show _ = Value.int .i64 ((offTo p m b s ||| lessN p m b s : Nat) : Int); unfold lessN; rw [if_neg (by rw [hfw]; simp)]), _, hFG, rfl⟩
   refine AD (Ag 1) <| Ac <| Ae Aa (by first | rfl | exact dF (by omega)) ?_
   obtain rfl : s = M := by omega
   refine AG ?_
   refine A2 <| A2 <| A8 <| Ab <| AD (Ag 2) <| Au <| Am rfl Bi ?_
   show Value.int .i64 _ = Value.int .i64 _
   unfold offP; rw [if_neg (fun h => h hle), hM, Int.toNat_natCast]
  refine By rfl rfl (AF JD rfl fun b32 hb32 nb32 => ⟨fun _ _ => (fun _ h => h.drop (kD <| .refl _)), ?_⟩)
  refine Bl 2 rfl (by kernel_rfl) rfl (AI (As LM Aa AO (DU hr hfi) (fun _ _ h => h)) ⟨fun _ _ => (fun _ h => h.drop (kD <| .refl _)), ?_⟩)
  refine Af 11 rfl (by kernel_rfl) (by kernel_rfl) (by kernel_rfl) (by kernel_rfl) rfl rfl (fun _ h => h.drop (kD <| .refl _)) (fun _ _ _ h => h) (AL Aa) ?_
  refine Bt 12 rfl (by kernel_rfl) (AC Mn Aa Aa (i := 0) rfl rfl rfl rfl Ppr.enc_one (.here) ⟨(fun h => nomatch h), ?_⟩)
  refine AY (by kernel_rfl) ?_ _
  refine Ab <| Ax (Ag 1) fun ds => AE rfl (As MR Aa AO (Fm hfm.2.1.2 hfm.2.2) (fun _ _ h => h.trans (show _ = Value.tuple #[.int .i64 (colN p m : Int), .int .i64 (rowN p m : Int)] from rfl))) <| Aw (Ag 5) <| Ac ?_
  have hleS := hle0
  refine Bf (.inl rfl) (fun _ _ h => h) (kK <| .refl _) [12] (by kernel_rfl) fun ds => Af 0 rfl (by kernel_rfl) (by kernel_rfl) (by kernel_rfl) (by kernel_rfl) rfl rfl (fun _ h => h.drop (kK <| .refl _)) (fun _ _ _ h => h) (Az HL Aa) <| Af 1 rfl (by kernel_rfl) (by kernel_rfl) (by kernel_rfl) (by kernel_rfl) rfl rfl (fun _ h => h.drop (kK <| .refl _)) (fun _ _ _ h => h) (Az EU Aa) <| Af 2 rfl (by kernel_rfl) (by kernel_rfl) (by kernel_rfl) (by kernel_rfl) rfl rfl (fun _ h => h.drop (kK <| .refl _)) (fun _ _ _ h => h) (Ap AM Aa (Cell.own 0 rfl rfl)) <| Af 3 rfl (by kernel_rfl) (by kernel_rfl) (by kernel_rfl) (by kernel_rfl) rfl rfl (fun _ h => h.drop (kK <| .refl _)) (fun _ _ _ h => h) (A0 Aa) <| Af 4 rfl (by kernel_rfl) (by kernel_rfl) (by kernel_rfl) (by kernel_rfl) rfl rfl (fun _ h => h.drop (kK <| .refl _)) (fun _ _ _ h => h) (CE Aa Aa (by omega) (by omega) (by omega)) <| Af 5 rfl (by kernel_rfl) (by kernel_rfl) (by kernel_rfl) (by kernel_rfl) rfl rfl (fun _ h => h.drop (kK <| .refl _)) (fun _ _ _ h => h) (Az HL Aa) <| Af 6 rfl (by kernel_rfl) (by kernel_rfl) (by kernel_rfl) (by kernel_rfl) rfl rfl (fun _ h => h.drop (kK <| .refl _)) (fun _ _ _ h => h) (Az ET Aa) <| Af 7 rfl (by kernel_rfl) (by kernel_rfl) (by kernel_rfl) (by kernel_rfl) rfl rfl (fun _ h => h.drop (kK <| .refl _)) (fun _ _ _ h => h) (Ap AM Aa (Cell.own 0 rfl rfl)) ?_
  refine Af 8 rfl (by kernel_rfl) (by kernel_rfl) (by kernel_rfl) (by kernel_rfl) rfl rfl (fun _ h => h.drop (kK <| .refl _)) (fun _ _ _ h => h) (A0 Aa) <| Af 9 rfl (by kernel_rfl) (by kernel_rfl) (by kernel_rfl) (by kernel_rfl) rfl rfl (fun _ h => h.drop (kK <| .refl _)) (fun _ _ _ h => h) (CE Aa Aa (by omega) (by omega) (by omega)) <| Af 10 rfl (by kernel_rfl) (by kernel_rfl) (by kernel_rfl) (by kernel_rfl) rfl rfl (fun _ h => h.drop (kK <| .refl _)) (fun _ _ _ h => h) (Bg MO (.cons Aa rfl (.cons Aa rfl .nil)) (.cons rfl rfl (Nat.le_of_ble_eq_true rfl) (.cons (.here) .nil) (.cons rfl rfl (Nat.le_of_ble_eq_true rfl) (.cons (.next <| .here) .nil) .nil))) ?_
  refine Bl 11 rfl (by kernel_rfl) rfl (AF GS rfl fun b33 hb33 nb33 => ⟨fun _ _ => (fun _ h => h.drop (kD <| kK <| .refl _)), ?_⟩)
  refine Bt 12 rfl (by kernel_rfl) (AC Gc Aa Aa (i := 0) rfl rfl rfl rfl (by simp [Value.oneCell']) (.here) ⟨(fun h => nomatch h), ?_⟩)
  refine AY (by kernel_rfl) ?_ _
  refine Ab <| Ac ?_
  have hleS := hle0
  refine Bf (.inl rfl) (fun _ _ h => h) (kK <| kK <| .refl _) [12] (by kernel_rfl) fun ds => Af 0 rfl (by kernel_rfl) (by kernel_rfl) (by kernel_rfl) (by kernel_rfl) rfl rfl (fun _ h => h.drop (kK <| kK <| .refl _)) (fun _ _ _ h => h) (Az HK Aa) <| Af 1 rfl (by kernel_rfl) (by kernel_rfl) (by kernel_rfl) (by kernel_rfl) rfl rfl (fun _ h => h.drop (kK <| kK <| .refl _)) (fun _ _ _ h => h) (Az EU Aa) <| Af 2 rfl (by kernel_rfl) (by kernel_rfl) (by kernel_rfl) (by kernel_rfl) rfl rfl (fun _ h => h.drop (kK <| kK <| .refl _)) (fun _ _ _ h => h) (Ap AM Aa (Cell.own 1 rfl rfl)) <| Af 3 rfl (by kernel_rfl) (by kernel_rfl) (by kernel_rfl) (by kernel_rfl) rfl rfl (fun _ h => h.drop (kK <| kK <| .refl _)) (fun _ _ _ h => h) (A0 Aa) <| Af 4 rfl (by kernel_rfl) (by kernel_rfl) (by kernel_rfl) (by kernel_rfl) rfl rfl (fun _ h => h.drop (kK <| kK <| .refl _)) (fun _ _ _ h => h) (CE Aa Aa (by omega) (by omega) (by omega)) <| Af 5 rfl (by kernel_rfl) (by kernel_rfl) (by kernel_rfl) (by kernel_rfl) rfl rfl (fun _ h => h.drop (kK <| kK <| .refl _)) (fun _ _ _ h => h) (Az HK Aa) <| Af 6 rfl (by kernel_rfl) (by kernel_rfl) (by kernel_rfl) (by kernel_rfl) rfl rfl (fun _ h => h.drop (kK <| kK <| .refl _)) (fun _ _ _ h => h) (Az ET Aa) ?_
  refine Af 7 rfl (by kernel_rfl) (by kernel_rfl) (by kernel_rfl) (by kernel_rfl) rfl rfl (fun _ h => h.drop (kK <| kK <| .refl _)) (fun _ _ _ h => h) (Ap AM Aa (Cell.own 1 rfl rfl)) <| Af 8 rfl (by kernel_rfl) (by kernel_rfl) (by kernel_rfl) (by kernel_rfl) rfl rfl (fun _ h => h.drop (kK <| kK <| .refl _)) (fun _ _ _ h => h) (A0 Aa) <| Af 9 rfl (by kernel_rfl) (by kernel_rfl) (by kernel_rfl) (by kernel_rfl) rfl rfl (fun _ h => h.drop (kK <| kK <| .refl _)) (fun _ _ _ h => h) (CE Aa Aa (by omega) (by omega) (by omega)) <| Af 10 rfl (by kernel_rfl) (by kernel_rfl) (by kernel_rfl) (by kernel_rfl) rfl rfl (fun _ h => h.drop (kK <| kK <| .refl _)) (fun _ _ _ h => h) (Bg MO (.cons Aa rfl (.cons Aa rfl .nil)) (.cons rfl rfl (Nat.le_of_ble_eq_true rfl) (.cons (.here) .nil) (.cons rfl rfl (Nat.le_of_ble_eq_true rfl) (.cons (.next <| .here) .nil) .nil))) ?_
  refine Bl 11 rfl (by kernel_rfl) rfl (AF GS rfl fun b34 hb34 nb34 => ⟨fun _ _ => (fun _ h => h.drop (kD <| kK <| kK <| .refl _)), ?_⟩)
  refine Bt 12 rfl (by kernel_rfl) (AC Gc Aa Aa (i := 0) rfl rfl rfl rfl (by simp [Value.oneCell']) (.here) ⟨(fun h => nomatch h), ?_⟩)
  refine AY (by kernel_rfl) ?_ _
  refine Ab <| AD (Ag 1) <| Ac <| Ax (Ag 1) fun ds => AE rfl (As bd_89 Aa AO (KD hfm.2.1.1 hfm.2.1.2) (fun _ _ h => h.trans (show _ = Value.bool (upB (p.fold m)) from rfl))) <| Aw (Ag 1) ?_
  refine BH [14, 67, 68] (fun st σ => Fct st 14 (.int .i64 (chainP p m)) ∧ σ = ⟨F15, [(b34, bx 44 [.int .i64 (highP p m).1, .int .i64 (highP p m).2]), (b33, bx 44 [.int .i64 (wideP p m).1, .int .i64 (wideP p m).2]), (b32, bx 71 p.papers[m.ppr.toNat].enc)]⟩) ?_ ?_
  ·by_cases hu : upB (p.fold m) = true
   ·refine Ae Aa (by rw [hu]; rfl) <| Ak ?_
    refine Ab ⟨_, Off.eq (AT), ?_⟩
    exact ⟨BC (by unfold chainP; rw [if_pos hu]), by unfold wideP highP; rw [if_pos hu, if_pos hu, ← hpe]⟩
   replace hu : upB (p.fold m) = false := by simpa using hu
   refine Ah Aa (by rw [hu]; rfl) <| Aj fun ds => Ao (Ag 2) <| AZ <| AC Gc Aa Aa (i := 1) rfl rfl rfl rfl (by simp [Value.oneCell']) (.next <| .here) <| AZ <| AC Gc Aa Aa (i := 0) rfl rfl rfl rfl (by simp [Value.oneCell']) (.here) <| Ao (Ag 1) <| Al ?_
   refine Ab ⟨_, Off.eq (BF rfl <| BQ rfl <| AT), ?_⟩
   exact ⟨BC (by unfold chainP; rw [if_neg (by rw [hu]; simp)]), by unfold wideP highP; rw [if_neg (by rw [hu]; simp), if_neg (by rw [hu]; simp), ← hpe]⟩
  rintro e14 _ ⟨hc14, rfl⟩
  refine Ac <| Ac ?_
  by_cases h1 : b.chain = 0
  ·have hc1 : (if b.chain ≠ 0 ∧ b.chain ≠ chainP p m then 1 else 0 : Nat) = 0 := if_neg (fun h => h.1 h1)
   refine Aj fun ds => Ao (Ag 1) <| Ad rfl (Ap AM Aa (AP hz5 rfl)) <| Ao (Ag 2) <| Ar rfl rfl Aa (.inl (congrArg Value.bool (dF (fun h => h h1)))) rfl <| Ar rfl rfl Aa (.inl (congrArg Value.bool (dF (fun h => h h1)))) rfl <| Ar rfl rfl Aa (.inl (congrArg Value.bool (dF (fun h => h h1)))) rfl <| Ar rfl rfl Aa (.inl (congrArg Value.bool (dF (fun h => h h1)))) rfl <| Ad rfl (A9 Aa (dF (fun h => h h1)) Aa) <| Al <| Ab <| Ae Aa rfl <| Ak <| Ab <| Ac <| Ax (Ag 6) fun ds => Ad rfl (Ap AM Aa (AP hz3 rfl)) <| Ao (Ag 1) <| Ad rfl (A6 (vs := [.int .i64 b.wlo, .int .i64 b.whi]) BP Aa rfl rfl (Ca hz5 (n := 2) rfl)) <| AE rfl (As FW Aa AO (Cp (by omega) (by omega)) (fun _ _ h => h)) <| Aw (Ag 1) ?_
   refine BH [6, 91, 92] (fun st σ => Fct st 6 (.int .i64 (((if b.chain ≠ 0 ∧ b.chain ≠ chainP p m then 1 else 0 : Nat) ||| (if reachB (wideP p m).1 (wideP p m).2 p.trim b.wlo b.whi = false then 2 else 0 : Nat) : Nat) : Int)) ∧ σ = ⟨F15, [(b34, bx 44 [.int .i64 (highP p m).1, .int .i64 (highP p m).2]), (b33, bx 44 [.int .i64 (wideP p m).1, .int .i64 (wideP p m).2]), (b32, bx 71 p.papers[m.ppr.toNat].enc)]⟩) ?_ ?_
   ·by_cases hr1 : reachB (wideP p m).1 (wideP p m).2 p.trim b.wlo b.whi = true
    ·refine Ae Aa (by rw [hr1]; rfl) <| Ak ?_
     refine Ab ⟨_, Off.eq (AT), ?_⟩
     exact ⟨BC (by rw [hc1, if_neg (by rw [hr1]; simp)]; rfl), rfl⟩
    replace hr1 : reachB (wideP p m).1 (wideP p m).2 p.trim b.wlo b.whi = false := by simpa using hr1
    refine Ah Aa (by rw [hr1]; rfl) <| Aj fun ds => Ao (Ag 1) <| Ad rfl (DC Aa Aa (m := 0) (k := 2) rfl rfl (by decide) (by decide) rfl) <| Ao (Ag 1) <| Al ?_
    refine Ab ⟨_, Off.eq (BF rfl <| BQ rfl <| AT), ?_⟩
    exact ⟨BC (by rw [hc1, if_pos hr1] <;> rfl), rfl⟩
   rintro e7 _ ⟨hd6, rfl⟩
   refine Ac <| Ax (Ag 6) fun ds => Ad rfl (Ap AM Aa (AP hz3 rfl)) <| Ad rfl (BM Aa Aa rfl (by omega) (by omega)) <| Ao (Ag 1) <| Ad rfl (A6 (vs := [.int .i64 b.hlo, .int .i64 b.hhi]) BP Aa rfl rfl (Ca hz5 (n := 2) rfl)) <| AE rfl (As FW Aa AO (Cp (by omega) (by omega)) (fun _ _ h => h)) <| Aw (Ag 1) ?_
   refine BH [6, 105, 106] (fun st σ => Fct st 6 (.int .i64 (bit3 p m b : Int)) ∧ σ = ⟨F15, [(b34, bx 44 [.int .i64 (highP p m).1, .int .i64 (highP p m).2]), (b33, bx 44 [.int .i64 (wideP p m).1, .int .i64 (wideP p m).2]), (b32, bx 71 p.papers[m.ppr.toNat].enc)]⟩) ?_ ?_
   ·by_cases hr2 : reachB (highP p m).1 (highP p m).2 (2 * p.trim) b.hlo b.hhi = true
    ·refine Ae Aa (by rw [hr2]; rfl) <| Ak ?_
     refine Ab ⟨_, Off.eq (AT), ?_⟩
     exact ⟨BC (by unfold bit3; rw [if_neg (c := reachB (highP p m).1 (highP p m).2 (2 * p.trim) b.hlo b.hhi = false) (by rw [hr2]; simp), Nat.or_zero]), rfl⟩
    replace hr2 : reachB (highP p m).1 (highP p m).2 (2 * p.trim) b.hlo b.hhi = false := by simpa using hr2
    refine Ah Aa (by rw [hr2]; rfl) <| Aj fun ds => Ao (Ag 1) <| Ad rfl (DC Aa Aa (k := 4) rfl rfl (Nat.lt_of_lt_of_le (Nat.or_lt_two_pow (n := 2) (by split <;> omega) (by split <;> omega)) (by decide)) (by decide) rfl) <| Ao (Ag 1) <| Al ?_
    refine Ab ⟨_, Off.eq (BF rfl <| BQ rfl <| AT), ?_⟩
    exact ⟨BC (by unfold bit3; rw [if_pos (c := reachB (highP p m).1 (highP p m).2 (2 * p.trim) b.hlo b.hhi = false) hr2]), rfl⟩
   rintro e8 _ ⟨hf6, rfl⟩
   refine Ac <| Ax (Ag 1) fun ds => Ad rfl (Ap AM Aa (AP hz4 rfl)) <| Aw (Ag 1) <| Aq ?_
   refine AH [6, 15, 16, 17, 18, 109, 110, 111, 112, 113, 114, 115, 116, 117, 118, 119, 120, 121, 122, 123, 124] (fun m2 e σ => ∃ s : Nat, m2 + s = M ∧ Fct e 109 (.int .i64 (s : Int)) ∧ Fct e 6 (.int .i64 (offTo p m b s : Int)) ∧ ∃ G, F15.le G ∧ σ = ⟨G, [(b34, bx 44 [.int .i64 (highP p m).1, .int .i64 (highP p m).2]), (b33, bx 44 [.int .i64 (wideP p m).1, .int .i64 (wideP p m).2]), (b32, bx 71 p.papers[m.ppr.toNat].enc)]⟩) (M) ?_ ?_
   · exact ⟨0, by omega, Ba, Ba, _, Heap.le_refl _, rfl⟩
   rintro m1 e _ ⟨s, hm1, hs109, hs6, G, hFG, rfl⟩; replace hr := hr.mono hFG; replace hm := hm.mono hFG; replace hsl := hsl.mono hFG; replace hz3 := hFG _ _ hz3; replace hz4 := hFG _ _ hz4; replace hz5 := hFG _ _ hz5; replace hz7 := hFG _ _ hz7
   by_cases hlt : s < M
   ·have hul := fun (z : Int) => CF (p := p) (m := m) (b := b) (s := (s : Int)) (half := z) b.marks.length h8
    have hu0 : untrueN p m b s 0 < 2048 := hul 0
    have hu1 : untrueN p m b s 1 < 2048 := hul 1
    have hot := Eh (p := p) (m := m) (b := b) h8 s
    refine AD (Ag 1) <| Ac <| Ah Aa (by first | rfl | exact dT (by omega)) <| Ak <| Ab <| Ac <| Aq <| Ax (Ag 1) fun ds => A5 rfl <| AF B3 rfl fun b36 hb36 nb36 => AZ <| AW Dr Aa Aa (i := 0) rfl (.here) rfl (.here) <| Al <| Ab <| Ac <| AN (i := 0) rfl hb36 (.here) fun F37 hF38 hz15 => ?_
    replace hr := hr.mono hF38
    replace hm := hm.mono hF38
    replace hsl := hsl.mono hF38
    replace hFG := Heap.le_trans hFG hF38
    replace hz3 := hF38 _ _ hz3
    replace hz4 := hF38 _ _ hz4
    replace hz5 := hF38 _ _ hz5
    replace hz7 := hF38 _ _ hz7
    by_cases hfw : fewF (untrueN p m b s 1) (untrueN p m b s 0) = true
    ·refine Aj fun ds => Ad rfl (Bm AO) <| Aw (Ag 1) <| Ax (Ag 1) fun ds => AE rfl (As Db Aa AO (BW hr hv hok hm hsl hz5 hz7 hz15 hz3 hz4 h8 hmr (.inl rfl)) (fun _ _ h => h)) <| Aw (Ag 1) <| Ac <| Ax (Ag 1) fun ds => AE rfl (As Db Aa AO (BW hr hv hok hm hsl hz5 hz7 hz15 hz3 hz4 h8 hmr (.inr rfl)) (fun _ _ h => h)) <| Aw (Ag 1) <| Ax (Ag 2) fun ds => AE rfl (As Fq Aa AO (Cv hu1 hu0) (fun _ _ h => h)) <| Al <| Ab <| Ah Aa hfw <| Aj fun ds => Aw (Ag 2) <| Aj fun ds => Ao (Ag 2) <| Ad rfl (DC Aa Aa rfl rfl (by omega) (by omega) rfl) <| Ao (Ag 1) <| Al <| A4 <| Ab <| Aj fun ds => Ad rfl (AJ Aa Aa rfl (by omega) (by omega)) <| Ao (Ag 1) <| Al ?_
     refine Ab ⟨_, m1 - 1, Off.eq (Bx rfl <| BI rfl <| BF rfl <| A3), by omega, ?_⟩
     exact ⟨s + 1, by omega, Ba, BC (by show _ = Value.int .i64 ((offTo p m b s ||| lessN p m b s : Nat) : Int); unfold lessN; rw [if_pos hfw]), _, hFG, rfl⟩
    replace hfw : fewF (untrueN p m b s 1) (untrueN p m b s 0) = false := by simpa using hfw
    refine Aj fun ds => Ad rfl (Bm AO) <| Aw (Ag 1) <| Ax (Ag 1) fun ds => AE rfl (As Db Aa AO (BW hr hv hok hm hsl hz5 hz7 hz15 hz3 hz4 h8 hmr (.inl rfl)) (fun _ _ h => h)) <| Aw (Ag 1) <| Ac <| Ax (Ag 1) fun ds => AE rfl (As Db Aa AO (BW hr hv hok hm hsl hz5 hz7 hz15 hz3 hz4 h8 hmr (.inr rfl)) (fun _ _ h => h)) <| Aw (Ag 1) <| Ax (Ag 2) fun ds => AE rfl (As Fq Aa AO (Cv hu1 hu0) (fun _ _ h => h)) <| Al <| Ab <| Ae Aa hfw <| Ak <| Ab <| Aj fun ds => Ao (Ag 2) <| Ad rfl (DC Aa Aa rfl rfl (by omega) (by omega) rfl) <| Ao (Ag 1) <| Al <| A4 <| Ab <| Aj fun ds => Ad rfl (AJ Aa Aa rfl (by omega) (by omega)) <| Ao (Ag 1) <| Al ?_
    refine Ab ⟨_, m1 - 1, Off.eq (Bx rfl <| BI rfl <| A3), by omega, ?_⟩
    exact ⟨s + 1, by omega, Ba, BC (by show _ = Value.int .i64 ((offTo p m b s ||| lessN p m b s : Nat) : Int); unfold lessN; rw [if_neg (by rw [hfw]; simp)]), _, hFG, rfl⟩
   refine AD (Ag 1) <| Ac <| Ae Aa (by first | rfl | exact dF (by omega)) ?_
   obtain rfl : s = M := by omega
   refine AG ?_
   refine A2 <| A2 <| A8 <| Ab <| AD (Ag 2) <| Au <| Am rfl Bi ?_
   show Value.int .i64 _ = Value.int .i64 _
   unfold offP; rw [if_neg (fun h => h hle), hM, Int.toNat_natCast]
  refine Aj fun ds => Ao (Ag 1) <| Ad rfl (Ap AM Aa (AP hz5 rfl)) <| Ao (Ag 2) <| Ai rfl rfl Aa (dT h1) <| Ao (Ag 1) <| Ai rfl rfl Aa (dT h1) <| Ad rfl (Ap AM Aa (AP hz5 rfl)) <| Ai rfl rfl Aa (dT h1) <| Ao (Ag 1) <| Ai rfl rfl Aa (dT h1) <| Ao (Ag 1) <| Ad rfl (At Aa (dT h1) Aa) <| Al <| Ab ?_
  by_cases h2 : b.chain = chainP p m
  ·have hc1 : (if b.chain ≠ 0 ∧ b.chain ≠ chainP p m then 1 else 0 : Nat) = 0 := if_neg (fun h => h.2 h2)
   refine Ae Aa (dF (fun h => h h2)) <| Ak <| Ab <| Ac <| Ax (Ag 6) fun ds => Ad rfl (Ap AM Aa (AP hz3 rfl)) <| Ao (Ag 1) <| Ad rfl (A6 (vs := [.int .i64 b.wlo, .int .i64 b.whi]) BP Aa rfl rfl (Ca hz5 (n := 2) rfl)) <| AE rfl (As FW Aa AO (Cp (by omega) (by omega)) (fun _ _ h => h)) <| Aw (Ag 1) ?_
   refine BH [6, 91, 92] (fun st σ => Fct st 6 (.int .i64 (((if b.chain ≠ 0 ∧ b.chain ≠ chainP p m then 1 else 0 : Nat) ||| (if reachB (wideP p m).1 (wideP p m).2 p.trim b.wlo b.whi = false then 2 else 0 : Nat) : Nat) : Int)) ∧ σ = ⟨F15, [(b34, bx 44 [.int .i64 (highP p m).1, .int .i64 (highP p m).2]), (b33, bx 44 [.int .i64 (wideP p m).1, .int .i64 (wideP p m).2]), (b32, bx 71 p.papers[m.ppr.toNat].enc)]⟩) ?_ ?_
   ·by_cases hr1 : reachB (wideP p m).1 (wideP p m).2 p.trim b.wlo b.whi = true
    ·refine Ae Aa (by rw [hr1]; rfl) <| Ak ?_
     refine Ab ⟨_, Off.eq (AT), ?_⟩
     exact ⟨BC (by rw [hc1, if_neg (by rw [hr1]; simp)]; rfl), rfl⟩
    replace hr1 : reachB (wideP p m).1 (wideP p m).2 p.trim b.wlo b.whi = false := by simpa using hr1
    refine Ah Aa (by rw [hr1]; rfl) <| Aj fun ds => Ao (Ag 1) <| Ad rfl (DC Aa Aa (m := 0) (k := 2) rfl rfl (by decide) (by decide) rfl) <| Ao (Ag 1) <| Al ?_
    refine Ab ⟨_, Off.eq (BF rfl <| BQ rfl <| AT), ?_⟩
    exact ⟨BC (by rw [hc1, if_pos hr1] <;> rfl), rfl⟩
   rintro e7 _ ⟨hd6, rfl⟩
   refine Ac <| Ax (Ag 6) fun ds => Ad rfl (Ap AM Aa (AP hz3 rfl)) <| Ad rfl (BM Aa Aa rfl (by omega) (by omega)) <| Ao (Ag 1) <| Ad rfl (A6 (vs := [.int .i64 b.hlo, .int .i64 b.hhi]) BP Aa rfl rfl (Ca hz5 (n := 2) rfl)) <| AE rfl (As FW Aa AO (Cp (by omega) (by omega)) (fun _ _ h => h)) <| Aw (Ag 1) ?_
   refine BH [6, 105, 106] (fun st σ => Fct st 6 (.int .i64 (bit3 p m b : Int)) ∧ σ = ⟨F15, [(b34, bx 44 [.int .i64 (highP p m).1, .int .i64 (highP p m).2]), (b33, bx 44 [.int .i64 (wideP p m).1, .int .i64 (wideP p m).2]), (b32, bx 71 p.papers[m.ppr.toNat].enc)]⟩) ?_ ?_
   ·by_cases hr2 : reachB (highP p m).1 (highP p m).2 (2 * p.trim) b.hlo b.hhi = true
    ·refine Ae Aa (by rw [hr2]; rfl) <| Ak ?_
     refine Ab ⟨_, Off.eq (AT), ?_⟩
     exact ⟨BC (by unfold bit3; rw [if_neg (c := reachB (highP p m).1 (highP p m).2 (2 * p.trim) b.hlo b.hhi = false) (by rw [hr2]; simp), Nat.or_zero]), rfl⟩
    replace hr2 : reachB (highP p m).1 (highP p m).2 (2 * p.trim) b.hlo b.hhi = false := by simpa using hr2
    refine Ah Aa (by rw [hr2]; rfl) <| Aj fun ds => Ao (Ag 1) <| Ad rfl (DC Aa Aa (k := 4) rfl rfl (Nat.lt_of_lt_of_le (Nat.or_lt_two_pow (n := 2) (by split <;> omega) (by split <;> omega)) (by decide)) (by decide) rfl) <| Ao (Ag 1) <| Al ?_
    refine Ab ⟨_, Off.eq (BF rfl <| BQ rfl <| AT), ?_⟩
    exact ⟨BC (by unfold bit3; rw [if_pos (c := reachB (highP p m).1 (highP p m).2 (2 * p.trim) b.hlo b.hhi = false) hr2]), rfl⟩
   rintro e8 _ ⟨hf6, rfl⟩
   refine Ac <| Ax (Ag 1) fun ds => Ad rfl (Ap AM Aa (AP hz4 rfl)) <| Aw (Ag 1) <| Aq ?_
   refine AH [6, 15, 16, 17, 18, 109, 110, 111, 112, 113, 114, 115, 116, 117, 118, 119, 120, 121, 122, 123, 124] (fun m2 e σ => ∃ s : Nat, m2 + s = M ∧ Fct e 109 (.int .i64 (s : Int)) ∧ Fct e 6 (.int .i64 (offTo p m b s : Int)) ∧ ∃ G, F15.le G ∧ σ = ⟨G, [(b34, bx 44 [.int .i64 (highP p m).1, .int .i64 (highP p m).2]), (b33, bx 44 [.int .i64 (wideP p m).1, .int .i64 (wideP p m).2]), (b32, bx 71 p.papers[m.ppr.toNat].enc)]⟩) (M) ?_ ?_
   · exact ⟨0, by omega, Ba, Ba, _, Heap.le_refl _, rfl⟩
   rintro m1 e _ ⟨s, hm1, hs109, hs6, G, hFG, rfl⟩; replace hr := hr.mono hFG; replace hm := hm.mono hFG; replace hsl := hsl.mono hFG; replace hz3 := hFG _ _ hz3; replace hz4 := hFG _ _ hz4; replace hz5 := hFG _ _ hz5; replace hz7 := hFG _ _ hz7
   by_cases hlt : s < M
   ·have hul := fun (z : Int) => CF (p := p) (m := m) (b := b) (s := (s : Int)) (half := z) b.marks.length h8
    have hu0 : untrueN p m b s 0 < 2048 := hul 0
    have hu1 : untrueN p m b s 1 < 2048 := hul 1
    have hot := Eh (p := p) (m := m) (b := b) h8 s
    refine AD (Ag 1) <| Ac <| Ah Aa (by first | rfl | exact dT (by omega)) <| Ak <| Ab <| Ac <| Aq <| Ax (Ag 1) fun ds => A5 rfl <| AF B3 rfl fun b40 hb40 nb40 => AZ <| AW Dr Aa Aa (i := 0) rfl (.here) rfl (.here) <| Al <| Ab <| Ac <| AN (i := 0) rfl hb40 (.here) fun F41 hF42 hz15 => ?_
    replace hr := hr.mono hF42
    replace hm := hm.mono hF42
    replace hsl := hsl.mono hF42
    replace hFG := Heap.le_trans hFG hF42
    replace hz3 := hF42 _ _ hz3
    replace hz4 := hF42 _ _ hz4
    replace hz5 := hF42 _ _ hz5
    replace hz7 := hF42 _ _ hz7
    by_cases hfw : fewF (untrueN p m b s 1) (untrueN p m b s 0) = true
    ·refine Aj fun ds => Ad rfl (Bm AO) <| Aw (Ag 1) <| Ax (Ag 1) fun ds => AE rfl (As Db Aa AO (BW hr hv hok hm hsl hz5 hz7 hz15 hz3 hz4 h8 hmr (.inl rfl)) (fun _ _ h => h)) <| Aw (Ag 1) <| Ac <| Ax (Ag 1) fun ds => AE rfl (As Db Aa AO (BW hr hv hok hm hsl hz5 hz7 hz15 hz3 hz4 h8 hmr (.inr rfl)) (fun _ _ h => h)) <| Aw (Ag 1) <| Ax (Ag 2) fun ds => AE rfl (As Fq Aa AO (Cv hu1 hu0) (fun _ _ h => h)) <| Al <| Ab <| Ah Aa hfw <| Aj fun ds => Aw (Ag 2) <| Aj fun ds => Ao (Ag 2) <| Ad rfl (DC Aa Aa rfl rfl (by omega) (by omega) rfl) <| Ao (Ag 1) <| Al <| A4 <| Ab <| Aj fun ds => Ad rfl (AJ Aa Aa rfl (by omega) (by omega)) <| Ao (Ag 1) <| Al ?_
     refine Ab ⟨_, m1 - 1, Off.eq (Bx rfl <| BI rfl <| BF rfl <| A3), by omega, ?_⟩
     exact ⟨s + 1, by omega, Ba, BC (by show _ = Value.int .i64 ((offTo p m b s ||| lessN p m b s : Nat) : Int); unfold lessN; rw [if_pos hfw]), _, hFG, rfl⟩
    replace hfw : fewF (untrueN p m b s 1) (untrueN p m b s 0) = false := by simpa using hfw
    refine Aj fun ds => Ad rfl (Bm AO) <| Aw (Ag 1) <| Ax (Ag 1) fun ds => AE rfl (As Db Aa AO (BW hr hv hok hm hsl hz5 hz7 hz15 hz3 hz4 h8 hmr (.inl rfl)) (fun _ _ h => h)) <| Aw (Ag 1) <| Ac <| Ax (Ag 1) fun ds => AE rfl (As Db Aa AO (BW hr hv hok hm hsl hz5 hz7 hz15 hz3 hz4 h8 hmr (.inr rfl)) (fun _ _ h => h)) <| Aw (Ag 1) <| Ax (Ag 2) fun ds => AE rfl (As Fq Aa AO (Cv hu1 hu0) (fun _ _ h => h)) <| Al <| Ab <| Ae Aa hfw <| Ak <| Ab <| Aj fun ds => Ao (Ag 2) <| Ad rfl (DC Aa Aa rfl rfl (by omega) (by omega) rfl) <| Ao (Ag 1) <| Al <| A4 <| Ab <| Aj fun ds => Ad rfl (AJ Aa Aa rfl (by omega) (by omega)) <| Ao (Ag 1) <| Al ?_
    refine Ab ⟨_, m1 - 1, Off.eq (Bx rfl <| BI rfl <| A3), by omega, ?_⟩
    exact ⟨s + 1, by omega, Ba, BC (by show _ = Value.int .i64 ((offTo p m b s ||| lessN p m b s : Nat) : Int); unfold lessN; rw [if_neg (by rw [hfw]; simp)]), _, hFG, rfl⟩
   refine AD (Ag 1) <| Ac <| Ae Aa (by first | rfl | exact dF (by omega)) ?_
   obtain rfl : s = M := by omega
   refine AG ?_
   refine A2 <| A2 <| A8 <| Ab <| AD (Ag 2) <| Au <| Am rfl Bi ?_
   show Value.int .i64 _ = Value.int .i64 _
   unfold offP; rw [if_neg (fun h => h hle), hM, Int.toNat_natCast]
  have hc1 : (if b.chain ≠ 0 ∧ b.chain ≠ chainP p m then 1 else 0 : Nat) = 1 := if_pos ⟨h1, h2⟩
  refine Ah Aa (dT h2) <| Aj fun ds => Ao (Ag 1) <| Ad rfl (DC Aa Aa (m := 0) (k := 1) rfl rfl (by decide) (by decide) rfl) <| Aw (Ag 1) <| Ac <| Ax (Ag 6) fun ds => Ad rfl (Ap AM Aa (AP hz3 rfl)) <| Ao (Ag 1) <| Ad rfl (A6 (vs := [.int .i64 b.wlo, .int .i64 b.whi]) BP Aa rfl rfl (Ca hz5 (n := 2) rfl)) <| AE rfl (As FW Aa AO (Cp (by omega) (by omega)) (fun _ _ h => h)) <| Aw (Ag 1) ?_
  refine BH [6, 91, 92] (fun st σ => Fct st 6 (.int .i64 (((if b.chain ≠ 0 ∧ b.chain ≠ chainP p m then 1 else 0 : Nat) ||| (if reachB (wideP p m).1 (wideP p m).2 p.trim b.wlo b.whi = false then 2 else 0 : Nat) : Nat) : Int)) ∧ σ = ⟨F15, [(b34, bx 44 [.int .i64 (highP p m).1, .int .i64 (highP p m).2]), (b33, bx 44 [.int .i64 (wideP p m).1, .int .i64 (wideP p m).2]), (b32, bx 71 p.papers[m.ppr.toNat].enc)]⟩) ?_ ?_
  ·by_cases hr1 : reachB (wideP p m).1 (wideP p m).2 p.trim b.wlo b.whi = true
   ·refine Ae Aa (by rw [hr1]; rfl) <| Ak ?_
    refine Ab ⟨_, Off.eq (AT), ?_⟩
    exact ⟨BC (by rw [hc1, if_neg (by rw [hr1]; simp)]; rfl), rfl⟩
   replace hr1 : reachB (wideP p m).1 (wideP p m).2 p.trim b.wlo b.whi = false := by simpa using hr1
   refine Ah Aa (by rw [hr1]; rfl) <| Aj fun ds => Ao (Ag 1) <| Ad rfl (DC Aa Aa (m := 0 ||| 1) (k := 2) rfl rfl (by decide) (by decide) rfl) <| Ao (Ag 1) <| Al ?_
   refine Ab ⟨_, Off.eq (BF rfl <| BQ rfl <| AT), ?_⟩
   exact ⟨BC (by rw [hc1, if_pos hr1] <;> rfl), rfl⟩
  rintro e7 _ ⟨hd6, rfl⟩
  refine Ac <| Ax (Ag 6) fun ds => Ad rfl (Ap AM Aa (AP hz3 rfl)) <| Ad rfl (BM Aa Aa rfl (by omega) (by omega)) <| Ao (Ag 1) <| Ad rfl (A6 (vs := [.int .i64 b.hlo, .int .i64 b.hhi]) BP Aa rfl rfl (Ca hz5 (n := 2) rfl)) <| AE rfl (As FW Aa AO (Cp (by omega) (by omega)) (fun _ _ h => h)) <| Aw (Ag 1) ?_
  refine BH [6, 105, 106] (fun st σ => Fct st 6 (.int .i64 (bit3 p m b : Int)) ∧ σ = ⟨F15, [(b34, bx 44 [.int .i64 (highP p m).1, .int .i64 (highP p m).2]), (b33, bx 44 [.int .i64 (wideP p m).1, .int .i64 (wideP p m).2]), (b32, bx 71 p.papers[m.ppr.toNat].enc)]⟩) ?_ ?_
  ·by_cases hr2 : reachB (highP p m).1 (highP p m).2 (2 * p.trim) b.hlo b.hhi = true
   ·refine Ae Aa (by rw [hr2]; rfl) <| Ak ?_
    refine Ab ⟨_, Off.eq (AT), ?_⟩
    exact ⟨BC (by unfold bit3; rw [if_neg (c := reachB (highP p m).1 (highP p m).2 (2 * p.trim) b.hlo b.hhi = false) (by rw [hr2]; simp), Nat.or_zero]), rfl⟩
   replace hr2 : reachB (highP p m).1 (highP p m).2 (2 * p.trim) b.hlo b.hhi = false := by simpa using hr2
   refine Ah Aa (by rw [hr2]; rfl) <| Aj fun ds => Ao (Ag 1) <| Ad rfl (DC Aa Aa (k := 4) rfl rfl (Nat.lt_of_lt_of_le (Nat.or_lt_two_pow (n := 2) (by split <;> omega) (by split <;> omega)) (by decide)) (by decide) rfl) <| Ao (Ag 1) <| Al ?_
   refine Ab ⟨_, Off.eq (BF rfl <| BQ rfl <| AT), ?_⟩
   exact ⟨BC (by unfold bit3; rw [if_pos (c := reachB (highP p m).1 (highP p m).2 (2 * p.trim) b.hlo b.hhi = false) hr2]), rfl⟩
  rintro e8 _ ⟨hf6, rfl⟩
  refine Ac <| Ax (Ag 1) fun ds => Ad rfl (Ap AM Aa (AP hz4 rfl)) <| Aw (Ag 1) <| Aq ?_
  refine AH [6, 15, 16, 17, 18, 109, 110, 111, 112, 113, 114, 115, 116, 117, 118, 119, 120, 121, 122, 123, 124] (fun m2 e σ => ∃ s : Nat, m2 + s = M ∧ Fct e 109 (.int .i64 (s : Int)) ∧ Fct e 6 (.int .i64 (offTo p m b s : Int)) ∧ ∃ G, F15.le G ∧ σ = ⟨G, [(b34, bx 44 [.int .i64 (highP p m).1, .int .i64 (highP p m).2]), (b33, bx 44 [.int .i64 (wideP p m).1, .int .i64 (wideP p m).2]), (b32, bx 71 p.papers[m.ppr.toNat].enc)]⟩) (M) ?_ ?_
  · exact ⟨0, by omega, Ba, Ba, _, Heap.le_refl _, rfl⟩
  rintro m1 e _ ⟨s, hm1, hs109, hs6, G, hFG, rfl⟩; replace hr := hr.mono hFG; replace hm := hm.mono hFG; replace hsl := hsl.mono hFG; replace hz3 := hFG _ _ hz3; replace hz4 := hFG _ _ hz4; replace hz5 := hFG _ _ hz5; replace hz7 := hFG _ _ hz7
  by_cases hlt : s < M
  ·have hul := fun (z : Int) => CF (p := p) (m := m) (b := b) (s := (s : Int)) (half := z) b.marks.length h8
   have hu0 : untrueN p m b s 0 < 2048 := hul 0
   have hu1 : untrueN p m b s 1 < 2048 := hul 1
   have hot := Eh (p := p) (m := m) (b := b) h8 s
   refine AD (Ag 1) <| Ac <| Ah Aa (by first | rfl | exact dT (by omega)) <| Ak <| Ab <| Ac <| Aq <| Ax (Ag 1) fun ds => A5 rfl <| AF B3 rfl fun b44 hb44 nb44 => AZ <| AW Dr Aa Aa (i := 0) rfl (.here) rfl (.here) <| Al <| Ab <| Ac <| AN (i := 0) rfl hb44 (.here) fun F45 hF46 hz15 => ?_
   replace hr := hr.mono hF46
   replace hm := hm.mono hF46
   replace hsl := hsl.mono hF46
   replace hFG := Heap.le_trans hFG hF46
   replace hz3 := hF46 _ _ hz3
   replace hz4 := hF46 _ _ hz4
   replace hz5 := hF46 _ _ hz5
   replace hz7 := hF46 _ _ hz7
   by_cases hfw : fewF (untrueN p m b s 1) (untrueN p m b s 0) = true
   ·refine Aj fun ds => Ad rfl (Bm AO) <| Aw (Ag 1) <| Ax (Ag 1) fun ds => AE rfl (As Db Aa AO (BW hr hv hok hm hsl hz5 hz7 hz15 hz3 hz4 h8 hmr (.inl rfl)) (fun _ _ h => h)) <| Aw (Ag 1) <| Ac <| Ax (Ag 1) fun ds => AE rfl (As Db Aa AO (BW hr hv hok hm hsl hz5 hz7 hz15 hz3 hz4 h8 hmr (.inr rfl)) (fun _ _ h => h)) <| Aw (Ag 1) <| Ax (Ag 2) fun ds => AE rfl (As Fq Aa AO (Cv hu1 hu0) (fun _ _ h => h)) <| Al <| Ab <| Ah Aa hfw <| Aj fun ds => Aw (Ag 2) <| Aj fun ds => Ao (Ag 2) <| Ad rfl (DC Aa Aa rfl rfl (by omega) (by omega) rfl) <| Ao (Ag 1) <| Al <| A4 <| Ab <| Aj fun ds => Ad rfl (AJ Aa Aa rfl (by omega) (by omega)) <| Ao (Ag 1) <| Al ?_
    refine Ab ⟨_, m1 - 1, Off.eq (Bx rfl <| BI rfl <| BF rfl <| A3), by omega, ?_⟩
    exact ⟨s + 1, by omega, Ba, BC (by show _ = Value.int .i64 ((offTo p m b s ||| lessN p m b s : Nat) : Int); unfold lessN; rw [if_pos hfw]), _, hFG, rfl⟩
   replace hfw : fewF (untrueN p m b s 1) (untrueN p m b s 0) = false := by simpa using hfw
   refine Aj fun ds => Ad rfl (Bm AO) <| Aw (Ag 1) <| Ax (Ag 1) fun ds => AE rfl (As Db Aa AO (BW hr hv hok hm hsl hz5 hz7 hz15 hz3 hz4 h8 hmr (.inl rfl)) (fun _ _ h => h)) <| Aw (Ag 1) <| Ac <| Ax (Ag 1) fun ds => AE rfl (As Db Aa AO (BW hr hv hok hm hsl hz5 hz7 hz15 hz3 hz4 h8 hmr (.inr rfl)) (fun _ _ h => h)) <| Aw (Ag 1) <| Ax (Ag 2) fun ds => AE rfl (As Fq Aa AO (Cv hu1 hu0) (fun _ _ h => h)) <| Al <| Ab <| Ae Aa hfw <| Ak <| Ab <| Aj fun ds => Ao (Ag 2) <| Ad rfl (DC Aa Aa rfl rfl (by omega) (by omega) rfl) <| Ao (Ag 1) <| Al <| A4 <| Ab <| Aj fun ds => Ad rfl (AJ Aa Aa rfl (by omega) (by omega)) <| Ao (Ag 1) <| Al ?_
   refine Ab ⟨_, m1 - 1, Off.eq (Bx rfl <| BI rfl <| A3), by omega, ?_⟩
   exact ⟨s + 1, by omega, Ba, BC (by show _ = Value.int .i64 ((offTo p m b s ||| lessN p m b s : Nat) : Int); unfold lessN; rw [if_neg (by rw [hfw]; simp)]), _, hFG, rfl⟩
  refine AD (Ag 1) <| Ac <| Ae Aa (by first | rfl | exact dF (by omega)) ?_
  obtain rfl : s = M := by omega
  refine AG ?_
  refine A2 <| A2 <| A8 <| Ab <| AD (Ag 2) <| Au <| Am rfl Bi ?_
  show Value.int .i64 _ = Value.int .i64 _
  unfold offP; rw [if_neg (fun h => h hle), hM, Int.toNat_natCast]
 refine Aj fun ds => Ad rfl (Ap D4 Aa (AP hz7 rfl)) <| Ad rfl (AA Bz Aa hsl.plain) <| Ao (Ag 1) <| Ad rfl (Ap AM Aa (AP hz5 rfl)) <| Aw (Ag 1) <| Ah Aa (dT hle) <| AD (Ag 1) <| Au <| Ay <| Am rfl Bi ?_
 show Value.int .i64 _ = Value.int .i64 _
 unfold offP; rw [if_pos hle]
end
end Go.Proofs.YtkjfmibiinfhfaaGreat
