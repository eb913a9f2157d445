/-
  A part of a proof: StemBest returns true of any stem and editions, and leaves what it is handed as it was. No conditions.
-/
import Derived.Test.YtccogmkhijgelaaPab
namespace Go.Proofs.Ytccogmkhijgelaa
open Go.RowKit
set_option maxRecDepth 100000 in
theorem refIs_ok {F : Heap} {v : Value} {l : List Int} (hl : Ints F v l) (hin : TreeIn l) : Ok Try.prog 107 [v].toArray F fun r _ => r = .bool (isT l) := by
 refine Ok.intro Try.func107 rfl Try.ntmps107 rfl fun w0 => ?_
 have hL := hl.plain.lt
 refine Af <| Ai fun ds => Aa rfl (Ac Ad) ?_
 refine Ah <| Ab <| Af <| Ai fun ds => Aa rfl (Ac Ad) ?_
 refine Ah <| Ab <| Af <| Af <| Ai fun ds => Aa rfl (Ac Ad) ?_
 refine Ah <| Ab <| A0 <| Bs [2, 3, 4, 5, 6, 7, 8, 9, 10, 11, 12, 13, 14, 15, 16, 17, 18, 19, 20, 21, 22, 23, 24, 25, 26, 27, 28, 29, 30, 31, 32, 33, 34, 35, 36, 37, 38, 39, 40, 41, 42] (fun m e σ => ∃ k : Nat, m + k = l.length ∧ e 4 = .int .i64 (k : Int) ∧ e 3 = .int .i64 (firstsN l k) ∧ σ = ⟨F, []⟩ ∧ ∀ j, j < k → reach l l.length j = true) (l.length) ?_ ?_
 · exact ⟨0, by omega, (Ae), (Al rfl <| Ae), rfl, fun j h => absurd h (by omega)⟩
 ·
  rintro m e _ ⟨k, hm, hs4, hs3, rfl, hno⟩
  by_cases hlt : k < l.length
  ·
   have hfb := Ez (l := l) k
   refine Af <| Af <| Ai fun ds => Aa rfl (Ag (As rfl hs4)) ?_
   refine Aa rfl (Ag (Al rfl <| Ak rfl <| Ar rfl <| Al rfl <| Aj rfl)) ?_
   refine Aa rfl (Bh Be (Ae) hl.plain) ?_
   refine Aa rfl (Br (Ar rfl <| Ae) (Ae)) ?_
   refine Ah <| Ab <| Aq (Ae) (by first | rfl | exact decide_eq_true (by omega)) ?_
   by_cases hf1 : upN l k = -1
   ·
    refine Au <| Ab <| Af <| A0 <| Af <| Af <| Ai fun ds => Aa rfl (Ag (Az rfl <| Ak rfl <| Ar rfl <| Al rfl <| Aj rfl)) ?_
    refine Aa rfl (Ag (Az rfl <| Al rfl <| As rfl hs4)) ?_
    refine Aa rfl (A9 (k := k) Be (Al rfl <| Ae) hl.plain (Ae) rfl hlt) ?_
    refine Aa rfl (Ap Bl (Ae) (hl.cell1 hlt rfl)) ?_
    refine Aa rfl (Bx (Ae) Ad) ?_
    refine Ah <| Ab <| Aq (Ae) (by rw [Dd hlt]; exact decide_eq_true hf1) ?_
    refine Ai fun ds => Aa rfl (Ag (A7 rfl <| Al rfl <| As rfl hs3)) ?_
    refine Aa rfl (Bp (Ae) Ad rfl (by omega) (by omega)) ?_
    refine Aa rfl (Ac (Ae)) ?_
    refine Ah <| Ab <| Af <| Ai fun ds => Aa rfl (Ag (A7 rfl <| Az rfl <| As rfl hs4)) ?_
    refine Aa rfl (Ac (Ae)) ?_
    refine Ah <| Ab <| Af <| Af <| Ai fun ds => Aa rfl (Ac Ad) ?_
    refine Ah <| Ab <| A0 <| Bs [5, 6, 21, 22, 23, 24, 25, 26, 27, 28, 29, 30, 31, 32, 33, 34, 35, 36, 37] (fun m e σ => ∃ st a : Nat, m + st = l.length ∧ a < l.length ∧ e 6 = .int .i64 (st : Int) ∧ e 5 = .int .i64 (a : Int) ∧ reach l l.length k = reach l (l.length - st) a ∧ σ = ⟨F, []⟩) (l.length) ?_ ?_
    · exact ⟨0, k, by omega, hlt, (Ae), (Al rfl <| Ae), rfl, rfl⟩
    ·
     rintro m2 e2 _ ⟨st, a, hm2, ha, ht6, ht5, hre, rfl⟩
     by_cases hs : st < l.length
     ·
      refine Af <| Af <| Ai fun ds => Aa rfl (Ag (As rfl ht6)) ?_
      refine Aa rfl (Ag (Al rfl <| Ak rfl <| A7 rfl <| Az rfl <| Ar rfl <| Al rfl <| Ak rfl <| Ar rfl <| Al rfl <| Aj rfl)) ?_
      refine Aa rfl (Bh Be (Ae) hl.plain) ?_
      refine Aa rfl (Br (Ar rfl <| Ae) (Ae)) ?_
      refine Aa rfl (Ag (Ae)) ?_
      refine At rfl rfl (Ae) (by first | rfl | exact decide_eq_true (by omega)) ?_
      refine Aa rfl (Ag (Az rfl <| Al rfl <| Ak rfl <| A7 rfl <| Az rfl <| Ar rfl <| Al rfl <| Ak rfl <| Ar rfl <| Al rfl <| Aj rfl)) ?_
      refine At rfl rfl (Al rfl <| Ae) (by first | rfl | exact decide_eq_true (by omega)) ?_
      refine Aa rfl (Ag (Az rfl <| Ar rfl <| As rfl ht5)) ?_
      refine At rfl rfl (Ar rfl <| Ae) (by first | rfl | exact decide_eq_true (by omega)) ?_
      refine Aa rfl (A9 (k := a) Be (Al rfl <| Ae) hl.plain (Ae) rfl ha) ?_
      refine At rfl rfl (Ar rfl <| Al rfl <| Ae) (by first | rfl | exact decide_eq_true (by omega)) ?_
      refine Aa rfl (Ap Bl (Ae) (hl.cell1 ha rfl)) ?_
      refine At rfl rfl (Az rfl <| Ae) (by first | rfl | exact decide_eq_true (by omega)) ?_
      refine Aa rfl (By (Ae) Ad) ?_
      refine Aa rfl (A6 (Az rfl <| Al rfl <| Ae) (by first | rfl | exact decide_eq_true (by omega)) (Ae)) ?_
      refine Ah <| Ab ?_
      by_cases hz0 : upN l a = -1
      ·
       refine Am (Ae) (by rw [Dd ha]; exact decide_eq_false (fun h => h hz0)) ?_
       have htrue : reach l l.length k = true := by rw [hre]; exact D4 hz0
       refine Bn ?_
       refine Bd <| Bd <| Bf <| Ab <| Af <| Ai fun ds => Aa rfl (Ag (A7 rfl <| Ar rfl <| Al rfl <| Ak rfl <| A7 rfl <| Az rfl <| Ar rfl <| Al rfl <| Ak rfl <| Ar rfl <| Al rfl <| Aj rfl)) ?_
       refine Aa rfl (Ag (A7 rfl <| Az rfl <| As rfl ht5)) ?_
       refine Aa rfl (A9 (k := a) Be (Al rfl <| Ae) hl.plain (Ae) rfl ha) ?_
       refine Aa rfl (Ap Bl (Ae) (hl.cell1 ha rfl)) ?_
       refine Aa rfl (By (Ae) Ad) ?_
       refine Ah <| Ab <| Am (Ae) (by rw [Dd ha]; exact decide_eq_false (fun h => h hz0)) ?_
       refine Au <| Bb <| Ab <| Ai fun ds => Aa rfl (Ag (A5 rfl <| Ak rfl <| A7 rfl <| Az rfl <| Ar rfl <| Al rfl <| As rfl hs4)) ?_
       refine Aa rfl (Bp (Ae) Ad rfl (by omega) (by omega)) ?_
       refine Aa rfl (Ac (Ae)) ?_
       refine Ah <| Ab ⟨_, m - 1, Off.eq (Cq rfl <| Eb rfl <| Df rfl <| Do rfl <| Di rfl <| Dy rfl <| Eb rfl <| Df rfl <| Ba), by omega, ?_⟩
       refine ⟨k + 1, by omega, (Ae), by rw [firstsN, if_pos hf1]; exact (A5 rfl <| Ar rfl <| Al rfl <| Ak rfl <| Ar rfl <| Al rfl <| Ae), rfl, fun j hj => ?_⟩
       rcases Nat.lt_succ_iff_lt_or_eq.1 hj with hj | rfl
       · exact hno j hj
       · exact htrue
      ·
       obtain ⟨c, hc, hcl⟩ := hin.nat ha hz0
       refine Aq (Ae) (by rw [Dd ha]; exact decide_eq_true hz0) ?_
       refine Au <| Ab <| Af <| A0 <| Ai fun ds => Aa rfl (Ag (A7 rfl <| Ar rfl <| Al rfl <| Ak rfl <| A7 rfl <| Az rfl <| Ar rfl <| Al rfl <| Ak rfl <| Ar rfl <| Al rfl <| Aj rfl)) ?_
       refine Aa rfl (Ag (A7 rfl <| Az rfl <| As rfl ht5)) ?_
       refine Aa rfl (A9 (k := a) Be (Al rfl <| Ae) hl.plain (Ae) rfl ha) ?_
       refine Aa rfl (Ap Bl (Ae) (hl.cell1 ha rfl)) ?_
       refine Aa rfl (Ac (Ae)) ?_
       refine Ah <| Bb <| Ab <| Ai fun ds => Aa rfl (Ag (A5 rfl <| As rfl ht6)) ?_
       refine Aa rfl (Bp (Ae) Ad rfl (by omega) (by omega)) ?_
       refine Aa rfl (Ac (Ae)) ?_
       refine Ah <| Ab ⟨_, m2 - 1, Off.eq (Cq rfl <| Eb rfl <| Df rfl <| Ba), by omega, ?_⟩
       exact ⟨st + 1, c, by omega, hcl, (Ae), by rw [← hc, ← Dd ha]; exact (Ar rfl <| Al rfl <| Ae), by rw [hre, show l.length - st = (l.length - (st + 1)) + 1 by omega]; exact Ek hc, rfl⟩
     ·
      refine Af <| Af <| Ai fun ds => Aa rfl (Ag (As rfl ht6)) ?_
      refine Aa rfl (Ag (Al rfl <| Ak rfl <| A7 rfl <| Az rfl <| Ar rfl <| Al rfl <| Ak rfl <| Ar rfl <| Al rfl <| Aj rfl)) ?_
      refine Aa rfl (Bh Be (Ae) hl.plain) ?_
      refine Aa rfl (Br (Ar rfl <| Ae) (Ae)) ?_
      refine Aa rfl (Ag (Ae)) ?_
      refine Aw rfl rfl (Ae) (.inl (congrArg Value.bool (by first | rfl | exact decide_eq_false (by omega)))) rfl ?_
      refine Aw rfl rfl (Al rfl <| Ae) (.inl (congrArg Value.bool (by first | rfl | exact decide_eq_false (by omega)))) rfl ?_
      refine Aw rfl rfl (Ar rfl <| Ae) (.inl (congrArg Value.bool (by first | rfl | exact decide_eq_false (by omega)))) rfl ?_
      refine Aw rfl rfl (Ar rfl <| Al rfl <| Ae) (.inl (congrArg Value.bool (by first | rfl | exact decide_eq_false (by omega)))) rfl ?_
      refine Aw rfl rfl (Az rfl <| Ae) (.inl (congrArg Value.bool (by first | rfl | exact decide_eq_false (by omega)))) rfl ?_
      refine Aa rfl (Bg (Az rfl <| Al rfl <| Ae) (by first | rfl | exact decide_eq_false (by omega)) Ad) ?_
      refine Ah <| Ab <| Am (Ae) rfl ?_
      by_cases hz : upN l a = -1
      ·
       have htrue : reach l l.length k = true := by rw [hre]; exact D4 hz
       refine Bn ?_
       refine Bd <| Bd <| Bf <| Ab <| Af <| Ai fun ds => Aa rfl (Ag (A7 rfl <| Ar rfl <| Al rfl <| Ak rfl <| A7 rfl <| Az rfl <| Ar rfl <| Al rfl <| Ak rfl <| Ar rfl <| Al rfl <| Aj rfl)) ?_
       refine Aa rfl (Ag (A7 rfl <| Az rfl <| As rfl ht5)) ?_
       refine Aa rfl (A9 (k := a) Be (Al rfl <| Ae) hl.plain (Ae) rfl ha) ?_
       refine Aa rfl (Ap Bl (Ae) (hl.cell1 ha rfl)) ?_
       refine Aa rfl (By (Ae) Ad) ?_
       refine Ah <| Ab <| Am (Ae) (by rw [Dd ha]; exact decide_eq_false (fun h => h hz)) ?_
       refine Au <| Bb <| Ab <| Ai fun ds => Aa rfl (Ag (A5 rfl <| Ak rfl <| A7 rfl <| Az rfl <| Ar rfl <| Al rfl <| As rfl hs4)) ?_
       refine Aa rfl (Bp (Ae) Ad rfl (by omega) (by omega)) ?_
       refine Aa rfl (Ac (Ae)) ?_
       refine Ah <| Ab ⟨_, m - 1, Off.eq (Cq rfl <| Eb rfl <| Df rfl <| Do rfl <| Di rfl <| Dy rfl <| Eb rfl <| Df rfl <| Ba), by omega, ?_⟩
       refine ⟨k + 1, by omega, (Ae), by rw [firstsN, if_pos hf1]; exact (A5 rfl <| Ar rfl <| Al rfl <| Ak rfl <| Ar rfl <| Al rfl <| Ae), rfl, fun j hj => ?_⟩
       rcases Nat.lt_succ_iff_lt_or_eq.1 hj with hj | rfl
       · exact hno j hj
       · exact htrue
      ·
       have hfalse : reach l l.length k = false := by rw [hre, show l.length - st = 0 by omega]; exact reach_zero hz
       refine Bn ?_
       refine Bd <| Bd <| Bf <| Ab <| Af <| Ai fun ds => Aa rfl (Ag (A7 rfl <| Ar rfl <| Al rfl <| Ak rfl <| A7 rfl <| Az rfl <| Ar rfl <| Al rfl <| Ak rfl <| Ar rfl <| Al rfl <| Aj rfl)) ?_
       refine Aa rfl (Ag (A7 rfl <| Az rfl <| As rfl ht5)) ?_
       refine Aa rfl (A9 (k := a) Be (Al rfl <| Ae) hl.plain (Ae) rfl ha) ?_
       refine Aa rfl (Ap Bl (Ae) (hl.cell1 ha rfl)) ?_
       refine Aa rfl (By (Ae) Ad) ?_
       refine Ah <| Ab <| Aq (Ae) (by rw [Dd ha]; exact decide_eq_true hz) ?_
       refine Af <| Ai fun ds => Aa rfl (Ac Ad) ?_
       refine Ah <| Ab <| A4 <| Bm (Bc (Bc (Bm (Bc ?_))))
       refine Ay rfl (.tmp (Ae) .nil) ?_
       show _ = _
       rw [isT_no hlt hfalse]; rfl
   ·
    refine Au <| Ab <| Af <| A0 <| Af <| Af <| Ai fun ds => Aa rfl (Ag (Az rfl <| Ak rfl <| Ar rfl <| Al rfl <| Aj rfl)) ?_
    refine Aa rfl (Ag (Az rfl <| Al rfl <| As rfl hs4)) ?_
    refine Aa rfl (A9 (k := k) Be (Al rfl <| Ae) hl.plain (Ae) rfl hlt) ?_
    refine Aa rfl (Ap Bl (Ae) (hl.cell1 hlt rfl)) ?_
    refine Aa rfl (Bx (Ae) Ad) ?_
    refine Ah <| Ab <| Am (Ae) (by rw [Dd hlt]; exact decide_eq_false hf1) ?_
    refine Au <| Ab <| Af <| Ai fun ds => Aa rfl (Ag (A7 rfl <| Al rfl <| As rfl hs4)) ?_
    refine Aa rfl (Ac (Ae)) ?_
    refine Ah <| Ab <| Af <| Af <| Ai fun ds => Aa rfl (Ac Ad) ?_
    refine Ah <| Ab <| A0 <| Bs [5, 6, 21, 22, 23, 24, 25, 26, 27, 28, 29, 30, 31, 32, 33, 34, 35, 36, 37] (fun m e σ => ∃ st a : Nat, m + st = l.length ∧ a < l.length ∧ e 6 = .int .i64 (st : Int) ∧ e 5 = .int .i64 (a : Int) ∧ reach l l.length k = reach l (l.length - st) a ∧ σ = ⟨F, []⟩) (l.length) ?_ ?_
    · exact ⟨0, k, by omega, hlt, (Ae), (Al rfl <| Ae), rfl, rfl⟩
    ·
     rintro m2 e2 _ ⟨st, a, hm2, ha, ht6, ht5, hre, rfl⟩
     by_cases hs : st < l.length
     ·
      refine Af <| Af <| Ai fun ds => Aa rfl (Ag (As rfl ht6)) ?_
      refine Aa rfl (Ag (Al rfl <| Ak rfl <| A7 rfl <| Az rfl <| Ak rfl <| Ar rfl <| Al rfl <| Aj rfl)) ?_
      refine Aa rfl (Bh Be (Ae) hl.plain) ?_
      refine Aa rfl (Br (Ar rfl <| Ae) (Ae)) ?_
      refine Aa rfl (Ag (Ae)) ?_
      refine At rfl rfl (Ae) (by first | rfl | exact decide_eq_true (by omega)) ?_
      refine Aa rfl (Ag (Az rfl <| Al rfl <| Ak rfl <| A7 rfl <| Az rfl <| Ak rfl <| Ar rfl <| Al rfl <| Aj rfl)) ?_
      refine At rfl rfl (Al rfl <| Ae) (by first | rfl | exact decide_eq_true (by omega)) ?_
      refine Aa rfl (Ag (Az rfl <| Ar rfl <| As rfl ht5)) ?_
      refine At rfl rfl (Ar rfl <| Ae) (by first | rfl | exact decide_eq_true (by omega)) ?_
      refine Aa rfl (A9 (k := a) Be (Al rfl <| Ae) hl.plain (Ae) rfl ha) ?_
      refine At rfl rfl (Ar rfl <| Al rfl <| Ae) (by first | rfl | exact decide_eq_true (by omega)) ?_
      refine Aa rfl (Ap Bl (Ae) (hl.cell1 ha rfl)) ?_
      refine At rfl rfl (Az rfl <| Ae) (by first | rfl | exact decide_eq_true (by omega)) ?_
      refine Aa rfl (By (Ae) Ad) ?_
      refine Aa rfl (A6 (Az rfl <| Al rfl <| Ae) (by first | rfl | exact decide_eq_true (by omega)) (Ae)) ?_
      refine Ah <| Ab ?_
      by_cases hz0 : upN l a = -1
      ·
       refine Am (Ae) (by rw [Dd ha]; exact decide_eq_false (fun h => h hz0)) ?_
       have htrue : reach l l.length k = true := by rw [hre]; exact D4 hz0
       refine Bn ?_
       refine Bd <| Bd <| Bf <| Ab <| Af <| Ai fun ds => Aa rfl (Ag (A7 rfl <| Ar rfl <| Al rfl <| Ak rfl <| A7 rfl <| Az rfl <| Ak rfl <| Ar rfl <| Al rfl <| Aj rfl)) ?_
       refine Aa rfl (Ag (A7 rfl <| Az rfl <| As rfl ht5)) ?_
       refine Aa rfl (A9 (k := a) Be (Al rfl <| Ae) hl.plain (Ae) rfl ha) ?_
       refine Aa rfl (Ap Bl (Ae) (hl.cell1 ha rfl)) ?_
       refine Aa rfl (By (Ae) Ad) ?_
       refine Ah <| Ab <| Am (Ae) (by rw [Dd ha]; exact decide_eq_false (fun h => h hz0)) ?_
       refine Au <| Bb <| Ab <| Ai fun ds => Aa rfl (Ag (A5 rfl <| Ak rfl <| A7 rfl <| Az rfl <| As rfl hs4)) ?_
       refine Aa rfl (Bp (Ae) Ad rfl (by omega) (by omega)) ?_
       refine Aa rfl (Ac (Ae)) ?_
       refine Ah <| Ab ⟨_, m - 1, Off.eq (Cq rfl <| Eb rfl <| Df rfl <| Do rfl <| Di rfl <| Dy rfl <| Ba), by omega, ?_⟩
       refine ⟨k + 1, by omega, (Ae), by rw [firstsN, if_neg hf1]; exact (A5 rfl <| Ar rfl <| Al rfl <| Ak rfl <| A7 rfl <| Az rfl <| As rfl hs3), rfl, fun j hj => ?_⟩
       rcases Nat.lt_succ_iff_lt_or_eq.1 hj with hj | rfl
       · exact hno j hj
       · exact htrue
      ·
       obtain ⟨c, hc, hcl⟩ := hin.nat ha hz0
       refine Aq (Ae) (by rw [Dd ha]; exact decide_eq_true hz0) ?_
       refine Au <| Ab <| Af <| A0 <| Ai fun ds => Aa rfl (Ag (A7 rfl <| Ar rfl <| Al rfl <| Ak rfl <| A7 rfl <| Az rfl <| Ak rfl <| Ar rfl <| Al rfl <| Aj rfl)) ?_
       refine Aa rfl (Ag (A7 rfl <| Az rfl <| As rfl ht5)) ?_
       refine Aa rfl (A9 (k := a) Be (Al rfl <| Ae) hl.plain (Ae) rfl ha) ?_
       refine Aa rfl (Ap Bl (Ae) (hl.cell1 ha rfl)) ?_
       refine Aa rfl (Ac (Ae)) ?_
       refine Ah <| Bb <| Ab <| Ai fun ds => Aa rfl (Ag (A5 rfl <| As rfl ht6)) ?_
       refine Aa rfl (Bp (Ae) Ad rfl (by omega) (by omega)) ?_
       refine Aa rfl (Ac (Ae)) ?_
       refine Ah <| Ab ⟨_, m2 - 1, Off.eq (Cq rfl <| Eb rfl <| Df rfl <| Ba), by omega, ?_⟩
       exact ⟨st + 1, c, by omega, hcl, (Ae), by rw [← hc, ← Dd ha]; exact (Ar rfl <| Al rfl <| Ae), by rw [hre, show l.length - st = (l.length - (st + 1)) + 1 by omega]; exact Ek hc, rfl⟩
     ·
      refine Af <| Af <| Ai fun ds => Aa rfl (Ag (As rfl ht6)) ?_
      refine Aa rfl (Ag (Al rfl <| Ak rfl <| A7 rfl <| Az rfl <| Ak rfl <| Ar rfl <| Al rfl <| Aj rfl)) ?_
      refine Aa rfl (Bh Be (Ae) hl.plain) ?_
      refine Aa rfl (Br (Ar rfl <| Ae) (Ae)) ?_
      refine Aa rfl (Ag (Ae)) ?_
      refine Aw rfl rfl (Ae) (.inl (congrArg Value.bool (by first | rfl | exact decide_eq_false (by omega)))) rfl ?_
      refine Aw rfl rfl (Al rfl <| Ae) (.inl (congrArg Value.bool (by first | rfl | exact decide_eq_false (by omega)))) rfl ?_
      refine Aw rfl rfl (Ar rfl <| Ae) (.inl (congrArg Value.bool (by first | rfl | exact decide_eq_false (by omega)))) rfl ?_
      refine Aw rfl rfl (Ar rfl <| Al rfl <| Ae) (.inl (congrArg Value.bool (by first | rfl | exact decide_eq_false (by omega)))) rfl ?_
      refine Aw rfl rfl (Az rfl <| Ae) (.inl (congrArg Value.bool (by first | rfl | exact decide_eq_false (by omega)))) rfl ?_
      refine Aa rfl (Bg (Az rfl <| Al rfl <| Ae) (by first | rfl | exact decide_eq_false (by omega)) Ad) ?_
      refine Ah <| Ab <| Am (Ae) rfl ?_
      by_cases hz : upN l a = -1
      ·
       have htrue : reach l l.length k = true := by rw [hre]; exact D4 hz
       refine Bn ?_
       refine Bd <| Bd <| Bf <| Ab <| Af <| Ai fun ds => Aa rfl (Ag (A7 rfl <| Ar rfl <| Al rfl <| Ak rfl <| A7 rfl <| Az rfl <| Ak rfl <| Ar rfl <| Al rfl <| Aj rfl)) ?_
       refine Aa rfl (Ag (A7 rfl <| Az rfl <| As rfl ht5)) ?_
       refine Aa rfl (A9 (k := a) Be (Al rfl <| Ae) hl.plain (Ae) rfl ha) ?_
       refine Aa rfl (Ap Bl (Ae) (hl.cell1 ha rfl)) ?_
       refine Aa rfl (By (Ae) Ad) ?_
       refine Ah <| Ab <| Am (Ae) (by rw [Dd ha]; exact decide_eq_false (fun h => h hz)) ?_
       refine Au <| Bb <| Ab <| Ai fun ds => Aa rfl (Ag (A5 rfl <| Ak rfl <| A7 rfl <| Az rfl <| As rfl hs4)) ?_
       refine Aa rfl (Bp (Ae) Ad rfl (by omega) (by omega)) ?_
       refine Aa rfl (Ac (Ae)) ?_
       refine Ah <| Ab ⟨_, m - 1, Off.eq (Cq rfl <| Eb rfl <| Df rfl <| Do rfl <| Di rfl <| Dy rfl <| Ba), by omega, ?_⟩
       refine ⟨k + 1, by omega, (Ae), by rw [firstsN, if_neg hf1]; exact (A5 rfl <| Ar rfl <| Al rfl <| Ak rfl <| A7 rfl <| Az rfl <| As rfl hs3), rfl, fun j hj => ?_⟩
       rcases Nat.lt_succ_iff_lt_or_eq.1 hj with hj | rfl
       · exact hno j hj
       · exact htrue
      ·
       have hfalse : reach l l.length k = false := by rw [hre, show l.length - st = 0 by omega]; exact reach_zero hz
       refine Bn ?_
       refine Bd <| Bd <| Bf <| Ab <| Af <| Ai fun ds => Aa rfl (Ag (A7 rfl <| Ar rfl <| Al rfl <| Ak rfl <| A7 rfl <| Az rfl <| Ak rfl <| Ar rfl <| Al rfl <| Aj rfl)) ?_
       refine Aa rfl (Ag (A7 rfl <| Az rfl <| As rfl ht5)) ?_
       refine Aa rfl (A9 (k := a) Be (Al rfl <| Ae) hl.plain (Ae) rfl ha) ?_
       refine Aa rfl (Ap Bl (Ae) (hl.cell1 ha rfl)) ?_
       refine Aa rfl (By (Ae) Ad) ?_
       refine Ah <| Ab <| Aq (Ae) (by rw [Dd ha]; exact decide_eq_true hz) ?_
       refine Af <| Ai fun ds => Aa rfl (Ac Ad) ?_
       refine Ah <| Ab <| A4 <| Bm (Bc (Bc (Bm (Bc ?_))))
       refine Ay rfl (.tmp (Ae) .nil) ?_
       show _ = _
       rw [isT_no hlt hfalse]; rfl
  ·
   refine Af <| Af <| Ai fun ds => Aa rfl (Ag (As rfl hs4)) ?_
   refine Aa rfl (Ag (Al rfl <| Ak rfl <| Ar rfl <| Al rfl <| Aj rfl)) ?_
   refine Aa rfl (Bh Be (Ae) hl.plain) ?_
   refine Aa rfl (Br (Ar rfl <| Ae) (Ae)) ?_
   refine Ah <| Ab <| Am (Ae) (by first | rfl | exact decide_eq_false (by omega)) ?_
   obtain rfl : k = l.length := by omega
   refine Bn ?_
   refine Bd <| Bd <| Bf <| Ab <| Af <| Ai fun ds => Aa rfl (Ag (Az rfl <| As rfl hs3)) ?_
   refine Aa rfl (Bx (Ae) Ad) ?_
   refine Aa rfl (Ac (Ae)) ?_
   refine Ah <| Ab <| A4 <| Ay rfl (.tmp (Ae) .nil) ?_
   show _ = _
   rw [isT_all hno]; rfl
end Go.Proofs.Ytccogmkhijgelaa
namespace Go.Proofs.Ytccogmkhijgelaa
open Go.RowKit
theorem Cy : ArrT Try.prog 100 5 3 1 := arrT_of (by kernel_rfl)
set_option maxRecDepth 100000 in
theorem whole_ok {F : Heap} {b : Nat} {vp ve vm : Value} {ps : List (Value × Edn)} {s : Stm} (hX : StmX F b vp ve vm ps s) {l : List Int} (hin : TreeIn l) (hll : l.length = s.editions.length) (hv : ValidT s) : Ok Try.prog 106 [.pointer (some ⟨b, 0, none⟩), treeV l].toArray F fun r _ => r = .bool (isT l) := by
 refine Ok.intro Try.func106 rfl Try.ntmps106 rfl fun w0 => ?_
 have hL := hX.r.eds.plain.lt
 have hlen := hX.r.len
 have hne := hv.ne
 refine Af <| Ai fun ds => Bk rfl (B1 (Aj rfl) rfl fun b1 hb1 nb1 => ?_)
 refine Aa rfl (Ac Ad) ?_
 refine Ah <| Ab <| Af <| Ai fun ds => Aa rfl (Ac Ad) ?_
 refine Ah <| Ab <| Af <| Af <| Ai fun ds => Aa rfl (Ag (Ar rfl <| Al rfl <| Aj rfl)) ?_
 refine Aa rfl (B3 (Ae)) ?_
 refine Aa rfl (Ao Ca (Ae)) ?_
 refine Aa rfl (Ao Bv (Ae)) ?_
 refine Aa rfl (Ap Bz (Ae) (CellF.own hX.blk rfl).cell) ?_
 refine Aa rfl (Bh B7 (Ae) hX.r.eds.plain) ?_
 refine Aa rfl (Ag Ad) ?_
 refine Ah <| Ab <| A0 <| Bs [4, 5, 6, 7, 8, 15, 16, 17, 18, 19, 20, 21, 22, 23, 24, 25, 26, 27, 28, 29, 30, 31, 32, 33, 34, 35, 36, 37, 38, 39, 40, 41, 42] (fun m e σ => ∃ k : Nat, m + k = l.length ∧ e 15 = .int .i64 (k : Int) ∧ e 5 = .int .i64 (firstsN l k) ∧ σ = ⟨F, [(b1, bx 100 (treeC l))]⟩ ∧ ∀ j, j < k → reach l l.length j = true) (l.length) ?_ ?_
 · exact ⟨0, by omega, (Ae), (Az rfl <| Ar rfl <| Al rfl <| Ae), rfl, fun j h => absurd h (by omega)⟩
 ·
  rintro m e _ ⟨k, hm, hs15, hs5, rfl, hno⟩
  by_cases hlt : k < l.length
  ·
   have hfb := Ez (l := l) k
   have hk5 : k < 5 := by omega
   refine Af <| Ai fun ds => Aa rfl (Br (As rfl hs15) (Ak rfl <| Al rfl <| Ae)) ?_
   refine Ah <| Ab <| Af <| Aq (Ae) (by first | rfl | exact decide_eq_true (by omega)) ?_
   by_cases hf1 : upN l k = -1
   ·
    refine Au <| Ab <| Af <| A0 <| Af <| Ai fun ds => Aa rfl (Ag (Al rfl <| As rfl hs15)) ?_
    refine Aa rfl (Ac (Ae)) ?_
    refine Ah <| Ab <| Af <| Af <| Ai fun ds => Aa rfl (Ag (Ae)) ?_
    refine Aa rfl (Bu (k := k) Cy (Az rfl <| Ak rfl <| A7 rfl <| Al rfl <| Ae) (Ae) rfl hk5) ?_
    refine Aa rfl (Ap Bl (Ae) (Cell.own 0 rfl (Cj hk5))) ?_
    refine Aa rfl (Bx (Ae) Ad) ?_
    refine Ah <| Ab <| Aq (Ae) (decide_eq_true hf1) ?_
    refine Ai fun ds => Aa rfl (Ag (Az rfl <| Ar rfl <| Al rfl <| As rfl hs5)) ?_
    refine Aa rfl (Bp (Ae) Ad rfl (by omega) (by omega)) ?_
    refine Aa rfl (Ac (Ae)) ?_
    refine Ah <| Ab <| Af <| Ai fun ds => Aa rfl (Ag (Az rfl <| Ar rfl <| Al rfl <| Ae)) ?_
    refine Aa rfl (Ac (Ae)) ?_
    refine Aa rfl (Ac Ad) ?_
    refine Ah <| Ab <| A0 <| Bs [4, 7, 8, 25, 26, 27, 28, 29, 30, 31, 32, 33, 34, 35, 36, 37, 38, 39, 40, 41] (fun m e σ => ∃ st a : Nat, m + st = l.length ∧ st ≤ l.length ∧ a < l.length ∧ e 8 = .int .i64 (st : Int) ∧ e 7 = .int .i64 (a : Int) ∧ reach l l.length k = reach l (l.length - st) a ∧ σ = ⟨F, [(b1, bx 100 (treeC l))]⟩) (l.length) ?_ ?_
    · exact ⟨0, k, by omega, by omega, hlt, (Ae), (Al rfl <| Ae), rfl, rfl⟩
    ·
     rintro m2 e2 _ ⟨st, a, hm2, hsl, ha, ht8, ht7, hre, rfl⟩
     have ha5 : a < 5 := by omega
     by_cases hz0 : upN l a = -1
     ·
      have htrue : reach l l.length k = true := by rw [hre]; exact D4 hz0
      refine Af <| Af <| Ai fun ds => Aa rfl (Ag (As rfl ht7)) ?_
      refine Aa rfl (Bu (k := a) Cy (Al rfl <| Ak rfl <| A7 rfl <| Az rfl <| Al rfl <| Ak rfl <| A7 rfl <| Al rfl <| Ae) (Ae) rfl ha5) ?_
      refine Aa rfl (Ap Bl (Ae) (Cell.own 0 rfl (Cj ha5))) ?_
      refine Aa rfl (By (Ae) Ad) ?_
      refine Ah <| Ab <| Am (Ae) (decide_eq_false (fun h => h hz0)) ?_
      refine Bn ?_
      refine Bd <| Bd <| Bf <| Bb <| Ab <| Ai fun ds => Aa rfl (Bp (Az rfl <| Ak rfl <| A7 rfl <| Az rfl <| Al rfl <| As rfl hs15) Ad rfl (by omega) (by omega)) ?_
      refine Aa rfl (Ag (Ae)) ?_
      refine Ah <| Ab ⟨_, m - 1, Off.eq (Dy rfl <| Eb rfl <| Do rfl <| Di rfl <| Dy rfl <| Df rfl <| Ba), by omega, ?_⟩
      refine ⟨k + 1, by omega, (Ae), by rw [firstsN, if_pos hf1]; exact (Az rfl <| Ar rfl <| Ak rfl <| Ar rfl <| Al rfl <| Ae), rfl, fun j hj => ?_⟩
      rcases Nat.lt_succ_iff_lt_or_eq.1 hj with hj | rfl
      · exact hno j hj
      · exact htrue
     ·
      obtain ⟨c, hc, hcl⟩ := hin.nat ha hz0
      refine Af <| Af <| Ai fun ds => Aa rfl (Ag (As rfl ht7)) ?_
      refine Aa rfl (Bu (k := a) Cy (Al rfl <| Ak rfl <| A7 rfl <| Az rfl <| Al rfl <| Ak rfl <| A7 rfl <| Al rfl <| Ae) (Ae) rfl ha5) ?_
      refine Aa rfl (Ap Bl (Ae) (Cell.own 0 rfl (Cj ha5))) ?_
      refine Aa rfl (By (Ae) Ad) ?_
      refine Ah <| Ab <| Aq (Ae) (decide_eq_true hz0) ?_
      by_cases hs : l.length ≤ st
      ·
       have hfalse : reach l l.length k = false := by rw [hre, show l.length - st = 0 by omega]; exact reach_zero hz0
       refine Au <| Ab <| Af <| A0 <| Af <| Ai fun ds => Aa rfl (Ag (Az rfl <| As rfl ht8)) ?_
       refine Aa rfl (Bp (Ae) Ad rfl (by omega) (by omega)) ?_
       refine Aa rfl (Ac (Ae)) ?_
       refine Ah <| Ab <| Af <| Ai fun ds => Aa rfl (Ag (Ae)) ?_
       refine Aa rfl (Ag (A7 rfl <| Ak rfl <| A7 rfl <| Az rfl <| Al rfl <| Ak rfl <| A7 rfl <| Ar rfl <| Aj rfl)) ?_
       refine Aa rfl (B3 (Ae)) ?_
       refine Aa rfl (Ao Ca (Ae)) ?_
       refine Aa rfl (Ao Bv (Ae)) ?_
       refine Aa rfl (Ap Bz (Ae) (CellF.own hX.blk rfl).cell) ?_
       refine Aa rfl (Bh B7 (Ae) hX.r.eds.plain) ?_
       refine Aa rfl (Ds (Az rfl <| Ar rfl <| Ae) (Ae)) ?_
       refine Ah <| Ab <| Aq (Ae) (decide_eq_true (by omega)) ?_
       refine Af <| Ai fun ds => Aa rfl (Ac Ad) ?_
       refine Ah <| Ab <| A4 <| Bm (Bc (Bc (Bm (Bm (Bc (Bc (Bm (Bc ?_))))))))
       refine Ay rfl (.tmp (Ae) .nil) ?_
       show _ = _
       rw [isT_no hlt hfalse]; rfl
      ·
       refine Au <| Ab <| Af <| A0 <| Af <| Ai fun ds => Aa rfl (Ag (Az rfl <| As rfl ht8)) ?_
       refine Aa rfl (Bp (Ae) Ad rfl (by omega) (by omega)) ?_
       refine Aa rfl (Ac (Ae)) ?_
       refine Ah <| Ab <| Af <| Ai fun ds => Aa rfl (Ag (Ae)) ?_
       refine Aa rfl (Ag (A7 rfl <| Ak rfl <| A7 rfl <| Az rfl <| Al rfl <| Ak rfl <| A7 rfl <| Ar rfl <| Aj rfl)) ?_
       refine Aa rfl (B3 (Ae)) ?_
       refine Aa rfl (Ao Ca (Ae)) ?_
       refine Aa rfl (Ao Bv (Ae)) ?_
       refine Aa rfl (Ap Bz (Ae) (CellF.own hX.blk rfl).cell) ?_
       refine Aa rfl (Bh B7 (Ae) hX.r.eds.plain) ?_
       refine Aa rfl (Ds (Az rfl <| Ar rfl <| Ae) (Ae)) ?_
       refine Ah <| Ab <| Am (Ae) (decide_eq_false (by omega)) ?_
       refine Au <| Bb <| Ab <| Ai fun ds => Aa rfl (Ag (A7 rfl <| Az rfl <| Ar rfl <| Al rfl <| As rfl ht7)) ?_
       refine Aa rfl (Bu (k := a) Cy (A5 rfl <| Ak rfl <| A7 rfl <| Az rfl <| Al rfl <| Ak rfl <| A7 rfl <| Al rfl <| Ae) (Ae) rfl ha5) ?_
       refine Aa rfl (Ap Bl (Ae) (Cell.own 0 rfl (Cj ha5))) ?_
       refine Aa rfl (Ac (Ae)) ?_
       refine Ah <| Ab ⟨_, m2 - 1, Off.eq (Cq rfl <| Eb rfl <| Df rfl <| Ba), by omega, ?_⟩
       exact ⟨st + 1, c, by omega, by omega, hcl, (A7 rfl <| Az rfl <| Ae), by rw [← hc]; exact (Ae), by rw [hre, show l.length - st = (l.length - (st + 1)) + 1 by omega]; exact Ek hc, rfl⟩
   ·
    refine Au <| Ab <| Af <| A0 <| Af <| Ai fun ds => Aa rfl (Ag (Al rfl <| As rfl hs15)) ?_
    refine Aa rfl (Ac (Ae)) ?_
    refine Ah <| Ab <| Af <| Af <| Ai fun ds => Aa rfl (Ag (Ae)) ?_
    refine Aa rfl (Bu (k := k) Cy (Az rfl <| Ak rfl <| A7 rfl <| Al rfl <| Ae) (Ae) rfl hk5) ?_
    refine Aa rfl (Ap Bl (Ae) (Cell.own 0 rfl (Cj hk5))) ?_
    refine Aa rfl (Bx (Ae) Ad) ?_
    refine Ah <| Ab <| Am (Ae) (decide_eq_false hf1) ?_
    refine Au <| Ab <| Af <| Ai fun ds => Aa rfl (Ag (Az rfl <| Ae)) ?_
    refine Aa rfl (Ac (Ae)) ?_
    refine Aa rfl (Ac Ad) ?_
    refine Ah <| Ab <| A0 <| Bs [4, 7, 8, 25, 26, 27, 28, 29, 30, 31, 32, 33, 34, 35, 36, 37, 38, 39, 40, 41] (fun m e σ => ∃ st a : Nat, m + st = l.length ∧ st ≤ l.length ∧ a < l.length ∧ e 8 = .int .i64 (st : Int) ∧ e 7 = .int .i64 (a : Int) ∧ reach l l.length k = reach l (l.length - st) a ∧ σ = ⟨F, [(b1, bx 100 (treeC l))]⟩) (l.length) ?_ ?_
    · exact ⟨0, k, by omega, by omega, hlt, (Ae), (Al rfl <| Ae), rfl, rfl⟩
    ·
     rintro m2 e2 _ ⟨st, a, hm2, hsl, ha, ht8, ht7, hre, rfl⟩
     have ha5 : a < 5 := by omega
     by_cases hz0 : upN l a = -1
     ·
      have htrue : reach l l.length k = true := by rw [hre]; exact D4 hz0
      refine Af <| Af <| Ai fun ds => Aa rfl (Ag (As rfl ht7)) ?_
      refine Aa rfl (Bu (k := a) Cy (Al rfl <| Ak rfl <| A7 rfl <| Ar rfl <| Ak rfl <| A7 rfl <| Al rfl <| Ae) (Ae) rfl ha5) ?_
      refine Aa rfl (Ap Bl (Ae) (Cell.own 0 rfl (Cj ha5))) ?_
      refine Aa rfl (By (Ae) Ad) ?_
      refine Ah <| Ab <| Am (Ae) (decide_eq_false (fun h => h hz0)) ?_
      refine Bn ?_
      refine Bd <| Bd <| Bf <| Bb <| Ab <| Ai fun ds => Aa rfl (Bp (Az rfl <| Ak rfl <| A7 rfl <| Ar rfl <| As rfl hs15) Ad rfl (by omega) (by omega)) ?_
      refine Aa rfl (Ag (Ae)) ?_
      refine Ah <| Ab ⟨_, m - 1, Off.eq (Dy rfl <| Eb rfl <| Do rfl <| Di rfl <| Eb rfl <| Ba), by omega, ?_⟩
      refine ⟨k + 1, by omega, (Ae), by rw [firstsN, if_neg hf1]; exact (Az rfl <| Ar rfl <| Ak rfl <| A7 rfl <| Ar rfl <| As rfl hs5), rfl, fun j hj => ?_⟩
      rcases Nat.lt_succ_iff_lt_or_eq.1 hj with hj | rfl
      · exact hno j hj
      · exact htrue
     ·
      obtain ⟨c, hc, hcl⟩ := hin.nat ha hz0
      refine Af <| Af <| Ai fun ds => Aa rfl (Ag (As rfl ht7)) ?_
      refine Aa rfl (Bu (k := a) Cy (Al rfl <| Ak rfl <| A7 rfl <| Ar rfl <| Ak rfl <| A7 rfl <| Al rfl <| Ae) (Ae) rfl ha5) ?_
      refine Aa rfl (Ap Bl (Ae) (Cell.own 0 rfl (Cj ha5))) ?_
      refine Aa rfl (By (Ae) Ad) ?_
      refine Ah <| Ab <| Aq (Ae) (decide_eq_true hz0) ?_
      by_cases hs : l.length ≤ st
      ·
       have hfalse : reach l l.length k = false := by rw [hre, show l.length - st = 0 by omega]; exact reach_zero hz0
       refine Au <| Ab <| Af <| A0 <| Af <| Ai fun ds => Aa rfl (Ag (Az rfl <| As rfl ht8)) ?_
       refine Aa rfl (Bp (Ae) Ad rfl (by omega) (by omega)) ?_
       refine Aa rfl (Ac (Ae)) ?_
       refine Ah <| Ab <| Af <| Ai fun ds => Aa rfl (Ag (Ae)) ?_
       refine Aa rfl (Ag (A7 rfl <| Ak rfl <| A7 rfl <| Ar rfl <| Ak rfl <| A7 rfl <| Ar rfl <| Aj rfl)) ?_
       refine Aa rfl (B3 (Ae)) ?_
       refine Aa rfl (Ao Ca (Ae)) ?_
       refine Aa rfl (Ao Bv (Ae)) ?_
       refine Aa rfl (Ap Bz (Ae) (CellF.own hX.blk rfl).cell) ?_
       refine Aa rfl (Bh B7 (Ae) hX.r.eds.plain) ?_
       refine Aa rfl (Ds (Az rfl <| Ar rfl <| Ae) (Ae)) ?_
       refine Ah <| Ab <| Aq (Ae) (decide_eq_true (by omega)) ?_
       refine Af <| Ai fun ds => Aa rfl (Ac Ad) ?_
       refine Ah <| Ab <| A4 <| Bm (Bc (Bc (Bm (Bm (Bc (Bc (Bm (Bc ?_))))))))
       refine Ay rfl (.tmp (Ae) .nil) ?_
       show _ = _
       rw [isT_no hlt hfalse]; rfl
      ·
       refine Au <| Ab <| Af <| A0 <| Af <| Ai fun ds => Aa rfl (Ag (Az rfl <| As rfl ht8)) ?_
       refine Aa rfl (Bp (Ae) Ad rfl (by omega) (by omega)) ?_
       refine Aa rfl (Ac (Ae)) ?_
       refine Ah <| Ab <| Af <| Ai fun ds => Aa rfl (Ag (Ae)) ?_
       refine Aa rfl (Ag (A7 rfl <| Ak rfl <| A7 rfl <| Ar rfl <| Ak rfl <| A7 rfl <| Ar rfl <| Aj rfl)) ?_
       refine Aa rfl (B3 (Ae)) ?_
       refine Aa rfl (Ao Ca (Ae)) ?_
       refine Aa rfl (Ao Bv (Ae)) ?_
       refine Aa rfl (Ap Bz (Ae) (CellF.own hX.blk rfl).cell) ?_
       refine Aa rfl (Bh B7 (Ae) hX.r.eds.plain) ?_
       refine Aa rfl (Ds (Az rfl <| Ar rfl <| Ae) (Ae)) ?_
       refine Ah <| Ab <| Am (Ae) (decide_eq_false (by omega)) ?_
       refine Au <| Bb <| Ab <| Ai fun ds => Aa rfl (Ag (A7 rfl <| Az rfl <| Ar rfl <| Al rfl <| As rfl ht7)) ?_
       refine Aa rfl (Bu (k := a) Cy (A5 rfl <| Ak rfl <| A7 rfl <| Ar rfl <| Ak rfl <| A7 rfl <| Al rfl <| Ae) (Ae) rfl ha5) ?_
       refine Aa rfl (Ap Bl (Ae) (Cell.own 0 rfl (Cj ha5))) ?_
       refine Aa rfl (Ac (Ae)) ?_
       refine Ah <| Ab ⟨_, m2 - 1, Off.eq (Cq rfl <| Eb rfl <| Df rfl <| Ba), by omega, ?_⟩
       exact ⟨st + 1, c, by omega, by omega, hcl, (A7 rfl <| Az rfl <| Ae), by rw [← hc]; exact (Ae), by rw [hre, show l.length - st = (l.length - (st + 1)) + 1 by omega]; exact Ek hc, rfl⟩
  ·
   refine Af <| Ai fun ds => Aa rfl (Br (As rfl hs15) (Ak rfl <| Al rfl <| Ae)) ?_
   refine Ah <| Ab <| Af <| Am (Ae) (by first | rfl | exact decide_eq_false (by omega)) ?_
   obtain rfl : k = l.length := by omega
   refine Bn ?_
   refine Bd <| Bd <| Bf <| Ab <| Af <| Ai fun ds => Aa rfl (Ag (Al rfl <| As rfl hs5)) ?_
   refine Aa rfl (Bx (Ae) Ad) ?_
   refine Aa rfl (Ac (Ae)) ?_
   refine Ah <| Ab <| A4 <| Ay rfl (.tmp (Ae) .nil) ?_
   show _ = _
   rw [isT_all hno]; rfl
end Go.Proofs.Ytccogmkhijgelaa
namespace Go.Proofs.Ytccogmkhijgelaa
/-- An error 'z', or that of the first so many numbers. -/
def gTo (z : Int) (p : Int → Bool) (l : List Int) (k : Nat) : Int := if z ≠ 0 then z else if ((l.take k).any fun x => !(p x)) = true then 7 else 0
section
variable {z : Int} {p : Int → Bool} {l : List Int}
theorem gTo_zero : gTo z p l 0 = z := by
 unfold gTo
 by_cases h : z = 0
 · rw [if_neg (fun k => k h), h]; simp
 · rw [if_pos h]
theorem gTo_ok (h0 : z = 0) (j : Nat) : gTo z p l j = if ((l.take j).any fun x => !(p x)) = true then 7 else 0 := by unfold gTo; rw [if_neg (fun q => q h0)]
theorem gTo_stop {k : Nat} (h : gTo z p l k ≠ 0) : gTo z p l k = gTo z p l l.length := by
 by_cases h0 : z = 0
 · rw [gTo_ok h0] at h
   have h1 : ((l.take k).any fun x => !(p x)) = true := by
     cases hc : (l.take k).any fun x => !(p x) with
     | true => rfl
     | false => rw [hc] at h; simp at h
   rw [gTo_ok h0, gTo_ok h0, if_pos h1, if_pos]
   rw [List.any_eq_true] at h1 ⊢
   obtain ⟨x, hx, hb⟩ := h1
   exact ⟨x, by rw [List.take_length]; exact List.mem_of_mem_take hx, hb⟩
 · unfold gTo; rw [if_pos h0, if_pos h0]
theorem gTo_none (h : gTo z p l l.length = 0) : z = 0 ∧ ∀ x ∈ l, p x = true := by
 by_cases h0 : z = 0
 · rw [gTo_ok h0, List.take_length] at h
   have h1 : (l.any fun x => !(p x)) = false := by
     cases hc : l.any fun x => !(p x) with
     | false => rfl
     | true => rw [hc] at h; simp at h
   rw [List.any_eq_false] at h1
   exact ⟨h0, fun x hx => by simpa using h1 x hx⟩
 · unfold gTo at h; rw [if_pos h0] at h; exact absurd h h0
end
def treeZ (s : Stm) (l : List Int) : Int := if (checkT s).2.2 ≠ 0 then (checkT s).2.2 else if l.length ≠ s.editions.length then 3 else 0
def inT (l : List Int) (z : Int) : Bool := inB (-1) (l.length - 1) z
def trTo (s : Stm) (l : List Int) (k : Nat) : Int := gTo (treeZ s l) (inT l) l k
def treeErr (s : Stm) (l : List Int) : Int := if trTo s l l.length ≠ 0 then trTo s l l.length else if isT l = false then 2 else 0
theorem treeZ_bad {s : Stm} {l : List Int} (h : (checkT s).2.2 ≠ 0) : treeZ s l = (checkT s).2.2 := if_pos h
theorem treeZ_len {s : Stm} {l : List Int} (h : (checkT s).2.2 = 0) (h2 : l.length ≠ s.editions.length) : treeZ s l = 3 := by unfold treeZ; rw [if_neg (fun k => k h), if_pos h2]
theorem treeZ_ok {s : Stm} {l : List Int} (h : (checkT s).2.2 = 0) (h2 : l.length = s.editions.length) : treeZ s l = 0 := by unfold treeZ; rw [if_neg (fun k => k h), if_neg (fun k => k h2)]
theorem trTo_in {s : Stm} {l : List Int} (h : trTo s l l.length = 0) : (checkT s).2.2 = 0 ∧ l.length = s.editions.length ∧ TreeIn l := by
 obtain ⟨h1, h2⟩ := gTo_none h
 unfold treeZ at h1
 split at h1
 · rename_i h3; exact absurd h1 h3
 · rename_i h3
   split at h1
   · cases h1
   · rename_i h4
     refine ⟨Classical.not_not.1 h3, Classical.not_not.1 h4, fun i hi => ?_⟩
     have := h2 _ (List.getElem_mem hi)
     rw [Dd hi] at this
     simp [inT, inB] at this
     omega
theorem treeErr_stop {s : Stm} {l : List Int} {k : Nat} (h : trTo s l k ≠ 0) : treeErr s l = trTo s l k := by
 have e : trTo s l k = trTo s l l.length := gTo_stop h
 unfold treeErr; rw [if_pos (by rw [← e]; exact h), e]
theorem treeErr_in {s : Stm} {l : List Int} (h : trTo s l l.length = 0) : treeErr s l = if isT l = false then 2 else 0 := by unfold treeErr; rw [if_neg (fun k => k h)]
theorem treeErr_ok {s : Stm} {l : List Int} (h : treeErr s l = 0) : (checkT s).2.2 = 0 ∧ l.length = s.editions.length ∧ TreeIn l ∧ isT l = true := by
 unfold treeErr at h
 split at h
 · rename_i h1; exact absurd h h1
 · rename_i h1
   split at h
   · cases h
   · rename_i h2
     obtain ⟨a, b, c⟩ := trTo_in (Classical.not_not.1 h1)
     exact ⟨a, b, c, by simpa using h2⟩
end Go.Proofs.Ytccogmkhijgelaa
namespace Go.Proofs.Ytccogmkhijgelaa
open Go.RowKit
theorem bd_107 : Body Try.prog 107 := Bo (by kernel_rfl)
end Go.Proofs.Ytccogmkhijgelaa
namespace Go.Proofs.Ytccogmkhijgelaa
open Go.RowKit
section
variable {P : Program} {n : Nat} {B : Base} {e : Env} {σ : St} {d : Option Nat} {ty : TypeId} {pos : String} {af : Array Edge} {gd : Option (Nat × Bool)}
inductive OutE {α : Type} (p : α) : List α → List α → Prop
 | here {us : List α} : OutE p (p :: us) us
 | next {u : α} {us us' : List α} : OutE p us us' → OutE p (u :: us) (u :: us')
 | skip {S us us' : List α} : OutE p us us' → OutE p (S ++ us) (S ++ us')
 | lastS {S : List α} : OutE p (S ++ [p]) S
inductive OutB {α : Type} (R : List α) : List α → List α → Prop
 | here {us : List α} : OutB R (R ++ us) us
 | last : OutB R R []
 | next {u : α} {us us' : List α} : OutB R us us' → OutB R (u :: us) (u :: us')
 | skip {S us us' : List α} : OutB R us us' → OutB R (S ++ us) (S ++ us')
 | lastS {S : List α} : OutB R (S ++ R) S
theorem OutE.perm {α : Type} {p : α} {H H1 : List α} (h : OutE p H H1) : H.Perm (p :: H1) := by
 induction h with
 | here => exact .refl _
 | next _ ih => exact (ih.cons _).trans (.swap _ _ _)
 | skip _ ih => exact (ih.append_left _).trans List.perm_middle
 | lastS => exact List.perm_append_comm
theorem OutB.perm {α : Type} {R H H1 : List α} (h : OutB R H H1) : H.Perm (R ++ H1) := by
 induction h with
 | here => exact .refl _
 | last => rw [List.append_nil]
 | next _ ih => exact (ih.cons _).trans List.perm_middle.symm
 | skip _ ih =>
   refine (ih.append_left _).trans ?_
   rw [← List.append_assoc, ← List.append_assoc]
   exact List.perm_append_comm.append_right _
 | lastS => exact List.perm_append_comm
inductive PickB {α : Type} : List α → List α → Prop
 | nil {H : List α} : PickB H []
 | all {H : List α} : PickB H H
 | one {p : α} {H H1 H' : List α} : OutE p H H1 → PickB H1 H' → PickB H (p :: H')
 | blk {R H H1 H' : List α} : OutB R H H1 → PickB H1 H' → PickB H (R ++ H')
 | lastb {R H H1 : List α} : OutB R H H1 → PickB H R
theorem PickB.sub {α : Type} {H H' : List α} (h : PickB H H') : ∃ D, H.Perm (H' ++ D) := by
 induction h with
 | @nil H => exact ⟨H, by simp⟩
 | all => exact ⟨[], by simp⟩
 | one ho _ ih => obtain ⟨D, hD⟩ := ih; exact ⟨D, ho.perm.trans (hD.cons _)⟩
 | blk ho _ ih => obtain ⟨D, hD⟩ := ih; exact ⟨D, by rw [List.append_assoc]; exact ho.perm.trans (hD.append_left _)⟩
 | lastb ho => exact ⟨_, ho.perm⟩
theorem Holds.pickB {w : World} (h : Holds B σ w) {H' : List (Nat × Obj)} (hp : PickB σ.H H') : Holds B ⟨σ.F, H'⟩ w := by
 obtain ⟨D, hD⟩ := hp.sub
 refine h.perm (fun p hm => hD.symm.mem_iff.1 (List.mem_append_left _ hm)) fun hn => ?_
 have := (hD.map (·.1)).nodup_iff.1 hn
 rw [List.map_append, List.nodup_append] at this
 exact this.1
theorem WC_pickB {c : Code} {Q : Exit → Env → St → Prop} {H' : List (Nat × Obj)} (hp : PickB σ.H H') (h : WC P n B c Q e ⟨σ.F, H'⟩) : WC P n B c Q e σ := Cz (fun _ _ hw => hw.pickB hp) h
theorem WX_orderB {ops : Array Oper} {Q : Exit → Env → St → Prop} {σS : St} {ts : List Nat} {fuel : Nat} {listed : Array Bool} {H' : List (Nat × Obj)} (hp : PickB σ.H H') (h : WX P n B ops Q σS ts fuel listed e ⟨σ.F, H'⟩) : WX P n B ops Q σS ts fuel listed e σ := WX_imp (fun _ hw => hw.pickB hp) h
end
end Go.Proofs.Ytccogmkhijgelaa
namespace Go.Proofs.Ytccogmkhijgelaa
open Go.RowKit
theorem none_le {F F' : Heap} (hF : F.le F') {b : Nat} (h : F' b = none) : F b = none := by
 cases hb : F b with
 | none => rfl
 | some o => have := hF _ _ hb; rw [h] at this; cases this
theorem ext_le {F0 F F' : Heap} (h0 : F0.le F) (hF : F.le F') {b : Nat} (h : F' b = F0 b) : F b = F0 b := by
 cases h2 : F b with
 | some o => rw [← h]; exact (hF _ _ h2).symm
 | none => exact (none_le h0 h2).symm
theorem Holds.weak {B : Base} {F F' : Heap} {H : List (Nat × Obj)} {w : World} (h : Holds B ⟨F', H⟩ w) (hF : F.le F') (h0 : B.F0.le F) : Holds B ⟨F, H⟩ w :=
 ⟨h.os, h.tape, h.output, h.size, h.old, fun b o hb => h.sub b o (hF b o hb), fun p hp => let ⟨h1, h2, h3⟩ := h.own p hp; ⟨h1, none_le hF h2, h3⟩, h.nodup, fun b hb => ext_le h0 hF (h.ext b hb), h0,
   fun D hD => let ⟨h1, h2, h3, h4⟩ := h.marks D hD; ⟨h1, none_le hF h2, h3, h4⟩, h.dnodup⟩
end Go.Proofs.Ytccogmkhijgelaa
namespace Go.Proofs.Ytccogmkhijgelaa
open Go.RowKit
section
variable {P : Program} {n : Nat} {B : Base} {e : Env} {σ : St} {d : Option Nat} {ty : TypeId} {pos : String} {af : Array Edge} {gd : Option (Nat × Bool)}
theorem WL_order {ops : Array Oper} {Q : Exit → Env → St → Prop} {l : List Oper} {H' : List (Nat × Obj)} (hp : Pick σ.H H') (h : WL P n B ops Q l e ⟨σ.F, H'⟩) : WL P n B ops Q l e σ := WL_imp (fun _ hw => hw.pick hp) h
/-- The same where the blocks that one was handed stand among the others. -/
theorem Holds.freezeRM {w : World} (hw : Holds B σ w) {E s k : Nat} {v : Value} {cs : List Value} {R TT : List (Nat × Obj)} {f g : List (Nat × Obj) → List (Nat × Obj)} (hM : ∀ m ∈ B.M, m ∈ keys (f (g []))) (hown : Own E s v k cs R) (hH : Hole σ.H TT f) (hR : Tail TT R g) :
   ∃ F', σ.F.le F' ∧ (∀ p ∈ R, F' p.1 = some p.2) ∧ Holds B ⟨F', f (g [])⟩ w := by
 obtain ⟨A, q1, q2⟩ := hH.eq
 obtain ⟨C, r1, r2⟩ := hR.eq
 rw [q2, r2] at hM ⊢
 simp only [List.nil_append] at hM ⊢
 match R, hown with
 | [], _ =>
   have hs : σ = ⟨σ.F, A ++ C⟩ := by
     cases σ with
     | mk F H => simp only at q1; rw [q1, r1]; simp
   exact ⟨σ.F, Heap.le_refl _, by simp, by rw [← hs]; exact hw⟩
 | [(b, o)], _ =>
   have hi : σ.H[A.length]? = some (b, o) := by rw [q1, r1]; simp
   have hm := hw.own _ (List.mem_of_getElem? hi)
   have hb : B.w0.heap.size ≤ b := by
     rcases hm.2.2 with h1 | h1
     · exact h1
     · have hk := hM _ h1
       have hnd := hw.nodup
       rw [q1, r1] at hnd
       simp only [List.map_append, List.map_cons, List.map_nil] at hnd
       rw [List.nodup_append] at hnd
       obtain ⟨-, n2, n3⟩ := hnd
       have hk' : b ∈ (A ++ C).map (·.1) := hk
       rw [List.map_append] at hk'
       rcases List.mem_append.1 hk' with hk' | hk'
       · exact absurd rfl (n3 _ hk' b (by simp))
       · simp at n2 hk'
         obtain ⟨x, hx⟩ := hk'
         exact absurd hx (n2.1 x)
   have hfz := hw.freeze hi hb
   have herase : σ.H.eraseIdx A.length = A ++ C := by
     rw [q1, r1, List.eraseIdx_append_of_length_le (Nat.le_refl _)]; simp
   rw [herase] at hfz
   exact ⟨_, grown_le hm.2.1, fun p hp => by simp at hp; subst hp; exact grown_here, hfz⟩
theorem WC_freezeRM {c : Code} {Q : Exit → Env → St → Prop} {E s k : Nat} {v : Value} {cs : List Value} {R TT : List (Nat × Obj)} {f g : List (Nat × Obj) → List (Nat × Obj)} (hM : ∀ m ∈ B.M, m ∈ keys (f (g []))) (hown : Own E s v k cs R) (hH : Hole σ.H TT f) (hR : Tail TT R g)
   (h : ∀ F', σ.F.le F' → (∀ p ∈ R, F' p.1 = some p.2) → WC P n B c Q e ⟨F', f (g [])⟩) : WC P n B c Q e σ := fun ds a w ha hw => by
 obtain ⟨F', k1, k2, k3⟩ := hw.freezeRM (B := B.at ds) hM hown hH hR
 exact h F' k1 k2 ds a w ha k3
/-- A key that a map does not have is put into it. -/
theorem x_updateN {M K E i b : Nat} {x y y2 : Operand} {z k v : Value} {es : List (Value × Value)} {H' : List (Nat × Obj)} {Q : Value → St → Prop} (hT : MapT P M K E z) (hx : ev e x = .map (some b)) (hy : ev e y = k) (hy2 : ev e y2 = v) (hi : σ.H[i]? = some (b, mapO es)) (hk : IsK P K k) (hall : ∀ p ∈ es, IsK P K p.1) (hno : ∀ p ∈ es, p.1 ≠ k)
   (hH : SetL σ.H i (b, mapO (es ++ [(k, v)])) H') (hn : Q undef ⟨σ.F, H'⟩) : OpX P n B ⟨d, .mapUpdate M x y y2, ty, pos, af, gd⟩ e σ Q := .run fun w hw => by
 have hb := (hw.own _ (List.mem_of_getElem? hi)).1
 obtain ⟨l, hl⟩ := hk
 have hc := fun em => hT.keyed.check w em hl
 have hf : (Instr.findKey K k (es.zipIdx.map entryO)).run P w = .ok none w := by
   rcases find_map hT.keyed ⟨l, hl⟩ hall w with ⟨h, -⟩ | ⟨j, u, -, h⟩
   · exact h
   · exact absurd rfl (hno _ (List.mem_of_getElem? h))
 have hobj : Obj.map ((es.zipIdx.map entryO).toArray.push ⟨k, v, es.length⟩) (es.length + 1) = mapO (es ++ [(k, v)]) := by
   unfold mapO
   congr 1
   · simp [List.zipIdx_append, entryO]
   · simp
 rw [hH.eq.1] at hn
 refine ⟨_, _, _, .inr ⟨?_, rfl⟩, hw.setObj hi (o' := mapO (es ++ [(k, v)])), hn⟩
 have hg := run_getMap (P := P) hb
 have hs := run_setMap (P := P) (es' := (es ++ [(k, v)])) hb
 simp only [execOp, hx, hy, hy2, Instr.mapUpdate, Sem.run_bind, Cb hT.under, Result.andThen_ok, hg]
 simp only [mapO, hc, Result.andThen_ok, hf, Sem.run_bind]
 rw [hobj, hs]
 simp [mapO]
end
end Go.Proofs.Ytccogmkhijgelaa
namespace Go.Proofs.Ytccogmkhijgelaa
open Go.RowKit
section
variable {P : Program} {n : Nat} {B : Base} {e : Env} {σ : St} {d : Option Nat} {ty : TypeId} {pos : String} {af : Array Edge} {gd : Option (Nat × Bool)}
theorem q_sliceArr {T E s n b : Nat} {x : Operand} (hT : P.underlying T = some (.array n E)) (hE : SizeT P E s) (hx : ev e x = .pointer (some ⟨b, 0, none⟩)) :
   OpR P B ⟨d, .slice T x none none none, ty, pos, af, gd⟩ e σ (.slice (some ⟨b, 0, none⟩) n n) := fun w _ => by
 have hs := Cs (P := P) (T := E) (s := s) hE
 simp [execOp, hx, Instr.sliceAt, Instr.sureAddr, Instr.sliceBounds, Cb hT, hs, Addr.add]
theorem setAt_to : ∀ (vs pre : List Value) (c : List Value), vs.length ≤ c.length → setAt (pre ++ c).toArray pre.length vs = (pre ++ (vs ++ c.drop vs.length)).toArray
 | [], pre, c, _ => by simp [setAt]
 | v :: vs, pre, [], h => by simp at h
 | v :: vs, pre, u :: c, h => by
   unfold setAt
   have : (pre ++ u :: c).toArray.setIfInBounds pre.length v = ((pre ++ [v]) ++ c).toArray := by simp
   rw [this]
   have := setAt_to vs (pre ++ [v]) c (by simpa using h)
   simp only [List.length_append, List.length_singleton] at this
   rw [this]; simp
/-- 'copy(x, y)' of no more than there is room for. -/
theorem x_copyTo {T E s i b m k c TB : Nat} {x y : Operand} {u : Value} {l l' news : List Value} {H' : List (Nat × Obj)} {K : Value → St → Prop} {ts : Array TypeId} (hts : ts[0]? = some T) (hT : SliceT P T E s) (hx : ev e x = .slice (some ⟨b, 0, none⟩) m c) (hy : ev e y = u)
   (hi : σ.H[i]? = some (b, bx TB l)) (hl : l.length = m * s) (hsrc : Src σ u k news s) (hkm : k ≤ m) (hnl : news.length = k * s) (hc : news ++ l.drop news.length = l') (hH : SetL σ.H i (b, bx TB l') H') (hn : K (.int .i64 k) ⟨σ.F, H'⟩) :
   OpX P n B ⟨d, .call ⟨.builtin .copy, #[x, y], ts⟩, ty, pos, af, gd⟩ e σ K := .run fun w hw => by
 subst hc
 have hb := (hw.own _ (List.mem_of_getElem? hi)).1
 have hlen := hsrc.len (P := P) w
 have hcells := hsrc.run (P := P) hw
 obtain ⟨h1, h2, -⟩ := hsrc
 have hle : news.length ≤ l.length := by rw [hnl, hl]; exact Nat.mul_le_mul_right s hkm
 obtain ⟨w', e1, e2, e3, e4, e5, e6, e7⟩ := Eu (P := P) news 0 0 l.toArray w hb (by simp; omega) h2
 have hset := setAt_to news [] l hle
 simp only [List.nil_append, List.length_nil] at hset
 rw [Nat.zero_add, hset] at e6
 have hs := Cs (P := P) (T := E) (s := s) hT.2
 rw [hH.eq.1] at hn
 have hmin : Nat.min k m = k := Nat.min_eq_left hkm
 refine ⟨_, _, _, .inl ?_, hw.write hi e2 e3 e4 e5 e6 e7, hn⟩
 simp only [execOp, resolve, invoke, builtin, Builtin.copy_]
 simp [Cb hT.1, hs, hlen, hcells, hmin, e1, goInt, hts, hx, hy]
end
end Go.Proofs.Ytccogmkhijgelaa
namespace Go.Proofs.Ytccogmkhijgelaa
open Go.RowKit
theorem Ea : ZeroT Try.prog 100 (.agg #[.int .i64 0, .int .i64 0, .int .i64 0, .int .i64 0, .int .i64 0]) := Dc (by kernel_rfl)
theorem B5 : AggT Try.prog 100 5 := aggT_of (by kernel_rfl)
theorem bd_106 : Body Try.prog 106 := Bo (by kernel_rfl)
theorem Ei : SizeT Try.prog 100 5 := C0 (by kernel_rfl)
theorem treeC_copy {l : List Int} (h : l.length ≤ 5) : l.flatMap intE ++ (treeC []).drop (l.flatMap intE).length = treeC l := by
 have e : l.flatMap intE = l.map fun z => .int .i64 z := by
   induction l with
   | nil => rfl
   | cons a l ih => rw [List.flatMap_cons, ih (by simp at h; omega)]; rfl
 rw [e]
 apply List.ext_getElem
 · simp [treeC]; omega
 · intro i h1 h2
   have hi : i < 5 := by simpa [treeC] using h2
   by_cases hl : i < l.length
   · rw [List.getElem_append_left (by simpa using hl)]
     simp [treeC, upN, hl]
   · rw [List.getElem_append_right (by simp; omega)]
     simp [treeC, upN, hl]
theorem Dg {l : List Int} : ∀ u ∈ treeC l, u.oneCell' = true := by
 intro u hu
 obtain ⟨i, -, rfl⟩ := List.mem_map.1 hu
 rfl
theorem trTo_any {s : Stm} {l : List Int} (h0 : (checkT s).2.2 = 0) (hle : l.length = s.editions.length) : trTo s l l.length = if (l.any fun x => !(inB (-1) (l.length - 1) x)) = true then 7 else 0 := by
 unfold trTo; rw [gTo_ok (treeZ_ok h0 hle), List.take_length]; rfl
def EnterR (F : Heap) (u : Value) (Hn : List (Nat × Obj)) (vp ve : Value) (ps : List (Value × Edn)) (s : Stm) (l : List Int) : Prop := ∃ b kb, u = .tuple #[.pointer (some ⟨b, 0, none⟩), treeV l, .int .i64 0] ∧ StmX F b vp ve (.map (some kb)) ps s ∧ Hn = [(kb, mapO [])]
set_option maxRecDepth 100000 in
theorem enter_ok {F : Heap} {vp ve : Value} {ps : List (Value × Edn)} {s : Stm} (hr : StmR F vp ve ps s) {v : Value} {l : List Int} (hl : Ints F v l) (hok : treeErr s l = 0) : OkN Try.prog 68 [.agg #[vp, ve], v].toArray F fun u F' Hn => EnterR F' u Hn vp ve ps s l := by
 have hle0 : F.le F := Heap.le_refl _
 refine OkN.intro Try.func68 rfl Try.ntmps68 rfl fun w0 => ?_
 have hL := hl.plain.lt
 obtain ⟨h0, hle, hin, hT⟩ := treeErr_ok hok
 have hv := C9 h0
 have hne := hv.ne
 have hlen := hr.len
 have hl5 : l.length ≤ 5 := by omega
 have hany : (l.any fun x => !(inB (-1) (l.length - 1) x)) = false := by rw [List.any_eq_false]; intro x hx; obtain ⟨i, hi, rfl⟩ := List.getElem_of_mem hx; rw [Dd hi]; have := hin i hi; simp [inB]; omega
 refine Af <| Ai fun ds => Bk rfl (B1 (Aj rfl) rfl fun b1 hb1 nb1 => ?_)
 refine Aa rfl (Ac Ad) ?_
 refine Bk rfl (Cd Ea rfl fun b2 hb2 nb2 => ?_)
 refine Aa rfl (Ac Ad) ?_
 refine Ah <| Ab <| Af <| Ai fun ds => Aa rfl (A8 Bw (Ar rfl <| Al rfl <| Ae) rfl rfl (A3 1 rfl)) ?_
 refine Bk rfl (Dz bd_65 A1 (.cons (Ae) .nil) (open_ok hr h0) fun v3 F4 R7 hr5 hF6 => ?_)
 replace hr := hr.mono hF6
 replace hl := hl.mono hF6
 replace hle0 := Heap.le_trans hle0 hF6
 obtain ⟨ba, kb, rfl, hX, rfl⟩ := hr5
 refine Aa rfl (Ag (Ae)) ?_
 refine Aa rfl (Ax (Ae) rfl) ?_
 refine Aa rfl (Ax (Al rfl <| Ae) rfl) ?_
 refine Aa rfl (Ac (Al rfl <| Ae)) ?_
 refine Aa rfl (Ac (Al rfl <| Ae)) ?_
 refine Ah <| Ab <| Af <| A0 <| Af <| Ai fun ds => Aa rfl (Ag (Ae)) ?_
 refine Aa rfl (By (Ae) Ad) ?_
 refine Aa rfl (Ac (Ae)) ?_
 refine Ah <| Ab <| Am (Ae) (by decide) ?_
 refine Af <| Ai fun ds => Aa rfl (Ag (A7 rfl <| Az rfl <| Ar rfl <| Aj rfl)) ?_
 refine Aa rfl (Bh Be (Ae) hl.plain) ?_
 refine Aa rfl (Ao Bv (A7 rfl <| Az rfl <| Ar rfl <| Al rfl <| Ae)) ?_
 refine Aa rfl (Ap Bz (Ae) (Cell.own 1 rfl rfl)) ?_
 refine Aa rfl (Bh B7 (Ae) hr.eds.plain) ?_
 refine Aa rfl (By (Ar rfl <| Al rfl <| Ae) (Ae)) ?_
 refine Aa rfl (Ac (Ae)) ?_
 refine Ah <| Ab <| Am (Ae) (decide_eq_false (by omega)) ?_
 refine Af <| Ai fun ds => Aa rfl (Ag (A5 rfl <| Az rfl <| Al rfl <| Aj rfl)) ?_
 refine Aa rfl (Bh Be (Ae) hl.plain) ?_
 refine Aa rfl (Ew (Ae) Ad rfl (by omega) (by omega)) ?_
 refine Aa rfl (Ag (A5 rfl <| A7 rfl <| Aj rfl)) ?_
 refine B0 rfl (Bj Ec A1 (.cons Ad (.cons (Al rfl <| Ae) (.cons (Ae) .nil))) (Ci _ _ hl) (fun _ _ h => h)) ?_
 refine Aa rfl (Ac (Ae)) ?_
 refine Ah <| Ab <| Am (Ae) hany ?_
 refine Au <| Bb <| Ab <| Af <| Ai fun ds => Aa rfl (q_sliceArr (s := 1) Try.underlying100 (C0 (by kernel_rfl)) (A5 rfl <| A7 rfl <| Ae)) ?_
 refine Aa rfl (Ag (A5 rfl <| A7 rfl <| Az rfl <| Aj rfl)) ?_
 refine Bk rfl (x_copyTo (s := 1) rfl Be (Al rfl <| Ae) (Ae) (i := 0) rfl rfl hl.srcInt (by omega) (by rw [Ey (enc := intE) (s := 1) (fun _ => rfl)]) (treeC_copy hl5) (.here) ?_)
 refine Ah <| Ab <| Af <| Af <| Ai fun ds => Aa rfl (Ag (A5 rfl <| Az rfl <| Ae)) ?_
 refine Aa rfl (A8 B5 (A5 rfl <| A7 rfl <| Az rfl <| Ae) rfl rfl (A3 0 rfl)) ?_
 refine B0 rfl (Bj bd_106 A1 (.cons (Al rfl <| Ae) (.cons (Ae) .nil)) (whole_ok hX hin hle hv) (fun _ _ h => h)) ?_
 refine Aa rfl (Cm (Ae)) ?_
 refine Ah <| Ab <| Am (Ae) (by rw [hT]; rfl) ?_
 refine Au <| Ab <| Af ?_
 have hleS := hle0
 refine Cu (.inl rfl) (fun _ _ h => h) (.cons_cons _ <| .cons_cons _ <| .cons_cons _ <| .refl _) [] (by kernel_rfl) fun ds => ?_
 refine A2 0 rfl (by kernel_rfl) (by kernel_rfl) (by kernel_rfl) (by kernel_rfl) rfl rfl (fun _ h => h.drop (.cons_cons _ <| .cons_cons _ <| .cons_cons _ <| .refl _)) (fun _ _ _ h => h) (Ag (A5 rfl <| A7 rfl <| Ae)) ?_
 refine A2 1 rfl (by kernel_rfl) (by kernel_rfl) (by kernel_rfl) (by kernel_rfl) rfl rfl (fun _ h => h.drop (.cons_cons _ <| .cons_cons _ <| .cons_cons _ <| .refl _)) (fun _ _ _ h => h) (A8 B5 (Bq rfl <| Ae) rfl rfl (A3 0 rfl)) ?_
 refine A2 2 rfl (by kernel_rfl) (by kernel_rfl) (by kernel_rfl) (by kernel_rfl) rfl rfl (fun _ h => h.drop (.cons_cons _ <| .cons_cons _ <| .cons_cons _ <| .refl _)) (fun _ _ _ h => h) (Ac (Al rfl <| Ae)) ?_
 refine WX_x0 3 rfl (by kernel_rfl) (Ch Ei (Bq rfl <| Ar rfl <| Ae) (Al rfl <| Ae) (i := 0) rfl rfl rfl rfl Dg (.here) ⟨fun _ _ => (fun _ h => h.drop (.cons_cons _ <| .cons_cons _ <| .cons_cons _ <| .refl _)), ?_⟩)
 refine A2 4 rfl (by kernel_rfl) (by kernel_rfl) (by kernel_rfl) (by kernel_rfl) rfl rfl (fun _ h => h.drop (.cons_cons _ <| .cons_cons _ <| .cons_cons _ <| .refl _)) (fun _ _ _ h => h) (Ac Ad) ?_
 refine Cr (by kernel_rfl) ?_ _
 refine Ab <| A4 <| Ep rfl (.tmp (Al rfl <| Ae) (.agg B5 (Bq rfl <| Ar rfl <| Al rfl <| Ae) rfl rfl (A3 0 rfl) (.tmp (Ae) .nil))) (.cons _ <| .cons _ <| .refl _) ?_
 exact ⟨_, _, rfl, hX, rfl⟩
theorem tr_bad {s : Stm} {l : List Int} (h : (checkT s).2.2 ≠ 0) : treeErr s l = (checkT s).2.2 := by
 have e : trTo s l 0 = (checkT s).2.2 := (gTo_zero).trans (treeZ_bad h)
 rw [treeErr_stop (k := 0) (by rw [e]; exact h), e]
theorem tr_len {s : Stm} {l : List Int} (h : (checkT s).2.2 = 0) (h2 : l.length ≠ s.editions.length) : treeErr s l = 3 := by
 have e : trTo s l 0 = 3 := (gTo_zero).trans (treeZ_len h h2)
 rw [treeErr_stop (k := 0) (by rw [e]; decide), e]
theorem tr_out {s : Stm} {l : List Int} (h : (checkT s).2.2 = 0) (h2 : l.length = s.editions.length) (h3 : (l.any fun x => !(inB (-1) (l.length - 1) x)) = true) : treeErr s l = 7 := by
 have e := trTo_any h h2
 rw [if_pos h3] at e
 rw [treeErr_stop (by rw [e]; decide), e]
theorem tr_in {s : Stm} {l : List Int} (h : (checkT s).2.2 = 0) (h2 : l.length = s.editions.length) (h3 : (l.any fun x => !(inB (-1) (l.length - 1) x)) = false) : trTo s l l.length = 0 := by
 rw [trTo_any h h2, if_neg (by rw [h3]; simp)]
set_option maxRecDepth 100000 in
theorem enter_bad {F : Heap} {vp ve : Value} {ps : List (Value × Edn)} {s : Stm} (hr : StmR F vp ve ps s) {v : Value} {l : List Int} (hl : Ints F v l) (hbad : treeErr s l ≠ 0) : Ok Try.prog 68 [.agg #[vp, ve], v].toArray F fun u _ => ∃ l2, u = .tuple #[.pointer none, treeV l2, .int .i64 (treeErr s l)] := by
 have hle0 : F.le F := Heap.le_refl _
 refine Ok.intro Try.func68 rfl Try.ntmps68 rfl fun w0 => ?_
 have hL := hl.plain.lt
 have hlen := hr.len
 by_cases h0 : (checkT s).2.2 = 0
 ·
  have hv := C9 h0
  have hne := hv.ne
  refine Af <| Ai fun ds => Bk rfl (B1 (Aj rfl) rfl fun b1 hb1 nb1 => ?_)
  refine Aa rfl (Ac Ad) ?_
  refine Bk rfl (Cd Ea rfl fun b2 hb2 nb2 => ?_)
  refine Aa rfl (Ac Ad) ?_
  refine Ah <| Ab <| Af <| Ai fun ds => Aa rfl (A8 Bw (Ar rfl <| Al rfl <| Ae) rfl rfl (A3 1 rfl)) ?_
  refine Bk rfl (Dz bd_65 A1 (.cons (Ae) .nil) (open_ok hr h0) fun v3 F4 R7 hr5 hF6 => ?_)
  replace hr := hr.mono hF6
  replace hl := hl.mono hF6
  replace hle0 := Heap.le_trans hle0 hF6
  obtain ⟨ba, kb, rfl, hX, rfl⟩ := hr5
  refine Aa rfl (Ag (Ae)) ?_
  refine Aa rfl (Ax (Ae) rfl) ?_
  refine Aa rfl (Ax (Al rfl <| Ae) rfl) ?_
  refine Aa rfl (Ac (Al rfl <| Ae)) ?_
  refine Aa rfl (Ac (Al rfl <| Ae)) ?_
  refine Ah <| Ab <| Af <| A0 <| Af <| Ai fun ds => Aa rfl (Ag (Ae)) ?_
  refine Aa rfl (By (Ae) Ad) ?_
  refine Aa rfl (Ac (Ae)) ?_
  refine Ah <| Ab <| Am (Ae) (by decide) ?_
  by_cases hle : l.length = s.editions.length
  ·
   have hl5 : l.length ≤ 5 := by omega
   refine Af <| Ai fun ds => Aa rfl (Ag (A7 rfl <| Az rfl <| Ar rfl <| Aj rfl)) ?_
   refine Aa rfl (Bh Be (Ae) hl.plain) ?_
   refine Aa rfl (Ao Bv (A7 rfl <| Az rfl <| Ar rfl <| Al rfl <| Ae)) ?_
   refine Aa rfl (Ap Bz (Ae) (Cell.own 1 rfl rfl)) ?_
   refine Aa rfl (Bh B7 (Ae) hr.eds.plain) ?_
   refine Aa rfl (By (Ar rfl <| Al rfl <| Ae) (Ae)) ?_
   refine Aa rfl (Ac (Ae)) ?_
   refine Ah <| Ab <| Am (Ae) (decide_eq_false (by omega)) ?_
   by_cases hany : (l.any fun x => !(inB (-1) (l.length - 1) x)) = true
   ·
    refine Af <| Ai fun ds => Aa rfl (Ag (A5 rfl <| Az rfl <| Al rfl <| Aj rfl)) ?_
    refine Aa rfl (Bh Be (Ae) hl.plain) ?_
    refine Aa rfl (Ew (Ae) Ad rfl (by omega) (by omega)) ?_
    refine Aa rfl (Ag (A5 rfl <| A7 rfl <| Aj rfl)) ?_
    refine B0 rfl (Bj Ec A1 (.cons Ad (.cons (Al rfl <| Ae) (.cons (Ae) .nil))) (Ci _ _ hl) (fun _ _ h => h)) ?_
    refine Aa rfl (Ac (Ae)) ?_
    refine Ah <| Ab <| Aq (Ae) hany ?_
    refine Af ?_
    have hleS := hle0
    refine Cu (.inl rfl) (fun _ _ h => h) (.cons_cons _ <| .cons_cons _ <| .cons_cons _ <| .refl _) [] (by kernel_rfl) fun ds => ?_
    refine A2 0 rfl (by kernel_rfl) (by kernel_rfl) (by kernel_rfl) (by kernel_rfl) rfl rfl (fun _ h => h.drop (.cons_cons _ <| .cons_cons _ <| .cons_cons _ <| .refl _)) (fun _ _ _ h => h) (A8 B5 (A5 rfl <| A7 rfl <| Ae) rfl rfl (A3 0 rfl)) ?_
    refine A2 1 rfl (by kernel_rfl) (by kernel_rfl) (by kernel_rfl) (by kernel_rfl) rfl rfl (fun _ h => h.drop (.cons_cons _ <| .cons_cons _ <| .cons_cons _ <| .refl _)) (fun _ _ _ h => h) (Ac Ad) ?_
    refine WX_x0 2 rfl (by kernel_rfl) (Ch Ei (A5 rfl <| A7 rfl <| Ar rfl <| Ae) (Al rfl <| Ae) (i := 0) rfl rfl rfl rfl (by simp [Value.oneCell']) (.here) ⟨fun _ _ => (fun _ h => h.drop (.cons_cons _ <| .cons_cons _ <| .cons_cons _ <| .refl _)), ?_⟩)
    refine A2 3 rfl (by kernel_rfl) (by kernel_rfl) (by kernel_rfl) (by kernel_rfl) rfl rfl (fun _ h => h.drop (.cons_cons _ <| .cons_cons _ <| .cons_cons _ <| .refl _)) (fun _ _ _ h => h) (Ac Ad) ?_
    refine Cr (by kernel_rfl) ?_ _
    refine Ab <| A4 <| Bm (Bc ?_)
    refine Ay rfl (.tmp (Al rfl <| Ae) (.agg B5 (A5 rfl <| A7 rfl <| Ar rfl <| Al rfl <| Ae) rfl rfl (A3 0 rfl) (.tmp (Ae) .nil))) ?_
    rw [tr_out h0 hle hany]
    exact ⟨[], rfl⟩
   ·
    replace hany : (l.any fun x => !(inB (-1) (l.length - 1) x)) = false := by simpa using hany
    have hi0 := tr_in h0 hle hany
    obtain ⟨-, -, hin⟩ := trTo_in hi0
    refine Af <| Ai fun ds => Aa rfl (Ag (A5 rfl <| Az rfl <| Al rfl <| Aj rfl)) ?_
    refine Aa rfl (Bh Be (Ae) hl.plain) ?_
    refine Aa rfl (Ew (Ae) Ad rfl (by omega) (by omega)) ?_
    refine Aa rfl (Ag (A5 rfl <| A7 rfl <| Aj rfl)) ?_
    refine B0 rfl (Bj Ec A1 (.cons Ad (.cons (Al rfl <| Ae) (.cons (Ae) .nil))) (Ci _ _ hl) (fun _ _ h => h)) ?_
    refine Aa rfl (Ac (Ae)) ?_
    refine Ah <| Ab <| Am (Ae) hany ?_
    have hT : isT l = false := by cases hq : isT l with | true => exact absurd (by rw [treeErr_in hi0, hq]; rfl) hbad | false => rfl
    refine Au <| Bb <| Ab <| Af <| Ai fun ds => Aa rfl (q_sliceArr (s := 1) Try.underlying100 (C0 (by kernel_rfl)) (A5 rfl <| A7 rfl <| Ae)) ?_
    refine Aa rfl (Ag (A5 rfl <| A7 rfl <| Az rfl <| Aj rfl)) ?_
    refine Bk rfl (x_copyTo (s := 1) rfl Be (Al rfl <| Ae) (Ae) (i := 0) rfl rfl hl.srcInt (by omega) (by rw [Ey (enc := intE) (s := 1) (fun _ => rfl)]) (treeC_copy hl5) (.here) ?_)
    refine Ah <| Ab <| Af <| Af <| Ai fun ds => Aa rfl (Ag (A5 rfl <| Az rfl <| Ae)) ?_
    refine Aa rfl (A8 B5 (A5 rfl <| A7 rfl <| Az rfl <| Ae) rfl rfl (A3 0 rfl)) ?_
    refine B0 rfl (Bj bd_106 A1 (.cons (Al rfl <| Ae) (.cons (Ae) .nil)) (whole_ok hX hin hle hv) (fun _ _ h => h)) ?_
    refine Aa rfl (Cm (Ae)) ?_
    refine Ah <| Ab <| Aq (Ae) (by rw [hT]; rfl) ?_
    refine Af ?_
    have hleS := hle0
    refine Cu (.inl rfl) (fun _ _ h => h) (.cons_cons _ <| .cons_cons _ <| .cons_cons _ <| .refl _) [] (by kernel_rfl) fun ds => ?_
    refine A2 0 rfl (by kernel_rfl) (by kernel_rfl) (by kernel_rfl) (by kernel_rfl) rfl rfl (fun _ h => h.drop (.cons_cons _ <| .cons_cons _ <| .cons_cons _ <| .refl _)) (fun _ _ _ h => h) (A8 B5 (A5 rfl <| A7 rfl <| Az rfl <| Ar rfl <| Al rfl <| Ae) rfl rfl (A3 0 rfl)) ?_
    refine A2 1 rfl (by kernel_rfl) (by kernel_rfl) (by kernel_rfl) (by kernel_rfl) rfl rfl (fun _ h => h.drop (.cons_cons _ <| .cons_cons _ <| .cons_cons _ <| .refl _)) (fun _ _ _ h => h) (Ac Ad) ?_
    refine WX_x0 2 rfl (by kernel_rfl) (Ch Ei (Bq rfl <| Al rfl <| Ae) (Al rfl <| Ae) (i := 0) rfl rfl rfl rfl Dg (.here) ⟨fun _ _ => (fun _ h => h.drop (.cons_cons _ <| .cons_cons _ <| .cons_cons _ <| .refl _)), ?_⟩)
    refine A2 3 rfl (by kernel_rfl) (by kernel_rfl) (by kernel_rfl) (by kernel_rfl) rfl rfl (fun _ h => h.drop (.cons_cons _ <| .cons_cons _ <| .cons_cons _ <| .refl _)) (fun _ _ _ h => h) (Ac Ad) ?_
    refine Cr (by kernel_rfl) ?_ _
    refine Ab <| A4 <| Bc ?_
    refine Ay rfl (.tmp (Al rfl <| Ae) (.agg B5 (Bq rfl <| Ar rfl <| Ae) rfl rfl (A3 0 rfl) (.tmp (Ae) .nil))) ?_
    rw [show treeErr s l = 2 by rw [treeErr_in hi0, hT]; rfl]
    exact ⟨l, rfl⟩
  ·
   refine Af <| Ai fun ds => Aa rfl (Ag (A7 rfl <| Az rfl <| Ar rfl <| Aj rfl)) ?_
   refine Aa rfl (Bh Be (Ae) hl.plain) ?_
   refine Aa rfl (Ao Bv (A7 rfl <| Az rfl <| Ar rfl <| Al rfl <| Ae)) ?_
   refine Aa rfl (Ap Bz (Ae) (Cell.own 1 rfl rfl)) ?_
   refine Aa rfl (Bh B7 (Ae) hr.eds.plain) ?_
   refine Aa rfl (By (Ar rfl <| Al rfl <| Ae) (Ae)) ?_
   refine Aa rfl (Ac (Ae)) ?_
   refine Ah <| Ab <| Aq (Ae) (decide_eq_true (by omega)) ?_
   refine Af ?_
   have hleS := hle0
   refine Cu (.inl rfl) (fun _ _ h => h) (.cons_cons _ <| .cons_cons _ <| .cons_cons _ <| .refl _) [] (by kernel_rfl) fun ds => ?_
   refine A2 0 rfl (by kernel_rfl) (by kernel_rfl) (by kernel_rfl) (by kernel_rfl) rfl rfl (fun _ h => h.drop (.cons_cons _ <| .cons_cons _ <| .cons_cons _ <| .refl _)) (fun _ _ _ h => h) (A8 B5 (A5 rfl <| Ar rfl <| Ae) rfl rfl (A3 0 rfl)) ?_
   refine A2 1 rfl (by kernel_rfl) (by kernel_rfl) (by kernel_rfl) (by kernel_rfl) rfl rfl (fun _ h => h.drop (.cons_cons _ <| .cons_cons _ <| .cons_cons _ <| .refl _)) (fun _ _ _ h => h) (Ac Ad) ?_
   refine WX_x0 2 rfl (by kernel_rfl) (Ch Ei (A5 rfl <| Az rfl <| Ae) (Al rfl <| Ae) (i := 0) rfl rfl rfl rfl (by simp [Value.oneCell']) (.here) ⟨fun _ _ => (fun _ h => h.drop (.cons_cons _ <| .cons_cons _ <| .cons_cons _ <| .refl _)), ?_⟩)
   refine A2 3 rfl (by kernel_rfl) (by kernel_rfl) (by kernel_rfl) (by kernel_rfl) rfl rfl (fun _ h => h.drop (.cons_cons _ <| .cons_cons _ <| .cons_cons _ <| .refl _)) (fun _ _ _ h => h) (Ac Ad) ?_
   refine Cr (by kernel_rfl) ?_ _
   refine Ab <| A4 <| Bm (Bc ?_)
   refine Ay rfl (.tmp (Al rfl <| Ae) (.agg B5 (A5 rfl <| Az rfl <| Al rfl <| Ae) rfl rfl (A3 0 rfl) (.tmp (Ae) .nil))) ?_
   rw [tr_len h0 hle]
   exact ⟨[], rfl⟩
 ·
  refine Af <| Ai fun ds => Bk rfl (B1 (Aj rfl) rfl fun b8 hb8 nb8 => ?_)
  refine Aa rfl (Ac Ad) ?_
  refine Bk rfl (Cd Ea rfl fun b9 hb9 nb9 => ?_)
  refine Aa rfl (Ac Ad) ?_
  refine Ah <| Ab <| Af <| Ai fun ds => Aa rfl (A8 Bw (Ar rfl <| Al rfl <| Ae) rfl rfl (A3 1 rfl)) ?_
  refine B0 rfl (Bj bd_65 A1 (.cons (Ae) .nil) (open_bad hr h0) (fun _ _ h => h)) ?_
  refine Aa rfl (Ag (Ae)) ?_
  refine Aa rfl (Ax (Ae) rfl) ?_
  refine Aa rfl (Ax (Al rfl <| Ae) rfl) ?_
  refine Aa rfl (Ac (Al rfl <| Ae)) ?_
  refine Aa rfl (Ac (Al rfl <| Ae)) ?_
  refine Ah <| Ab <| Af <| A0 <| Af <| Ai fun ds => Aa rfl (Ag (Ae)) ?_
  refine Aa rfl (By (Ae) Ad) ?_
  refine Aa rfl (Ac (Ae)) ?_
  refine Ah <| Ab <| Aq (Ae) (decide_eq_true h0) ?_
  refine Af ?_
  have hleS := hle0
  refine Cu (.inl rfl) (fun _ _ h => h) (.cons_cons _ <| .cons_cons _ <| .refl _) [] (by kernel_rfl) fun ds => ?_
  refine A2 0 rfl (by kernel_rfl) (by kernel_rfl) (by kernel_rfl) (by kernel_rfl) rfl rfl (fun _ h => h.drop (.cons_cons _ <| .cons_cons _ <| .refl _)) (fun _ _ _ h => h) (A8 B5 (A7 rfl <| Ar rfl <| Al rfl <| Ae) rfl rfl (A3 0 rfl)) ?_
  refine A2 1 rfl (by kernel_rfl) (by kernel_rfl) (by kernel_rfl) (by kernel_rfl) rfl rfl (fun _ h => h.drop (.cons_cons _ <| .cons_cons _ <| .refl _)) (fun _ _ _ h => h) (Ag (Az rfl <| Ae)) ?_
  refine A2 2 rfl (by kernel_rfl) (by kernel_rfl) (by kernel_rfl) (by kernel_rfl) rfl rfl (fun _ h => h.drop (.cons_cons _ <| .cons_cons _ <| .refl _)) (fun _ _ _ h => h) (Ac Ad) ?_
  refine WX_x0 3 rfl (by kernel_rfl) (Ch Ei (A7 rfl <| Az rfl <| Ar rfl <| Ae) (Ar rfl <| Ae) (i := 0) rfl rfl rfl rfl (by simp [Value.oneCell']) (.here) ⟨fun _ _ => (fun _ h => h.drop (.cons_cons _ <| .cons_cons _ <| .refl _)), ?_⟩)
  refine A2 4 rfl (by kernel_rfl) (by kernel_rfl) (by kernel_rfl) (by kernel_rfl) rfl rfl (fun _ h => h.drop (.cons_cons _ <| .cons_cons _ <| .refl _)) (fun _ _ _ h => h) (Ac (Al rfl <| Ae)) ?_
  refine Cr (by kernel_rfl) ?_ _
  refine Ab <| A4 <| Bm (Bc ?_)
  refine Ay rfl (.tmp (Al rfl <| Ae) (.agg B5 (A7 rfl <| Az rfl <| Ar rfl <| Al rfl <| Ae) rfl rfl (A3 0 rfl) (.tmp (Ae) .nil))) ?_
  rw [tr_bad h0]
  exact ⟨[], rfl⟩
end Go.Proofs.Ytccogmkhijgelaa
namespace Go.Proofs.Ytccogmkhijgelaa
open Go.RowKit
theorem stoodSp : Try.prog.stoodInHeld 60 = false := by kernel_rfl
theorem guardSp : Try.prog.eqGuardType Try.prog.depth 60 = false := by kernel_rfl
theorem oneSp : OneT Try.prog 3 := D7 (by kernel_rfl)
set_option maxRecDepth 100000 in
theorem Ej {F : Heap} {v u : Value} {xs ys : List Int} (hx : Sl F v 1 intE xs) (hy : Sl F u 1 intE ys) : Ok Try.prog 20 [v, u].toArray F fun r _ => r = .bool (decide (xs = ys)) := by
 refine Ok.intro Try.func20 rfl Try.ntmps20 rfl fun w0 => ?_
 have hlen := hx.plain.lt
 have hlen2 := hy.plain.lt
 refine Af <| Ai fun ds => Aa rfl (Ac Ad) ?_
 refine Ah <| Ab <| Af <| Ai fun ds => Aa rfl (Ag (Al rfl <| Aj rfl)) ?_
 refine Aa rfl (Bh Be (Ae) hx.plain) ?_
 refine Aa rfl (Ag (Ar rfl <| Al rfl <| Aj rfl)) ?_
 refine Aa rfl (Bh Be (Ae) hy.plain) ?_
 refine Aa rfl (Bx (Ar rfl <| Ae) (Ae)) ?_
 refine Aa rfl (Ac (Ae)) ?_
 refine Ah <| Ab <| Af <| Af <| Ai fun ds => Aa rfl (Ac Ad) ?_
 refine Ah <| Ab <| A0 <| Bs [5, 6, 12, 13, 14, 15, 16, 17, 18, 19, 20, 21, 22, 23, 24, 25, 26, 27, 28, 29] (fun m e σ => ∃ (k : Nat) (ok : Bool), m + k = xs.length + 1 ∧ e 6 = .int .i64 k ∧ e 5 = .bool ok ∧ σ = ⟨F, []⟩ ∧ (ok = true → k ≤ xs.length ∧ xs.length = ys.length ∧ xs.take k = ys.take k) ∧ (ok = false → xs ≠ ys)) (xs.length + 1) ?_ ?_
 · refine ⟨0, _, by omega, (Ae), (Al rfl <| Ae), rfl, fun h => ⟨by omega, by have := of_decide_eq_true h; omega, rfl⟩, fun h he => ?_⟩; subst he; exact absurd rfl (of_decide_eq_false h)
 ·
  rintro m e _ ⟨k, ok, hm, hs6, hs5, rfl, hT, hF⟩
  cases ok
  ·
   refine Af <| Af <| Ai fun ds => Aa rfl (Ag (As rfl hs5)) ?_
   refine Aa rfl (Ag (Ae)) ?_
   refine Aw rfl rfl (Ae) (.inl (congrArg Value.bool rfl)) rfl ?_
   refine Aw rfl rfl (Al rfl <| Ae) (.inl (congrArg Value.bool rfl)) rfl ?_
   refine Aw rfl rfl (Ar rfl <| Ae) (.inl (congrArg Value.bool rfl)) rfl ?_
   refine Aw rfl rfl (Ar rfl <| Al rfl <| Ae) (.inl (congrArg Value.bool rfl)) rfl ?_
   refine Aa rfl (Bg (Az rfl <| Ae) rfl Ad) ?_
   refine Ah <| Ab <| Am (Ae) rfl ?_
   refine Bn ?_
   refine Bd <| Bd <| Bf <| Ab <| Af <| Ai fun ds => Aa rfl (Ag (Az rfl <| Ar rfl <| Al rfl <| As rfl hs5)) ?_
   refine Aa rfl (Ac (Ae)) ?_
   refine Ah <| Ab <| A4 <| Ay rfl (.tmp (Ae) .nil) ?_
   show _ = _
   rw [decide_eq_false (hF rfl)]; rfl
  ·
   obtain ⟨hk, hll, htk⟩ := hT rfl
   refine Af <| Af <| Ai fun ds => Aa rfl (Ag (As rfl hs5)) ?_
   refine Aa rfl (Ag (Ae)) ?_
   refine At rfl rfl (Ae) rfl ?_
   refine Aa rfl (Ag (Ar rfl <| As rfl hs6)) ?_
   refine At rfl rfl (Al rfl <| Ae) rfl ?_
   refine Aa rfl (Ag (Ar rfl <| Al rfl <| Ak rfl <| A7 rfl <| Aj rfl)) ?_
   refine At rfl rfl (Ar rfl <| Ae) rfl ?_
   refine Aa rfl (Bh Be (Ae) hx.plain) ?_
   refine At rfl rfl (Ar rfl <| Al rfl <| Ae) rfl ?_
   refine Aa rfl (Br (Ar rfl <| Ae) (Ae)) ?_
   refine Aa rfl (A6 (Az rfl <| Ae) rfl (Ae)) ?_
   refine Ah <| Ab ?_
   by_cases hlt : k < xs.length
   ·
    refine Aq (Ae) (by first | rfl | exact decide_eq_true (by omega)) ?_
    refine Au <| Ab <| Af <| A0 <| Cp (.inl rfl) (fun _ _ h => h) (by kernel_rfl) (by kernel_rfl) fun ds => ?_
    refine Bi rfl (Ag (Az rfl <| Ar rfl <| Al rfl <| Ak rfl <| A7 rfl <| Aj rfl)) ?_
    refine Bi rfl (Ag (A7 rfl <| As rfl hs6)) ?_
    refine Bi rfl (A9  Be (Al rfl <| Ae) hx.plain (Ae) rfl hlt) ?_
    refine Bi rfl (Ap Bl (Ae) (hx.cell1 hlt rfl)) ?_
    refine Bi rfl (Ag (A7 rfl <| Ar rfl <| Al rfl <| Ak rfl <| A7 rfl <| Aj rfl)) ?_
    refine Bi rfl (Ag (A7 rfl <| Az rfl <| As rfl hs6)) ?_
    refine Bi rfl (A9  Be (Al rfl <| Ae) hy.plain (Ae) rfl (by omega)) ?_
    refine Bi rfl (Ap Bl (Ae) (hy.cell1 (by omega) rfl)) ?_
    refine Bi rfl (Bx (Az rfl <| Ae) (Ae)) ?_
    refine Bi rfl (Ac (Ae)) ?_
    refine C3 ?_
    refine Bb <| Ab <| Ai fun ds => Aa rfl (Ag (A5 rfl <| Al rfl <| As rfl hs6)) ?_
    refine Aa rfl (Bp (Ae) Ad rfl (by omega) (by omega)) ?_
    refine Aa rfl (Ac (Ae)) ?_
    refine Ah <| Ab ⟨_, m - 1, Off.eq (Cq rfl <| Dy rfl <| Ba), by omega, ?_⟩
    have hlt2 : k < ys.length := by omega
    refine ⟨k + 1, _, by omega, (Ae), (Ar rfl <| Al rfl <| Ae), rfl, fun h => ⟨by omega, hll, take_succ_eq hlt hlt2 htk (of_decide_eq_true h)⟩, fun h => ne_at hlt hlt2 (of_decide_eq_false h)⟩
   ·
    refine Am (Ae) (by first | rfl | exact decide_eq_false (by omega)) ?_
    refine Bn ?_
    refine Bd <| Bd <| Bf <| Ab <| Af <| Ai fun ds => Aa rfl (Ag (Az rfl <| Ar rfl <| Al rfl <| As rfl hs5)) ?_
    refine Aa rfl (Ac (Ae)) ?_
    refine Ah <| Ab <| A4 <| Ay rfl (.tmp (Ae) .nil) ?_
    show _ = _
    obtain rfl : k = xs.length := by omega
    rw [decide_eq_true (eq_of_take hll htk)]; rfl
set_option maxRecDepth 100000 in
theorem refSpans_ok {F : Heap} {v u : Value} {xs ys : List (Int × Int)} (hx : Sl F v 2 spanE xs) (hy : Sl F u 2 spanE ys) : Ok Try.prog 25 [v, u].toArray F fun r _ => r = .bool (decide (xs = ys)) := by
 refine Ok.intro Try.func25 rfl Try.ntmps25 rfl fun w0 => ?_
 have hlen := hx.plain.lt
 have hlen2 := hy.plain.lt
 refine Af <| Ai fun ds => Aa rfl (Ac Ad) ?_
 refine Ah <| Ab <| Af <| Ai fun ds => Aa rfl (Ag (Al rfl <| Aj rfl)) ?_
 refine Aa rfl (Bh Et (Ae) hx.plain) ?_
 refine Aa rfl (Ag (Ar rfl <| Al rfl <| Aj rfl)) ?_
 refine Aa rfl (Bh Et (Ae) hy.plain) ?_
 refine Aa rfl (Bx (Ar rfl <| Ae) (Ae)) ?_
 refine Aa rfl (Ac (Ae)) ?_
 refine Ah <| Ab <| Af <| Af <| Ai fun ds => Aa rfl (Ac Ad) ?_
 refine Ah <| Ab <| A0 <| Bs [5, 6, 12, 13, 14, 15, 16, 17, 18, 19, 20, 21, 22, 23, 24, 25, 26, 27, 28, 29] (fun m e σ => ∃ (k : Nat) (ok : Bool), m + k = xs.length + 1 ∧ e 6 = .int .i64 k ∧ e 5 = .bool ok ∧ σ = ⟨F, []⟩ ∧ (ok = true → k ≤ xs.length ∧ xs.length = ys.length ∧ xs.take k = ys.take k) ∧ (ok = false → xs ≠ ys)) (xs.length + 1) ?_ ?_
 · refine ⟨0, _, by omega, (Ae), (Al rfl <| Ae), rfl, fun h => ⟨by omega, by have := of_decide_eq_true h; omega, rfl⟩, fun h he => ?_⟩; subst he; exact absurd rfl (of_decide_eq_false h)
 ·
  rintro m e _ ⟨k, ok, hm, hs6, hs5, rfl, hT, hF⟩
  cases ok
  ·
   refine Af <| Af <| Ai fun ds => Aa rfl (Ag (As rfl hs5)) ?_
   refine Aa rfl (Ag (Ae)) ?_
   refine Aw rfl rfl (Ae) (.inl (congrArg Value.bool rfl)) rfl ?_
   refine Aw rfl rfl (Al rfl <| Ae) (.inl (congrArg Value.bool rfl)) rfl ?_
   refine Aw rfl rfl (Ar rfl <| Ae) (.inl (congrArg Value.bool rfl)) rfl ?_
   refine Aw rfl rfl (Ar rfl <| Al rfl <| Ae) (.inl (congrArg Value.bool rfl)) rfl ?_
   refine Aa rfl (Bg (Az rfl <| Ae) rfl Ad) ?_
   refine Ah <| Ab <| Am (Ae) rfl ?_
   refine Bn ?_
   refine Bd <| Bd <| Bf <| Ab <| Af <| Ai fun ds => Aa rfl (Ag (Az rfl <| Ar rfl <| Al rfl <| As rfl hs5)) ?_
   refine Aa rfl (Ac (Ae)) ?_
   refine Ah <| Ab <| A4 <| Ay rfl (.tmp (Ae) .nil) ?_
   show _ = _
   rw [decide_eq_false (hF rfl)]; rfl
  ·
   obtain ⟨hk, hll, htk⟩ := hT rfl
   refine Af <| Af <| Ai fun ds => Aa rfl (Ag (As rfl hs5)) ?_
   refine Aa rfl (Ag (Ae)) ?_
   refine At rfl rfl (Ae) rfl ?_
   refine Aa rfl (Ag (Ar rfl <| As rfl hs6)) ?_
   refine At rfl rfl (Al rfl <| Ae) rfl ?_
   refine Aa rfl (Ag (Ar rfl <| Al rfl <| Ak rfl <| A7 rfl <| Aj rfl)) ?_
   refine At rfl rfl (Ar rfl <| Ae) rfl ?_
   refine Aa rfl (Bh Et (Ae) hx.plain) ?_
   refine At rfl rfl (Ar rfl <| Al rfl <| Ae) rfl ?_
   refine Aa rfl (Br (Ar rfl <| Ae) (Ae)) ?_
   refine Aa rfl (A6 (Az rfl <| Ae) rfl (Ae)) ?_
   refine Ah <| Ab ?_
   by_cases hlt : k < xs.length
   ·
    refine Aq (Ae) (by first | rfl | exact decide_eq_true (by omega)) ?_
    refine Au <| Ab <| Af <| A0 <| Cp (.inl rfl) (fun _ _ h => h) (by kernel_rfl) (by kernel_rfl) fun ds => ?_
    refine Bi rfl (Ag (Az rfl <| Ar rfl <| Al rfl <| Ak rfl <| A7 rfl <| Aj rfl)) ?_
    refine Bi rfl (Ag (A7 rfl <| As rfl hs6)) ?_
    refine Bi rfl (A9  Et (Al rfl <| Ae) hx.plain (Ae) rfl hlt) ?_
    refine Bi rfl (A8 agg_60 (Ae) rfl rfl (hx.whole hlt)) ?_
    refine Bi rfl (Ag (A7 rfl <| Ar rfl <| Al rfl <| Ak rfl <| A7 rfl <| Aj rfl)) ?_
    refine Bi rfl (Ag (A7 rfl <| Az rfl <| As rfl hs6)) ?_
    refine Bi rfl (A9  Et (Al rfl <| Ae) hy.plain (Ae) rfl (by omega)) ?_
    refine Bi rfl (A8 agg_60 (Ae) rfl rfl (hy.whole (by omega))) ?_
    refine Bi rfl (q_eqlZ2 Try.underlying60 stoodSp guardSp (by decide) (by decide) rfl rfl Try.underlying3 Try.underlying3 oneSp oneSp (Az rfl <| Ae) (Ae)) ?_
    refine Bi rfl (Ac (Ae)) ?_
    refine C3 ?_
    refine Bb <| Ab <| Ai fun ds => Aa rfl (Ag (A5 rfl <| Al rfl <| As rfl hs6)) ?_
    refine Aa rfl (Bp (Ae) Ad rfl (by omega) (by omega)) ?_
    refine Aa rfl (Ac (Ae)) ?_
    refine Ah <| Ab ⟨_, m - 1, Off.eq (Cq rfl <| Dy rfl <| Ba), by omega, ?_⟩
    have hlt2 : k < ys.length := by omega
    refine ⟨k + 1, _, by omega, (Ae), (Ar rfl <| Al rfl <| Ae), rfl, fun h => ⟨by omega, hll, take_succ_eq hlt hlt2 htk (by simp only [Bool.and_eq_true, beq_iff_eq] at h; exact Prod.ext h.1 h.2)⟩, fun h => ne_at hlt hlt2 (by intro he; rw [he] at h; simp at h)⟩
   ·
    refine Am (Ae) (by first | rfl | exact decide_eq_false (by omega)) ?_
    refine Bn ?_
    refine Bd <| Bd <| Bf <| Ab <| Af <| Ai fun ds => Aa rfl (Ag (Az rfl <| Ar rfl <| Al rfl <| As rfl hs5)) ?_
    refine Aa rfl (Ac (Ae)) ?_
    refine Ah <| Ab <| A4 <| Ay rfl (.tmp (Ae) .nil) ?_
    show _ = _
    obtain rfl : k = xs.length := by omega
    rw [decide_eq_true (eq_of_take hll htk)]; rfl
def sourceL (l : List Int) (i : Nat) : List Int := if upN l i = -1 then [] else [upN l i]
set_option maxRecDepth 100000 in
theorem source_ok {F : Heap} {l : List Int} {i : Nat} (hi : i < 5) : Ok Try.prog 73 [treeV l, .int .i64 (i : Int)].toArray F fun u F' => Ints F' u (sourceL l i) := by
 refine Ok.intro Try.func73 rfl Try.ntmps73 rfl fun w0 => ?_
 by_cases h1 : upN l i = -1
 ·
  refine Af <| Ai fun ds => Bk rfl (B1 (Aj rfl) rfl fun b1 hb1 nb1 => ?_)
  refine Aa rfl (Ac Ad) ?_
  refine Ah <| Ab <| Af <| Af <| Ai fun ds => Aa rfl (Ag (Ar rfl <| Aj rfl)) ?_
  refine Aa rfl (Bu (k := i) Cy (Ar rfl <| Ae) (Ae) rfl hi) ?_
  refine Aa rfl (Ap Bl (Ae) (Cell.own 0 rfl (Cj hi))) ?_
  refine Aa rfl (Bx (Ae) Ad) ?_
  refine Ah <| Ab <| Aq (Ae) (decide_eq_true h1) ?_
  refine Af <| Ai fun ds => Aa rfl (Ac Ad) ?_
  refine Ah <| Ab <| A4 <| Bc ?_
  refine Ay rfl (.tmp (Ae) .nil) ?_
  unfold sourceL; rw [if_pos h1]; exact Sl.nil
 ·
  refine Af <| Ai fun ds => Bk rfl (B1 (Aj rfl) rfl fun b2 hb2 nb2 => ?_)
  refine Aa rfl (Ac Ad) ?_
  refine Ah <| Ab <| Af <| Af <| Ai fun ds => Aa rfl (Ag (Ar rfl <| Aj rfl)) ?_
  refine Aa rfl (Bu (k := i) Cy (Ar rfl <| Ae) (Ae) rfl hi) ?_
  refine Aa rfl (Ap Bl (Ae) (Cell.own 0 rfl (Cj hi))) ?_
  refine Aa rfl (Bx (Ae) Ad) ?_
  refine Ah <| Ab <| Am (Ae) (decide_eq_false h1) ?_
  refine Au <| Ab <| Af <| Ai fun ds => Aa rfl (Ag (Az rfl <| Ar rfl <| Aj rfl)) ?_
  refine Aa rfl (Bu (k := i) Cy (Az rfl <| Ar rfl <| Ae) (Ae) rfl hi) ?_
  refine Aa rfl (Ap Bl (Ae) (Cell.own 0 rfl (Cj hi))) ?_
  refine Bk rfl (B2 Be Db rfl (.cons (Ae) .nil) rfl rfl (by decide) (by simp [Value.oneCell']) fun b3 hb3 nb3 => ?_)
  refine B9 (i := 0) rfl hb3 .here fun F4 hF5 hz6 => ?_
  have hsl7 := C4 hz6
  refine Aa rfl (Ac (Ae)) ?_
  refine Ah <| Ab <| A4 <| Ay rfl (.tmp (Ae) .nil) ?_
  unfold sourceL; rw [if_neg h1]; exact hsl7
end Go.Proofs.Ytccogmkhijgelaa
namespace Go.Proofs.Ytccogmkhijgelaa
open Go.RowKit
theorem bd_118 : Body Try.prog 118 := Bo (by kernel_rfl)
theorem bd_127 : Body Try.prog 127 := Bo (by kernel_rfl)
set_option maxRecDepth 100000 in
theorem isNaN_ok {F : Heap} (z : Int) : Ok Try.prog 127 [.int .i64 z].toArray F fun r _ => r = .bool false := by
 refine Ok.intro Try.func127 rfl Try.ntmps127 rfl fun w0 => ?_
 refine Af <| Ai fun ds => Aa rfl (Ac Ad) ?_
 refine Ah <| Ab <| Af <| Ai fun ds => Aa rfl (Ag (Al rfl <| Aj rfl)) ?_
 refine Aa rfl (Ag (Ar rfl <| Aj rfl)) ?_
 refine Aa rfl (By (Al rfl <| Ae) (Ae)) ?_
 refine Aa rfl (Ac (Ae)) ?_
 refine Ah <| Ab <| A4 <| Ay rfl (.tmp (Ae) .nil) ?_
 show _ = _
 simp [outOf]
set_option maxRecDepth 100000 in
theorem cmp_ok {F : Heap} (a b : Int) : Ok Try.prog 118 [.int .i64 a, .int .i64 b].toArray F fun r _ => r = .int .i64 (cmpZ a b) := by
 refine Ok.intro Try.func118 rfl Try.ntmps118 rfl fun w0 => ?_
 refine Af <| Ai fun ds => Aa rfl (Ac Ad) ?_
 refine Ah <| Ab <| Af <| Ai fun ds => Aa rfl (Ag (Al rfl <| Aj rfl)) ?_
 refine B0 rfl (Bj bd_127 A1 (.cons (Ae) .nil) (isNaN_ok _) (fun _ _ h => h)) ?_
 refine Aa rfl (Ac (Ae)) ?_
 refine Ah <| Ab <| Af <| Ai fun ds => Aa rfl (Ag (Az rfl <| Aj rfl)) ?_
 refine B0 rfl (Bj bd_127 A1 (.cons (Ae) .nil) (isNaN_ok _) (fun _ _ h => h)) ?_
 refine Aa rfl (Ac (Ae)) ?_
 refine Ah <| Ab <| Af <| Af <| Ai fun ds => Aa rfl (Ag (Ar rfl <| Al rfl <| Ae)) ?_
 refine Ah <| Ab <| Am (Ae) rfl ?_
 refine Au <| Ab <| Af <| Af <| Ai fun ds => Aa rfl (Ag (Al rfl <| Ae)) ?_
 refine Ah <| Ab <| Am (Ae) rfl ?_
 by_cases h1 : a < b
 ·
  refine Au <| Ab <| Af <| Af <| Ai fun ds => Aa rfl (Ag (A7 rfl <| Al rfl <| Aj rfl)) ?_
  refine Aa rfl (Ag (A7 rfl <| Ar rfl <| Aj rfl)) ?_
  refine Aa rfl (Br (Al rfl <| Ae) (Ae)) ?_
  refine Ah <| Ab <| Aq (Ae) (by first | rfl | exact decide_eq_true (by omega)) ?_
  refine Af <| Ai fun ds => Aa rfl (Ac Ad) ?_
  refine Ah <| Ab <| A4 <| Bc ?_
  refine Ay rfl (.tmp (Ae) .nil) ?_
  show _ = _
  unfold cmpZ; rw [if_pos h1]; rfl
 ·
  refine Au <| Ab <| Af <| Af <| Ai fun ds => Aa rfl (Ag (A7 rfl <| Al rfl <| Aj rfl)) ?_
  refine Aa rfl (Ag (A7 rfl <| Ar rfl <| Aj rfl)) ?_
  refine Aa rfl (Br (Al rfl <| Ae) (Ae)) ?_
  refine Ah <| Ab <| Am (Ae) (by first | rfl | exact decide_eq_false (by omega)) ?_
  by_cases h2 : b < a
  ·
   refine Au <| Ab <| Af <| Af <| Ai fun ds => Aa rfl (Ag (A7 rfl <| Az rfl <| Aj rfl)) ?_
   refine Aa rfl (Ag (A7 rfl <| Az rfl <| Al rfl <| Aj rfl)) ?_
   refine Aa rfl (Ds (Al rfl <| Ae) (Ae)) ?_
   refine Ah <| Ab <| Aq (Ae) (by first | rfl | exact decide_eq_true (by omega)) ?_
   refine Af <| Ai fun ds => Aa rfl (Ac Ad) ?_
   refine Ah <| Ab <| A4 <| Bc ?_
   refine Ay rfl (.tmp (Ae) .nil) ?_
   show _ = _
   unfold cmpZ; rw [if_neg h1, if_pos h2]; rfl
  ·
   refine Au <| Ab <| Af <| Af <| Ai fun ds => Aa rfl (Ag (A7 rfl <| Az rfl <| Aj rfl)) ?_
   refine Aa rfl (Ag (A7 rfl <| Az rfl <| Al rfl <| Aj rfl)) ?_
   refine Aa rfl (Ds (Al rfl <| Ae) (Ae)) ?_
   refine Ah <| Ab <| Am (Ae) (by first | rfl | exact decide_eq_false (by omega)) ?_
   refine Au <| Ab <| Af <| Ai fun ds => Aa rfl (Ac Ad) ?_
   refine Ah <| Ab <| A4 <| Ay rfl (.tmp (Ae) .nil) ?_
   show _ = _
   unfold cmpZ; rw [if_neg h1, if_neg h2]; rfl
set_option maxRecDepth 100000 in
theorem compare_ok {F : Heap} {v u : Value} {xs ys : List Nat} (hx : Nats F v xs) (hy : Nats F u ys) : Ok Try.prog 84 [v, u].toArray F fun r _ => r = .int .i64 (cmpL xs ys) := by
 refine Ok.intro Try.func84 rfl Try.ntmps84 rfl fun w0 => ?_
 have hlen := hx.plain.lt
 have hlen2 := hy.plain.lt
 refine Af <| Ai fun ds => Aa rfl (Ac Ad) ?_
 refine Ah <| Ab <| Af <| Af <| Ai fun ds => Aa rfl (Ag (Al rfl <| Aj rfl)) ?_
 refine Aa rfl (Bh Be (Ae) hx.plain) ?_
 refine Aa rfl (Ag Ad) ?_
 refine Ah <| Ab <| A0 <| Bs [4, 5, 6, 7, 8, 11, 12, 13, 14, 15, 16, 17, 18, 19, 20, 21, 22, 23, 24, 25, 26, 27, 28, 29, 30] (fun m e σ => ∃ k : Nat, m + k = xs.length ∧ k ≤ ys.length ∧ e 11 = .int .i64 k ∧ σ = ⟨F, []⟩ ∧ xs.take k = ys.take k) (xs.length) ?_ ?_
 · exact ⟨0, by omega, by omega, (Ae), rfl, rfl⟩
 ·
  rintro m e _ ⟨k, hm, hk, hs11, rfl, htk⟩
  by_cases hlt : k < xs.length
  ·
   refine Af <| Ai fun ds => Aa rfl (Br (As rfl hs11) (Ak rfl <| Al rfl <| Ae)) ?_
   refine Ah <| Ab <| Af <| Aq (Ae) (by first | rfl | exact decide_eq_true (by omega)) ?_
   by_cases hlt2 : k < ys.length
   ·
    refine Au <| Ab <| Af <| A0 <| Af <| Ai fun ds => Aa rfl (Ag (Al rfl <| As rfl hs11)) ?_
    refine Aa rfl (A9  Be (Ar rfl <| Ak rfl <| Ar rfl <| Ae) hx.plain (Ar rfl <| As rfl hs11) rfl hlt) ?_
    refine Aa rfl (Ap Bl (Ae) (hx.cell1 hlt rfl)) ?_
    refine Aa rfl (Ac (Ar rfl <| Ae)) ?_
    refine Aa rfl (Ac (Al rfl <| Ae)) ?_
    refine Ah <| Ab <| Af <| Af <| Ai fun ds => Aa rfl (Ag (Al rfl <| Ae)) ?_
    refine Aa rfl (Ag (Az rfl <| Ar rfl <| Al rfl <| Ak rfl <| Az rfl <| Aj rfl)) ?_
    refine Aa rfl (Bh Be (Ae) hy.plain) ?_
    refine Aa rfl (D9 (Ar rfl <| Ae) (Ae)) ?_
    refine Ah <| Ab <| Am (Ae) (by first | rfl | exact decide_eq_false (by omega)) ?_
    by_cases hc : cmpZ xs[k] ys[k] = 0
    ·
     refine Au <| Ab <| Af <| Ai fun ds => Aa rfl (Ag (A7 rfl <| Ar rfl <| Ak rfl <| Az rfl <| Aj rfl)) ?_
     refine Aa rfl (Ag (Az rfl <| Ar rfl <| Ae)) ?_
     refine Aa rfl (A9  Be (Al rfl <| Ae) hy.plain (Ae) rfl hlt2) ?_
     refine Aa rfl (Ap Bl (Ae) (hy.cell1 hlt2 rfl)) ?_
     refine Aa rfl (Ac (Ae)) ?_
     refine Ah <| Ab <| Af <| Ai fun ds => Aa rfl (Ag (A7 rfl <| Al rfl <| Ae)) ?_
     refine Aa rfl (Ag (Al rfl <| Ae)) ?_
     refine B0 rfl (Bj bd_118 A1 (.cons (Al rfl <| Ae) (.cons (Ae) .nil)) (cmp_ok _ _) (fun _ _ h => h)) ?_
     refine Aa rfl (Ac (Ae)) ?_
     refine Ah <| Ab <| Af <| Ai fun ds => Aa rfl (Ag (Ae)) ?_
     refine Aa rfl (By (Ae) Ad) ?_
     refine Ah <| Ab <| Am (Ae) (decide_eq_false (by simpa using hc)) ?_
     refine Au <| Bb <| Ab <| Ai fun ds => Aa rfl (Bp (A5 rfl <| Az rfl <| Al rfl <| As rfl hs11) Ad rfl (by omega) (by omega)) ?_
     refine Aa rfl (Ag (Ae)) ?_
     refine Ah <| Ab ⟨_, m - 1, Off.eq (Cq rfl <| Dy rfl <| Eb rfl <| Df rfl <| Ba), by omega, ?_⟩
     exact ⟨k + 1, by omega, by omega, (Ae), rfl, take_succ_eq hlt hlt2 htk (by have := cmpZ_zero hc; omega)⟩
    ·
     refine Au <| Ab <| Af <| Ai fun ds => Aa rfl (Ag (A7 rfl <| Ar rfl <| Ak rfl <| Az rfl <| Aj rfl)) ?_
     refine Aa rfl (Ag (Az rfl <| Ar rfl <| Ae)) ?_
     refine Aa rfl (A9  Be (Al rfl <| Ae) hy.plain (Ae) rfl hlt2) ?_
     refine Aa rfl (Ap Bl (Ae) (hy.cell1 hlt2 rfl)) ?_
     refine Aa rfl (Ac (Ae)) ?_
     refine Ah <| Ab <| Af <| Ai fun ds => Aa rfl (Ag (A7 rfl <| Al rfl <| Ae)) ?_
     refine Aa rfl (Ag (Al rfl <| Ae)) ?_
     refine B0 rfl (Bj bd_118 A1 (.cons (Al rfl <| Ae) (.cons (Ae) .nil)) (cmp_ok _ _) (fun _ _ h => h)) ?_
     refine Aa rfl (Ac (Ae)) ?_
     refine Ah <| Ab <| Af <| Ai fun ds => Aa rfl (Ag (Ae)) ?_
     refine Aa rfl (By (Ae) Ad) ?_
     refine Ah <| Ab <| Aq (Ae) (decide_eq_true hc) ?_
     refine Af <| Ai fun ds => Aa rfl (Ag (Ar rfl <| Ae)) ?_
     refine Aa rfl (Ac (Ae)) ?_
     refine Ah <| Ab <| A4 <| Bm (Bc (Bc (Bm (Bc ?_))))
     refine Ay rfl (.tmp (Ae) .nil) ?_
     show _ = _
     rw [cmpL_at hlt hlt2 htk hc]; rfl
   ·
    refine Au <| Ab <| Af <| A0 <| Af <| Ai fun ds => Aa rfl (Ag (Al rfl <| As rfl hs11)) ?_
    refine Aa rfl (A9  Be (Ar rfl <| Ak rfl <| Ar rfl <| Ae) hx.plain (Ar rfl <| As rfl hs11) rfl hlt) ?_
    refine Aa rfl (Ap Bl (Ae) (hx.cell1 hlt rfl)) ?_
    refine Aa rfl (Ac (Ar rfl <| Ae)) ?_
    refine Aa rfl (Ac (Al rfl <| Ae)) ?_
    refine Ah <| Ab <| Af <| Af <| Ai fun ds => Aa rfl (Ag (Al rfl <| Ae)) ?_
    refine Aa rfl (Ag (Az rfl <| Ar rfl <| Al rfl <| Ak rfl <| Az rfl <| Aj rfl)) ?_
    refine Aa rfl (Bh Be (Ae) hy.plain) ?_
    refine Aa rfl (D9 (Ar rfl <| Ae) (Ae)) ?_
    refine Ah <| Ab <| Aq (Ae) (by first | rfl | exact decide_eq_true (by omega)) ?_
    refine Af <| Ai fun ds => Aa rfl (Ac Ad) ?_
    refine Ah <| Ab <| A4 <| Bc (Bm (Bc (Bc (Bm (Bc ?_)))))
    refine Ay rfl (.tmp (Ae) .nil) ?_
    show _ = _
    rw [cmpL_end1 hlt (by omega) htk]; rfl
  ·
   refine Af <| Ai fun ds => Aa rfl (Br (As rfl hs11) (Ak rfl <| Al rfl <| Ae)) ?_
   refine Ah <| Ab <| Af <| Am (Ae) (by first | rfl | exact decide_eq_false (by omega)) ?_
   obtain rfl : k = xs.length := by omega
   by_cases h2 : xs.length < ys.length
   ·
    refine Bn ?_
    refine Bd <| Bd <| Bf <| Ab <| Af <| Af <| Ai fun ds => Aa rfl (Ag (Al rfl <| Ak rfl <| Az rfl <| Aj rfl)) ?_
    refine Aa rfl (Bh Be (Ae) hx.plain) ?_
    refine Aa rfl (Ag (Ar rfl <| Al rfl <| Ak rfl <| Az rfl <| Aj rfl)) ?_
    refine Aa rfl (Bh Be (Ae) hy.plain) ?_
    refine Aa rfl (Br (Ar rfl <| Ae) (Ae)) ?_
    refine Ah <| Ab <| Aq (Ae) (by first | rfl | exact decide_eq_true (by omega)) ?_
    refine Af <| Ai fun ds => Aa rfl (Ac Ad) ?_
    refine Ah <| Ab <| A4 <| Bc ?_
    refine Ay rfl (.tmp (Ae) .nil) ?_
    show _ = _
    rw [cmpL_end0 hk htk, if_pos h2]; rfl
   ·
    refine Bn ?_
    refine Bd <| Bd <| Bf <| Ab <| Af <| Af <| Ai fun ds => Aa rfl (Ag (Al rfl <| Ak rfl <| Az rfl <| Aj rfl)) ?_
    refine Aa rfl (Bh Be (Ae) hx.plain) ?_
    refine Aa rfl (Ag (Ar rfl <| Al rfl <| Ak rfl <| Az rfl <| Aj rfl)) ?_
    refine Aa rfl (Bh Be (Ae) hy.plain) ?_
    refine Aa rfl (Br (Ar rfl <| Ae) (Ae)) ?_
    refine Ah <| Ab <| Am (Ae) (by first | rfl | exact decide_eq_false (by omega)) ?_
    refine Au <| Ab <| Af <| Ai fun ds => Aa rfl (Ac Ad) ?_
    refine Ah <| Ab <| A4 <| Ay rfl (.tmp (Ae) .nil) ?_
    show _ = _
    rw [cmpL_end0 hk htk, if_neg h2]; rfl
set_option maxRecDepth 100000 in
theorem indexZ_ok {F : Heap} {v : Value} {l : List Int} (hl : Ints F v l) (z : Int) : Ok Try.prog 125 [v, .int .i64 z].toArray F fun r _ => r = .int .i64 (findI (fun x => decide (z = x)) l) := by
 refine Ok.intro Try.func125 rfl Try.ntmps125 rfl fun w0 => ?_
 have hlen := hl.plain.lt
 refine Af <| Ai fun ds => Aa rfl (Ac Ad) ?_
 refine Ah <| Ab <| Af <| Af <| Ai fun ds => Aa rfl (Ag (Al rfl <| Aj rfl)) ?_
 refine Aa rfl (Bh Be (Ae) hl.plain) ?_
 refine Aa rfl (Ag Ad) ?_
 refine Ah <| Ab <| A0 <| Bs [4, 5, 8, 9, 10, 11, 12, 13, 14, 15, 16, 17, 18] (fun m e σ => ∃ k : Nat, m + k = l.length ∧ e 8 = .int .i64 k ∧ σ = ⟨F, []⟩ ∧ ∀ j (hj : j < l.length), j < k → (fun x => decide (z = x)) l[j] = false) (l.length) ?_ ?_
 · exact ⟨0, by omega, (Ae), rfl, fun j hj h => absurd h (by omega)⟩
 ·
  rintro m e _ ⟨k, hm, hs8, rfl, hno⟩
  by_cases hlt : k < l.length
  ·
   refine Af <| Ai fun ds => Aa rfl (Br (As rfl hs8) (Ak rfl <| Al rfl <| Ae)) ?_
   refine Ah <| Ab <| Af <| Aq (Ae) (by first | rfl | exact decide_eq_true (by omega)) ?_
   by_cases he : z = l[k]
   ·
    refine Au <| Ab <| Af <| A0 <| Af <| Ai fun ds => Aa rfl (Ag (Al rfl <| As rfl hs8)) ?_
    refine Aa rfl (Ac (Ae)) ?_
    refine Ah <| Ab <| Af <| Ai fun ds => Aa rfl (Ag (Ar rfl <| Al rfl <| Ak rfl <| Az rfl <| Aj rfl)) ?_
    refine Aa rfl (Ag (Az rfl <| Ak rfl <| Az rfl <| Aj rfl)) ?_
    refine Aa rfl (Ag (Ar rfl <| Ae)) ?_
    refine Aa rfl (A9  Be (Al rfl <| Ae) hl.plain (Ae) rfl hlt) ?_
    refine Aa rfl (Ap Bl (Ae) (hl.cell1 hlt rfl)) ?_
    refine Aa rfl (Bx (Az rfl <| Ae) (Ae)) ?_
    refine Ah <| Ab <| Aq (Ae) (decide_eq_true he) ?_
    refine Af <| Ai fun ds => Aa rfl (Ag (Az rfl <| Ar rfl <| Ae)) ?_
    refine Aa rfl (Ac (Ae)) ?_
    refine Ah <| Ab <| A4 <| Bm (Bc (Bc (Bm (Bc ?_))))
    refine Ay rfl (.tmp (Ae) .nil) ?_
    show _ = _
    rw [Du (p := (fun x => decide (z = x))) hlt (decide_eq_true he) hno]; rfl
   ·
    refine Au <| Ab <| Af <| A0 <| Af <| Ai fun ds => Aa rfl (Ag (Al rfl <| As rfl hs8)) ?_
    refine Aa rfl (Ac (Ae)) ?_
    refine Ah <| Ab <| Af <| Ai fun ds => Aa rfl (Ag (Ar rfl <| Al rfl <| Ak rfl <| Az rfl <| Aj rfl)) ?_
    refine Aa rfl (Ag (Az rfl <| Ak rfl <| Az rfl <| Aj rfl)) ?_
    refine Aa rfl (Ag (Ar rfl <| Ae)) ?_
    refine Aa rfl (A9  Be (Al rfl <| Ae) hl.plain (Ae) rfl hlt) ?_
    refine Aa rfl (Ap Bl (Ae) (hl.cell1 hlt rfl)) ?_
    refine Aa rfl (Bx (Az rfl <| Ae) (Ae)) ?_
    refine Ah <| Ab <| Am (Ae) (decide_eq_false he) ?_
    refine Au <| Bb <| Ab <| Ai fun ds => Aa rfl (Bp (A7 rfl <| Al rfl <| As rfl hs8) Ad rfl (by omega) (by omega)) ?_
    refine Aa rfl (Ag (Ae)) ?_
    refine Ah <| Ab ⟨_, m - 1, Off.eq (Di rfl <| Eb rfl <| Df rfl <| Ba), by omega, ?_⟩
    refine ⟨k + 1, by omega, (Ae), rfl, fun j hj hjk => ?_⟩
    rcases Nat.lt_succ_iff_lt_or_eq.1 hjk with hjk | rfl
    · exact hno j hj hjk
    · exact decide_eq_false he
  ·
   refine Af <| Ai fun ds => Aa rfl (Br (As rfl hs8) (Ak rfl <| Al rfl <| Ae)) ?_
   refine Ah <| Ab <| Af <| Am (Ae) (by first | rfl | exact decide_eq_false (by omega)) ?_
   refine Bn ?_
   refine Bd <| Bd <| Bf <| Ab <| Af <| Ai fun ds => Aa rfl (Ac Ad) ?_
   refine Ah <| Ab <| A4 <| Ay rfl (.tmp (Ae) .nil) ?_
   show _ = _
   rw [El (p := (fun x => decide (z = x))) (fun j hj => hno j hj (by omega))]; rfl
end Go.Proofs.Ytccogmkhijgelaa
namespace Go.Proofs.Ytccogmkhijgelaa
open Go.RowKit
theorem cmpZ_lt {a b : Int} (h : a ≠ b) : cmpZ a b ≠ 0 ∧ (cmpZ a b < 0 ↔ a < b) := by
 unfold cmpZ
 by_cases h1 : a < b
 · rw [if_pos h1]; exact ⟨by decide, by simp [h1]⟩
 · rw [if_neg h1, if_pos (by omega)]; exact ⟨by decide, by simp [h1]⟩
set_option maxRecDepth 100000 in
theorem refBefore_ok {F : Heap} {v u : Value} {xs ys : List Nat} (hx : Nats F v xs) (hy : Nats F u ys) : Ok Try.prog 42 [v, u].toArray F fun r _ => r = .bool (decide (cmpL xs ys < 0)) := by
 refine Ok.intro Try.func42 rfl Try.ntmps42 rfl fun w0 => ?_
 have hlen := hx.plain.lt
 have hlen2 := hy.plain.lt
 refine Af <| Ai fun ds => Aa rfl (Ac Ad) ?_
 refine Ah <| Ab <| Af <| Af <| Ai fun ds => Aa rfl (Ac Ad) ?_
 refine Ah <| Ab <| A0 <| Bs [4, 5, 6, 7, 8, 9, 10, 11, 12, 13, 14, 15, 16, 17, 18, 19, 20, 21, 22, 23, 24, 25, 26, 27, 28, 29, 30, 31, 32, 33, 34, 35] (fun m e σ => ∃ k : Nat, m + k = xs.length ∧ k ≤ ys.length ∧ e 5 = .int .i64 (k : Int) ∧ σ = ⟨F, []⟩ ∧ xs.take k = ys.take k) (xs.length) ?_ ?_
 · exact ⟨0, by omega, by omega, (Ae), rfl, rfl⟩
 ·
  rintro m e _ ⟨k, hm, hk, hs5, rfl, htk⟩
  by_cases hlt : k < xs.length
  ·
   refine Af <| Af <| Ai fun ds => Aa rfl (Ag (As rfl hs5)) ?_
   refine Aa rfl (Ag (Al rfl <| Ak rfl <| Ar rfl <| Aj rfl)) ?_
   refine Aa rfl (Bh Be (Ae) hx.plain) ?_
   refine Aa rfl (Br (Ar rfl <| Ae) (Ae)) ?_
   refine Aa rfl (Ag (Ae)) ?_
   refine At rfl rfl (Ae) (by first | rfl | exact decide_eq_true (by omega)) ?_
   refine Aa rfl (Ag (Az rfl <| Al rfl <| As rfl hs5)) ?_
   refine At rfl rfl (Al rfl <| Ae) (by first | rfl | exact decide_eq_true (by omega)) ?_
   refine Aa rfl (Ag (Az rfl <| Ar rfl <| Ak rfl <| Ar rfl <| Aj rfl)) ?_
   refine At rfl rfl (Ar rfl <| Ae) (by first | rfl | exact decide_eq_true (by omega)) ?_
   refine Aa rfl (Bh Be (Ae) hy.plain) ?_
   refine At rfl rfl (Ar rfl <| Al rfl <| Ae) (by first | rfl | exact decide_eq_true (by omega)) ?_
   refine Aa rfl (Br (Ar rfl <| Ae) (Ae)) ?_
   refine Aa rfl (A6 (Az rfl <| Ae) (by first | rfl | exact decide_eq_true (by omega)) (Ae)) ?_
   refine Ah <| Ab ?_
   by_cases hlt2 : k < ys.length
   ·
    refine Aq (Ae) (decide_eq_true (by omega)) ?_
    by_cases hne : (xs[k] : Int) = ys[k]
    ·
     refine Au <| Ab <| Af <| A0 <| Af <| Cp (.inl rfl) (fun _ _ h => h) (by kernel_rfl) (by kernel_rfl) fun ds => ?_
     refine Bi rfl (Ag (A7 rfl <| Ar rfl <| Ak rfl <| Ar rfl <| Aj rfl)) ?_
     refine Bi rfl (Ag (A7 rfl <| Ar rfl <| Al rfl <| As rfl hs5)) ?_
     refine Bi rfl (A9  Be (Al rfl <| Ae) hx.plain (Ae) rfl hlt) ?_
     refine Bi rfl (Ap Bl (Ae) (hx.cell1 hlt rfl)) ?_
     refine Bi rfl (Ag (A7 rfl <| Az rfl <| Ar rfl <| Ak rfl <| Ar rfl <| Aj rfl)) ?_
     refine Bi rfl (Ag (A7 rfl <| Az rfl <| Ar rfl <| Al rfl <| As rfl hs5)) ?_
     refine Bi rfl (A9  Be (Al rfl <| Ae) hy.plain (Ae) rfl hlt2) ?_
     refine Bi rfl (Ap Bl (Ae) (hy.cell1 hlt2 rfl)) ?_
     refine Bi rfl (By (Az rfl <| Ae) (Ae)) ?_
     refine C3 ?_
     refine Ab <| Am (Ae) (decide_eq_false (fun h => h hne)) ?_
     refine Au <| Bb <| Ab <| Ai fun ds => Aa rfl (Ag (A5 rfl <| Ar rfl <| Al rfl <| As rfl hs5)) ?_
     refine Aa rfl (Bp (Ae) Ad rfl (by omega) (by omega)) ?_
     refine Aa rfl (Ac (Ae)) ?_
     refine Ah <| Ab ⟨_, m - 1, Off.eq (Cq rfl <| Dy rfl <| Eb rfl <| Ba), by omega, ?_⟩
     exact ⟨k + 1, by omega, by omega, (Ae), rfl, take_succ_eq hlt hlt2 htk (by omega)⟩
    ·
     refine Au <| Ab <| Af <| A0 <| Af <| Cp (.inl rfl) (fun _ _ h => h) (by kernel_rfl) (by kernel_rfl) fun ds => ?_
     refine Bi rfl (Ag (A7 rfl <| Ar rfl <| Ak rfl <| Ar rfl <| Aj rfl)) ?_
     refine Bi rfl (Ag (A7 rfl <| Ar rfl <| Al rfl <| As rfl hs5)) ?_
     refine Bi rfl (A9  Be (Al rfl <| Ae) hx.plain (Ae) rfl hlt) ?_
     refine Bi rfl (Ap Bl (Ae) (hx.cell1 hlt rfl)) ?_
     refine Bi rfl (Ag (A7 rfl <| Az rfl <| Ar rfl <| Ak rfl <| Ar rfl <| Aj rfl)) ?_
     refine Bi rfl (Ag (A7 rfl <| Az rfl <| Ar rfl <| Al rfl <| As rfl hs5)) ?_
     refine Bi rfl (A9  Be (Al rfl <| Ae) hy.plain (Ae) rfl hlt2) ?_
     refine Bi rfl (Ap Bl (Ae) (hy.cell1 hlt2 rfl)) ?_
     refine Bi rfl (By (Az rfl <| Ae) (Ae)) ?_
     refine C3 ?_
     refine Ab <| Aq (Ae) (decide_eq_true hne) ?_
     refine Af <| Cp (.inl rfl) (fun _ _ h => h) (by kernel_rfl) (by kernel_rfl) fun ds => ?_
     refine Bi rfl (Ag (A5 rfl <| Ar rfl <| Al rfl <| Ak rfl <| Ar rfl <| Aj rfl)) ?_
     refine Bi rfl (Ag (A5 rfl <| Az rfl <| As rfl hs5)) ?_
     refine Bi rfl (A9  Be (Al rfl <| Ae) hx.plain (Ae) rfl hlt) ?_
     refine Bi rfl (Ap Bl (Ae) (hx.cell1 hlt rfl)) ?_
     refine Bi rfl (Ag (A5 rfl <| Az rfl <| Ar rfl <| Al rfl <| Ak rfl <| Ar rfl <| Aj rfl)) ?_
     refine Bi rfl (Ag (A5 rfl <| A7 rfl <| As rfl hs5)) ?_
     refine Bi rfl (A9  Be (Al rfl <| Ae) hy.plain (Ae) rfl hlt2) ?_
     refine Bi rfl (Ap Bl (Ae) (hy.cell1 hlt2 rfl)) ?_
     refine Bi rfl (Br (Az rfl <| Ae) (Ae)) ?_
     refine Bi rfl (Ac (Ae)) ?_
     refine C3 ?_
     refine Ab <| A4 <| Bm (Bc (Bc (Bm (Bc ?_))))
     refine Ay rfl (.tmp (Ae) .nil) ?_
     show _ = _
     obtain ⟨q1, q2⟩ := cmpZ_lt hne
     rw [cmpL_at hlt hlt2 htk q1]
     exact congrArg Value.bool (by rw [decide_eq_decide]; exact q2.symm)
   ·
    refine Am (Ae) (decide_eq_false (by omega)) ?_
    refine Bn ?_
    refine Bd <| Bd <| Bf <| Ab <| Af <| Ai fun ds => Aa rfl (Ag (A7 rfl <| Ar rfl <| Ak rfl <| Ar rfl <| Aj rfl)) ?_
    refine Aa rfl (Bh Be (Ae) hx.plain) ?_
    refine Aa rfl (Ag (A7 rfl <| Az rfl <| Ak rfl <| Ar rfl <| Aj rfl)) ?_
    refine Aa rfl (Bh Be (Ae) hy.plain) ?_
    refine Aa rfl (Br (Ar rfl <| Ae) (Ae)) ?_
    refine Aa rfl (Ac (Ae)) ?_
    refine Ah <| Ab <| A4 <| Ay rfl (.tmp (Ae) .nil) ?_
    show _ = _
    rw [cmpL_end1 hlt (by omega) htk]
    exact congrArg Value.bool (decide_eq_false (by omega))
  ·
   refine Af <| Af <| Ai fun ds => Aa rfl (Ag (As rfl hs5)) ?_
   refine Aa rfl (Ag (Al rfl <| Ak rfl <| Ar rfl <| Aj rfl)) ?_
   refine Aa rfl (Bh Be (Ae) hx.plain) ?_
   refine Aa rfl (Br (Ar rfl <| Ae) (Ae)) ?_
   refine Aa rfl (Ag (Ae)) ?_
   refine Aw rfl rfl (Ae) (.inl (congrArg Value.bool (by first | rfl | exact decide_eq_false (by omega)))) rfl ?_
   refine Aw rfl rfl (Al rfl <| Ae) (.inl (congrArg Value.bool (by first | rfl | exact decide_eq_false (by omega)))) rfl ?_
   refine Aw rfl rfl (Ar rfl <| Ae) (.inl (congrArg Value.bool (by first | rfl | exact decide_eq_false (by omega)))) rfl ?_
   refine Aw rfl rfl (Ar rfl <| Al rfl <| Ae) (.inl (congrArg Value.bool (by first | rfl | exact decide_eq_false (by omega)))) rfl ?_
   refine Aa rfl (Bg (Az rfl <| Ae) (by first | rfl | exact decide_eq_false (by omega)) Ad) ?_
   refine Ah <| Ab <| Am (Ae) rfl ?_
   obtain rfl : k = xs.length := by omega
   refine Bn ?_
   refine Bd <| Bd <| Bf <| Ab <| Af <| Ai fun ds => Aa rfl (Ag (A7 rfl <| Ar rfl <| Ak rfl <| Ar rfl <| Aj rfl)) ?_
   refine Aa rfl (Bh Be (Ae) hx.plain) ?_
   refine Aa rfl (Ag (A7 rfl <| Az rfl <| Ak rfl <| Ar rfl <| Aj rfl)) ?_
   refine Aa rfl (Bh Be (Ae) hy.plain) ?_
   refine Aa rfl (Br (Ar rfl <| Ae) (Ae)) ?_
   refine Aa rfl (Ac (Ae)) ?_
   refine Ah <| Ab <| A4 <| Ay rfl (.tmp (Ae) .nil) ?_
   show _ = _
   rw [cmpL_end0 hk htk]
   refine congrArg Value.bool ?_
   by_cases h9 : xs.length < ys.length
   · rw [if_pos h9]; exact decide_eq_true (by omega)
   · rw [if_neg h9]; exact decide_eq_false (by omega)
end Go.Proofs.Ytccogmkhijgelaa
namespace Go.Proofs.Ytccogmkhijgelaa
abbrev Edges := List (Nat × Nat)
def upMax (E : Edges) (i : Nat) (g : Nat → Int) (b : Int) : Int := E.foldl (fun m e => if e.2 = i then max m (g e.1 + 1) else m) b
theorem upMax_le {E : Edges} {i : Nat} {g : Nat → Int} : ∀ {b c : Int}, upMax E i g b ≤ c ↔ b ≤ c ∧ ∀ e ∈ E, e.2 = i → g e.1 + 1 ≤ c := by
 induction E with
 | nil => intro b c; simp [upMax]
 | cons a E ih =>
   intro b c
   have : upMax (a :: E) i g b = upMax E i g (if a.2 = i then max b (g a.1 + 1) else b) := rfl
   rw [this, ih]
   constructor
   · rintro ⟨h1, h2⟩
     refine ⟨by split at h1 <;> omega, fun e he hi => ?_⟩
     rcases List.mem_cons.1 he with rfl | he
     · rw [if_pos hi] at h1; omega
     · exact h2 e he hi
   · rintro ⟨h1, h2⟩
     refine ⟨?_, fun e he hi => h2 e (List.mem_cons_of_mem _ he) hi⟩
     split
     · rename_i hi; have := h2 a List.mem_cons_self hi; omega
     · exact h1
/-- After so many steps. -/
def climb (E : Edges) (base : Nat → Int) : Nat → Nat → Int
 | 0, i => base i
 | f + 1, i => upMax E i (climb E base f) (base i)
section
variable {E : Edges} {base : Nat → Int}
theorem E1 {f i : Nat} {c : Int} : climb E base (f + 1) i ≤ c ↔ base i ≤ c ∧ ∀ e ∈ E, e.2 = i → climb E base f e.1 + 1 ≤ c := upMax_le
theorem De {f i : Nat} : base i ≤ climb E base f i := by
 cases f with
 | zero => exact Int.le_refl _
 | succ f => exact (E1.1 (Int.le_refl _)).1
theorem climb_edge {f : Nat} {e : Nat × Nat} (he : e ∈ E) : climb E base f e.1 + 1 ≤ climb E base (f + 1) e.2 := (E1.1 (Int.le_refl _)).2 e he rfl
theorem climb_mono {f : Nat} : ∀ i, climb E base f i ≤ climb E base (f + 1) i := by
 induction f with
 | zero => intro i; exact De
 | succ f ih => intro i; exact E1.2 ⟨De, fun e he hi => by subst hi; have := ih e.1; have := climb_edge (f := f + 1) (base := base) he; omega⟩
theorem climb_stable {rank : Nat → Nat} (hr : ∀ e ∈ E, rank e.1 < rank e.2) : ∀ {f i : Nat}, rank i ≤ f → climb E base (f + 1) i = climb E base f i := by
 intro f
 induction f with
 | zero =>
   intro i hi
   refine Int.le_antisymm (E1.2 ⟨De, fun e he h => ?_⟩) (climb_mono i)
   have := hr e he; rw [h] at this; omega
 | succ f ih =>
   intro i hi
   refine Int.le_antisymm (E1.2 ⟨De, fun e he h => ?_⟩) (climb_mono i)
   have := hr e he
   rw [h] at this
   rw [ih (by omega)]
   subst h
   exact climb_edge he
/-- No other numbers that fit are less. -/
theorem climb_least {n : Nat} (hE : ∀ e ∈ E, e.1 < n ∧ e.2 < n) {L : Nat → Int} (h0 : ∀ i, i < n → base i ≤ L i) (h1 : ∀ e ∈ E, L e.1 + 1 ≤ L e.2) : ∀ f i, i < n → climb E base f i ≤ L i := by
 intro f
 induction f with
 | zero => exact h0
 | succ f ih =>
   intro i hi
   refine E1.2 ⟨h0 i hi, fun e he h => ?_⟩
   have := ih e.1 (hE e he).1
   have := h1 e he
   rw [h] at this
   omega
end
/-- Nothing is earlier than itself. -/
def Dag (n : Nat) (E : Edges) : Prop := (∀ e ∈ E, e.1 < n ∧ e.2 < n) ∧ ∃ ρ : Nat → Nat, ∀ e ∈ E, ρ e.1 < ρ e.2
def rankC (ρ : Nat → Nat) (n i : Nat) : Nat := (List.range n).countP fun j => decide (ρ j < ρ i)
theorem countP_lt {α : Type} {p q : α → Bool} {k : α} (hpq : ∀ x, p x = true → q x = true) (hq : q k = true) (hp : p k = false) : ∀ {l : List α}, k ∈ l → l.countP p < l.countP q
 | [], h => nomatch h
 | a :: l, h => by
   have hle : l.countP p ≤ l.countP q := List.countP_mono_left fun x _ => hpq x
   simp only [List.countP_cons]
   rcases List.mem_cons.1 h with rfl | h
   · rw [if_pos hq, if_neg (by rw [hp]; simp)]; omega
   · have ih := countP_lt hpq hq hp h
     by_cases h1 : p a = true
     · rw [if_pos h1, if_pos (hpq a h1)]; omega
     · rw [if_neg h1]; split <;> omega
theorem rankC_lt {ρ : Nat → Nat} {n k i : Nat} (hk : k < n) (h : ρ k < ρ i) : rankC ρ n k < rankC ρ n i := by
 refine countP_lt (k := k) (fun x hx => ?_) ?_ ?_ (List.mem_range.2 hk)
 · have := of_decide_eq_true hx; exact decide_eq_true (by omega)
 · exact decide_eq_true h
 · exact decide_eq_false (by omega)
theorem rankC_le {ρ : Nat → Nat} {n i : Nat} : rankC ρ n i ≤ n := by
 have := List.countP_le_length (p := fun j => decide (ρ j < ρ i)) (l := List.range n)
 rw [List.length_range] at this
 exact this
def swapE (E : Edges) : Edges := E.map fun e => (e.2, e.1)
theorem D2 {E : Edges} {e : Nat × Nat} : e ∈ swapE E ↔ (e.2, e.1) ∈ E := by
 unfold swapE
 rw [List.mem_map]
 constructor
 · rintro ⟨a, ha, rfl⟩; exact ha
 · intro h; exact ⟨_, h, rfl⟩
theorem Dag.rank {n : Nat} {E : Edges} (h : Dag n E) : ∃ rank : Nat → Nat, (∀ e ∈ E, rank e.1 < rank e.2) ∧ ∀ i, rank i ≤ n := by
 obtain ⟨h1, ρ, h2⟩ := h
 exact ⟨rankC ρ n, fun e he => rankC_lt (h1 e he).1 (h2 e he), fun i => rankC_le⟩
theorem Dag.swap {n : Nat} {E : Edges} (h : Dag n E) : Dag n (swapE E) := by
 obtain ⟨rank, h2, h3⟩ := h.rank
 refine ⟨fun e he => ?_, fun i => n - rank i, fun e he => ?_⟩
 · have := h.1 _ (D2.1 he); exact ⟨this.2, this.1⟩
 · have := h2 _ (D2.1 he)
   have := h3 e.1
   simp only at *
   omega
theorem Dag.stable {n : Nat} {E : Edges} (h : Dag n E) {base : Nat → Int} (i : Nat) : climb E base (n + 1) i = climb E base n i := by
 obtain ⟨rank, h2, h3⟩ := h.rank
 exact climb_stable h2 (h3 i)
theorem Dag.fits {n : Nat} {E : Edges} (h : Dag n E) {base : Nat → Int} {e : Nat × Nat} (he : e ∈ E) : climb E base n e.1 + 1 ≤ climb E base n e.2 := by
 have := climb_edge (f := n) (base := base) he
 rw [h.stable] at this
 exact this
def updI (cur : Nat → Int) (i : Nat) (v : Int) : Nat → Int := fun j => if j = i then v else cur j
structure Relaxed (n : Nat) (E : Edges) (base : Nat → Int) (r : Nat) (D : Nat × Nat → Prop) (cur : Nat → Int) : Prop where
 lo : ∀ i, i < n → climb E base r i ≤ cur i
 hi : ∀ i, i < n → cur i ≤ climb E base n i
 done : ∀ e ∈ E, D e → climb E base r e.1 + 1 ≤ cur e.2
section
variable {n : Nat} {E : Edges} {base : Nat → Int} {r : Nat} {D : Nat × Nat → Prop} {cur : Nat → Int}
theorem Relaxed.start (h : ∀ i, i < n → cur i = base i) : Relaxed n E base 0 (fun _ => False) cur :=
 ⟨fun i hi => by rw [h i hi]; exact Int.le_refl _, fun i hi => by rw [h i hi]; exact De, fun _ _ h => h.elim⟩
theorem Relaxed.weaken (h : Relaxed n E base r D cur) {D' : Nat × Nat → Prop} (hD : ∀ e ∈ E, D' e → D e) : Relaxed n E base r D' cur := ⟨h.lo, h.hi, fun e he h' => h.done e he (hD e he h')⟩
theorem Relaxed.step (h : Relaxed n E base r D cur) (hd : Dag n E) {k i : Nat} (he : (k, i) ∈ E) : Relaxed n E base r (fun x => D x ∨ x = (k, i)) (updI cur i (max (cur i) (cur k + 1))) := by
 have hk := hd.1 _ he
 refine ⟨fun j hj => ?_, fun j hj => ?_, fun x hx hD => ?_⟩
 · unfold updI
   split
   · rename_i hji; subst hji; have := h.lo j hj; omega
   · exact h.lo j hj
 · unfold updI
   split
   · rename_i hji
     subst hji
     have h1 := h.hi j hj
     have h2 := h.hi k hk.1
     have h3 := hd.fits (base := base) he
     simp only at h3
     omega
   · exact h.hi j hj
 · have h1 := h.lo k hk.1
   unfold updI
   rcases hD with hD | rfl
   · have h2 := h.done x hx hD
     split
     · rename_i hji; rw [hji] at h2; omega
     · exact h2
   · simp only [if_true]; omega
theorem Relaxed.round (h : Relaxed n E base r D cur) (hD : ∀ e ∈ E, D e) : Relaxed n E base (r + 1) (fun _ => False) cur :=
 ⟨fun i hi => E1.2 ⟨Int.le_trans De (h.lo i hi), fun e he hi => by subst hi; exact h.done e he (hD e he)⟩, h.hi, fun _ _ h => h.elim⟩
theorem Relaxed.full (h : Relaxed n E base r D cur) (hr : n ≤ r) {i : Nat} (hi : i < n) : cur i = climb E base n i := by
 have hm : ∀ d, climb E base n i ≤ climb E base (n + d) i := by
   intro d
   induction d with
   | zero => exact Int.le_refl _
   | succ d ih => exact Int.le_trans ih (climb_mono i)
 have h1 := hm (r - n)
 rw [show n + (r - n) = r by omega] at h1
 have h2 := h.lo i hi
 have h3 := h.hi i hi
 omega
end
def treeE (l : List Int) : Edges := (List.range l.length).flatMap fun i => if upN l i = -1 then [] else [((upN l i).toNat, i)]
theorem treeE_mem {l : List Int} {e : Nat × Nat} : e ∈ treeE l ↔ e.2 < l.length ∧ upN l e.2 ≠ -1 ∧ e.1 = (upN l e.2).toNat := by
 unfold treeE
 rw [List.mem_flatMap]
 constructor
 · rintro ⟨i, hi, he⟩
   split at he
   · cases he
   · rename_i h
     simp at he
     subst he
     exact ⟨by simpa using hi, h, rfl⟩
 · rintro ⟨h1, h2, h3⟩
   refine ⟨e.2, by simpa using h1, ?_⟩
   rw [if_neg h2]
   simp
   exact Prod.ext h3 rfl
theorem treeE_at {l : List Int} {i k : Nat} (hi : i < l.length) (h : upN l i = (k : Int)) : (k, i) ∈ treeE l := treeE_mem.2 ⟨hi, by simp only; omega, by simp only; omega⟩
/-- How far from a first one. -/
def dep (l : List Int) : Nat → Nat → Nat
 | 0, _ => 0
 | f + 1, i => if upN l i = -1 then 0 else dep l f (upN l i).toNat + 1
theorem dep_le {l : List Int} : ∀ {f i : Nat}, dep l f i ≤ f
 | 0, _ => Nat.le_refl _
 | f + 1, i => by unfold dep; split; exact Nat.zero_le _; have := dep_le (l := l) (f := f) (i := (upN l i).toNat); omega
theorem dep_stable {l : List Int} : ∀ {f i : Nat}, reach l f i = true → dep l (f + 1) i = dep l f i
 | 0, i, h => by have : upN l i = -1 := by simpa [reach] using h
                 unfold dep; rw [if_pos this]
 | f + 1, i, h => by
   by_cases h1 : upN l i = -1
   · unfold dep; rw [if_pos h1, if_pos h1]
   · simp only [reach, decide_eq_false h1, Bool.false_or] at h
     have e := dep_stable h
     rw [dep, if_neg h1, e]
     conv => rhs; rw [dep, if_neg h1]
theorem reach_up {l : List Int} {f i k : Nat} (h : upN l i = (k : Int)) (hr : reach l f i = true) : ∃ f', f = f' + 1 ∧ reach l f' k = true := by
 cases f with
 | zero => rw [reach_zero (by omega)] at hr; cases hr
 | succ f => exact ⟨f, rfl, by rw [← Ek h]; exact hr⟩
theorem reach_succ {l : List Int} : ∀ {f i : Nat}, reach l f i = true → reach l (f + 1) i = true
 | 0, i, h => D4 (by simpa [reach] using h)
 | f + 1, i, h => by
   by_cases h1 : upN l i = -1
   · exact D4 h1
   · simp only [reach, decide_eq_false h1, Bool.false_or] at h ⊢
     have := reach_succ h
     simpa [reach] using this
theorem dep_edge {l : List Int} {f i k : Nat} (h : upN l i = (k : Int)) (hr : reach l f i = true) : dep l f i = dep l f k + 1 := by
 obtain ⟨f', rfl, h2⟩ := reach_up h hr
 rw [dep_stable h2]
 conv => lhs; rw [dep, if_neg (by omega), h]
 rfl
structure IsTree (l : List Int) : Prop where
 in_ : TreeIn l
 reach : ∀ i, i < l.length → reach l l.length i = true
 one : firstsN l l.length = 1
theorem isTree_of {l : List Int} (h : TreeIn l) (ht : isT l = true) : IsTree l := by
 unfold isT at ht
 rw [Bool.and_eq_true, List.all_eq_true] at ht
 exact ⟨h, fun i hi => ht.1 i (List.mem_range.2 hi), of_decide_eq_true ht.2⟩
theorem IsTree.isT {l : List Int} (h : IsTree l) : isT l = true := by
 unfold Go.Proofs.Ytccogmkhijgelaa.isT
 rw [Bool.and_eq_true, List.all_eq_true]
 exact ⟨fun i hi => h.reach i (List.mem_range.1 hi), decide_eq_true h.one⟩
theorem IsTree.edge {l : List Int} (h : IsTree l) {e : Nat × Nat} (he : e ∈ treeE l) : e.1 < l.length ∧ e.2 < l.length ∧ upN l e.2 = (e.1 : Int) := by
 obtain ⟨h1, h2, h3⟩ := treeE_mem.1 he
 obtain ⟨j, hj, hjl⟩ := h.in_.nat h1 h2
 rw [hj] at h3
 have : e.1 = j := by omega
 exact ⟨by omega, h1, by omega⟩
theorem IsTree.dag {l : List Int} (h : IsTree l) : Dag l.length (treeE l) := by
 refine ⟨fun e he => ⟨(h.edge he).1, (h.edge he).2.1⟩, dep l l.length, fun e he => ?_⟩
 obtain ⟨h1, h2, h3⟩ := h.edge he
 rw [dep_edge h3 (h.reach _ h2)]
 omega
/-- An edition is another one, or was set from it. -/
def under (l : List Int) : Nat → Nat → Nat → Bool
 | 0, x, o => decide (x = o)
 | f + 1, x, o => decide (x = o) || (if upN l x = -1 then false else under l f (upN l x).toNat o)
def underB (l : List Int) (x o : Nat) : Bool := under l l.length x o
theorem under_self {l : List Int} {f x : Nat} : under l f x x = true := by cases f <;> simp [under]
theorem under_stable {l : List Int} {o : Nat} : ∀ {f i : Nat}, reach l f i = true → under l (f + 1) i o = under l f i o
 | 0, i, h => by have : upN l i = -1 := by simpa [reach] using h
                 simp [under, this]
 | f + 1, i, h => by
   by_cases h1 : upN l i = -1
   · simp [under, h1]
   · simp only [reach, decide_eq_false h1, Bool.false_or] at h
     have e := under_stable (o := o) h
     rw [under, if_neg h1, e]
     conv => rhs; rw [under, if_neg h1]
theorem under_edge {l : List Int} {f i k o : Nat} (h : upN l i = (k : Int)) (hr : reach l f i = true) : under l f i o = (decide (i = o) || under l f k o) := by
 obtain ⟨f', rfl, h2⟩ := reach_up h hr
 rw [under_stable h2]
 conv => lhs; rw [under, if_neg (by omega), h]
 rfl
theorem IsTree.dag2 {l : List Int} (h : IsTree l) {o x : Nat} (ho : o < l.length) (hx : x < l.length) (hu : underB l o x = false) : Dag l.length (treeE l ++ [(o, x)]) := by
 refine ⟨fun e he => ?_, fun i => dep l l.length i + (if underB l i x = true then l.length + 1 else 0), fun e he => ?_⟩
 · rcases List.mem_append.1 he with he | he
   · exact ⟨(h.edge he).1, (h.edge he).2.1⟩
   · simp at he; subst he; exact ⟨ho, hx⟩
 · rcases List.mem_append.1 he with he | he
   · obtain ⟨h1, h2, h3⟩ := h.edge he
     have e1 := dep_edge h3 (h.reach _ h2)
     have e2 := under_edge (o := x) h3 (h.reach _ h2)
     show dep l l.length e.1 + (if under l l.length e.1 x = true then l.length + 1 else 0) < dep l l.length e.2 + (if under l l.length e.2 x = true then l.length + 1 else 0)
     by_cases hk : under l l.length e.1 x = true
     · rw [hk, Bool.or_true] at e2
       rw [if_pos hk, if_pos e2]; omega
     · rw [if_neg hk]; omega
   · simp at he
     subst he
     have : dep l l.length o ≤ l.length := dep_le
     show dep l l.length o + (if underB l o x = true then l.length + 1 else 0) < dep l l.length x + (if underB l x x = true then l.length + 1 else 0)
     rw [if_neg (by rw [hu]; simp), if_pos (show underB l x x = true from under_self)]
     omega
def firstY (s : Stm) (E : Edges) (i : Nat) : Int := climb E (fun i => (s.ed i).lo) s.editions.length i
def lastY (s : Stm) (E : Edges) (i : Nat) : Int := -(climb (swapE E) (fun i => -(s.ed i).hi) s.editions.length i)
def fitsE (s : Stm) (E : Edges) : Bool := (List.range s.editions.length).all fun i => decide (firstY s E i ≤ (s.ed i).hi)
theorem fitsE_iff {s : Stm} {E : Edges} : fitsE s E = true ↔ ∀ i, i < s.editions.length → firstY s E i ≤ (s.ed i).hi := by
 unfold fitsE
 rw [List.all_eq_true]
 exact ⟨fun h i hi => of_decide_eq_true (h i (List.mem_range.2 hi)), fun h i hi => decide_eq_true (h i (List.mem_range.1 hi))⟩
theorem lastY_hi {s : Stm} {E : Edges} {i : Nat} : lastY s E i ≤ (s.ed i).hi := by
 have : -(s.ed i).hi ≤ climb (swapE E) (fun i => -(s.ed i).hi) s.editions.length i := De (base := fun i => -(s.ed i).hi)
 unfold lastY; omega
theorem firstY_lo {s : Stm} {E : Edges} {i : Nat} : (s.ed i).lo ≤ firstY s E i := De
/-- Years that fit are no earlier, and no later. -/
theorem years_in {s : Stm} {E : Edges} (hE : ∀ e ∈ E, e.1 < s.editions.length ∧ e.2 < s.editions.length) {L : Nat → Int} (h0 : ∀ i, i < s.editions.length → (s.ed i).lo ≤ L i ∧ L i ≤ (s.ed i).hi) (h1 : ∀ e ∈ E, L e.1 + 1 ≤ L e.2) :
   ∀ i, i < s.editions.length → firstY s E i ≤ L i ∧ L i ≤ lastY s E i := by
 intro i hi
 refine ⟨climb_least hE (fun i hi => (h0 i hi).1) h1 _ i hi, ?_⟩
 have := climb_least (E := swapE E) (base := fun i => -(s.ed i).hi) (n := s.editions.length) (fun e he => ⟨(hE _ (D2.1 he)).2, (hE _ (D2.1 he)).1⟩) (L := fun i => -(L i)) (fun i hi => by have := (h0 i hi).2; show -(s.ed i).hi ≤ -(L i); omega)
   (fun e he => Int.le_trans (show -(L e.1) + 1 ≤ -(L e.2) from by have : L e.2 + 1 ≤ L e.1 := h1 _ (D2.1 he); omega) (Int.le_refl _)) s.editions.length i hi
 have h9 : climb (swapE E) (fun i => -(s.ed i).hi) s.editions.length i ≤ -(L i) := this
 unfold lastY; omega
theorem fits_both {s : Stm} {E : Edges} (hd : Dag s.editions.length E) : fitsE s E = true ↔ ∀ i, i < s.editions.length → firstY s E i ≤ lastY s E i := by
 rw [fitsE_iff]
 constructor
 · intro h i hi
   exact (years_in hd.1 (L := firstY s E) (fun i hi => ⟨firstY_lo, h i hi⟩) (fun e he => hd.fits he) i hi).2
 · intro h i hi
   exact Int.le_trans (h i hi) lastY_hi
theorem firstY_bound {s : Stm} (hv : ValidT s) {E : Edges} (hE : ∀ e ∈ E, e.1 < s.editions.length ∧ e.2 < s.editions.length) : ∀ f i, i < s.editions.length → 1450 ≤ climb E (fun i => (s.ed i).lo) f i ∧ climb E (fun i => (s.ed i).lo) f i ≤ 1850 + f := by
 intro f
 induction f with
 | zero => intro i hi; have := hv.year i hi; show 1450 ≤ (s.ed i).lo ∧ (s.ed i).lo ≤ 1850 + ((0 : Nat) : Int); omega
 | succ f ih =>
   intro i hi
   have hy := hv.year i hi
   refine ⟨Int.le_trans hy.1 (De (base := fun i => (s.ed i).lo)), E1.2 ⟨by show (s.ed i).lo ≤ _; omega, fun e he hi => ?_⟩⟩
   have := ih e.1 (hE e he).1
   omega
theorem lastY_bound {s : Stm} (hv : ValidT s) {E : Edges} (hE : ∀ e ∈ E, e.1 < s.editions.length ∧ e.2 < s.editions.length) : ∀ f i, i < s.editions.length → -1850 ≤ climb (swapE E) (fun i => -(s.ed i).hi) f i ∧ climb (swapE E) (fun i => -(s.ed i).hi) f i ≤ -1450 + f := by
 intro f
 induction f with
 | zero => intro i hi; have := hv.year i hi; show -1850 ≤ -(s.ed i).hi ∧ -(s.ed i).hi ≤ -1450 + ((0 : Nat) : Int); omega
 | succ f ih =>
   intro i hi
   have hy := hv.year i hi
   refine ⟨Int.le_trans (show -1850 ≤ -(s.ed i).hi by omega) (De (base := fun i => -(s.ed i).hi)), E1.2 ⟨by show -(s.ed i).hi ≤ _; omega, fun e he hi => ?_⟩⟩
   have := ih e.1 (hE _ (D2.1 he)).2
   omega
end Go.Proofs.Ytccogmkhijgelaa
namespace Go.Proofs.Ytccogmkhijgelaa
def sumN (n : Nat) (f : Nat → Int) : Int := match n with
 | 0 => 0
 | k + 1 => sumN k f + f k
theorem sumN_le {n : Nat} {f g : Nat → Int} (h : ∀ i, i < n → f i ≤ g i) : sumN n f ≤ sumN n g := by
 induction n with
 | zero => exact Int.le_refl _
 | succ n ih => have := ih fun i hi => h i (by omega); have := h n (by omega); simp only [sumN]; omega
theorem C7 {n : Nat} {f g : Nat → Int} (h : ∀ i, i < n → f i = g i) : sumN n f = sumN n g := Int.le_antisymm (sumN_le fun i hi => Int.le_of_eq (h i hi)) (sumN_le fun i hi => Int.le_of_eq (h i hi).symm)
theorem sumN_add {n : Nat} {f g : Nat → Int} : sumN n (fun i => f i + g i) = sumN n f + sumN n g := by
 induction n with
 | zero => rfl
 | succ n ih => simp only [sumN, ih]; omega
theorem sumN_zero {n : Nat} : sumN n (fun _ => 0) = 0 := by
 induction n with
 | zero => rfl
 | succ n ih => simp only [sumN, ih]; rfl
theorem sumN_nonneg {n : Nat} {f : Nat → Int} (h : ∀ i, i < n → 0 ≤ f i) : 0 ≤ sumN n f := by
 have := sumN_le (f := fun _ => 0) h
 rw [sumN_zero] at this
 exact this
theorem sumN_swap {n m : Nat} {f : Nat → Nat → Int} : sumN n (fun i => sumN m fun k => f i k) = sumN m fun k => sumN n fun i => f i k := by
 induction n with
 | zero => simp only [sumN]; exact sumN_zero.symm
 | succ n ih => simp only [sumN, ih, ← sumN_add]
theorem sumN_one {n j : Nat} (hj : j < n) {c : Int} : sumN n (fun i => if j = i then c else 0) = c := by
 induction n with
 | zero => omega
 | succ n ih =>
   simp only [sumN]
   by_cases h : j = n
   · rw [if_pos h]
     have : sumN n (fun i => if j = i then c else 0) = 0 := by rw [C7 (g := fun _ => 0) fun i hi => if_neg (by omega)]; exact sumN_zero
     omega
   · rw [if_neg h, ih (by omega)]; omega
theorem sumN_none {n : Nat} {j : Int} (hj : j = -1) {c : Int} : sumN n (fun i => if j = (i : Int) then c else 0) = 0 := by
 rw [C7 (g := fun _ => 0) fun i hi => if_neg (by omega)]; exact sumN_zero
theorem sumN_mem {n i : Nat} {f : Nat → Int} (h : ∀ i, i < n → 0 ≤ f i) (hi : i < n) : f i ≤ sumN n f := by
 induction n with
 | zero => omega
 | succ n ih =>
   simp only [sumN]
   by_cases h2 : i = n
   · subst h2; have := sumN_nonneg (n := i) (f := f) fun j hj => h j (by omega); omega
   · have := ih (fun j hj => h j (by omega)) (by omega); have := h n (by omega); omega
def never : Int := 1048576
/-- From one reading to another: nothing, one change, or not possible. -/
def stepOk (free : Bool) (a b : Int) : Prop := a = b ∨ a < b ∨ free = true
def bestTo (free : Bool) (own : Int → Int) (a : Int) : Nat → Int
 | 0 => never
 | m + 1 => if (m + 1 : Int) = a then min (bestTo free own a m) (own (m + 1)) else if a < (m + 1 : Int) ∨ free = true then min (bestTo free own a m) (own (m + 1) + 1) else bestTo free own a m
def fitR (s : Stm) (p i : Nat) (a : Int) : Prop := s.r i p = 0 ∨ s.r i p = a
instance {s : Stm} {p i : Nat} {a : Int} : Decidable (fitR s p i a) := by unfold fitR; infer_instance
def freeP (s : Stm) (p : Nat) : Bool := decide ((s.pl p).kind = 0)
def costK (s : Stm) (l : List Int) (p : Nat) (sub : Nat → Int → Int) (i : Nat) : Nat → Int → Int
 | 0, a => if fitR s p i a then 0 else never
 | k + 1, a => if upN l k = (i : Int) then min never (costK s l p sub i k a + bestTo (freeP s p) (sub k) a 3) else costK s l p sub i k a
def costT (s : Stm) (l : List Int) (p : Nat) : Nat → Nat → Int → Int
 | 0, _, _ => 0
 | f + 1, i, a => costK s l p (costT s l p f) i l.length a
def costN (s : Stm) (l : List Int) (p i : Nat) (a : Int) : Int := costT s l p (l.length + 1) i a
def min3 (c : Int → Int) : Int := min (min (c 1) (c 2)) (c 3)
def rootN (l : List Int) : Int := findI (fun x => decide ((-1 : Int) = x)) l
def placeN (s : Stm) (l : List Int) (p : Nat) : Int := min3 (costN s l p (rootN l).toNat)
theorem costK_cong {s : Stm} {l : List Int} {p i : Nat} {f g : Nat → Int → Int} : ∀ {n : Nat}, (∀ k, k < n → upN l k = (i : Int) → f k = g k) → ∀ a, costK s l p f i n a = costK s l p g i n a
 | 0, _, _ => rfl
 | n + 1, h, a => by
   unfold costK
   rw [costK_cong (fun k hk => h k (by omega)) a]
   split
   · rename_i hu; rw [h n (by omega) hu]
   · rfl
theorem cost_stable {s : Stm} {l : List Int} {p : Nat} (ht : IsTree l) : ∀ {f i : Nat}, i < l.length → l.length + 1 ≤ dep l l.length i + f → costT s l p (f + 1) i = costT s l p f i
 | 0, i, hi, h => by have := dep_le (l := l) (f := l.length) (i := i); omega
 | f + 1, i, hi, h => by
   funext a
   rw [costT]
   conv => rhs; rw [costT]
   refine costK_cong (fun k hk hu => ?_) a
   refine cost_stable ht hk ?_
   have := dep_edge hu (ht.reach k hk)
   omega
/-- What a child asks for. -/
theorem cost_fix {s : Stm} {l : List Int} {p : Nat} (ht : IsTree l) {i : Nat} (hi : i < l.length) : costN s l p i = costK s l p (costN s l p) i l.length := by
 unfold costN
 rw [← cost_stable ht hi (by omega)]
 rfl
section
variable {s : Stm} {l : List Int} {p : Nat}
theorem best_bound {free : Bool} {own : Int → Int} {a : Int} (h : ∀ m, 0 ≤ own m) : ∀ m, 0 ≤ bestTo free own a m ∧ bestTo free own a m ≤ never
 | 0 => by unfold bestTo never; omega
 | m + 1 => by
   have := best_bound (free := free) (a := a) h m
   have := h (m + 1)
   unfold bestTo
   split
   · omega
   · split <;> omega
theorem best_le {free : Bool} {own : Int → Int} {a : Int} : ∀ {m : Nat} {b : Nat}, 1 ≤ b → b ≤ m → stepOk free a b → bestTo free own a m ≤ own b + (if a = (b : Int) then 0 else 1)
 | 0, b, h1, h2, _ => by omega
 | m + 1, b, h1, h2, h3 => by
   by_cases hb : b = m + 1
   · subst hb
     have e : ((m + 1 : Nat) : Int) = (m : Int) + 1 := by omega
     rw [e] at h3 ⊢
     unfold bestTo
     rcases h3 with h3 | h3
     · rw [if_pos h3.symm, if_pos h3]; omega
     · by_cases h4 : (m : Int) + 1 = a
       · rw [if_pos h4, if_pos h4.symm]; omega
       · rw [if_neg h4, if_pos h3, if_neg (fun h => h4 h.symm)]; omega
   · have := best_le (own := own) (m := m) h1 (by omega) h3
     unfold bestTo
     split
     · omega
     · split <;> omega
/-- One of them is as good as the best. -/
theorem best_some {free : Bool} {own : Int → Int} {a : Int} : ∀ {m : Nat}, bestTo free own a m < never → ∃ b : Nat, 1 ≤ b ∧ b ≤ m ∧ stepOk free a b ∧ bestTo free own a m = own b + (if a = (b : Int) then 0 else 1)
 | 0, h => by unfold bestTo at h; omega
 | m + 1, h => by
   have ih := best_some (free := free) (own := own) (a := a) (m := m)
   have old : bestTo free own a (m + 1) = bestTo free own a m → ∃ b : Nat, 1 ≤ b ∧ b ≤ m + 1 ∧ stepOk free a b ∧ bestTo free own a (m + 1) = own b + (if a = (b : Int) then 0 else 1) := fun e => by
     rw [e] at h ⊢
     obtain ⟨b, h1, h2, h3⟩ := ih h
     exact ⟨b, h1, by omega, h3⟩
   have e : bestTo free own a (m + 1) = if (m + 1 : Int) = a then min (bestTo free own a m) (own (m + 1)) else if a < (m + 1 : Int) ∨ free = true then min (bestTo free own a m) (own (m + 1) + 1) else bestTo free own a m := rfl
   by_cases h4 : (m + 1 : Int) = a
   · rw [if_pos h4] at e
     by_cases h5 : bestTo free own a m ≤ own (m + 1)
     · exact old (by omega)
     · exact ⟨m + 1, by omega, by omega, .inl (by push_cast; omega), by rw [if_pos (by push_cast; omega)]; push_cast; omega⟩
   · rw [if_neg h4] at e
     by_cases h6 : a < (m + 1 : Int) ∨ free = true
     · rw [if_pos h6] at e
       by_cases h5 : bestTo free own a m ≤ own (m + 1) + 1
       · exact old (by omega)
       · exact ⟨m + 1, by omega, by omega, .inr (by push_cast; exact h6), by rw [if_neg (by push_cast; omega)]; push_cast; omega⟩
     · rw [if_neg h6] at e
       exact old e
theorem costK_bound {sub : Nat → Int → Int} (h : ∀ k a, 0 ≤ sub k a) {i : Nat} : ∀ n a, 0 ≤ costK s l p sub i n a ∧ costK s l p sub i n a ≤ never
 | 0, a => by unfold costK never; split <;> omega
 | n + 1, a => by
   have := costK_bound h (i := i) n a
   have := best_bound (free := freeP s p) (a := a) (h n) 3
   unfold costK
   split <;> omega
theorem costT_bound : ∀ f i a, 0 ≤ costT s l p f i a ∧ costT s l p f i a ≤ never
 | 0, _, _ => by unfold costT never; omega
 | f + 1, i, a => costK_bound (fun k b => (costT_bound f k b).1) _ _
theorem Es (i : Nat) (a : Int) : 0 ≤ costN s l p i a ∧ costN s l p i a ≤ never := costT_bound _ _ _
/-- What one edition changes. -/
def chg (l : List Int) (g : Nat → Int) (k : Nat) : Int := if upN l k = -1 then 0 else if g (upN l k).toNat = g k then 0 else 1
theorem chg_at {l : List Int} {g : Nat → Int} {k i : Nat} (hu : upN l k = (i : Int)) : chg l g k = if g i = g k then 0 else 1 := by
 have h1 : ¬ upN l k = -1 := by omega
 have h2 : (upN l k).toNat = i := by omega
 unfold chg; rw [if_neg h1, h2]
structure Filling (s : Stm) (l : List Int) (p : Nat) (g : Nat → Int) : Prop where
 val : ∀ i, i < l.length → 1 ≤ g i ∧ g i ≤ 3
 fit : ∀ i, i < l.length → fitR s p i (g i)
def Possible (s : Stm) (l : List Int) (p : Nat) (g : Nat → Int) : Prop := ∀ i, i < l.length → upN l i ≠ -1 → stepOk (freeP s p) (g (upN l i).toNat) (g i)
def changesOf (l : List Int) (g : Nat → Int) : Int := sumN l.length (chg l g)
theorem costK_le {sub : Nat → Int → Int} {g : Nat → Int} {i : Nat} (hfit : fitR s p i (g i)) : ∀ {n : Nat}, (∀ k, k < n → 1 ≤ g k ∧ g k ≤ 3) → (∀ k, k < n → upN l k = (i : Int) → stepOk (freeP s p) (g i) (g k)) →
   costK s l p sub i n (g i) ≤ sumN n (fun k => if upN l k = (i : Int) then sub k (g k) + (if g i = g k then 0 else 1) else 0)
 | 0, _, _ => by unfold costK sumN; rw [if_pos hfit]; exact Int.le_refl _
 | n + 1, h, h2 => by
   have ih := costK_le (sub := sub) hfit (n := n) (fun k hk => h k (by omega)) (fun k hk => h2 k (by omega))
   unfold costK
   simp only [sumN]
   split
   · rename_i hu
     have hv := h n (by omega)
     obtain ⟨b, hb⟩ := Int.eq_ofNat_of_zero_le (show 0 ≤ g n by omega)
     have hs := h2 n (by omega) hu
     rw [hb] at hs
     have := best_le (own := sub n) (m := 3) (b := b) (by omega) (by omega) hs
     rw [← hb] at this
     omega
   · omega
theorem sum_kids {c : Nat → Int} (ht : IsTree l) : sumN l.length (fun i => sumN l.length fun k => if upN l k = (i : Int) then c k else 0) = sumN l.length fun k => if upN l k = -1 then 0 else c k := by
 rw [sumN_swap]
 refine C7 fun k hk => ?_
 by_cases h : upN l k = -1
 · rw [if_pos h]; exact sumN_none h
 · rw [if_neg h]
   obtain ⟨j, hj, hjl⟩ := ht.in_.nat hk h
   rw [hj, C7 (g := fun i => if j = i then c k else 0) fun i _ => by simp only [Int.natCast_inj]]
   exact sumN_one hjl
theorem sum_split {c : Nat → Int} : sumN l.length c = sumN l.length (fun k => if upN l k = -1 then c k else 0) + sumN l.length fun k => if upN l k = -1 then 0 else c k := by
 rw [← sumN_add]
 exact C7 fun k _ => by split <;> omega
/-- A filling that is possible has no fewer changes. -/
theorem cost_lower (ht : IsTree l) {g : Nat → Int} (hf : Filling s l p g) (hp : Possible s l p g) {r : Nat} (hr : r < l.length) (hru : upN l r = -1) : costN s l p r (g r) ≤ changesOf l g := by
 have h1 : ∀ i, i < l.length → costN s l p i (g i) ≤ sumN l.length fun k => if upN l k = (i : Int) then costN s l p k (g k) + (if g i = g k then 0 else 1) else 0 := fun i hi => by
   rw [cost_fix ht hi]
   exact costK_le (hf.fit i hi) hf.val fun k hk hu => by have := hp k hk (by omega); rw [hu] at this; exact this
 have h2 := sumN_le h1
 have h3 : sumN l.length (fun i => sumN l.length fun k => if upN l k = (i : Int) then costN s l p k (g k) + (if g i = g k then 0 else 1) else 0) = sumN l.length fun k => if upN l k = -1 then 0 else costN s l p k (g k) + chg l g k := by
   rw [← sum_kids ht]
   refine C7 fun i _ => C7 fun k _ => ?_
   by_cases hu : upN l k = (i : Int)
   · rw [if_pos hu, if_pos hu, chg_at hu]
   · rw [if_neg hu, if_neg hu]
 rw [h3, sum_split (c := fun i => costN s l p i (g i))] at h2
 have h4 : sumN l.length (fun k => if upN l k = -1 then 0 else costN s l p k (g k) + chg l g k) = sumN l.length (fun k => if upN l k = -1 then 0 else costN s l p k (g k)) + changesOf l g := by
   unfold changesOf
   rw [← sumN_add]
   refine C7 fun k _ => ?_
   split
   · rename_i hu; unfold chg; rw [if_pos hu]; rfl
   · rfl
 rw [h4] at h2
 have h5 := sumN_mem (n := l.length) (i := r) (f := fun k => if upN l k = -1 then costN s l p k (g k) else 0) (fun k _ => by show 0 ≤ if upN l k = -1 then costN s l p k (g k) else 0; split; exact (Es _ _).1; exact Int.le_refl _) hr
 simp only [if_pos hru] at h5
 omega
/-- One that has just as many. -/
def stepB (free : Bool) (own : Int → Int) (a b : Int) : Bool := (decide (a = b) || (decide (a < b) || free)) && decide (bestTo free own a 3 = own b + (if a = b then 0 else 1))
theorem stepB_iff {free : Bool} {own : Int → Int} {a b : Int} : stepB free own a b = true ↔ stepOk free a b ∧ bestTo free own a 3 = own b + (if a = b then 0 else 1) := by simp [stepB, stepOk]
def pickM (free : Bool) (own : Int → Int) (a : Int) : Int := bif stepB free own a 1 then 1 else bif stepB free own a 2 then 2 else 3
theorem pickM_ok {free : Bool} {own : Int → Int} {a : Int} (h : bestTo free own a 3 < never) : 1 ≤ pickM free own a ∧ pickM free own a ≤ 3 ∧ stepOk free a (pickM free own a) ∧ bestTo free own a 3 = own (pickM free own a) + (if a = pickM free own a then 0 else 1) := by
 obtain ⟨b, h1, h2, h3, h4⟩ := best_some h
 have hb := stepB_iff.2 ⟨h3, h4⟩
 unfold pickM
 cases q1 : stepB free own a 1 with
 | true => exact ⟨Int.le_refl _, (show (1 : Int) ≤ 3 by decide), stepB_iff.1 q1⟩
 | false =>
   cases q2 : stepB free own a 2 with
   | true => exact ⟨(show (1 : Int) ≤ 2 by decide), (show (2 : Int) ≤ 3 by decide), stepB_iff.1 q2⟩
   | false =>
     have hb2 : b = 1 ∨ b = 2 ∨ b = 3 := by omega
     rcases hb2 with rfl | rfl | rfl
     · exact absurd (hb.symm.trans q1) (by decide)
     · exact absurd (hb.symm.trans q2) (by decide)
     · exact ⟨(show (1 : Int) ≤ 3 by decide), Int.le_refl _, h3, h4⟩
def walkUp (l : List Int) (z : Int) (st : Nat → Int → Int) : Nat → Nat → Int
 | 0, _ => z
 | f + 1, i => if upN l i = -1 then z else st i (walkUp l z st f (upN l i).toNat)
theorem walk_stable {z : Int} {st : Nat → Int → Int} : ∀ {f i : Nat}, reach l f i = true → walkUp l z st (f + 1) i = walkUp l z st f i
 | 0, i, h => by have : upN l i = -1 := by simpa [reach] using h
                 unfold walkUp; rw [if_pos this]
 | f + 1, i, h => by
   by_cases h1 : upN l i = -1
   · unfold walkUp; rw [if_pos h1, if_pos h1]
   · simp only [reach, decide_eq_false h1, Bool.false_or] at h
     have e := walk_stable (z := z) (st := st) h
     rw [walkUp, if_neg h1, e]
     conv => rhs; rw [walkUp, if_neg h1]
theorem walk_edge {z : Int} {st : Nat → Int → Int} {f i k : Nat} (h : upN l i = (k : Int)) (hr : reach l f i = true) : walkUp l z st f i = st i (walkUp l z st f k) := by
 obtain ⟨f', rfl, h2⟩ := reach_up h hr
 rw [walk_stable h2]
 conv => lhs; rw [walkUp, if_neg (by omega), h]
 rfl
theorem walk_root {z : Int} {st : Nat → Int → Int} {f i : Nat} (h : upN l i = -1) : walkUp l z st f i = z := by cases f <;> simp [walkUp, h]
theorem costK_parts {sub : Nat → Int → Int} (hs : ∀ k a, 0 ≤ sub k a) {i : Nat} {a : Int} : ∀ {n : Nat}, costK s l p sub i n a < never → fitR s p i a ∧ (∀ k, k < n → upN l k = (i : Int) → bestTo (freeP s p) (sub k) a 3 < never) ∧
   costK s l p sub i n a = sumN n (fun k => if upN l k = (i : Int) then bestTo (freeP s p) (sub k) a 3 else 0)
 | 0, h => by
   unfold costK at h ⊢
   split at h
   · rename_i hf; exact ⟨hf, fun k hk => absurd hk (by omega), by rw [if_pos hf]; rfl⟩
   · omega
 | n + 1, h => by
   have e : costK s l p sub i (n + 1) a = if upN l n = (i : Int) then min never (costK s l p sub i n a + bestTo (freeP s p) (sub n) a 3) else costK s l p sub i n a := rfl
   rw [e] at h ⊢
   have hb := best_bound (free := freeP s p) (a := a) (hs n) 3
   have hk := costK_bound (s := s) (l := l) (p := p) hs (i := i) n a
   by_cases hu : upN l n = (i : Int)
   · rw [if_pos hu] at h ⊢
     obtain ⟨h1, h2, h3⟩ := costK_parts hs (n := n) (a := a) (i := i) (by omega)
     refine ⟨h1, fun k hk hu2 => ?_, ?_⟩
     · by_cases hkn : k = n
       · subst hkn; omega
       · exact h2 k (by omega) hu2
     · simp only [sumN]; rw [if_pos hu, ← h3]; omega
   · rw [if_neg hu] at h ⊢
     obtain ⟨h1, h2, h3⟩ := costK_parts hs (n := n) h
     refine ⟨h1, fun k hk hu2 => ?_, ?_⟩
     · by_cases hkn : k = n
       · subst hkn; exact absurd hu2 hu
       · exact h2 k (by omega) hu2
     · simp only [sumN]; rw [if_neg hu, ← h3]; omega
theorem first_le_one {n : Nat} : ∀ i k, i < n → k < n → upN l i = -1 → upN l k = -1 → firstsN l n ≤ 1 → i = k := by
 have key : ∀ n i k, i < k → k < n → upN l i = -1 → upN l k = -1 → 2 ≤ firstsN l n := by
   have one : ∀ n i, i < n → upN l i = -1 → 1 ≤ firstsN l n := by
     intro n
     induction n with
     | zero => intro i h; omega
     | succ n ih =>
       intro i hi hu
       unfold firstsN
       by_cases h : i = n
       · subst h; rw [if_pos hu]; have := Ez (l := l) i; omega
       · have := ih i (by omega) hu; split <;> omega
   intro n
   induction n with
   | zero => intro i k _ h; omega
   | succ n ih =>
     intro i k hik hk h1 h2
     unfold firstsN
     by_cases h : k = n
     · subst h; rw [if_pos h2]; have := one k i hik h1; omega
     · have := ih i k hik (by omega) h1 h2; split <;> omega
 intro i k hi hk h1 h2 h3
 rcases Nat.lt_trichotomy i k with h | h | h
 · have := key n i k h hk h1 h2; omega
 · exact h
 · have := key n k i h hi h2 h1; omega
theorem cost_upper (ht : IsTree l) {r : Nat} (hr : r < l.length) (hru : upN l r = -1) {a : Int} (ha : 1 ≤ a ∧ a ≤ 3) (hc : costN s l p r a < never) : ∃ g, Filling s l p g ∧ Possible s l p g ∧ g r = a ∧ changesOf l g = costN s l p r a := by
 let g : Nat → Int := walkUp l a (fun i b => pickM (freeP s p) (costN s l p i) b) l.length
 have hgr : g r = a := walk_root hru
 have huniq : ∀ k, k < l.length → upN l k = -1 → k = r := fun k hk hu => first_le_one k r hk hr hu hru (by rw [ht.one]; exact Int.le_refl _)
 have hge : ∀ k (i : Nat), k < l.length → upN l k = (i : Int) → g k = pickM (freeP s p) (costN s l p k) (g i) := fun k i hk hu => walk_edge hu (ht.reach k hk)
 have hnn : ∀ k b, 0 ≤ costN s l p k b := fun k b => (Es k b).1
 -- all costs along g are less than never
 have hall : ∀ d i, i < l.length → dep l l.length i ≤ d → costN s l p i (g i) < never := by
   intro d
   induction d with
   | zero =>
     intro i hi hd
     by_cases hu : upN l i = -1
     · rw [huniq i hi hu, hgr]; exact hc
     · obtain ⟨j, hj, hjl⟩ := ht.in_.nat hi hu
       have := dep_edge hj (ht.reach i hi)
       omega
   | succ d ih =>
     intro i hi hd
     by_cases hu : upN l i = -1
     · rw [huniq i hi hu, hgr]; exact hc
     · obtain ⟨j, hj, hjl⟩ := ht.in_.nat hi hu
       have h1 := dep_edge hj (ht.reach i hi)
       have h2 := ih j hjl (by omega)
       rw [cost_fix ht hjl] at h2
       obtain ⟨-, h3, -⟩ := costK_parts hnn h2
       have h4 := h3 i hi hj
       have h5 := pickM_ok h4
       rw [← hge i j hi hj] at h5
       have := (hnn i (g i))
       have h6 := h5.2.2.2
       split at h6 <;> omega
 have hlt : ∀ i, i < l.length → costN s l p i (g i) < never := fun i hi => hall _ i hi (Nat.le_refl _)
 have hparts : ∀ i, i < l.length → fitR s p i (g i) ∧ (∀ k, k < l.length → upN l k = (i : Int) → bestTo (freeP s p) (costN s l p k) (g i) 3 < never) ∧ costN s l p i (g i) = sumN l.length (fun k => if upN l k = (i : Int) then bestTo (freeP s p) (costN s l p k) (g i) 3 else 0) := fun i hi => by
   have h := hlt i hi
   have hfx := congrFun (cost_fix (s := s) (p := p) ht hi) (g i)
   rw [hfx] at h ⊢
   exact costK_parts hnn h
 have hkid : ∀ i k, i < l.length → k < l.length → upN l k = (i : Int) → 1 ≤ g k ∧ g k ≤ 3 ∧ stepOk (freeP s p) (g i) (g k) ∧ bestTo (freeP s p) (costN s l p k) (g i) 3 = costN s l p k (g k) + (if g i = g k then 0 else 1) := fun i k hi hk hu => by
   have := pickM_ok ((hparts i hi).2.1 k hk hu)
   rw [← hge k i hk hu] at this
   exact this
 refine ⟨g, ⟨fun i hi => ?_, fun i hi => (hparts i hi).1⟩, fun i hi hu => ?_, hgr, ?_⟩
 · by_cases hu : upN l i = -1
   · rw [huniq i hi hu, hgr]; exact ha
   · obtain ⟨j, hj, hjl⟩ := ht.in_.nat hi hu
     have := hkid j i hjl hi hj
     exact ⟨this.1, this.2.1⟩
 · obtain ⟨j, hj, hjl⟩ := ht.in_.nat hi hu
   have := (hkid j i hjl hi hj).2.2.1
   rw [hj]; exact this
 · have h1 : sumN l.length (fun i => costN s l p i (g i)) = sumN l.length fun i => sumN l.length fun k => if upN l k = (i : Int) then costN s l p k (g k) + chg l g k else 0 := by
     refine C7 fun i hi => ?_
     rw [(hparts i hi).2.2]
     refine C7 fun k hk => ?_
     by_cases hu : upN l k = (i : Int)
     · rw [if_pos hu, if_pos hu, (hkid i k hi hk hu).2.2.2, chg_at hu]
     · rw [if_neg hu, if_neg hu]
   rw [sum_kids ht, sum_split (c := fun i => costN s l p i (g i))] at h1
   have h4 : sumN l.length (fun k => if upN l k = -1 then 0 else costN s l p k (g k) + chg l g k) = sumN l.length (fun k => if upN l k = -1 then 0 else costN s l p k (g k)) + changesOf l g := by
     unfold changesOf
     rw [← sumN_add]
     refine C7 fun k _ => ?_
     split
     · rename_i hu; unfold chg; rw [if_pos hu]; rfl
     · rfl
   rw [h4] at h1
   have h5 : sumN l.length (fun k => if upN l k = -1 then costN s l p k (g k) else 0) = costN s l p r a := by
     rw [C7 (g := fun k => if r = k then costN s l p r a else 0) fun k hk => ?_]
     · exact sumN_one hr
     · by_cases hu : upN l k = -1
       · rw [if_pos hu, huniq k hk hu, if_pos rfl, hgr]
       · rw [if_neg hu, if_neg (fun h : r = k => hu (by rw [← h]; exact hru))]
   omega
end
end Go.Proofs.Ytccogmkhijgelaa
namespace Go.Proofs.Ytccogmkhijgelaa
/-- All fillings that begin so, with so many editions more. -/
def fillF (s : Stm) (p : Nat) : Nat → List Int → List (List Int)
 | 0, b => [b]
 | r + 1, b => ([1, 2, 3] : List Int).flatMap fun n => if fitR s p b.length n then fillF s p r (b ++ [n]) else []
def allFill (s : Stm) (p : Nat) : List (List Int) := fillF s p s.editions.length []
theorem fill_mem {s : Stm} {p : Nat} : ∀ {r : Nat} {b xs : List Int}, xs ∈ fillF s p r b ↔ ∃ t, xs = b ++ t ∧ t.length = r ∧ ∀ j, j < r → 1 ≤ upN t j ∧ upN t j ≤ 3 ∧ fitR s p (b.length + j) (upN t j)
 | 0, b, xs => by
   unfold fillF
   simp only [List.mem_singleton]
   constructor
   · rintro rfl; exact ⟨[], by simp, rfl, fun j h => absurd h (by omega)⟩
   · rintro ⟨t, rfl, ht, -⟩; rw [List.eq_nil_of_length_eq_zero ht]; simp
 | r + 1, b, xs => by
   unfold fillF
   rw [List.mem_flatMap]
   constructor
   · rintro ⟨n, hn, hx⟩
     split at hx
     · rename_i hf
       obtain ⟨t, rfl, ht, h⟩ := fill_mem.1 hx
       have hn3 : 1 ≤ n ∧ n ≤ 3 := by simp at hn; omega
       refine ⟨n :: t, by simp, by simp [ht], fun j hj => ?_⟩
       cases j with
       | zero => exact ⟨hn3.1, hn3.2, hf⟩
       | succ j =>
         have := h j (by omega)
         rw [List.length_append, List.length_singleton, show b.length + 1 + j = b.length + (j + 1) by omega] at this
         exact this
     · cases hx
   · rintro ⟨t, rfl, ht, h⟩
     cases t with
     | nil => cases ht
     | cons n t =>
       have h0 := h 0 (by omega)
       have h0' : 1 ≤ n ∧ n ≤ 3 ∧ fitR s p b.length n := h0
       refine ⟨n, by simp; omega, ?_⟩
       rw [if_pos h0'.2.2]
       refine fill_mem.2 ⟨t, by simp, by simpa using ht, fun j hj => ?_⟩
       have := h (j + 1) (by omega)
       rw [List.length_append, List.length_singleton, show b.length + 1 + j = b.length + (j + 1) by omega]
       exact this
theorem allFill_mem {s : Stm} {p : Nat} {l xs : List Int} (hl : l.length = s.editions.length) : xs ∈ allFill s p ↔ xs.length = l.length ∧ Filling s l p (upN xs) := by
 unfold allFill
 rw [fill_mem]
 constructor
 · rintro ⟨t, rfl, ht, h⟩
   simp only [List.length_nil, Nat.zero_add] at *
   exact ⟨by omega, fun i hi => ⟨(h i (by omega)).1, (h i (by omega)).2.1⟩, fun i hi => (h i (by omega)).2.2⟩
 · rintro ⟨h1, h2⟩
   exact ⟨xs, rfl, by omega, fun j hj => ⟨(h2.val j (by omega)).1, (h2.val j (by omega)).2, by have := h2.fit j (by omega); simpa using this⟩⟩
theorem upN_map {g : Nat → Int} {n i : Nat} (h : i < n) : upN ((List.range n).map g) i = g i := by simp [upN, h]
/-- Whether an edition's reading can come of its source's. -/
def possAt (s : Stm) (l : List Int) (p : Nat) (g : Nat → Int) (i : Nat) : Bool := decide (upN l i = -1) || (decide (g (upN l i).toNat = g i) || (decide (g (upN l i).toNat < g i) || freeP s p))
def possB (s : Stm) (l : List Int) (p : Nat) (g : Nat → Int) : Bool := (List.range l.length).all (possAt s l p g)
theorem possAt_iff {s : Stm} {l : List Int} {p i : Nat} {g : Nat → Int} : possAt s l p g i = true ↔ (upN l i ≠ -1 → stepOk (freeP s p) (g (upN l i).toNat) (g i)) := by
 unfold possAt stepOk
 simp only [Bool.or_eq_true, decide_eq_true_eq]
 constructor
 · rintro (h | h) h2
   · exact absurd h h2
   · exact h
 · intro h
   by_cases h2 : upN l i = -1
   · exact .inl h2
   · exact .inr (h h2)
theorem possB_iff {s : Stm} {l : List Int} {p : Nat} {g : Nat → Int} : possB s l p g = true ↔ Possible s l p g := by
 unfold possB Possible
 rw [List.all_eq_true]
 exact ⟨fun h i hi => possAt_iff.1 (h i (List.mem_range.2 hi)), fun h i hi => possAt_iff.2 (h i (List.mem_range.1 hi))⟩
def countL (s : Stm) (l : List Int) (p : Nat) (xs : List Int) : Int := if possB s l p (upN xs) = true then changesOf l (upN xs) else 1000
def leastL (s : Stm) (l : List Int) (p : Nat) : Int := (allFill s p).foldl (fun m xs => min m (countL s l p xs)) 1000
theorem chg_bound {l : List Int} {g : Nat → Int} {k : Nat} : 0 ≤ chg l g k ∧ chg l g k ≤ 1 := by unfold chg; split; omega; split <;> omega
theorem changesOf_bound {l : List Int} {g : Nat → Int} : 0 ≤ changesOf l g ∧ changesOf l g ≤ l.length := by
 unfold changesOf
 refine ⟨sumN_nonneg fun i _ => chg_bound.1, ?_⟩
 have key : ∀ n, sumN n (chg l g) ≤ n := by
   intro n
   induction n with
   | zero => exact Int.le_refl _
   | succ n ih => simp only [sumN]; have := (chg_bound (l := l) (g := g) (k := n)).2; push_cast; omega
 exact key _
theorem foldmin_le {α : Type} {f : α → Int} : ∀ {l : List α} {m c : Int}, c ≤ l.foldl (fun m x => min m (f x)) m ↔ c ≤ m ∧ ∀ x ∈ l, c ≤ f x
 | [], m, c => by simp
 | a :: l, m, c => by
   rw [List.foldl_cons, foldmin_le]
   constructor
   · rintro ⟨h1, h2⟩
     refine ⟨by omega, fun x hx => ?_⟩
     rcases List.mem_cons.1 hx with rfl | hx
     · omega
     · exact h2 x hx
   · rintro ⟨h1, h2⟩
     have := h2 a List.mem_cons_self
     exact ⟨by omega, fun x hx => h2 x (List.mem_cons_of_mem _ hx)⟩
theorem foldmin_mem {α : Type} {f : α → Int} {l : List α} {m : Int} {x : α} (hx : x ∈ l) : l.foldl (fun m x => min m (f x)) m ≤ f x := (foldmin_le.1 (Int.le_refl _)).2 x hx
theorem foldmin_start {α : Type} {f : α → Int} {l : List α} {m : Int} : l.foldl (fun m x => min m (f x)) m ≤ m := (foldmin_le.1 (Int.le_refl _)).1
theorem first_some {l : List Int} {n : Nat} (h : 1 ≤ firstsN l n) : ∃ r, r < n ∧ upN l r = -1 := by
 induction n with
 | zero => unfold firstsN at h; omega
 | succ n ih =>
   by_cases hu : upN l n = -1
   · exact ⟨n, by omega, hu⟩
   · unfold firstsN at h
     rw [if_neg hu] at h
     obtain ⟨r, h1, h2⟩ := ih h
     exact ⟨r, by omega, h2⟩
theorem root_at {l : List Int} (ht : IsTree l) : ∃ r : Nat, rootN l = (r : Int) ∧ r < l.length ∧ upN l r = -1 := by
 obtain ⟨r, h1, h2⟩ := first_some (l := l) (n := l.length) (by rw [ht.one]; exact Int.le_refl _)
 refine ⟨r, ?_, h1, h2⟩
 unfold rootN
 refine Du h1 (by rw [Dd h1]; exact decide_eq_true h2.symm) fun j hj hjr => ?_
 rw [Dd hj]
 refine decide_eq_false fun h => ?_
 have := first_le_one (l := l) j r hj h1 h.symm h2 (by rw [ht.one]; exact Int.le_refl _)
 omega
theorem min3_le {c : Int → Int} {a : Int} (h : 1 ≤ a ∧ a ≤ 3) : min3 c ≤ c a := by
 unfold min3
 have : a = 1 ∨ a = 2 ∨ a = 3 := by omega
 rcases this with rfl | rfl | rfl <;> omega
theorem min3_some {c : Int → Int} : ∃ a, (1 ≤ a ∧ a ≤ 3) ∧ min3 c = c a := by
 unfold min3
 by_cases h1 : c 1 ≤ c 2
 · by_cases h2 : c 1 ≤ c 3
   · exact ⟨1, by omega, by omega⟩
   · exact ⟨3, by omega, by omega⟩
 · by_cases h2 : c 2 ≤ c 3
   · exact ⟨2, by omega, by omega⟩
   · exact ⟨3, by omega, by omega⟩
section
variable {s : Stm} {l : List Int} {p : Nat}
theorem D6 : 0 ≤ placeN s l p ∧ placeN s l p ≤ never := by
 obtain ⟨a, -, h⟩ := min3_some (c := costN s l p (rootN l).toNat)
 unfold placeN
 rw [h]
 exact Es _ _
theorem placeN_lower (ht : IsTree l) {g : Nat → Int} (hf : Filling s l p g) (hp : Possible s l p g) : placeN s l p ≤ changesOf l g := by
 obtain ⟨r, h1, h2, h3⟩ := root_at ht
 unfold placeN
 rw [h1]
 exact Int.le_trans (min3_le (hf.val r h2)) (cost_lower ht hf hp h2 h3)
theorem placeN_upper (ht : IsTree l) (h : placeN s l p < never) : ∃ g, Filling s l p g ∧ Possible s l p g ∧ changesOf l g = placeN s l p := by
 obtain ⟨r, h1, h2, h3⟩ := root_at ht
 obtain ⟨a, ha, h4⟩ := min3_some (c := costN s l p (rootN l).toNat)
 have e : placeN s l p = costN s l p r a := by unfold placeN; rw [h4, h1]; rfl
 rw [e] at h ⊢
 obtain ⟨g, h5, h6, -, h7⟩ := cost_upper ht h2 h3 ha h
 exact ⟨g, h5, h6, h7⟩
theorem changesOf_congr {g g' : Nat → Int} (hin : TreeIn l) (h : ∀ i, i < l.length → g i = g' i) : changesOf l g = changesOf l g' := by
 refine C7 fun k hk => ?_
 unfold chg
 by_cases hu : upN l k = -1
 · rw [if_pos hu, if_pos hu]
 · obtain ⟨j, hj, hjl⟩ := hin.nat hk hu
   rw [if_neg hu, if_neg hu, hj, h k hk, Int.toNat_natCast, h j hjl]
theorem Filling.congr {g g' : Nat → Int} (hf : Filling s l p g) (h : ∀ i, i < l.length → g i = g' i) : Filling s l p g' :=
 ⟨fun i hi => by rw [← h i hi]; exact hf.val i hi, fun i hi => by rw [← h i hi]; exact hf.fit i hi⟩
theorem Possible.congr {g g' : Nat → Int} (hin : TreeIn l) (hp : Possible s l p g) (h : ∀ i, i < l.length → g i = g' i) : Possible s l p g' := fun i hi hu => by
 obtain ⟨j, hj, hjl⟩ := hin.nat hi hu
 have := hp i hi hu
 rw [hj, Int.toNat_natCast] at this ⊢
 rw [← h i hi, ← h j hjl]
 exact this
theorem leastL_le {g : Nat → Int} (hin : TreeIn l) (hl : l.length = s.editions.length) (hf : Filling s l p g) (hp : Possible s l p g) : leastL s l p ≤ changesOf l g := by
 have hx : ((List.range l.length).map g) ∈ allFill s p := (allFill_mem hl).2 ⟨by simp, hf.congr fun i hi => (upN_map hi).symm⟩
 have h1 := foldmin_mem (f := countL s l p) (m := 1000) hx
 have h2 : countL s l p ((List.range l.length).map g) = changesOf l g := by
   unfold countL
   rw [if_pos (possB_iff.2 (hp.congr hin fun i hi => (upN_map hi).symm))]
   exact changesOf_congr hin fun i hi => upN_map hi
 rw [h2] at h1
 exact h1
theorem le_least {c : Int} (h0 : c ≤ 1000) (hl : l.length = s.editions.length) (h : ∀ g, Filling s l p g → Possible s l p g → c ≤ changesOf l g) : c ≤ leastL s l p := by
 refine foldmin_le.2 ⟨h0, fun xs hx => ?_⟩
 unfold countL
 split
 · rename_i hp; exact h _ ((allFill_mem hl).1 hx).2 (possB_iff.1 hp)
 · exact h0
/-- Both are the same. -/
theorem least_place (ht : IsTree l) (hl : l.length = s.editions.length) (hn : l.length ≤ 1000) : (placeN s l p < never → leastL s l p = placeN s l p ∧ placeN s l p ≤ l.length) ∧ (placeN s l p = never → leastL s l p = 1000) := by
 constructor
 · intro h
   obtain ⟨g, h1, h2, h3⟩ := placeN_upper ht h
   have hb := (changesOf_bound (l := l) (g := g)).2
   refine ⟨Int.le_antisymm ?_ (le_least (by omega) hl fun g' h4 h5 => placeN_lower ht h4 h5), by omega⟩
   rw [← h3]; exact leastL_le ht.in_ hl h1 h2
 · intro h
   refine Int.le_antisymm foldmin_start (le_least (Int.le_refl _) hl fun g h4 h5 => ?_)
   have h6 := placeN_lower ht h4 h5
   have hb := (changesOf_bound (l := l) (g := g)).2
   unfold never at h; omega
theorem Eq : 0 ≤ leastL s l p ∧ leastL s l p ≤ 1000 := by
 refine ⟨foldmin_le.2 ⟨by omega, fun xs _ => ?_⟩, foldmin_start⟩
 unfold countL
 split
 · exact changesOf_bound.1
 · omega
def chTo (s : Stm) (l : List Int) : Nat → Int
 | 0 => if fitsE s (treeE l) = true then 0 else never
 | k + 1 => min never (chTo s l k + placeN s l k)
def changesN (s : Stm) (l : List Int) : Int := chTo s l s.places.length
def costL (s : Stm) (l : List Int) : Int := if fitsE s (treeE l) = true then min (sumN s.places.length (leastL s l)) 1000 else 1000
theorem chTo_bound : ∀ k, 0 ≤ chTo s l k ∧ chTo s l k ≤ never
 | 0 => by unfold chTo never; split <;> omega
 | k + 1 => by have := chTo_bound k; have := D6 (s := s) (l := l) (p := k); unfold chTo; omega
theorem chTo_never (h : fitsE s (treeE l) = false) : ∀ k, chTo s l k = never
 | 0 => by unfold chTo; rw [h]; rfl
 | k + 1 => by have := chTo_never h k; have := D6 (s := s) (l := l) (p := k); unfold chTo; omega
theorem chTo_least (ht : IsTree l) (hl : l.length = s.editions.length) (hn : l.length ≤ 10) (hf : fitsE s (treeE l) = true) : ∀ k, k ≤ 10 → (chTo s l k < never → sumN k (leastL s l) = chTo s l k ∧ chTo s l k ≤ 10 * k) ∧ (chTo s l k = never → 1000 ≤ sumN k (leastL s l))
 | 0, _ => by
   unfold chTo sumN
   rw [if_pos hf]
   exact ⟨fun _ => ⟨rfl, by omega⟩, fun h => by unfold never at h; omega⟩
 | k + 1, hk => by
   have ih := chTo_least ht hl hn hf k (by omega)
   have h1 := least_place (p := k) ht hl (by omega)
   have h2 := D6 (s := s) (l := l) (p := k)
   have h3 := chTo_bound (s := s) (l := l) k
   have h4 := Eq (s := s) (l := l) (p := k)
   have h5 : 0 ≤ sumN k (leastL s l) := sumN_nonneg fun i _ => Eq.1
   unfold chTo
   simp only [sumN]
   by_cases h6 : chTo s l k < never
   · obtain ⟨h7, h8⟩ := ih.1 h6
     by_cases h9 : placeN s l k < never
     · obtain ⟨h10, h11⟩ := h1.1 h9
       unfold never at *
       constructor
       · intro _; push_cast; omega
       · intro _; omega
     · have h10 := h1.2 (by omega)
       unfold never at *
       exact ⟨fun _ => by omega, fun _ => by omega⟩
   · have h7 := ih.2 (by omega)
     unfold never at *
     exact ⟨fun _ => by omega, fun _ => by omega⟩
/-- Both are the same. -/
theorem changes_cost (ht : IsTree l) (hv : ValidT s) (hl : l.length = s.editions.length) : (changesN s l < never → costL s l = changesN s l ∧ changesN s l ≤ 60) ∧ (changesN s l = never → costL s l = 1000) ∧ 0 ≤ changesN s l ∧ changesN s l ≤ never := by
 have hne := hv.ne
 have hnp := hv.np
 refine ⟨?_, ?_, chTo_bound _⟩
 · intro h
   cases hf : fitsE s (treeE l) with
   | false => unfold changesN at h; rw [chTo_never hf] at h; omega
   | true =>
     obtain ⟨h1, h2⟩ := (chTo_least ht hl (by omega) hf s.places.length (by omega)).1 h
     unfold costL changesN at *
     rw [if_pos hf, h1]
     omega
 · intro h
   unfold costL
   cases hf : fitsE s (treeE l) with
   | false => rfl
   | true =>
     have := (chTo_least ht hl (by omega) hf s.places.length (by omega)).2 h
     rw [if_pos rfl]; omega
theorem costL_bound : 0 ≤ costL s l ∧ costL s l ≤ 1000 := by
 have : 0 ≤ sumN s.places.length (leastL s l) := sumN_nonneg fun i _ => Eq.1
 unfold costL; split <;> omega
/-- The one as the other has it. -/
def costV (s : Stm) (l : List Int) : Int := if costL s l = 1000 then never else costL s l
theorem changes_costV (ht : IsTree l) (hv : ValidT s) (hl : l.length = s.editions.length) : changesN s l = costV s l := by
 obtain ⟨h1, h2, h3, h4⟩ := changes_cost ht hv hl
 unfold costV
 by_cases h : changesN s l < never
 · obtain ⟨h5, h6⟩ := h1 h
   rw [if_neg (by omega), h5]
 · rw [if_pos (h2 (by omega))]; omega
theorem place_leastV (ht : IsTree l) (hv : ValidT s) (hl : l.length = s.editions.length) : placeN s l p = if leastL s l p = 1000 then never else leastL s l p := by
 have hne := hv.ne
 obtain ⟨h1, h2⟩ := least_place (p := p) ht hl (by omega)
 have h3 := D6 (s := s) (l := l) (p := p)
 by_cases h : placeN s l p < never
 · obtain ⟨h5, h6⟩ := h1 h
   rw [if_neg (by omega), h5]
 · rw [if_pos (h2 (by omega))]; omega
end
end Go.Proofs.Ytccogmkhijgelaa
namespace Go.Proofs.Ytccogmkhijgelaa
open Go.RowKit
section
variable {P : Program} {n : Nat} {B : Base} {e : Env} {σ : St} {ty : TypeId} {pos : String} {af : Array Edge}
theorem x_callF {d : Option Nat} {g : FuncId} {f : Operand} {fs cs vs : List Value} {xs : List Operand} {at_ : Array TypeId}
   {R : Value → Heap → Prop} {K : Value → St → Prop} (hg : Body P g) (hf : ev e f = .func (.func g) fs.toArray cs.toArray) (hx : Av e xs vs)
   (hok : Ok P g (fs ++ vs ++ cs).toArray σ.F R) (hn : ∀ v F', R v F' → σ.F.le F' → K v ⟨F', σ.H⟩) :
   OpX P n B ⟨d, .call ⟨.value f, xs.toArray, at_⟩, ty, pos, af, none⟩ e σ K := by
 intro a w ha hw next Qx hnext
 unfold Oper.wp
 rw [ha.ev, run_callFn hg hf hx, Oper.upon_enter]
 refine (hok w hw.sub (by simp) (by simp [keys])).mono fun r w' hq => ?_
 obtain ⟨v, F', H', rfl, hg', hk, hH', hR⟩ := hq
 have : H' = [] := by cases H' with | nil => rfl | cons p H' => simp [keys] at hk
 subst this
 exact hnext v _ w' (hn v F' hR hg'.le) (by simpa using hw.grow (Hc := []) (rest := σ.H) (H' := []) rfl hg' hk hH')
theorem q_callF {d : Option Nat} {g : FuncId} {f : Operand} {fs cs vs : List Value} {xs : List Operand} {at_ : Array TypeId} {R : Value → Heap → Prop} {v : Value} (hg : Body P g) (hf : ev e f = .func (.func g) fs.toArray cs.toArray) (hx : Av e xs vs)
   (hok : Ok P g (fs ++ vs ++ cs).toArray σ.F R) (hR : ∀ u F', R u F' → u = v) : OpQ P n B ⟨d, .call ⟨.value f, xs.toArray, at_⟩, ty, pos, af, none⟩ e σ v :=
 q_callFn hf hx ⟨g, fs, cs, rfl, hg, hok⟩ hR
/-- Arrays sliced from the front, or to the end. -/
theorem q_sliceArrTo {T E s m b k : Nat} {x y : Operand} {kd : IntKind} {i : Int} {d : Option Nat} {gd : Option (Nat × Bool)} (hT : P.underlying T = some (.array m E)) (hE : SizeT P E s) (hx : ev e x = .pointer (some ⟨b, 0, none⟩)) (hy : ev e y = .int kd i) (hi : i = (k : Int)) (hle : k ≤ m) :
   OpR P B ⟨d, .slice T x none (some y) none, ty, pos, af, gd⟩ e σ (subslice (.slice (some ⟨b, 0, none⟩) m m) 0 k s) := fun w _ => by
 subst hi
 have hs := Cs (P := P) (T := E) (s := s) hE
 by_cases h0 : m = 0
 · subst h0
   have : k = 0 := by omega
   subst this
   simp [execOp, hx, hy, Instr.sliceAt, Instr.sureAddr, Instr.sliceBounds, Instr.sliceBound, asIntOf, Cb hT, hs, Addr.add, subslice]
 · simp [execOp, hx, hy, Instr.sliceAt, Instr.sureAddr, Instr.sliceBounds, Instr.sliceBound, asIntOf, Cb hT, hs, Addr.add, subslice, hle, h0, addc]
theorem q_sliceArrFrom {T E s m b k : Nat} {x y : Operand} {kd : IntKind} {i : Int} {d : Option Nat} {gd : Option (Nat × Bool)} (hT : P.underlying T = some (.array m E)) (hE : SizeT P E s) (hx : ev e x = .pointer (some ⟨b, 0, none⟩)) (hy : ev e y = .int kd i) (hi : i = (k : Int)) (hle : k < m) :
   OpR P B ⟨d, .slice T x (some y) none none, ty, pos, af, gd⟩ e σ (subslice (.slice (some ⟨b, 0, none⟩) m m) k m s) := fun w _ => by
 subst hi
 have hs := Cs (P := P) (T := E) (s := s) hE
 have h0 : ¬ m = k := by omega
 have h1 : k ≤ m := by omega
 simp [execOp, hx, hy, Instr.sliceAt, Instr.sureAddr, Instr.sliceBounds, Instr.sliceBound, asIntOf, Cb hT, hs, Addr.add, subslice, h0, h1, addc, Int.toNat_natCast]
 exact fun h => h.symm
end
/-- A row of which one cell is another. -/
theorem flat_set {α : Type} {enc : α → List Value} {s : Nat} (hs : ∀ x, (enc x).length = s) {j : Nat} {u : Value} {x : α} (hj : j < s) : ∀ (l : List α) (i : Nat) (hi : i < l.length), enc x = (enc l[i]).set j u →
   (l.flatMap enc).set (i * s + j) u = (l.set i x).flatMap enc
 | [], i, hi, _ => absurd hi (by simp)
 | a :: l, 0, hi, h => by
   simp only [List.flatMap_cons, List.set_cons_zero, List.getElem_cons_zero, Nat.zero_mul, Nat.zero_add] at h ⊢
   rw [List.set_append_left _ _ (by rw [hs]; exact hj), h]
 | a :: l, i + 1, hi, h => by
   simp only [List.flatMap_cons, List.set_cons_succ, List.getElem_cons_succ] at h ⊢
   rw [List.set_append_right _ _ (by rw [hs, Nat.add_mul, Nat.one_mul]; omega)]
   rw [show (i + 1) * s + j - (enc a).length = i * s + j by rw [hs, Nat.add_mul, Nat.one_mul]; omega]
   rw [flat_set hs hj l i (by simpa using hi) h]
def iL (f : Nat → Int) (n : Nat) : List Int := (List.range n).map f
def spL (lo hi : Nat → Int) (n : Nat) : List (Int × Int) := (List.range n).map fun i => (lo i, hi i)
theorem C5 {f : Nat → Int} {n : Nat} : (iL f n).length = n := by simp [iL]
theorem Dt {lo hi : Nat → Int} {n : Nat} : (spL lo hi n).length = n := by simp [spL]
theorem iL_succ {f : Nat → Int} {n : Nat} : iL f (n + 1) = iL f n ++ [f n] := by simp [iL, List.range_succ]
theorem spL_succ {lo hi : Nat → Int} {n : Nat} : spL lo hi (n + 1) = spL lo hi n ++ [(lo n, hi n)] := by simp [spL, List.range_succ]
theorem iL_at {f : Nat → Int} {n i : Nat} (h : i < (iL f n).length) : (iL f n)[i] = f i := by simp [iL]
theorem spL_at {lo hi : Nat → Int} {n i : Nat} (h : i < (spL lo hi n).length) : (spL lo hi n)[i] = (lo i, hi i) := by simp [spL]
theorem iL_get {f : Nat → Int} {n i : Nat} (h : i < n) : ((iL f n).flatMap intE)[i * 1]? = some (.int .i64 (f i)) := by
 have hl : i < (iL f n).length := by rw [C5]; exact h
 have := flat_at (enc := intE) (s := 1) (fun _ => rfl) (j := 0) (u := .int .i64 (f i)) (iL f n) i hl (by rw [iL_at hl]; rfl)
 exact this
theorem spL_get0 {lo hi : Nat → Int} {n i : Nat} (h : i < n) : ((spL lo hi n).flatMap spanE)[i * 2 + 0]? = some (.int .i64 (lo i)) := by
 have hl : i < (spL lo hi n).length := by rw [Dt]; exact h
 exact flat_at (enc := spanE) (s := 2) (fun _ => rfl) (spL lo hi n) i hl (by rw [spL_at hl]; rfl)
theorem spL_get1 {lo hi : Nat → Int} {n i : Nat} (h : i < n) : ((spL lo hi n).flatMap spanE)[i * 2 + 1]? = some (.int .i64 (hi i)) := by
 have hl : i < (spL lo hi n).length := by rw [Dt]; exact h
 exact flat_at (enc := spanE) (s := 2) (fun _ => rfl) (spL lo hi n) i hl (by rw [spL_at hl]; rfl)
end Go.Proofs.Ytccogmkhijgelaa
namespace Go.Proofs.Ytccogmkhijgelaa
def loS (s : Stm) (i : Nat) : Int := (s.ed i).lo
def hiS (s : Stm) (i : Nat) : Int := (s.ed i).hi
/-- Both ends after so many rounds, and of the next one what is told by 'D'. -/
structure YrI (s : Stm) (E : Edges) (r : Nat) (D : Nat → Nat → Prop) (lo hi : Nat → Int) : Prop where
 a : Relaxed s.editions.length E (fun i => (s.ed i).lo) r (fun e => D e.1 e.2) lo
 b : Relaxed s.editions.length (swapE E) (fun i => -(s.ed i).hi) r (fun e => D e.2 e.1) (fun i => -(hi i))
section
variable {s : Stm} {E : Edges} {r : Nat} {D : Nat → Nat → Prop} {lo hi : Nat → Int}
theorem YrI.start : YrI s E 0 (fun _ _ => False) (loS s) (hiS s) := ⟨Relaxed.start fun _ _ => rfl, Relaxed.start fun _ _ => rfl⟩
theorem YrI.weaken (h : YrI s E r D lo hi) {D' : Nat → Nat → Prop} (hD : ∀ k i, (k, i) ∈ E → D' k i → D k i) : YrI s E r D' lo hi :=
 ⟨h.a.weaken fun e he hd => hD e.1 e.2 he hd, h.b.weaken fun e he hd => hD e.2 e.1 (D2.1 he) hd⟩
theorem YrI.step (h : YrI s E r D lo hi) (hd : Dag s.editions.length E) {k i : Nat} (he : (k, i) ∈ E) : YrI s E r (fun x y => D x y ∨ (x = k ∧ y = i)) (updI lo i (max (lo i) (lo k + 1))) (updI hi k (min (hi k) (hi i - 1))) := by
 refine ⟨(h.a.step hd he).weaken fun e _ hD => ?_, ?_⟩
 · rcases hD with hD | ⟨h1, h2⟩
   · exact .inl hD
   · exact .inr (Prod.ext h1 h2)
 · have e1 : (fun j => -(updI hi k (min (hi k) (hi i - 1)) j)) = updI (fun j => -(hi j)) k (max (-(hi k)) (-(hi i) + 1)) := by
     funext j
     unfold updI
     split
     · omega
     · rfl
   rw [e1]
   refine (h.b.step hd.swap (k := i) (i := k) (D2.2 he)).weaken fun e _ hD => ?_
   rcases hD with hD | ⟨h1, h2⟩
   · exact .inl hD
   · exact .inr (Prod.ext h2 h1)
theorem YrI.round (h : YrI s E r D lo hi) (hD : ∀ k i, (k, i) ∈ E → D k i) : YrI s E (r + 1) (fun _ _ => False) lo hi :=
 ⟨h.a.round fun e he => hD e.1 e.2 he, h.b.round fun e he => hD e.2 e.1 (D2.1 he)⟩
theorem YrI.full (h : YrI s E r D lo hi) (hr : s.editions.length ≤ r) : spL lo hi s.editions.length = spL (firstY s E) (lastY s E) s.editions.length := by
 unfold spL
 refine List.map_congr_left fun i hi' => ?_
 have hi2 := List.mem_range.1 hi'
 have h1 := h.a.full hr hi2
 have h2 := h.b.full hr hi2
 unfold firstY lastY
 exact Prod.ext h1 (by show hi i = _; omega)
theorem YrI.bound (h : YrI s E r D lo hi) (hv : ValidT s) (hE : ∀ e ∈ E, e.1 < s.editions.length ∧ e.2 < s.editions.length) {i : Nat} (hi' : i < s.editions.length) : 1400 ≤ lo i ∧ lo i ≤ 1900 ∧ 1400 ≤ hi i ∧ hi i ≤ 1900 := by
 have hne := hv.ne
 have a1 := h.a.lo i hi'
 have a2 := h.a.hi i hi'
 have b1 := h.b.lo i hi'
 have b2 := h.b.hi i hi'
 have c1 := firstY_bound hv hE r i hi'
 have c2 := firstY_bound hv hE s.editions.length i hi'
 have d1 := lastY_bound hv hE r i hi'
 have d2 := lastY_bound hv hE s.editions.length i hi'
 omega
end
theorem spL_set0 {lo hi : Nat → Int} {n i : Nat} {v : Int} (h : i < n) : ((spL lo hi n).flatMap spanE).set (i * 2 + 0) (.int .i64 v) = (spL (updI lo i v) hi n).flatMap spanE := by
 have hl : i < (spL lo hi n).length := by rw [Dt]; exact h
 rw [flat_set (enc := spanE) (s := 2) (fun _ => rfl) (j := 0) (x := (v, hi i)) (by omega) _ i hl (by rw [spL_at hl]; rfl)]
 congr 1
 apply List.ext_getElem
 · simp [spL]
 · intro j h1 h2
   rw [List.getElem_set]
   have hj : j < n := by rw [Dt] at h2; exact h2
   simp only [spL, List.getElem_map, List.getElem_range, updI]
   by_cases hij : i = j
   · subst hij; simp
   · rw [if_neg hij, if_neg (fun h => hij h.symm)]
theorem spL_set1 {lo hi : Nat → Int} {n i : Nat} {v : Int} (h : i < n) : ((spL lo hi n).flatMap spanE).set (i * 2 + 1) (.int .i64 v) = (spL lo (updI hi i v) n).flatMap spanE := by
 have hl : i < (spL lo hi n).length := by rw [Dt]; exact h
 rw [flat_set (enc := spanE) (s := 2) (fun _ => rfl) (j := 1) (x := (lo i, v)) (by omega) _ i hl (by rw [spL_at hl]; rfl)]
 congr 1
 apply List.ext_getElem
 · simp [spL]
 · intro j h1 h2
   rw [List.getElem_set]
   have hj : j < n := by rw [Dt] at h2; exact h2
   simp only [spL, List.getElem_map, List.getElem_range, updI]
   by_cases hij : i = j
   · subst hij; simp
   · rw [if_neg hij, if_neg (fun h => hij h.symm)]
theorem iL_set {f : Nat → Int} {n i : Nat} {v : Int} (h : i < n) : ((iL f n).flatMap intE).set (i * 1) (.int .i64 v) = (iL (updI f i v) n).flatMap intE := by
 have hl : i < (iL f n).length := by rw [C5]; exact h
 rw [show i * 1 = i * 1 + 0 from rfl, flat_set (enc := intE) (s := 1) (fun _ => rfl) (j := 0) (x := v) (by omega) _ i hl (by rw [iL_at hl]; rfl)]
 congr 1
 apply List.ext_getElem
 · simp [iL]
 · intro j h1 h2
   rw [List.getElem_set]
   have hj : j < n := by rw [C5] at h2; exact h2
   simp only [iL, List.getElem_map, List.getElem_range, updI]
   by_cases hij : i = j
   · subst hij; simp
   · rw [if_neg hij, if_neg (fun h => hij h.symm)]
theorem spL_len2 {lo hi : Nat → Int} {n : Nat} : ((spL lo hi n).flatMap spanE).length = n * 2 := by rw [Ey (enc := spanE) (s := 2) (fun _ => rfl), Dt]
theorem iL_len1 {f : Nat → Int} {n : Nat} : ((iL f n).flatMap intE).length = n := by rw [Ey (enc := intE) (s := 1) (fun _ => rfl), C5, Nat.mul_one]
theorem spL_any {lo hi : Nat → Int} {n : Nat} : ((spL lo hi n).any fun y => decide (y.2 < y.1)) = !((List.range n).all fun i => decide (lo i ≤ hi i)) := by
 rw [Bool.eq_iff_iff, Bool.not_eq_true', List.any_eq_true]
 constructor
 · rintro ⟨x, hx, h⟩
   obtain ⟨i, hi', rfl⟩ := List.mem_map.1 hx
   have h2 := of_decide_eq_true h
   exact List.all_eq_false.2 ⟨i, hi', by simp only [decide_eq_true_eq]; simp only at h2; omega⟩
 · intro h
   obtain ⟨i, hi', h2⟩ := List.all_eq_false.1 h
   simp only [decide_eq_true_eq] at h2
   exact ⟨_, List.mem_map.2 ⟨i, hi', rfl⟩, decide_eq_true (by simp only; omega)⟩
theorem fits_any {s : Stm} {E : Edges} (hd : Dag s.editions.length E) : ((spL (firstY s E) (lastY s E) s.editions.length).any fun y => decide (y.2 < y.1)) = !(fitsE s E) := by
 rw [spL_any]
 congr 1
 rw [Bool.eq_iff_iff, fits_both hd, List.all_eq_true]
 exact ⟨fun h i hi => of_decide_eq_true (h i (List.mem_range.2 hi)), fun h i hi => decide_eq_true (h i (List.mem_range.1 hi))⟩
end Go.Proofs.Ytccogmkhijgelaa
namespace Go.Proofs.Ytccogmkhijgelaa
open Go.RowKit
theorem zr_60 : ZeroT Try.prog 60 (.agg #[.int .i64 0, .int .i64 0]) := Dc (by kernel_rfl)
theorem bd_108 : Body Try.prog 108 := Bo (by kernel_rfl)
theorem bd_109 : Body Try.prog 109 := Bo (by kernel_rfl)
theorem el_60 : ElemT Try.prog 60 2 16 (.agg #[.int .i64 0, .int .i64 0]) := elemT_of (by kernel_rfl) rfl (by decide)
theorem sz_3 : SizeT Try.prog 3 1 := C0 (by kernel_rfl)
def SpansR (F : Heap) (u : Value) (l : List (Int × Int)) (ok : Bool) : Prop := ∃ v, u = .tuple #[v, .bool ok] ∧ Sl F v 2 spanE l
set_option maxRecDepth 100000 in
theorem spans1_ok {F : Heap} (y : Int × Int) : Ok Try.prog 109 [.agg (spanE y).toArray].toArray F fun u _ => u = .bool (decide (y.2 < y.1)) := by
 refine Ok.intro Try.func109 rfl Try.ntmps109 rfl fun w0 => ?_
 refine Af <| Ai fun ds => Bk rfl (B1 (Aj rfl) rfl fun b1 hb1 nb1 => ?_)
 refine Aa rfl (Ac Ad) ?_
 refine Ah <| Ab <| Af <| Ai fun ds => Aa rfl (Ao Dv (Al rfl <| Ae)) ?_
 refine Aa rfl (Ap Bl (Ae) (Cell.own 0 rfl rfl)) ?_
 refine Aa rfl (Ao Dn (Ar rfl <| Al rfl <| Ae)) ?_
 refine Aa rfl (Ap Bl (Ae) (Cell.own 0 rfl rfl)) ?_
 refine Aa rfl (Ds (Ar rfl <| Ae) (Ae)) ?_
 refine Aa rfl (Ac (Ae)) ?_
 refine Ah <| Ab <| A4 <| Ay rfl (.tmp (Ae) .nil) ?_
 rfl
set_option maxRecDepth 100000 in
theorem spans_ok {F : Heap} {b : Nat} {vp ve vm : Value} {ps : List (Value × Edn)} {s : Stm} (hX : StmX F b vp ve vm ps s) (hv : ValidT s) {g : FuncId} {fs cs : List Value} (hg : Body Try.prog g) {bef : Nat → List Nat} (hbf : ∀ G, F.le G → ∀ i, i < s.editions.length → Ok Try.prog g (fs ++ [Value.int .i64 (i : Int)] ++ cs).toArray G fun u G' => Nats G' u (bef i)) {E : Edges} (hE : ∀ k i, (k, i) ∈ E ↔ i < s.editions.length ∧ k ∈ bef i) (hd : Dag s.editions.length E) : Ok Try.prog 72 [.pointer (some ⟨b, 0, none⟩), .func (.func g) fs.toArray cs.toArray].toArray F fun u F' => SpansR F' u (spL (firstY s E) (lastY s E) s.editions.length) (fitsE s E) := by
 refine Ok.intro Try.func72 rfl Try.ntmps72 rfl fun w0 => ?_
 have hX0 := hX
 have hne := hv.ne
 have hlen := hX.r.len
 have hL1 := hX.r.eds.plain.lt
 refine Af <| Ai fun ds => Aa rfl (Ac Ad) ?_
 refine Aa rfl (Ac Ad) ?_
 refine Ah <| Ab <| Af <| Ai fun ds => Aa rfl (Ac Ad) ?_
 refine Ah <| Ab <| Af <| Af <| Ai fun ds => Aa rfl (Ag (Ar rfl <| Al rfl <| Aj rfl)) ?_
 refine Aa rfl (B3 (Ae)) ?_
 refine Aa rfl (Ao Ca (Ae)) ?_
 refine Aa rfl (Ao Bv (Ae)) ?_
 refine Aa rfl (Ap Bz (Ae) (CellF.own hX.blk rfl).cell) ?_
 refine Aa rfl (Bh B7 (Ae) hX.r.eds.plain) ?_
 refine Aa rfl (Ag Ad) ?_
 refine Ah <| Ab <| A0 <| Bs [6, 8, 18, 19, 20, 21, 22, 23, 24, 25, 26, 27] (fun m e σ => ∃ k : Nat, m + k = ps.length ∧ e 18 = .int .i64 (k : Int) ∧ ∃ v6 R6, e 6 = v6 ∧ Own 60 2 v6 k ((spL (loS s) (hiS s) k).flatMap spanE) R6 ∧ σ = ⟨F, R6⟩) (ps.length) ?_ ?_
 · exact ⟨0, by omega, (Ae), _, _, (Az rfl <| Ar rfl <| Al rfl <| Ae), Ef, rfl⟩
 ·
  rintro m e _ ⟨k, hm, hs18, v6, R6, hs6, ho, rfl⟩
  by_cases hlt : k < ps.length
  ·
   refine Af <| Ai fun ds => Aa rfl (Br (As rfl hs18) (Ak rfl <| Al rfl <| Ae)) ?_
   refine Ah <| Ab <| Af <| Aq (Ae) (by first | rfl | exact decide_eq_true (by omega)) ?_
   refine Au <| Ab <| Af <| A0 <| Af <| Ai fun ds => Aa rfl (A9  B7 (Al rfl <| Ak rfl <| Ar rfl <| Ae) hX.r.eds.plain (Al rfl <| As rfl hs18) rfl hlt) ?_
   refine Aa rfl (A8 agg_64 (Ae) rfl rfl (hX.r.eds.whole hlt)) ?_
   refine Bk rfl (Cd zr_64 rfl fun b2 hb2 nb2 => ?_)
   refine Ck (Ch sz_64 (Ae) (Al rfl <| Ae) (i := 0) rfl rfl rfl rfl (edE_one (hX.r.one _ (List.getElem_mem hlt))) (.here) ?_)
   refine Ah <| Ab <| Ai fun ds => Aa rfl (Ag (Az rfl <| As rfl hs6)) ?_
   refine Aa rfl (Ao Dm (Al rfl <| Ae)) ?_
   refine Aa rfl (A8 (vs := [.int .i64 ps[k].2.lo, .int .i64 ps[k].2.hi]) agg_60 (Ae) rfl rfl (own_part 0 rfl rfl)) ?_
   refine Bk rfl (x_buildN (offs := [(0, 2)]) (zl := [.int .i64 0, .int .i64 0]) Et zr_60 rfl (.cons (Ae) rfl .nil) (by intro i p h; rcases i with _ | i <;> simp at h <;> subst h <;> rfl) (.cons rfl rfl (Nat.le_of_ble_eq_true rfl) (.cons (.here) (.cons (.next <| .here) .nil)) .nil) (by decide) (by decide) fun b3 hb3 nb3 => ?_)
   refine Bk rfl (B4 Et el_60 (Ar rfl <| Al rfl <| Ae) ho (Ae) (C6 (s := 2) 0 rfl rfl (by simp [Value.oneCell'])) (by omega) (by omega) (.s <| .s <| .z) .last fun v4 R5 ho6 => ?_)
   have ho2 : Own 60 2 v4 (k + 1) ((spL (loS s) (hiS s) (k + 1)).flatMap spanE) R5 := by have h9 := ho6; rw [spL_succ, List.flatMap_append, show [(loS s k, hiS s k)].flatMap spanE = [.int .i64 ps[k].2.lo, .int .i64 ps[k].2.hi] by unfold loS hiS; rw [← hX.r.at hlt]; rfl]; exact h9
   refine Aa rfl (Ac (Ae)) ?_
   refine Ah <| Bb <| Ab <| Cz (fun _ _ h => h.drop (.cons _ <| .cons _ <| .refl _)) ?_
   refine Ai fun ds => Aa rfl (Bp (A7 rfl <| Ar rfl <| As rfl hs18) Ad rfl (by omega) (by omega)) ?_
   refine Aa rfl (Ag (Ae)) ?_
   refine Ah <| Ab ⟨_, m - 1, Off.eq (Di rfl <| Dy rfl <| Ba), by omega, ?_⟩
   exact ⟨k + 1, by omega, (Ae), _, _, (Ar rfl <| Ae), ho2, rfl⟩
  ·
   refine Af <| Ai fun ds => Aa rfl (Br (As rfl hs18) (Ak rfl <| Al rfl <| Ae)) ?_
   refine Ah <| Ab <| Af <| Am (Ae) (by first | rfl | exact decide_eq_false (by omega)) ?_
   obtain rfl : k = s.editions.length := by omega
   refine Bn ?_
   refine Bd <| Bd <| Bf <| Ab <| Af <| Af <| Ai fun ds => Aa rfl (Ag (Al rfl <| As rfl hs6)) ?_
   refine Aa rfl (Bh Et (Ae) (ho.plain (by omega))) ?_
   refine Aa rfl (Ag Ad) ?_
   refine Ah <| Ab <| A0 <| Bs [9, 11, 30, 31, 32, 33, 34, 35, 36, 37, 38, 39, 40, 41, 42, 43, 44, 45, 46, 47, 48, 49, 50, 51, 52, 53, 54, 55, 56, 57, 58, 59, 60, 61, 62, 63, 64, 65, 66, 67, 68, 69, 70, 71, 72, 73, 74, 75, 76, 77, 78, 79] (fun m e σ => ∃ (r : Nat) (G : Heap), m + r = s.editions.length ∧ e 30 = .int .i64 (r : Int) ∧ F.le G ∧ ∃ (lo hi : Nat → Int) (R6 : List (Nat × Obj)), Own 60 2 v6 s.editions.length ((spL lo hi s.editions.length).flatMap spanE) R6 ∧ YrI s E r (fun _ _ => False) lo hi ∧ σ = ⟨G, R6⟩) (s.editions.length) ?_ ?_
   · exact ⟨0, _, by omega, (Ae), Heap.le_refl _, _, _, _, ho, YrI.start, rfl⟩
   ·
    rintro m2 e2 _ ⟨r, G2, hm, hr30, hle0, lo, hi, R6, ho, hI, rfl⟩; replace hX := hX0.mono hle0
    by_cases hltr : r < s.editions.length
    ·
     refine Af <| Ai fun ds => Aa rfl (Br (As rfl hr30) (Ak rfl <| Al rfl <| Ae)) ?_
     refine Ah <| Ab <| Af <| Aq (Ae) (by first | rfl | exact decide_eq_true (by omega)) ?_
     refine Au <| Ab <| Af <| A0 <| Af <| Ai fun ds => Aa rfl (Ag (Al rfl <| Ak rfl <| Az rfl <| As rfl hs6)) ?_
     refine Aa rfl (Bh Et (Ae) (ho.plain (by omega))) ?_
     refine Aa rfl (Ag Ad) ?_
     refine Ah <| Ab <| A0 <| Bs [9, 11, 34, 35, 36, 37, 38, 39, 40, 41, 42, 43, 44, 45, 46, 47, 48, 49, 50, 51, 52, 53, 54, 55, 56, 57, 58, 59, 60, 61, 62, 63, 64, 65, 66, 67, 68, 69, 70, 71, 72, 73, 74, 75, 76, 77, 78] (fun m e σ => ∃ (i : Nat) (G : Heap), m + i = s.editions.length ∧ e 34 = .int .i64 (i : Int) ∧ F.le G ∧ ∃ (lo hi : Nat → Int) (R6 : List (Nat × Obj)), Own 60 2 v6 s.editions.length ((spL lo hi s.editions.length).flatMap spanE) R6 ∧ YrI s E r (fun _ y => y < i) lo hi ∧ σ = ⟨G, R6⟩) (s.editions.length) ?_ ?_
     · exact ⟨0, _, by omega, (Ae), hle0, _, _, _, ho, hI.weaken (fun x y _ h => absurd h (by omega)), rfl⟩
     ·
      rintro m3 e3 _ ⟨i, G3, hm, ht34, hle0, lo, hi, R6, ho, hI, rfl⟩; replace hX := hX0.mono hle0
      by_cases hlt : i < s.editions.length
      ·
       refine Af <| Ai fun ds => Aa rfl (Br (As rfl ht34) (Ak rfl <| Al rfl <| Ae)) ?_
       refine Ah <| Ab <| Af <| Aq (Ae) (by first | rfl | exact decide_eq_true (by omega)) ?_
       refine Au <| Ab <| Af <| A0 <| Af <| Ai fun ds => Aa rfl (Ag (Al rfl <| As rfl ht34)) ?_
       refine Aa rfl (Ac (Ae)) ?_
       refine Ah <| Ab <| Af <| Ai fun ds => Aa rfl (Ag (Ar rfl <| Al rfl <| Ak rfl <| Az rfl <| Ak rfl <| Az rfl <| Ak rfl <| A7 rfl <| Ar rfl <| Aj rfl)) ?_
       refine Aa rfl (Ag (Al rfl <| Ae)) ?_
       refine Bk rfl (x_callF hg (Al rfl <| Ae) (.cons (Ae) .nil) (hbf _ hle0 i hlt) fun v9 F10 hr11 hF12 => ?_)
       replace hle0 := Heap.le_trans hle0 hF12
       have hb := hr11
       refine Aa rfl (Bh Be (Ae) hb.plain) ?_
       refine Aa rfl (Ag Ad) ?_
       refine Ah <| Ab <| A0 <| Bs [11, 41, 42, 43, 44, 45, 46, 47, 48, 49, 50, 51, 52, 53, 54, 55, 56, 57, 58, 59, 60, 61, 62, 63, 64, 65, 66, 67, 68, 69, 70, 71, 72, 73, 74, 75, 76, 77] (fun m e σ => ∃ q : Nat, m + q = (bef i).length ∧ e 41 = .int .i64 (q : Int) ∧ ∃ (lo hi : Nat → Int) (R6 : List (Nat × Obj)), Own 60 2 v6 s.editions.length ((spL lo hi s.editions.length).flatMap spanE) R6 ∧ YrI s E r (fun x y => y < i ∨ y = i ∧ x ∈ (bef i).take q) lo hi ∧ σ = ⟨F10, R6⟩) ((bef i).length) ?_ ?_
       · exact ⟨0, by omega, (Ae), _, _, _, ho, hI.weaken (fun x y _ h => by rcases h with h | ⟨-, h⟩; exact h; simp at h), rfl⟩
       ·
        rintro m4 e4 _ ⟨q, hm, hu41, lo, hi, R6, ho, hI, rfl⟩
        have hbl := hb.plain.lt
        by_cases hlq : q < (bef i).length
        ·
         refine Af <| Ai fun ds => Aa rfl (Br (As rfl hu41) (Ak rfl <| Al rfl <| Ae)) ?_
         refine Ah <| Ab <| Af <| Aq (Ae) (by first | rfl | exact decide_eq_true (by omega)) ?_
         have hkE : ((bef i)[q], i) ∈ E := (hE _ _).2 ⟨hlt, List.getElem_mem hlq⟩
         have hkn := (hd.1 _ hkE).1
         have hbk := hI.bound hv hd.1 hkn
         have hbi := hI.bound hv hd.1 hlt
         have hI2 := hI.step hd hkE
         have hbk2 : 1400 ≤ lo (bef i)[q] ∧ lo (bef i)[q] ≤ 1900 := ⟨hbk.1, hbk.2.1⟩
         refine Au <| Ab <| Af <| A0 <| Af <| Ai fun ds => Aa rfl (A9  Be (Al rfl <| Ak rfl <| Ar rfl <| Ae) hb.plain (Al rfl <| As rfl hu41) rfl hlq) ?_
         refine Aa rfl (Ap Bl (Ae) (hb.cell1 hlq rfl)) ?_
         refine Aa rfl (Ac (Ae)) ?_
         refine Ah <| Ab <| Af ?_
         have hleS := hle0
         refine Cu (.inl rfl) (fun _ _ h => h) (.refl _) [16] (by kernel_rfl) fun ds => ?_
         refine A2 0 rfl (by kernel_rfl) (by kernel_rfl) (by kernel_rfl) (by kernel_rfl) rfl rfl (fun _ h => h.drop (.refl _)) (fun _ _ _ h => h) (Ag (Az rfl <| Ak rfl <| A7 rfl <| Ak rfl <| Az rfl <| Ak rfl <| Az rfl <| As rfl hs6)) ?_
         refine A2 1 rfl (by kernel_rfl) (by kernel_rfl) (by kernel_rfl) (by kernel_rfl) rfl rfl (fun _ h => h.drop (.refl _)) (fun _ _ _ h => h) (Ag (Az rfl <| Al rfl <| Ak rfl <| Az rfl <| Al rfl <| Ae)) ?_
         refine A2 2 rfl (by kernel_rfl) (by kernel_rfl) (by kernel_rfl) (by kernel_rfl) rfl rfl (fun _ h => h.drop (.refl _)) (fun _ _ _ h => h) (Ag (Az rfl <| Ar rfl <| Ak rfl <| A7 rfl <| Ak rfl <| Az rfl <| Ak rfl <| Az rfl <| As rfl hs6)) ?_
         refine A2 3 rfl (by kernel_rfl) (by kernel_rfl) (by kernel_rfl) (by kernel_rfl) rfl rfl (fun _ h => h.drop (.refl _)) (fun _ _ _ h => h) (Ag (Az rfl <| Ar rfl <| Al rfl <| Ak rfl <| Az rfl <| Al rfl <| Ae)) ?_
         refine A2 4 rfl (by kernel_rfl) (by kernel_rfl) (by kernel_rfl) (by kernel_rfl) rfl rfl (fun _ h => h.drop (.refl _)) (fun _ _ _ h => h) (A9 (k := i) Et (Al rfl <| Ae) (ho.plain (by omega)) (Ae) rfl hlt) ?_
         refine A2 5 rfl (by kernel_rfl) (by kernel_rfl) (by kernel_rfl) (by kernel_rfl) rfl rfl (fun _ h => h.drop (.refl _)) (fun _ _ _ h => h) (Bt Dv (Ae)) ?_
         refine A2 6 rfl (by kernel_rfl) (by kernel_rfl) (by kernel_rfl) (by kernel_rfl) rfl rfl (fun _ h => h.drop (.refl _)) (fun _ _ _ h => h) (Ap Bl (Ae) (Dx ho (fun p hp => hp) (spL_get0 hlt))) ?_
         refine A2 7 rfl (by kernel_rfl) (by kernel_rfl) (by kernel_rfl) (by kernel_rfl) rfl rfl (fun _ h => h.drop (.refl _)) (fun _ _ _ h => h) (Ag (A7 rfl <| Ar rfl <| Al rfl <| Ak rfl <| A7 rfl <| Ak rfl <| Az rfl <| Ak rfl <| Az rfl <| As rfl hs6)) ?_
         refine A2 8 rfl (by kernel_rfl) (by kernel_rfl) (by kernel_rfl) (by kernel_rfl) rfl rfl (fun _ h => h.drop (.refl _)) (fun _ _ _ h => h) (Ag (A7 rfl <| Ae)) ?_
         refine A2 9 rfl (by kernel_rfl) (by kernel_rfl) (by kernel_rfl) (by kernel_rfl) rfl rfl (fun _ h => h.drop (.refl _)) (fun _ _ _ h => h) (A9 (k := (bef i)[q]) Et (Al rfl <| Ae) (ho.plain (by omega)) (Ae) rfl hkn) ?_
         refine A2 10 rfl (by kernel_rfl) (by kernel_rfl) (by kernel_rfl) (by kernel_rfl) rfl rfl (fun _ h => h.drop (.refl _)) (fun _ _ _ h => h) (Bt Dv (Ae)) ?_
         refine A2 11 rfl (by kernel_rfl) (by kernel_rfl) (by kernel_rfl) (by kernel_rfl) rfl rfl (fun _ h => h.drop (.refl _)) (fun _ _ _ h => h) (Ap Bl (Ae) (Dx ho (fun p hp => hp) (spL_get0 hkn))) ?_
         refine A2 12 rfl (by kernel_rfl) (by kernel_rfl) (by kernel_rfl) (by kernel_rfl) rfl rfl (fun _ h => h.drop (.refl _)) (fun _ _ _ h => h) (Bp (Ae) Ad rfl (by omega) (by omega)) ?_
         refine A2 13 rfl (by kernel_rfl) (by kernel_rfl) (by kernel_rfl) (by kernel_rfl) rfl rfl (fun _ h => h.drop (.refl _)) (fun _ _ _ h => h) (q_max2 (Az rfl <| Ar rfl <| Ae) (Ae)) ?_
         refine A2 14 rfl (by kernel_rfl) (by kernel_rfl) (by kernel_rfl) (by kernel_rfl) rfl rfl (fun _ h => h.drop (.refl _)) (fun _ _ _ h => h) (A9 (k := i) Et (A7 rfl <| Az rfl <| Al rfl <| Ae) (ho.plain (by omega)) (A7 rfl <| Az rfl <| Ae) rfl hlt) ?_
         refine A2 15 rfl (by kernel_rfl) (by kernel_rfl) (by kernel_rfl) (by kernel_rfl) rfl rfl (fun _ h => h.drop (.refl _)) (fun _ _ _ h => h) (Bt Dv (Ae)) ?_
         refine WX_x0 16 rfl (by kernel_rfl) (x_storeR sz_3 (Ae) (Ar rfl <| Ae) ho (by rw [spL_len2]; omega) rfl (.z) .last fun R14 ho15 => ⟨(fun h => nomatch h), ?_⟩)
         have ho3 := ho15
         rw [spL_set0 hlt] at ho3
         refine Cr (by kernel_rfl) ?_ _
         refine Ab ?_
         have hleS := hle0
         refine Cu (.inl rfl) (fun _ _ h => h) (.refl _) [16] (by kernel_rfl) fun ds => ?_
         refine A2 0 rfl (by kernel_rfl) (by kernel_rfl) (by kernel_rfl) (by kernel_rfl) rfl rfl (fun _ h => h.drop (.refl _)) (fun _ _ _ h => h) (Ag (A5 rfl <| Az rfl <| Ak rfl <| A7 rfl <| Ak rfl <| Az rfl <| Ak rfl <| Az rfl <| As rfl hs6)) ?_
         refine A2 1 rfl (by kernel_rfl) (by kernel_rfl) (by kernel_rfl) (by kernel_rfl) rfl rfl (fun _ h => h.drop (.refl _)) (fun _ _ _ h => h) (Ag (A5 rfl <| Al rfl <| Ae)) ?_
         refine A2 2 rfl (by kernel_rfl) (by kernel_rfl) (by kernel_rfl) (by kernel_rfl) rfl rfl (fun _ h => h.drop (.refl _)) (fun _ _ _ h => h) (Ag (A5 rfl <| Az rfl <| Ar rfl <| Ak rfl <| A7 rfl <| Ak rfl <| Az rfl <| Ak rfl <| Az rfl <| As rfl hs6)) ?_
         refine A2 3 rfl (by kernel_rfl) (by kernel_rfl) (by kernel_rfl) (by kernel_rfl) rfl rfl (fun _ h => h.drop (.refl _)) (fun _ _ _ h => h) (Ag (A5 rfl <| Ar rfl <| Al rfl <| Ae)) ?_
         refine A2 4 rfl (by kernel_rfl) (by kernel_rfl) (by kernel_rfl) (by kernel_rfl) rfl rfl (fun _ h => h.drop (.refl _)) (fun _ _ _ h => h) (A9 (k := (bef i)[q]) Et (Al rfl <| Ae) (ho3.plain (by omega)) (Ae) rfl hkn) ?_
         refine A2 5 rfl (by kernel_rfl) (by kernel_rfl) (by kernel_rfl) (by kernel_rfl) rfl rfl (fun _ h => h.drop (.refl _)) (fun _ _ _ h => h) (Bt Dn (Ae)) ?_
         refine A2 6 rfl (by kernel_rfl) (by kernel_rfl) (by kernel_rfl) (by kernel_rfl) rfl rfl (fun _ h => h.drop (.refl _)) (fun _ _ _ h => h) (Ap Bl (Ae) (Dx ho3 (fun p hp => hp) (spL_get1 hkn))) ?_
         refine A2 7 rfl (by kernel_rfl) (by kernel_rfl) (by kernel_rfl) (by kernel_rfl) rfl rfl (fun _ h => h.drop (.refl _)) (fun _ _ _ h => h) (Ag (A5 rfl <| A7 rfl <| Ar rfl <| Al rfl <| Ak rfl <| A7 rfl <| Ak rfl <| Az rfl <| Ak rfl <| Az rfl <| As rfl hs6)) ?_
         refine A2 8 rfl (by kernel_rfl) (by kernel_rfl) (by kernel_rfl) (by kernel_rfl) rfl rfl (fun _ h => h.drop (.refl _)) (fun _ _ _ h => h) (Ag (A5 rfl <| A7 rfl <| Az rfl <| Ak rfl <| Az rfl <| Al rfl <| Ae)) ?_
         refine A2 9 rfl (by kernel_rfl) (by kernel_rfl) (by kernel_rfl) (by kernel_rfl) rfl rfl (fun _ h => h.drop (.refl _)) (fun _ _ _ h => h) (A9 (k := i) Et (Al rfl <| Ae) (ho3.plain (by omega)) (Ae) rfl hlt) ?_
         refine A2 10 rfl (by kernel_rfl) (by kernel_rfl) (by kernel_rfl) (by kernel_rfl) rfl rfl (fun _ h => h.drop (.refl _)) (fun _ _ _ h => h) (Bt Dn (Ae)) ?_
         refine A2 11 rfl (by kernel_rfl) (by kernel_rfl) (by kernel_rfl) (by kernel_rfl) rfl rfl (fun _ h => h.drop (.refl _)) (fun _ _ _ h => h) (Ap Bl (Ae) (Dx ho3 (fun p hp => hp) (spL_get1 hlt))) ?_
         refine A2 12 rfl (by kernel_rfl) (by kernel_rfl) (by kernel_rfl) (by kernel_rfl) rfl rfl (fun _ h => h.drop (.refl _)) (fun _ _ _ h => h) (Ew (Ae) Ad rfl (by omega) (by omega)) ?_
         refine A2 13 rfl (by kernel_rfl) (by kernel_rfl) (by kernel_rfl) (by kernel_rfl) rfl rfl (fun _ h => h.drop (.refl _)) (fun _ _ _ h => h) (q_min2 (Az rfl <| Ar rfl <| Ae) (Ae)) ?_
         refine A2 14 rfl (by kernel_rfl) (by kernel_rfl) (by kernel_rfl) (by kernel_rfl) rfl rfl (fun _ h => h.drop (.refl _)) (fun _ _ _ h => h) (A9 (k := (bef i)[q]) Et (A7 rfl <| Az rfl <| Al rfl <| Ae) (ho3.plain (by omega)) (A7 rfl <| Az rfl <| Ae) rfl hkn) ?_
         refine A2 15 rfl (by kernel_rfl) (by kernel_rfl) (by kernel_rfl) (by kernel_rfl) rfl rfl (fun _ h => h.drop (.refl _)) (fun _ _ _ h => h) (Bt Dn (Ae)) ?_
         refine WX_x0 16 rfl (by kernel_rfl) (x_storeR sz_3 (Ae) (Ar rfl <| Ae) ho3 (by rw [spL_len2]; omega) rfl (.z) .last fun R16 ho17 => ⟨(fun h => nomatch h), ?_⟩)
         have ho4 := ho17
         rw [spL_set1 hkn] at ho4
         refine Cr (by kernel_rfl) ?_ _
         refine Bb <| Ab <| Ai fun ds => Aa rfl (Bp (Bq rfl <| Az rfl <| As rfl hu41) Ad rfl (by omega) (by omega)) ?_
         refine Aa rfl (Ag (Ae)) ?_
         refine Ah <| Ab ⟨_, m4 - 1, Off.eq (ou32 rfl <| Dy rfl <| Eb rfl <| Ba), by omega, ?_⟩
         refine ⟨q + 1, by omega, (Ae), _, _, _, ho4, hI2.weaken (fun x y _ h => ?_), rfl⟩
         rcases h with h | ⟨h1, h2⟩
         · exact .inl (.inl h)
         · rw [List.take_succ_eq_append_getElem hlq, List.mem_append] at h2
           rcases h2 with h2 | h2
           · exact .inl (.inr ⟨h1, h2⟩)
           · exact .inr ⟨by simpa using h2, h1⟩
        ·
         refine Af <| Ai fun ds => Aa rfl (Br (As rfl hu41) (Ak rfl <| Al rfl <| Ae)) ?_
         refine Ah <| Ab <| Af <| Am (Ae) (by first | rfl | exact decide_eq_false (by omega)) ?_
         obtain rfl : q = (bef i).length := by omega
         refine Bn ?_
         refine Bd <| Bd <| Bf <| Bb <| Ab <| Ai fun ds => Aa rfl (Bp (Al rfl <| Ak rfl <| A7 rfl <| As rfl ht34) Ad rfl (by omega) (by omega)) ?_
         refine Aa rfl (Ag (Ae)) ?_
         refine Ah <| Ab ⟨_, m3 - 1, Off.eq (Eb rfl <| Df rfl <| Do rfl <| Di rfl <| Ba), by omega, ?_⟩
         refine ⟨i + 1, _, by omega, (Ae), hle0, _, _, _, ho, hI.weaken (fun x y hxy h => ?_), rfl⟩
         by_cases h2 : y = i
         · exact .inr ⟨h2, by rw [List.take_length]; subst h2; exact ((hE _ _).1 hxy).2⟩
         · exact .inl (by omega)
      ·
       refine Af <| Ai fun ds => Aa rfl (Br (As rfl ht34) (Ak rfl <| Al rfl <| Ae)) ?_
       refine Ah <| Ab <| Af <| Am (Ae) (by first | rfl | exact decide_eq_false (by omega)) ?_
       obtain rfl : i = s.editions.length := by omega
       refine Bn ?_
       refine Bd <| Bd <| Bf <| Bb <| Ab <| Ai fun ds => Aa rfl (Bp (Al rfl <| Ak rfl <| Az rfl <| As rfl hr30) Ad rfl (by omega) (by omega)) ?_
       refine Aa rfl (Ag (Ae)) ?_
       refine Ah <| Ab ⟨_, m2 - 1, Off.eq (Eb rfl <| Df rfl <| Do rfl <| Dy rfl <| Ba), by omega, ?_⟩
       exact ⟨r + 1, _, by omega, (Ae), hle0, _, _, _, ho, hI.round (fun x y h => (hd.1 _ h).2), rfl⟩
    ·
     refine Af <| Ai fun ds => Aa rfl (Br (As rfl hr30) (Ak rfl <| Al rfl <| Ae)) ?_
     refine Ah <| Ab <| Af <| Am (Ae) (by first | rfl | exact decide_eq_false (by omega)) ?_
     have ho9 := ho.to (k' := (spL lo hi s.editions.length).length) Dt.symm
     refine Cn (σ := ⟨_, _⟩) (by rfl) ho9 (.z) .last fun F18 hF19 hz20 => ?_
     have hsp := ho9.sl (fun _ => rfl) hz20 (by rw [Dt]; omega)
     rw [hI.full (by omega)] at hsp
     refine Bn ?_
     refine Bd <| Bd <| Bf <| Ab <| Af <| Ai fun ds => Aa rfl (Ag (Al rfl <| Ak rfl <| Az rfl <| As rfl hs6)) ?_
     refine Aa rfl (Ag (Ar rfl <| Ak rfl <| Az rfl <| As rfl hs6)) ?_
     refine B0 rfl (Bj bd_108 A1 (.cons (Ae) (.cons A1 .nil)) (containsSpn_ok hsp (fun y => decide (y.2 < y.1)) bd_109 fun k hk => spans1_ok _) (fun _ _ h => h)) ?_
     refine Aa rfl (Cm (Ae)) ?_
     refine Aa rfl (Ac (Ar rfl <| Al rfl <| Ae)) ?_
     refine Aa rfl (Ac (Al rfl <| Ae)) ?_
     refine Ah <| Ab <| A4 <| Ay rfl (.tmp (Al rfl <| Ae) (.tmp (Ae) .nil)) ?_
     exact ⟨_, by rw [fits_any hd, Bool.not_not]; rfl, hsp⟩
end Go.Proofs.Ytccogmkhijgelaa
namespace Go.Proofs.Ytccogmkhijgelaa
open Go.RowKit
def dstB (ops : Array Oper) (j : Nat) : Nat := match (ops[j]?).bind (·.dst) with | some d => d | none => 0
def AllTo (H : Nat → Prop) : Nat → Prop
 | 0 => True
 | k + 1 => AllTo H k ∧ H k
theorem AllTo.get {H : Nat → Prop} : ∀ {k : Nat}, AllTo H k → ∀ i, i < k → H i
 | 0, _, i, h => absurd h (by omega)
 | k + 1, h, i, hi => by
   by_cases hk : i = k
   · subst hk; exact h.2
   · exact AllTo.get h.1 i (by omega)
section
variable {P : Program} {n : Nat} {B : Base} {e0 : Env} {σ : St}
/-- What the operation behind all others does. -/
def Hend (P : Program) (n : Nat) (B : Base) (ops : Array Oper) (k : Nat) (Φ : Nat → Heap → Value → Prop) (e0 : Env) (σ : St) (Q : Exit → Env → St → Prop) : Prop :=
 ∀ e F, σ.F.le F → (∀ t, (∀ j, j < k → t ≠ dstB ops j) → e t = e0 t) → (∀ j, j < k → Φ j F (e (dstB ops j))) →
   (ops.size = k → Q .normal e ⟨F, σ.H⟩) ∧ (ops.size = k + 1 → ∃ op ty pos af, ops[k]? = some ⟨none, op, ty, pos, af, none⟩ ∧ OpX P n B ⟨none, op, ty, pos, af, none⟩ e ⟨F, σ.H⟩ fun _ σ' => Q .normal e σ')
/-- The same, by whether there is one. -/
def HendT (P : Program) (n : Nat) (B : Base) (ops : Array Oper) (k : Nat) (Φ : Nat → Heap → Value → Prop) (e0 : Env) (σ : St) (Q : Exit → Env → St → Prop) : Bool → Prop
 | false => ∀ e F, σ.F.le F → (∀ t, (∀ j, j < k → t ≠ dstB ops j) → e t = e0 t) → (∀ j, j < k → Φ j F (e (dstB ops j))) → Q .normal e ⟨F, σ.H⟩
 | true => ∀ e F, σ.F.le F → (∀ t, (∀ j, j < k → t ≠ dstB ops j) → e t = e0 t) → (∀ j, j < k → Φ j F (e (dstB ops j))) → ∃ op ty pos af, ops[k]? = some ⟨none, op, ty, pos, af, none⟩ ∧ OpX P n B ⟨none, op, ty, pos, af, none⟩ e ⟨F, σ.H⟩ fun _ σ' => Q .normal e σ'
theorem HendT.to {ops : Array Oper} {k : Nat} {Φ : Nat → Heap → Value → Prop} {Q : Exit → Env → St → Prop} {tail : Bool} (ht : Nat.beq ops.size (k + 1) = tail) (h : HendT P n B ops k Φ e0 σ Q tail) : Hend P n B ops k Φ e0 σ Q := by
 intro e F h1 h2 h3
 cases tail with
 | false => exact ⟨fun _ => h e F h1 h2 h3, fun hs => by rw [hs] at ht; simp at ht⟩
 | true => exact ⟨fun hs => by rw [hs] at ht; simp at ht, fun _ => h e F h1 h2 h3⟩
theorem sl_box {α : Type} {F : Heap} {b T s m : Nat} {l : List Value} {enc : α → List Value} {xs : List α} (h : F b = some (bx T l)) (hl : l = xs.flatMap enc) (hm : xs.length = m) (hs : ∀ x, (enc x).length = s) (hlt : m < 281474976710656) : Sl F (.slice (some ⟨b, 0, none⟩) m m) s enc xs := by
 subst hl; subst hm
 exact Own.sl (E := T) (R := [(b, bx T (xs.flatMap enc))]) (Eg (Ey hs xs)) hs (fun p hp => by simp at hp; subst hp; exact h) hlt
end
end Go.Proofs.Ytccogmkhijgelaa
namespace Go.Proofs.Ytccogmkhijgelaa
open Go.RowKit
theorem bd_125 : Body Try.prog 125 := Bo (by kernel_rfl)
theorem bd_126 : Body Try.prog 126 := Bo (by kernel_rfl)
theorem bd_72 : Body Try.prog 72 := Bo (by kernel_rfl)
theorem bd_73 : Body Try.prog 73 := Bo (by kernel_rfl)
def srcN (l : List Int) (i : Nat) : List Nat := (sourceL l i).map Int.toNat
theorem src_nonneg {l : List Int} (ht : TreeIn l) {i : Nat} (hi : i < l.length) : ∀ x ∈ sourceL l i, 0 ≤ x := by
 intro x hx
 unfold sourceL at hx
 split at hx
 · cases hx
 · rename_i h
   have := ht i hi
   simp at hx
   omega
theorem source_nat {F : Heap} {l : List Int} (ht : TreeIn l) {i : Nat} (hi : i < l.length) (h5 : l.length ≤ 5) : Ok Try.prog 73 [treeV l, .int .i64 (i : Int)].toArray F fun u F' => Nats F' u (srcN l i) :=
 (source_ok (by omega)).mono fun _ _ _ h => h.nats (src_nonneg ht hi)
theorem srcN_mem {l : List Int} (_ht : TreeIn l) {k i : Nat} : (k, i) ∈ treeE l ↔ i < l.length ∧ k ∈ srcN l i := by
 rw [treeE_mem]
 unfold srcN sourceL
 by_cases h : upN l i = -1
 · simp [h]
 · rw [if_neg h]
   simp [h]
set_option maxRecDepth 100000 in
theorem fits_ok {F : Heap} {b : Nat} {vp ve vm : Value} {ps : List (Value × Edn)} {s : Stm} (hX : StmX F b vp ve vm ps s) {l : List Int} (ht : IsTree l) (hll : l.length = s.editions.length) (hv : ValidT s) : Ok Try.prog 91 [.pointer (some ⟨b, 0, none⟩), treeV l].toArray F fun u _ => u = .bool (fitsE s (treeE l)) := by
 refine Ok.intro Try.func91 rfl Try.ntmps91 rfl fun w0 => ?_
 have hne := hv.ne
 have hl5 : l.length ≤ 5 := by omega
 refine Af <| Ai fun ds => Bk rfl (B1 (Aj rfl) rfl fun b1 hb1 nb1 => ?_)
 refine Aa rfl (Ac Ad) ?_
 refine Ah <| Ab <| Af <| Ai fun ds => Aa rfl (Ag (Ar rfl <| Aj rfl)) ?_
 refine Aa rfl (A8 B5 (Ar rfl <| Ae) rfl rfl (A3 0 rfl)) ?_
 refine Aa rfl (q_makeFunc2 (.cons (Ae) .nil) .nil) ?_
 refine Bk rfl (B6 bd_72 A1 (.cons (Ar rfl <| Ae) (.cons (Ae) .nil)) (spans_ok hX hv (fs := [treeV l]) (cs := []) bd_73 (bef := srcN l) (fun G hG i hi => source_nat ht.in_ (by omega) hl5) (E := treeE l) (fun k i => by rw [srcN_mem ht.in_, hll]) (by rw [← hll]; exact ht.dag)) fun v2 F3 hr4 hF5 => ?_)
 obtain ⟨vsp, rfl, hsp⟩ := hr4
 refine Aa rfl (Ag (Ae)) ?_
 refine Aa rfl (Ax (Ae) rfl) ?_
 refine Aa rfl (Ax (Al rfl <| Ae) rfl) ?_
 refine Aa rfl (Ac (Al rfl <| Ae)) ?_
 refine Aa rfl (Ac (Al rfl <| Ae)) ?_
 refine Ah <| Ab <| Af <| Ai fun ds => Aa rfl (Ag (Ae)) ?_
 refine Aa rfl (Ac (Ae)) ?_
 refine Ah <| Ab <| A4 <| Ay rfl (.tmp (Ae) .nil) ?_
 rfl
theorem tree_ints {F : Heap} {b T : Nat} {l : List Int} (h : F b = some (bx T (treeC l))) : Ints F (.slice (some ⟨b, 0, none⟩) 5 5) ((List.range 5).map (upN l)) :=
 sl_box h (by simp [treeC, intE, List.flatMap_map, ← List.map_eq_flatMap]) (by simp) (fun _ => rfl) (by omega)
theorem tree_take {F : Heap} {b T : Nat} {l : List Int} (h : F b = some (bx T (treeC l))) (hl : l.length ≤ 5) : Ints F (subslice (.slice (some ⟨b, 0, none⟩) 5 5) 0 l.length 1) l := by
 have h1 := (tree_ints h).to (k := l.length) (by simpa using hl)
 have e : ((List.range 5).map (upN l)).take l.length = l := by
   apply List.ext_getElem
   · simp; omega
   · intro i h1 h2
     simp [Dd h2]
 rw [e] at h1
 exact h1
set_option maxRecDepth 100000 in
theorem root_ok {F : Heap} {b : Nat} {vp ve vm : Value} {ps : List (Value × Edn)} {s : Stm} (hX : StmX F b vp ve vm ps s) {l : List Int} (_ht : IsTree l) (hll : l.length = s.editions.length) (hv : ValidT s) : Ok Try.prog 114 [.pointer (some ⟨b, 0, none⟩), treeV l].toArray F fun u _ => u = .int .i64 (rootN l) := by
 refine Ok.intro Try.func114 rfl Try.ntmps114 rfl fun w0 => ?_
 have hne := hv.ne
 have hlen := hX.r.len
 have hL1 := hX.r.eds.plain.lt
 have hl5 : l.length ≤ 5 := by omega
 refine Af <| Ai fun ds => Bk rfl (B1 (Aj rfl) rfl fun b1 hb1 nb1 => ?_)
 refine Aa rfl (Ac Ad) ?_
 refine Ah <| Ab <| Af <| Cg (i := 0) rfl hb1 (.here) fun F2 hF3 hz3 => ?_
 replace hX := hX.mono hF3
 have hli := tree_take hz3 hl5
 refine Ai fun ds => Aa rfl (Ag (Ar rfl <| Aj rfl)) ?_
 refine Aa rfl (B3 (Ae)) ?_
 refine Aa rfl (Ao Ca (Ae)) ?_
 refine Aa rfl (Ao Bv (Ae)) ?_
 refine Aa rfl (Ap Bz (Ae) (CellF.own hX.blk rfl).cell) ?_
 refine Aa rfl (Bh B7 (Ae) hX.r.eds.plain) ?_
 refine Aa rfl (q_sliceArrTo (s := 1) (k := l.length) Try.underlying100 (C0 (by kernel_rfl)) (Az rfl <| Ar rfl <| Al rfl <| Ae) (Ae) (by omega) hl5) ?_
 refine B0 rfl (Bj bd_125 A1 (.cons (Ae) (.cons Ad .nil)) (indexZ_ok hli (-1)) (fun _ _ h => h)) ?_
 refine Aa rfl (Ac (Ae)) ?_
 refine Ah <| Ab <| A4 <| Ay rfl (.tmp (Ae) .nil) ?_
 rfl
set_option maxRecDepth 100000 in
theorem min_ok {F : Heap} {v : Value} {xs : List Int} (hx : Ints F v xs) (h0 : 0 < xs.length) : Ok Try.prog 126 [v].toArray F fun u _ => u = .int .i64 (xs.foldl min xs[0]) := by
 refine Ok.intro Try.func126 rfl Try.ntmps126 rfl fun w0 => ?_
 have hlen := hx.plain.lt
 refine Af <| Ai fun ds => Aa rfl (Ac Ad) ?_
 refine Ah <| Ab <| Af <| Af <| Ai fun ds => Aa rfl (Ag (Al rfl <| Aj rfl)) ?_
 refine Aa rfl (Bh Be (Ae) hx.plain) ?_
 refine Aa rfl (Br (Ae) Ad) ?_
 refine Ah <| Ab <| Am (Ae) (decide_eq_false (by omega)) ?_
 refine Au <| Ab <| Af <| Ai fun ds => Aa rfl (Ag (Az rfl <| Aj rfl)) ?_
 refine Aa rfl (A9 (k := 0) Be (Ae) hx.plain Ad rfl h0) ?_
 refine Aa rfl (Ap Bl (Ae) (hx.cell1 h0 rfl)) ?_
 refine Aa rfl (Ac (Ae)) ?_
 refine Ah <| Ab <| Af <| Af <| Ai fun ds => Aa rfl (Ac Ad) ?_
 refine Ah <| Ab <| A0 <| Bs [3, 4, 12, 13, 14, 15, 16, 17, 18, 19, 20, 21, 22, 23] (fun m e σ => ∃ k : Nat, m + k = xs.length ∧ 1 ≤ k ∧ e 4 = .int .i64 (k : Int) ∧ e 3 = .int .i64 ((xs.take k).foldl min (xs[0]'h0)) ∧ σ = ⟨F, []⟩) (xs.length - 1) ?_ ?_
 · exact ⟨1, by omega, by omega, (Ae), by rw [show xs.take 1 = [xs[0]] by cases xs with | nil => simp at h0 | cons a xs => simp]; simp; exact (Al rfl <| Ae), rfl⟩
 ·
  rintro m e _ ⟨k, hm, hk1, hs4, hs3, rfl⟩
  by_cases hlt : k < xs.length
  ·
   refine Af <| Af <| Ai fun ds => Aa rfl (Ag (As rfl hs4)) ?_
   refine Aa rfl (Ag (Al rfl <| Ak rfl <| A7 rfl <| Al rfl <| Aj rfl)) ?_
   refine Aa rfl (Bh Be (Ae) hx.plain) ?_
   refine Aa rfl (Br (Ar rfl <| Ae) (Ae)) ?_
   refine Ah <| Ab <| Aq (Ae) (by first | rfl | exact decide_eq_true (by omega)) ?_
   refine Au <| Ab <| Af <| A0 <| Ai fun ds => Aa rfl (Ag (Az rfl <| As rfl hs3)) ?_
   refine Aa rfl (Ag (Az rfl <| Al rfl <| Ak rfl <| A7 rfl <| Al rfl <| Aj rfl)) ?_
   refine Aa rfl (Ag (Az rfl <| Ar rfl <| As rfl hs4)) ?_
   refine Aa rfl (A9  Be (Al rfl <| Ae) hx.plain (Ae) rfl hlt) ?_
   refine Aa rfl (Ap Bl (Ae) (hx.cell1 hlt rfl)) ?_
   refine Aa rfl (q_min2 (Az rfl <| Ae) (Ae)) ?_
   refine Aa rfl (Ac (Ae)) ?_
   refine Ah <| Bb <| Ab <| Ai fun ds => Aa rfl (Ag (A7 rfl <| Ar rfl <| Al rfl <| As rfl hs4)) ?_
   refine Aa rfl (Bp (Ae) Ad rfl (by omega) (by omega)) ?_
   refine Aa rfl (Ac (Ae)) ?_
   refine Ah <| Ab ⟨_, m - 1, Off.eq (Di rfl <| Dy rfl <| Eb rfl <| Ba), by omega, ?_⟩
   exact ⟨k + 1, by omega, by omega, (Ae), by rw [List.take_succ_eq_append_getElem hlt, List.foldl_append]; exact (Ar rfl <| Al rfl <| Ae), rfl⟩
  ·
   refine Af <| Af <| Ai fun ds => Aa rfl (Ag (As rfl hs4)) ?_
   refine Aa rfl (Ag (Al rfl <| Ak rfl <| A7 rfl <| Al rfl <| Aj rfl)) ?_
   refine Aa rfl (Bh Be (Ae) hx.plain) ?_
   refine Aa rfl (Br (Ar rfl <| Ae) (Ae)) ?_
   refine Ah <| Ab <| Am (Ae) (by first | rfl | exact decide_eq_false (by omega)) ?_
   obtain rfl : k = xs.length := by omega
   refine Bn ?_
   refine Bd <| Bd <| Bf <| Ab <| Af <| Ai fun ds => Aa rfl (Ag (Az rfl <| As rfl hs3)) ?_
   refine Aa rfl (Ac (Ae)) ?_
   refine Ah <| Ab <| A4 <| Ay rfl (.tmp (Ae) .nil) ?_
   show _ = _
   rw [List.take_length]; rfl
def cstC (c : Nat → Int) : List Value := (List.range 4).map fun i => .int .i64 (c i)
def cstV (c : Nat → Int) : Value := .agg (cstC c).toArray
theorem cstC_at {c : Nat → Int} {i : Nat} (h : i < 4) : (cstC c)[0 + i * 1]? = some (.int .i64 (c i)) := by
 rw [show 0 + i * 1 = i by omega]; simp [cstC, h]
theorem cstC_set {c : Nat → Int} {i : Nat} {v : Int} : (cstC c).set (0 + i * 1) (.int .i64 v) = cstC (updI c i v) := by
 rw [show 0 + i * 1 = i by omega]
 apply List.ext_getElem
 · simp [cstC]
 · intro j h1 h2
   rw [List.getElem_set]
   simp only [cstC, List.getElem_map, List.getElem_range, updI]
   by_cases hij : i = j
   · subst hij; simp
   · rw [if_neg hij, if_neg (fun h => hij h.symm)]
theorem cstC_one {c : Nat → Int} : ∀ u ∈ cstC c, u.oneCell' = true := by
 intro u hu
 obtain ⟨i, -, rfl⟩ := List.mem_map.1 hu
 rfl
theorem D1 {c d : Nat → Int} (h : ∀ i, i < 4 → c i = d i) : cstC c = cstC d := List.map_congr_left fun i hi => by rw [h i (List.mem_range.1 hi)]
theorem cst_ints {F : Heap} {b T : Nat} {c : Nat → Int} (h : F b = some (bx T (cstC c))) : Ints F (subslice (.slice (some ⟨b, 0, none⟩) 4 4) 1 4 1) [c 1, c 2, c 3] := by
 have h1 : Ints F (.slice (some ⟨b, 0, none⟩) 4 4) [c 0, c 1, c 2, c 3] := sl_box h (by simp [cstC, intE, List.range_succ]) (by simp) (fun _ => rfl) (by omega)
 exact h1.from (k := 1) (by simp)
set_option maxRecDepth 100000 in
theorem least_ok {F : Heap} (c : Nat → Int) : Ok Try.prog 115 [cstV c].toArray F fun u _ => u = .int .i64 (min (min (c 1) (c 2)) (c 3)) := by
 refine Ok.intro Try.func115 rfl Try.ntmps115 rfl fun w0 => ?_
 refine Af <| Ai fun ds => Bk rfl (B1 (Aj rfl) rfl fun b1 hb1 nb1 => ?_)
 refine Aa rfl (Ac Ad) ?_
 refine Ah <| Ab <| Af <| Cg (i := 0) rfl hb1 (.here) fun F2 hF3 hz1 => ?_
 have hci := cst_ints hz1
 refine Ai fun ds => Aa rfl (q_sliceArrFrom (s := 1) (k := 1) Try.underlying155 (C0 (by kernel_rfl)) (Al rfl <| Ae) Ad rfl (by decide)) ?_
 refine B0 rfl (Bj bd_126 A1 (.cons (Ae) .nil) (min_ok hci (by simp)) (fun _ _ h => h.trans (show Value.int .i64 (min (min (min (c 1) (c 1)) (c 2)) (c 3)) = Value.int .i64 (min (min (c 1) (c 2)) (c 3)) by rw [Int.min_self]))) ?_
 refine Aa rfl (Ac (Ae)) ?_
 refine Ah <| Ab <| A4 <| Ay rfl (.tmp (Ae) .nil) ?_
 rfl
end Go.Proofs.Ytccogmkhijgelaa
namespace Go.Proofs.Ytccogmkhijgelaa
open Go.RowKit
theorem zr_155 : ZeroT Try.prog 155 (.agg #[.int .i64 0, .int .i64 0, .int .i64 0, .int .i64 0]) := Dc (by kernel_rfl)
theorem agg_155 : AggT Try.prog 155 4 := aggT_of (by kernel_rfl)
theorem ar_155 : ArrT Try.prog 155 4 3 1 := arrT_of (by kernel_rfl)
theorem bd_113 : Body Try.prog 113 := Bo (by kernel_rfl)
theorem bd_114 : Body Try.prog 114 := Bo (by kernel_rfl)
theorem bd_115 : Body Try.prog 115 := Bo (by kernel_rfl)
theorem sz_155 : SizeT Try.prog 155 4 := C0 (by kernel_rfl)
def cN (s : Stm) (l : List Int) (p i : Nat) : Nat → Int
 | 0 => 0
 | a + 1 => costN s l p i ((a : Int) + 1)
/-- The cells of an edition when so many of those set from it were looked at, the next one for readings less than 'n'. -/
def cKf (s : Stm) (l : List Int) (p i k n : Nat) : Nat → Int
 | 0 => 0
 | a + 1 => if a + 1 < n then costK s l p (costN s l p) i (k + 1) ((a : Int) + 1) else costK s l p (costN s l p) i k ((a : Int) + 1)
def c0f (s : Stm) (p i n : Nat) : Nat → Int
 | 0 => 0
 | a + 1 => if a + 1 < n then (if fitR s p i ((a : Int) + 1) then 0 else never) else 0
theorem c0f_s {s : Stm} {p i n a : Nat} : c0f s p i n (a + 1) = if a + 1 < n then (if fitR s p i ((a : Int) + 1) then 0 else never) else 0 := rfl
theorem cKf_s {s : Stm} {l : List Int} {p i k n a : Nat} : cKf s l p i k n (a + 1) = if a + 1 < n then costK s l p (costN s l p) i (k + 1) ((a : Int) + 1) else costK s l p (costN s l p) i k ((a : Int) + 1) := rfl
theorem cN_s {s : Stm} {l : List Int} {p i a : Nat} : cN s l p i (a + 1) = costN s l p i ((a : Int) + 1) := rfl
section
variable {s : Stm} {l : List Int} {p i : Nat}
theorem c0f_one : cstC (c0f s p i 1) = List.replicate 4 (.int .i64 0) := by
 rw [D1 (d := fun _ => 0) fun a _ => ?_]
 · rfl
 · cases a with
   | zero => rfl
   | succ a => rw [c0f_s, if_neg (by omega)]
theorem c0f_step {n : Nat} {v : Int} (hv : v = if fitR s p i ((n : Int) + 1) then 0 else never) : cstC (updI (c0f s p i (n + 1)) (n + 1) v) = cstC (c0f s p i (n + 1 + 1)) := by
 refine D1 fun a _ => ?_
 unfold updI
 by_cases h : a = n + 1
 · rw [if_pos h]; subst h; rw [c0f_s, if_pos (by omega), hv]
 · rw [if_neg h]
   cases a with
   | zero => rfl
   | succ a =>
     rw [c0f_s, c0f_s]
     by_cases h2 : a + 1 < n + 1
     · rw [if_pos h2, if_pos (show a + 1 < n + 1 + 1 by omega)]
     · rw [if_neg h2, if_neg (show ¬ a + 1 < n + 1 + 1 by omega)]
theorem c0f_same {n : Nat} (hv : fitR s p i ((n : Int) + 1)) : cstC (c0f s p i (n + 1)) = cstC (c0f s p i (n + 1 + 1)) := by
 rw [← c0f_step (v := 0) (by rw [if_pos hv])]
 refine D1 fun a _ => ?_
 unfold updI
 by_cases h : a = n + 1
 · rw [if_pos h]; subst h; rw [c0f_s, if_neg (by omega)]
 · rw [if_neg h]
theorem c0f_end : cstC (c0f s p i 4) = cstC (cKf s l p i 0 1) := by
 refine D1 fun a ha => ?_
 cases a with
 | zero => rfl
 | succ a => rw [c0f_s, cKf_s, if_pos (show a + 1 < 4 by omega), if_neg (show ¬ a + 1 < 1 by omega)]; rfl
theorem cKf_set {k n : Nat} {v : Int} (hv : v = costK s l p (costN s l p) i (k + 1) ((n : Int) + 1)) : cstC (updI (cKf s l p i k (n + 1)) (n + 1) v) = cstC (cKf s l p i k (n + 1 + 1)) := by
 refine D1 fun a _ => ?_
 unfold updI
 by_cases h : a = n + 1
 · rw [if_pos h]; subst h; rw [cKf_s, if_pos (by omega), hv]
 · rw [if_neg h]
   cases a with
   | zero => rfl
   | succ a =>
     rw [cKf_s, cKf_s]
     by_cases h2 : a + 1 < n + 1
     · rw [if_pos h2, if_pos (by omega)]
     · rw [if_neg h2, if_neg (by omega)]
theorem cKf_get {k n : Nat} : cKf s l p i k (n + 1) (n + 1) = costK s l p (costN s l p) i k ((n : Int) + 1) := by rw [cKf_s, if_neg (by omega)]
theorem cKf_next {k : Nat} : cstC (cKf s l p i k 4) = cstC (cKf s l p i (k + 1) 1) := by
 refine D1 fun a ha => ?_
 cases a with
 | zero => rfl
 | succ a => rw [cKf_s, cKf_s, if_pos (by omega), if_neg (by omega)]
theorem cKf_skip {k : Nat} (h : upN l k ≠ (i : Int)) : cstC (cKf s l p i k 1) = cstC (cKf s l p i (k + 1) 1) := by
 refine D1 fun a ha => ?_
 cases a with
 | zero => rfl
 | succ a => rw [cKf_s, cKf_s, if_neg (by omega), if_neg (by omega)]; conv => rhs; unfold costK; rw [if_neg h]
theorem cKf_end (ht : IsTree l) (hi : i < l.length) : cstC (cKf s l p i l.length 1) = cstC (cN s l p i) := by
 refine D1 fun a ha => ?_
 cases a with
 | zero => rfl
 | succ a => rw [cKf_s, cN_s, if_neg (by omega), cost_fix ht hi]
theorem best_same {free : Bool} {own : Int → Int} {n m : Nat} (h : m = n) : bestTo free own ((n : Int) + 1) (m + 1) = min (bestTo free own ((n : Int) + 1) m) (own ((m : Int) + 1)) := by
 conv => lhs; unfold bestTo
 rw [if_pos (by omega)]
theorem best_more {free : Bool} {own : Int → Int} {n m : Nat} (h : m ≠ n) (h2 : n < m ∨ free = true) : bestTo free own ((n : Int) + 1) (m + 1) = min (bestTo free own ((n : Int) + 1) m) (own ((m : Int) + 1) + 1) := by
 conv => lhs; unfold bestTo
 rw [if_neg (by omega), if_pos (by rcases h2 with h2 | h2; exact .inl (by omega); exact .inr h2)]
theorem best_not {free : Bool} {own : Int → Int} {n m : Nat} (h : m ≠ n) (h2 : ¬ (n < m ∨ free = true)) : bestTo free own ((n : Int) + 1) (m + 1) = bestTo free own ((n : Int) + 1) m := by
 conv => lhs; unfold bestTo
 rw [if_neg (by omega), if_neg (fun h3 => h2 (by rcases h3 with h3 | h3; exact .inl (by omega); exact .inr h3))]
end
set_option maxRecDepth 100000 in
theorem cost_step {F : Heap} {b : Nat} {vp ve vm : Value} {ps : List (Value × Edn)} {s : Stm} (hX : StmX F b vp ve vm ps s) {l : List Int} (ht : IsTree l) (hll : l.length = s.editions.length) (hv : ValidT s) {p : Nat} (hp : p < s.places.length) {i : Nat} (hi : i < l.length) (ih : ∀ k, k < l.length → dep l l.length k = dep l l.length i + 1 → Ok Try.prog 113 [.pointer (some ⟨b, 0, none⟩), treeV l, .int .i64 (p : Int), .int .i64 (k : Int)].toArray F fun u _ => u = cstV (cN s l p k)) : Ok Try.prog 113 [.pointer (some ⟨b, 0, none⟩), treeV l, .int .i64 (p : Int), .int .i64 (i : Int)].toArray F fun u _ => u = cstV (cN s l p i) := by
 refine Ok.intro Try.func113 rfl Try.ntmps113 rfl fun w0 => ?_
 have hne := hv.ne
 have hnp := hv.np
 have hlen := hX.r.len
 have hL1 := hX.r.eds.plain.lt
 have hip : i < ps.length := by omega
 have hra := hX.r.rd hip
 have hpr : p < (s.ed i).rd.length := by rw [hv.rdl i (by omega)]; exact hp
 have hrv := rdT_at hpr
 have hrb := hv.rd i p (by omega) hp
 have hpl : (s.places[p]'hp).kind = (s.pl p).kind := by rw [pl_at hp]
 refine Af <| Ai fun ds => Bk rfl (B1 (Aj rfl) rfl fun b1 hb1 nb1 => ?_)
 refine Bk rfl (Cd zr_155 rfl fun b2 hb2 nb2 => ?_)
 refine Ah <| Ab <| Af <| Af <| Ai fun ds => Aa rfl (Ac Ad) ?_
 refine Ah <| Ab <| A0 <| Bs [9, 10, 16, 17, 18, 19, 20, 21, 22, 23, 24, 25, 26, 27, 28, 29, 30, 31, 32, 33, 34, 35, 36, 37, 38, 39, 40] (fun m e σ => ∃ n : Nat, m + n = 3 ∧ e 9 = .int .i64 ((n + 1 : Nat) : Int) ∧ σ = ⟨F, [(b2, bx 155 (cstC (c0f s p i (n + 1)))), (b1, bx 100 (treeC l))]⟩) (3) ?_ ?_
 · exact ⟨0, rfl, (Ae), by rw [c0f_one]; rfl⟩
 ·
  rintro m e _ ⟨n, hm, hs9, rfl⟩
  by_cases hn3 : n < 3
  ·
   refine Af <| Af <| Ai fun ds => Aa rfl (Ag (As rfl hs9)) ?_
   refine Aa rfl (D0 (Ae) Ad) ?_
   refine Ah <| Ab <| Aq (Ae) (by first | rfl | exact decide_eq_true (by omega)) ?_
   by_cases hk0 : s.r i p = 0
   ·
    refine Au <| Ab <| Af <| A0 <| Af <| Ai fun ds => Aa rfl (Ag (Ar rfl <| Ak rfl <| Ar rfl <| Al rfl <| Aj rfl)) ?_
    refine Aa rfl (B3 (Ae)) ?_
    refine Aa rfl (Ao Ca (Ae)) ?_
    refine Aa rfl (Ao Bv (Ae)) ?_
    refine Aa rfl (Ap Bz (Ae) (CellF.own hX.blk rfl).cell) ?_
    refine Aa rfl (Ag (Az rfl <| Ar rfl <| Al rfl <| Ak rfl <| Ar rfl <| Al rfl <| Aj rfl)) ?_
    refine Aa rfl (A9 (k := i) B7 (Al rfl <| Ae) hX.r.eds.plain (Ae) rfl hip) ?_
    refine Aa rfl (Bt Cf (Ae)) ?_
    refine Aa rfl (Ap B8 (Ae) (hX.r.eds.cell hip rfl)) ?_
    refine Aa rfl (Ag (A7 rfl <| Ar rfl <| Al rfl <| Ak rfl <| Ar rfl <| Al rfl <| Aj rfl)) ?_
    refine Aa rfl (A9 (k := p) Be (Al rfl <| Ae) hra.plain (Ae) rfl hpr) ?_
    refine Aa rfl (Ap Bl (Ae) (hra.cell1 hpr rfl)) ?_
    refine Aa rfl (Ac (Ae)) ?_
    refine Ah <| Ab <| Af <| Ai fun ds => Aa rfl (Ag (Ae)) ?_
    refine Aa rfl (By (Ae) Ad) ?_
    refine Aa rfl (Ag (Ae)) ?_
    refine Aw rfl rfl (Ae) (.inl (congrArg Value.bool (by rw [hrv]; exact decide_eq_false (fun h => h hk0)))) rfl ?_
    refine Aw rfl rfl (Al rfl <| Ae) (.inl (congrArg Value.bool (by rw [hrv]; exact decide_eq_false (fun h => h hk0)))) rfl ?_
    refine Aw rfl rfl (Ar rfl <| Ae) (.inl (congrArg Value.bool (by rw [hrv]; exact decide_eq_false (fun h => h hk0)))) rfl ?_
    refine Aa rfl (Bg (Ar rfl <| Al rfl <| Ae) (by rw [hrv]; exact decide_eq_false (fun h => h hk0)) Ad) ?_
    refine Ah <| Ab <| Am (Ae) rfl ?_
    refine Au <| Bb <| Ab <| Ai fun ds => Aa rfl (Ag (A5 rfl <| Az rfl <| Ar rfl <| As rfl hs9)) ?_
    refine Aa rfl (Bp (Ae) Ad rfl (by omega) (by omega)) ?_
    refine Aa rfl (Ac (Ae)) ?_
    refine Ah <| Ab ⟨_, m - 1, Off.eq (Cq rfl <| Di rfl <| Df rfl <| Ba), by omega, ?_⟩
    refine ⟨n + 1, by omega, (Ae), by rw [← c0f_same (.inl hk0)]⟩
   ·
    refine Au <| Ab <| Af <| A0 <| Af <| Ai fun ds => Aa rfl (Ag (Ar rfl <| Ak rfl <| Ar rfl <| Al rfl <| Aj rfl)) ?_
    refine Aa rfl (B3 (Ae)) ?_
    refine Aa rfl (Ao Ca (Ae)) ?_
    refine Aa rfl (Ao Bv (Ae)) ?_
    refine Aa rfl (Ap Bz (Ae) (CellF.own hX.blk rfl).cell) ?_
    refine Aa rfl (Ag (Az rfl <| Ar rfl <| Al rfl <| Ak rfl <| Ar rfl <| Al rfl <| Aj rfl)) ?_
    refine Aa rfl (A9 (k := i) B7 (Al rfl <| Ae) hX.r.eds.plain (Ae) rfl hip) ?_
    refine Aa rfl (Bt Cf (Ae)) ?_
    refine Aa rfl (Ap B8 (Ae) (hX.r.eds.cell hip rfl)) ?_
    refine Aa rfl (Ag (A7 rfl <| Ar rfl <| Al rfl <| Ak rfl <| Ar rfl <| Al rfl <| Aj rfl)) ?_
    refine Aa rfl (A9 (k := p) Be (Al rfl <| Ae) hra.plain (Ae) rfl hpr) ?_
    refine Aa rfl (Ap Bl (Ae) (hra.cell1 hpr rfl)) ?_
    refine Aa rfl (Ac (Ae)) ?_
    refine Ah <| Ab <| Af <| Ai fun ds => Aa rfl (Ag (Ae)) ?_
    refine Aa rfl (By (Ae) Ad) ?_
    refine Aa rfl (Ag (Ae)) ?_
    refine At rfl rfl (Ae) (by rw [hrv]; exact decide_eq_true hk0) ?_
    refine Aa rfl (Ag (Ar rfl <| Al rfl <| Ae)) ?_
    refine At rfl rfl (Al rfl <| Ae) (by rw [hrv]; exact decide_eq_true hk0) ?_
    refine Aa rfl (Ag (A5 rfl <| Ar rfl <| Al rfl <| As rfl hs9)) ?_
    refine At rfl rfl (Ar rfl <| Ae) (by rw [hrv]; exact decide_eq_true hk0) ?_
    refine Aa rfl (By (Al rfl <| Ae) (Ae)) ?_
    refine Aa rfl (A6 (Ar rfl <| Al rfl <| Ae) (by rw [hrv]; exact decide_eq_true hk0) (Ae)) ?_
    refine Ah <| Ab ?_
    by_cases hkn : s.r i p = (n : Int) + 1
    ·
     refine Am (Ae) (by rw [hrv]; exact decide_eq_false (fun h => h hkn)) ?_
     refine Au <| Bb <| Ab <| Ai fun ds => Aa rfl (Ag (A5 rfl <| Az rfl <| Ar rfl <| As rfl hs9)) ?_
     refine Aa rfl (Bp (Ae) Ad rfl (by omega) (by omega)) ?_
     refine Aa rfl (Ac (Ae)) ?_
     refine Ah <| Ab ⟨_, m - 1, Off.eq (Cq rfl <| Di rfl <| Df rfl <| Ba), by omega, ?_⟩
     refine ⟨n + 1, by omega, (Ae), by rw [← c0f_same (.inr hkn)]⟩
    ·
     refine Aq (Ae) (by rw [hrv]; exact decide_eq_true hkn) ?_
     refine Ai fun ds => Aa rfl (Ag (A5 rfl <| Az rfl <| Ar rfl <| As rfl hs9)) ?_
     refine Aa rfl (Bu (k := n + 1) ar_155 (A5 rfl <| Az rfl <| Ar rfl <| Al rfl <| Ak rfl <| Al rfl <| Ae) (Ae) rfl (by omega)) ?_
     refine Ck (x_storeK sz_3 (Ae) rfl Ad (i := 0) rfl (by show _ < 4; omega) rfl (.here) ?_)
     refine Ah <| Bb <| Ab <| Ai fun ds => Aa rfl (Ag (A5 rfl <| A7 rfl <| As rfl hs9)) ?_
     refine Aa rfl (Bp (Ae) Ad rfl (by omega) (by omega)) ?_
     refine Aa rfl (Ac (Ae)) ?_
     refine Ah <| Ab ⟨_, m - 1, Off.eq (Cq rfl <| Di rfl <| Eb rfl <| Df rfl <| Ba), by omega, ?_⟩
     refine ⟨n + 1, by omega, (Ae), by rw [cstC_set, c0f_step (by rw [if_neg (fun h => h.elim hk0 hkn)]; rfl)]⟩
  ·
   refine Af <| Af <| Ai fun ds => Aa rfl (Ag (As rfl hs9)) ?_
   refine Aa rfl (D0 (Ae) Ad) ?_
   refine Ah <| Ab <| Am (Ae) (by first | rfl | exact decide_eq_false (by omega)) ?_
   obtain rfl : n = 3 := by omega
   rw [c0f_end (l := l)]
   refine Bn ?_
   refine Bd <| Bd <| Bf <| Ab <| Af <| Af <| Ai fun ds => Aa rfl (Ag (Ar rfl <| Ak rfl <| Ar rfl <| Al rfl <| Aj rfl)) ?_
   refine Aa rfl (B3 (Ae)) ?_
   refine Aa rfl (Ao Ca (Ae)) ?_
   refine Aa rfl (Ao Bv (Ae)) ?_
   refine Aa rfl (Ap Bz (Ae) (CellF.own hX.blk rfl).cell) ?_
   refine Aa rfl (Bh B7 (Ae) hX.r.eds.plain) ?_
   refine Aa rfl (Ag Ad) ?_
   refine Ah <| Ab <| A0 <| Bs [11, 12, 13, 14, 15, 47, 48, 49, 50, 51, 52, 53, 54, 55, 56, 57, 58, 59, 60, 61, 62, 63, 64, 65, 66, 67, 68, 69, 70, 71, 72, 73, 74, 75, 76, 77, 78, 79, 80, 81, 82, 83, 84, 85, 86, 87, 88, 89, 90, 91, 92, 93, 94, 95, 96, 97, 98, 99, 100, 101, 102, 103, 104, 105, 106, 107] (fun m e σ => ∃ k : Nat, m + k = l.length ∧ e 47 = .int .i64 (k : Int) ∧ σ = ⟨F, [(b2, bx 155 (cstC (cKf s l p i k 1))), (b1, bx 100 (treeC l))]⟩) (l.length) ?_ ?_
   · exact ⟨0, by omega, (Ae), rfl⟩
   ·
    rintro m2 e2 _ ⟨k, hm2, ht47, rfl⟩
    by_cases hlk : k < l.length
    ·
     have hk5 : k < 5 := by omega
     refine Af <| Ai fun ds => Aa rfl (Br (As rfl ht47) (Ak rfl <| Al rfl <| Ae)) ?_
     refine Ah <| Ab <| Af <| Aq (Ae) (by first | rfl | exact decide_eq_true (by omega)) ?_
     by_cases huk : upN l k = (i : Int)
     ·
      refine Au <| Ab <| Af <| A0 <| Af <| Ai fun ds => Aa rfl (Ag (Al rfl <| As rfl ht47)) ?_
      refine Aa rfl (Ac (Ae)) ?_
      refine Ah <| Ab <| Af <| Af <| Ai fun ds => Aa rfl (Ag (Ae)) ?_
      refine Aa rfl (Bu (k := k) Cy (Az rfl <| Ak rfl <| A7 rfl <| Al rfl <| Ak rfl <| Ar rfl <| Ae) (Ae) rfl hk5) ?_
      refine Aa rfl (Ap Bl (Ae) (Cell.own 1 rfl (Cj hk5))) ?_
      refine Aa rfl (Ag (Az rfl <| Ar rfl <| Ak rfl <| A7 rfl <| Al rfl <| Ak rfl <| Ar rfl <| Al rfl <| Aj rfl)) ?_
      refine Aa rfl (By (Al rfl <| Ae) (Ae)) ?_
      refine Ah <| Ab <| Am (Ae) (decide_eq_false (fun h => h huk)) ?_
      have hdk := dep_edge huk (ht.reach k hlk)
      refine Au <| Ab <| Af <| Ai fun ds => Aa rfl (Ag (A7 rfl <| Ak rfl <| A7 rfl <| Al rfl <| Ak rfl <| Ar rfl <| Al rfl <| Aj rfl)) ?_
      refine Aa rfl (A8 B5 (A7 rfl <| Al rfl <| Ak rfl <| A7 rfl <| Al rfl <| Ak rfl <| Ar rfl <| Ae) rfl rfl (A3 1 rfl)) ?_
      refine Aa rfl (Ag (A7 rfl <| Ar rfl <| Ak rfl <| A7 rfl <| Al rfl <| Ak rfl <| Ar rfl <| Al rfl <| Aj rfl)) ?_
      refine Aa rfl (Ag (A7 rfl <| Ae)) ?_
      refine B0 rfl (Bj bd_113 A1 (.cons (Ar rfl <| Al rfl <| Ae) (.cons (Ar rfl <| Ae) (.cons (Al rfl <| Ae) (.cons (Ae) .nil)))) (ih k hlk (by omega)) (fun _ _ h => h)) ?_
      refine Bk rfl (Cd zr_155 rfl fun b5 hb5 nb5 => ?_)
      refine Ck (Ch sz_155 (Ae) (Al rfl <| Ae) (i := 0) rfl rfl rfl rfl cstC_one (.here) ?_)
      refine Ah <| Ab <| Af <| Ai fun ds => Aa rfl (Ac Ad) ?_
      refine Ah <| Ab <| A0 <| Bs [13, 14, 15, 60, 61, 62, 63, 64, 65, 66, 67, 68, 69, 70, 71, 72, 73, 74, 75, 76, 77, 78, 79, 80, 81, 82, 83, 84, 85, 86, 87, 88, 89, 90, 91, 92, 93, 94, 95, 96, 97, 98, 99, 100, 101, 102, 103, 104, 105, 106] (fun m e σ => ∃ n : Nat, m + n = 3 ∧ e 13 = .int .i64 ((n + 1 : Nat) : Int) ∧ σ = ⟨F, [(b5, bx 155 (cstC (cN s l p k))), (b2, bx 155 (cstC ((cKf s l p i k (n + 1))))), (b1, bx 100 (treeC l))]⟩) (3) ?_ ?_
      · exact ⟨0, rfl, (Ae), rfl⟩
      ·
       rintro m3 e3 _ ⟨n, hm3, hv13, rfl⟩
       by_cases hn3 : n < 3
       ·
        refine Af <| Af <| Ai fun ds => Aa rfl (Ag (As rfl hv13)) ?_
        refine Aa rfl (D0 (Ae) Ad) ?_
        refine Ah <| Ab <| Aq (Ae) (by first | rfl | exact decide_eq_true (by omega)) ?_
        refine Au <| Ab <| Af <| A0 <| Af <| Ai fun ds => Aa rfl (Ac Ad) ?_
        refine Ah <| Ab <| Af <| Af <| Ai fun ds => Aa rfl (Ac Ad) ?_
        refine Ah <| Ab <| A0 <| Bs [14, 15, 64, 65, 66, 67, 68, 69, 70, 71, 72, 73, 74, 75, 76, 77, 78, 79, 80, 81, 82, 83, 84, 85, 86, 87, 88, 89, 90, 91, 92, 93, 94, 95, 96, 97, 98] (fun m e σ => ∃ q : Nat, m + q = 3 ∧ e 15 = .int .i64 ((q + 1 : Nat) : Int) ∧ e 14 = .int .i64 (bestTo (freeP s p) (costN s l p k) ((n : Int) + 1) q) ∧ σ = ⟨F, [(b5, bx 155 (cstC (cN s l p k))), (b2, bx 155 (cstC ((cKf s l p i k (n + 1))))), (b1, bx 100 (treeC l))]⟩) (3) ?_ ?_
        · exact ⟨0, rfl, (Ae), (Al rfl <| Ae), rfl⟩
        ·
         rintro m4 e4 _ ⟨q, hm4, hu15, hu14, rfl⟩
         by_cases hq3 : q < 3
         ·
          refine Af <| Af <| Ai fun ds => Aa rfl (Ag (As rfl hu15)) ?_
          refine Aa rfl (D0 (Ae) Ad) ?_
          refine Ah <| Ab <| Aq (Ae) (by first | rfl | exact decide_eq_true (by omega)) ?_
          have hob := (Es (s := s) (l := l) (p := p) k ((q : Int) + 1))
          unfold never at hob
          by_cases hqn : q = n
          ·
           refine Au <| Ab <| Af <| A0 <| A0 <| Af <| Ai fun ds => Aa rfl (Ag (Ar rfl <| As rfl hu15)) ?_
           refine Aa rfl (Ag (Ar rfl <| Al rfl <| Ak rfl <| Az rfl <| As rfl hv13)) ?_
           refine Aa rfl (Bx (Al rfl <| Ae) (Ae)) ?_
           refine Aa rfl (Ac (Ae)) ?_
           refine Ah <| Ab <| Aq (Ae) (decide_eq_true (by omega)) ?_
           refine Ai fun ds => Aa rfl (Ag (Az rfl <| Ar rfl <| As rfl hu14)) ?_
           refine Aa rfl (Ag (Az rfl <| Ar rfl <| Al rfl <| As rfl hu15)) ?_
           refine Aa rfl (Bu (k := q + 1) ar_155 (A7 rfl <| Ak rfl <| Az rfl <| Ak rfl <| Al rfl <| Ae) (Ae) rfl (by omega)) ?_
           refine Aa rfl (Ap Bl (Ae) (Cell.own 0 rfl (cstC_at (by omega)))) ?_
           refine Aa rfl (q_min2 (Ar rfl <| Al rfl <| Ae) (Ae)) ?_
           refine Aa rfl (Ac (Ae)) ?_
           refine Ah <| Bb (Bb (Ab ?_))
           refine Ai fun ds => Aa rfl (Ag (A7 rfl <| Az rfl <| As rfl hu15)) ?_
           refine Aa rfl (Bp (Ae) Ad rfl (by omega) (by omega)) ?_
           refine Aa rfl (Ac (Ae)) ?_
           refine Ah <| Ab ⟨_, m4 - 1, Off.eq (Di rfl <| Dy rfl <| Eb rfl <| Df rfl <| Ba), by omega, ?_⟩
           exact ⟨q + 1, by omega, (Ae), ((Ar rfl <| Al rfl <| Ae)).trans (by rw [best_same hqn]; rfl), rfl⟩
          ·
           refine Au <| Ab <| Af <| A0 <| A0 <| Af <| Ai fun ds => Aa rfl (Ag (Ar rfl <| As rfl hu15)) ?_
           refine Aa rfl (Ag (Ar rfl <| Al rfl <| Ak rfl <| Az rfl <| As rfl hv13)) ?_
           refine Aa rfl (Bx (Al rfl <| Ae) (Ae)) ?_
           refine Aa rfl (Ac (Ae)) ?_
           refine Ah <| Ab <| Am (Ae) (decide_eq_false (by omega)) ?_
           by_cases hqm : n < q
           ·
            refine Af <| Ai fun ds => Aa rfl (Ag (Az rfl <| Ar rfl <| As rfl hu15)) ?_
            refine Aa rfl (Ag (Az rfl <| Ar rfl <| Al rfl <| Ak rfl <| Az rfl <| As rfl hv13)) ?_
            refine Aa rfl (Ds (Al rfl <| Ae) (Ae)) ?_
            refine Aa rfl (Ag (Ae)) ?_
            refine Aw rfl rfl (Ae) (.inl (congrArg Value.bool (decide_eq_true (by omega)))) rfl ?_
            refine Aw rfl rfl (Al rfl <| Ae) (.inl (congrArg Value.bool (decide_eq_true (by omega)))) rfl ?_
            refine Aw rfl rfl (Ar rfl <| Ae) (.inl (congrArg Value.bool (decide_eq_true (by omega)))) rfl ?_
            refine Aw rfl rfl (Ar rfl <| Al rfl <| Ae) (.inl (congrArg Value.bool (decide_eq_true (by omega)))) rfl ?_
            refine Aw rfl rfl (Az rfl <| Ae) (.inl (congrArg Value.bool (decide_eq_true (by omega)))) rfl ?_
            refine Aw rfl rfl (Az rfl <| Al rfl <| Ae) (.inl (congrArg Value.bool (decide_eq_true (by omega)))) rfl ?_
            refine Aw rfl rfl (Az rfl <| Ar rfl <| Ae) (.inl (congrArg Value.bool (decide_eq_true (by omega)))) rfl ?_
            refine Aw rfl rfl (Az rfl <| Ar rfl <| Al rfl <| Ae) (.inl (congrArg Value.bool (decide_eq_true (by omega)))) rfl ?_
            refine Aw rfl rfl (A7 rfl <| Ae) (.inl (congrArg Value.bool (decide_eq_true (by omega)))) rfl ?_
            refine Aw rfl rfl (A7 rfl <| Al rfl <| Ae) (.inl (congrArg Value.bool (decide_eq_true (by omega)))) rfl ?_
            refine Aa rfl (A6 (A7 rfl <| Ar rfl <| Ae) (decide_eq_true (by omega)) Ad) ?_
            refine Aa rfl (Ac (Ae)) ?_
            refine Ah <| Ab <| Aq (Ae) rfl ?_
            refine Ai fun ds => Aa rfl (Ag (A5 rfl <| Az rfl <| Ar rfl <| As rfl hu14)) ?_
            refine Aa rfl (Ag (A5 rfl <| Az rfl <| Ar rfl <| Al rfl <| As rfl hu15)) ?_
            refine Aa rfl (Bu (k := q + 1) ar_155 (A5 rfl <| A7 rfl <| Ak rfl <| Az rfl <| Ak rfl <| Al rfl <| Ae) (Ae) rfl (by omega)) ?_
            refine Aa rfl (Ap Bl (Ae) (Cell.own 0 rfl (cstC_at (by omega)))) ?_
            refine Aa rfl (Bp (Ae) Ad rfl (show _ ≤ costN s l p k ((q : Int) + 1) + 1 by omega) (show costN s l p k ((q : Int) + 1) + 1 ≤ _ by omega)) ?_
            refine Aa rfl (q_min2 (Az rfl <| Ae) (Ae)) ?_
            refine Aa rfl (Ac (Ae)) ?_
            refine Ah <| Bb (Bb (Ab ?_))
            refine Ai fun ds => Aa rfl (Ag (A5 rfl <| A7 rfl <| Az rfl <| Al rfl <| As rfl hu15)) ?_
            refine Aa rfl (Bp (Ae) Ad rfl (by omega) (by omega)) ?_
            refine Aa rfl (Ac (Ae)) ?_
            refine Ah <| Ab ⟨_, m4 - 1, Off.eq (ou32 rfl <| Ba), by omega, ?_⟩
            exact ⟨q + 1, by omega, (Ae), ((Ar rfl <| Al rfl <| Ae)).trans (by rw [best_more hqn (.inl hqm)]; rfl), rfl⟩
           ·
            refine Af <| Ai fun ds => Aa rfl (Ag (Az rfl <| Ar rfl <| As rfl hu15)) ?_
            refine Aa rfl (Ag (Az rfl <| Ar rfl <| Al rfl <| Ak rfl <| Az rfl <| As rfl hv13)) ?_
            refine Aa rfl (Ds (Al rfl <| Ae) (Ae)) ?_
            refine Aa rfl (Ag (Ae)) ?_
            refine At rfl rfl (Ae) (decide_eq_false (by omega)) ?_
            refine Aa rfl (Ag (A7 rfl <| Ar rfl <| Ak rfl <| Az rfl <| Ak rfl <| A7 rfl <| Az rfl <| Ar rfl <| Al rfl <| Ak rfl <| A7 rfl <| Al rfl <| Ak rfl <| Ar rfl <| Al rfl <| Aj rfl)) ?_
            refine At rfl rfl (Al rfl <| Ae) (decide_eq_false (by omega)) ?_
            refine Aa rfl (B3 (Ae)) ?_
            refine At rfl rfl (Ar rfl <| Ae) (decide_eq_false (by omega)) ?_
            refine Aa rfl (Ao Ca (Ae)) ?_
            refine At rfl rfl (Ar rfl <| Al rfl <| Ae) (decide_eq_false (by omega)) ?_
            refine Aa rfl (Ao Co (Ae)) ?_
            refine At rfl rfl (Az rfl <| Ae) (decide_eq_false (by omega)) ?_
            refine Aa rfl (Ap C2 (Ae) (CellF.own hX.blk rfl).cell) ?_
            refine At rfl rfl (Az rfl <| Al rfl <| Ae) (decide_eq_false (by omega)) ?_
            refine Aa rfl (Ag (A7 rfl <| Az rfl <| Ar rfl <| Al rfl <| Ak rfl <| Az rfl <| Ak rfl <| A7 rfl <| Az rfl <| Ar rfl <| Al rfl <| Ak rfl <| A7 rfl <| Al rfl <| Ak rfl <| Ar rfl <| Al rfl <| Aj rfl)) ?_
            refine At rfl rfl (Az rfl <| Ar rfl <| Ae) (decide_eq_false (by omega)) ?_
            refine Aa rfl (A9 (k := p) Da (Al rfl <| Ae) hX.r.places.plain (Ae) rfl hp) ?_
            refine At rfl rfl (Az rfl <| Ar rfl <| Al rfl <| Ae) (decide_eq_false (by omega)) ?_
            refine Aa rfl (Bt fd_70_1 (Ae)) ?_
            refine At rfl rfl (A7 rfl <| Ae) (decide_eq_false (by omega)) ?_
            refine Aa rfl (Ap Bl (Ae) (hX.r.places.cell hp rfl)) ?_
            refine At rfl rfl (A7 rfl <| Al rfl <| Ae) (decide_eq_false (by omega)) ?_
            refine Aa rfl (Bx (Ae) Ad) ?_
            refine Aa rfl (Bg (A7 rfl <| Ar rfl <| Ae) (decide_eq_false (by omega)) (Ae)) ?_
            refine Aa rfl (Ac (Ae)) ?_
            refine Ah <| Ab ?_
            by_cases hfr : (s.pl p).kind = 0
            ·
             refine Aq (Ae) (by rw [hpl]; exact decide_eq_true hfr) ?_
             refine Ai fun ds => Aa rfl (Ag (A5 rfl <| Az rfl <| Ar rfl <| As rfl hu14)) ?_
             refine Aa rfl (Ag (A5 rfl <| Az rfl <| Ar rfl <| Al rfl <| As rfl hu15)) ?_
             refine Aa rfl (Bu (k := q + 1) ar_155 (A5 rfl <| A7 rfl <| Ak rfl <| Az rfl <| Ak rfl <| Al rfl <| Ae) (Ae) rfl (by omega)) ?_
             refine Aa rfl (Ap Bl (Ae) (Cell.own 0 rfl (cstC_at (by omega)))) ?_
             refine Aa rfl (Bp (Ae) Ad rfl (show _ ≤ costN s l p k ((q : Int) + 1) + 1 by omega) (show costN s l p k ((q : Int) + 1) + 1 ≤ _ by omega)) ?_
             refine Aa rfl (q_min2 (Az rfl <| Ae) (Ae)) ?_
             refine Aa rfl (Ac (Ae)) ?_
             refine Ah <| Bb (Bb (Ab ?_))
             refine Ai fun ds => Aa rfl (Ag (A5 rfl <| A7 rfl <| Az rfl <| Al rfl <| As rfl hu15)) ?_
             refine Aa rfl (Bp (Ae) Ad rfl (by omega) (by omega)) ?_
             refine Aa rfl (Ac (Ae)) ?_
             refine Ah <| Ab ⟨_, m4 - 1, Off.eq (ou32 rfl <| Ba), by omega, ?_⟩
             exact ⟨q + 1, by omega, (Ae), ((Ar rfl <| Al rfl <| Ae)).trans (by rw [best_more hqn (.inr (by unfold freeP; exact decide_eq_true hfr))]; rfl), rfl⟩
            ·
             refine Am (Ae) (by rw [hpl]; exact decide_eq_false hfr) ?_
             refine Au <| Bb (Bb (Ab ?_))
             refine Ai fun ds => Aa rfl (Ag (A5 rfl <| Az rfl <| Ar rfl <| As rfl hu15)) ?_
             refine Aa rfl (Bp (Ae) Ad rfl (by omega) (by omega)) ?_
             refine Aa rfl (Ac (Ae)) ?_
             refine Ah <| Ab ⟨_, m4 - 1, Off.eq (Cq rfl <| Di rfl <| Df rfl <| Ba), by omega, ?_⟩
             exact ⟨q + 1, by omega, (Ae), ((A5 rfl <| A7 rfl <| Al rfl <| As rfl hu14)).trans (by rw [best_not (free := freeP s p) hqn (fun h => h.elim hqm (fun h2 => hfr (of_decide_eq_true h2)))]), rfl⟩
         ·
          refine Af <| Af <| Ai fun ds => Aa rfl (Ag (As rfl hu15)) ?_
          refine Aa rfl (D0 (Ae) Ad) ?_
          refine Ah <| Ab <| Am (Ae) (by first | rfl | exact decide_eq_false (by omega)) ?_
          obtain rfl : q = 3 := by omega
          have hbb := best_bound (free := freeP s p) (own := costN s l p k) (a := (n : Int) + 1) (fun m => (Es k m).1) 3
          have hkb := costK_bound (s := s) (l := l) (p := p) (sub := costN s l p) (fun k a => (Es k a).1) (i := i) k ((n : Int) + 1)
          have hck : cKf s l p i k (n + 1) (n + 1) = costK s l p (costN s l p) i k ((n : Int) + 1) := cKf_get
          unfold never at hbb hkb
          refine Bn ?_
          refine Bd <| Bd <| Bf <| Ab <| Ai fun ds => Aa rfl (Ag (Ar rfl <| Ak rfl <| Az rfl <| As rfl hv13)) ?_
          refine Aa rfl (Ag (Ar rfl <| Al rfl <| Ak rfl <| Az rfl <| As rfl hv13)) ?_
          refine Aa rfl (Bu (k := n + 1) ar_155 (Az rfl <| Ak rfl <| Az rfl <| Ak rfl <| A7 rfl <| Az rfl <| Ar rfl <| Al rfl <| Ak rfl <| A7 rfl <| Al rfl <| Ak rfl <| Al rfl <| Ae) (Ae) rfl (by omega)) ?_
          refine Aa rfl (Ap Bl (Ae) (Cell.own 1 rfl (cstC_at (by omega)))) ?_
          refine Aa rfl (Ag (Az rfl <| Ar rfl <| As rfl hu14)) ?_
          refine Aa rfl (Bp (Al rfl <| Ae) (Ae) rfl (by rw [hck]; omega) (by rw [hck]; omega)) ?_
          refine Aa rfl (q_min2 Ad (Ae)) ?_
          refine Aa rfl (Bu (k := n + 1) ar_155 (A7 rfl <| Al rfl <| Ak rfl <| Az rfl <| Ak rfl <| A7 rfl <| Az rfl <| Ar rfl <| Al rfl <| Ak rfl <| A7 rfl <| Al rfl <| Ak rfl <| Al rfl <| Ae) (Az rfl <| Ar rfl <| Ae) rfl (by omega)) ?_
          refine Ck (x_storeK sz_3 (Ae) rfl (Al rfl <| Ae) (i := 1) rfl (by show _ < 4; omega) rfl (.next <| .here) ?_)
          refine Ah <| Bb <| Ab <| Ai fun ds => Aa rfl (Ag (A7 rfl <| Ar rfl <| Ak rfl <| Az rfl <| As rfl hv13)) ?_
          refine Aa rfl (Bp (Ae) Ad rfl (by omega) (by omega)) ?_
          refine Aa rfl (Ac (Ae)) ?_
          refine Ah <| Ab ⟨_, m3 - 1, Off.eq (Di rfl <| Dy rfl <| Df rfl <| Do rfl <| Dy rfl <| Ba), by omega, ?_⟩
          refine ⟨n + 1, by omega, (Ae), by rw [cstC_set, cKf_set (by rw [hck]; (conv => rhs; unfold costK; rw [if_pos huk]); rfl)]⟩
       ·
        refine Af <| Af <| Ai fun ds => Aa rfl (Ag (As rfl hv13)) ?_
        refine Aa rfl (D0 (Ae) Ad) ?_
        refine Ah <| Ab <| Am (Ae) (by first | rfl | exact decide_eq_false (by omega)) ?_
        obtain rfl : n = 3 := by omega
        refine Bn ?_
        refine Bd <| Bd <| Bf <| Bb <| Ab <| Cz (fun _ _ h => h.drop (.cons _ <| .cons_cons _ <| .cons_cons _ <| .refl _)) ?_
        refine Ai fun ds => Aa rfl (Bp (Ar rfl <| Ak rfl <| A7 rfl <| Az rfl <| Ar rfl <| Al rfl <| As rfl ht47) Ad rfl (by omega) (by omega)) ?_
        refine Aa rfl (Ag (Ae)) ?_
        refine Ah <| Ab ⟨_, m2 - 1, Off.eq (Dy rfl <| Do rfl <| Di rfl <| Dy rfl <| Eb rfl <| Df rfl <| Ba), by omega, ?_⟩
        refine ⟨k + 1, by omega, (Ae), by rw [cKf_next]⟩
     ·
      refine Au <| Ab <| Af <| A0 <| Af <| Ai fun ds => Aa rfl (Ag (Al rfl <| As rfl ht47)) ?_
      refine Aa rfl (Ac (Ae)) ?_
      refine Ah <| Ab <| Af <| Af <| Ai fun ds => Aa rfl (Ag (Ae)) ?_
      refine Aa rfl (Bu (k := k) Cy (Az rfl <| Ak rfl <| A7 rfl <| Al rfl <| Ak rfl <| Ar rfl <| Ae) (Ae) rfl hk5) ?_
      refine Aa rfl (Ap Bl (Ae) (Cell.own 1 rfl (Cj hk5))) ?_
      refine Aa rfl (Ag (Az rfl <| Ar rfl <| Ak rfl <| A7 rfl <| Al rfl <| Ak rfl <| Ar rfl <| Al rfl <| Aj rfl)) ?_
      refine Aa rfl (By (Al rfl <| Ae) (Ae)) ?_
      refine Ah <| Ab <| Aq (Ae) (decide_eq_true huk) ?_
      refine Bn ?_
      refine Bd (Bf ?_)
      refine Ab <| Ai fun ds => Aa rfl (Bp (A7 rfl <| As rfl ht47) Ad rfl (by omega) (by omega)) ?_
      refine Aa rfl (Ag (Ae)) ?_
      refine Ah <| Ab ⟨_, m2 - 1, Off.eq (Di rfl <| Eb rfl <| Ba), by omega, ?_⟩
      refine ⟨k + 1, by omega, (Ae), by rw [cKf_skip huk]⟩
    ·
     refine Af <| Ai fun ds => Aa rfl (Br (As rfl ht47) (Ak rfl <| Al rfl <| Ae)) ?_
     refine Ah <| Ab <| Af <| Am (Ae) (by first | rfl | exact decide_eq_false (by omega)) ?_
     obtain rfl : k = l.length := by omega
     rw [cKf_end ht hi]
     refine Bn ?_
     refine Bd <| Bd <| Bf <| Ab <| Af <| Ai fun ds => Aa rfl (A8 agg_155 (Al rfl <| Ak rfl <| A7 rfl <| Al rfl <| Ak rfl <| Al rfl <| Ae) rfl rfl (A3 0 rfl)) ?_
     refine Ck (Ch sz_155 (Ar rfl <| Ak rfl <| A7 rfl <| Al rfl <| Ak rfl <| Al rfl <| Ae) (Ae) (i := 0) rfl rfl rfl rfl cstC_one (.here) ?_)
     refine Ah <| Ab <| A4 <| Ay rfl (.agg agg_155 (Ar rfl <| Ak rfl <| A7 rfl <| Al rfl <| Ak rfl <| Al rfl <| Ae) rfl rfl (A3 0 rfl) .nil) ?_
     rfl
theorem cost_all {F : Heap} {b : Nat} {vp ve vm : Value} {ps : List (Value × Edn)} {s : Stm} (hX : StmX F b vp ve vm ps s) {l : List Int} (ht : IsTree l) (hll : l.length = s.editions.length) (hv : ValidT s) {p : Nat} (hp : p < s.places.length) : ∀ d i, i < l.length → l.length + 1 ≤ dep l l.length i + d → Ok Try.prog 113 [.pointer (some ⟨b, 0, none⟩), treeV l, .int .i64 (p : Int), .int .i64 (i : Int)].toArray F fun u _ => u = cstV (cN s l p i)
 | 0, i, _, h => by have : dep l l.length i ≤ l.length := dep_le; omega
 | d + 1, i, hi, h => cost_step hX ht hll hv hp hi fun k hk hd => cost_all hX ht hll hv hp d k hk (by omega)
theorem cost_ok {F : Heap} {b : Nat} {vp ve vm : Value} {ps : List (Value × Edn)} {s : Stm} (hX : StmX F b vp ve vm ps s) {l : List Int} (ht : IsTree l) (hll : l.length = s.editions.length) (hv : ValidT s) {p : Nat} (hp : p < s.places.length) {i : Nat} (hi : i < l.length) : Ok Try.prog 113 [.pointer (some ⟨b, 0, none⟩), treeV l, .int .i64 (p : Int), .int .i64 (i : Int)].toArray F fun u _ => u = cstV (cN s l p i) := cost_all hX ht hll hv hp (l.length + 1) i hi (by omega)
set_option maxRecDepth 100000 in
theorem D5 {F : Heap} {b : Nat} {vp ve vm : Value} {ps : List (Value × Edn)} {s : Stm} (hX : StmX F b vp ve vm ps s) {l : List Int} (ht : IsTree l) (hll : l.length = s.editions.length) (hv : ValidT s) {p : Nat} (hp : p < s.places.length) : Ok Try.prog 82 [.pointer (some ⟨b, 0, none⟩), treeV l, .int .i64 (p : Int)].toArray F fun u _ => u = .int .i64 (placeN s l p) := by
 refine Ok.intro Try.func82 rfl Try.ntmps82 rfl fun w0 => ?_
 have hne := hv.ne
 obtain ⟨r, hr1, hr2, hr3⟩ := root_at ht
 refine Af <| Ai fun ds => Bk rfl (B1 (Aj rfl) rfl fun b1 hb1 nb1 => ?_)
 refine Aa rfl (Ac Ad) ?_
 refine Ah <| Ab <| Af <| Cu (.inl rfl) (fun _ _ h => h) (.cons_cons _ <| .refl _) [] (by kernel_rfl) fun ds => ?_
 refine A2 0 rfl (by kernel_rfl) (by kernel_rfl) (by kernel_rfl) (by kernel_rfl) rfl rfl (fun _ h => h.drop (.cons_cons _ <| .refl _)) (fun _ _ _ h => h) (Ag (Ar rfl <| Aj rfl)) ?_
 refine A2 1 rfl (by kernel_rfl) (by kernel_rfl) (by kernel_rfl) (by kernel_rfl) rfl rfl (fun _ h => h.drop (.cons_cons _ <| .refl _)) (fun _ _ _ h => h) (A8 B5 (Ar rfl <| Ae) rfl rfl (A3 0 rfl)) ?_
 refine A2 2 rfl (by kernel_rfl) (by kernel_rfl) (by kernel_rfl) (by kernel_rfl) rfl rfl (fun _ h => h.drop (.cons_cons _ <| .refl _)) (fun _ _ _ h => h) (Ag (Az rfl <| Aj rfl)) ?_
 refine A2 3 rfl (by kernel_rfl) (by kernel_rfl) (by kernel_rfl) (by kernel_rfl) rfl rfl (fun _ h => h.drop (.cons_cons _ <| .refl _)) (fun _ _ _ h => h) (Ag (Az rfl <| Al rfl <| Aj rfl)) ?_
 refine A2 4 rfl (by kernel_rfl) (by kernel_rfl) (by kernel_rfl) (by kernel_rfl) rfl rfl (fun _ h => h.drop (.cons_cons _ <| .refl _)) (fun _ _ _ h => h) (A8 B5 (Az rfl <| Al rfl <| Ae) rfl rfl (A3 0 rfl)) ?_
 refine Dr 5 rfl (by kernel_rfl) rfl (x_quiet (Bj bd_114 A1 (.cons (Al rfl <| Ae) (.cons (Ae) .nil)) (root_ok hX ht hll hv) (fun _ _ h => h.trans (congrArg (Value.int .i64) hr1))) ⟨fun _ _ => (fun _ h => h.drop (.cons_cons _ <| .refl _)), ?_⟩)
 refine Dr 6 rfl (by kernel_rfl) rfl (x_quiet (Bj bd_113 A1 (.cons (Az rfl <| Al rfl <| Ae) (.cons (Az rfl <| Ae) (.cons (Ar rfl <| Al rfl <| Ae) (.cons (Ae) .nil)))) (cost_ok hX ht hll hv hp hr2) (fun _ _ h => h)) ⟨fun _ _ => (fun _ h => h.drop (.cons_cons _ <| .refl _)), ?_⟩)
 refine Dr 7 rfl (by kernel_rfl) rfl (x_quiet (Bj bd_115 A1 (.cons (Ae) .nil) (least_ok (cN s l p r)) (fun _ _ h => h)) ⟨fun _ _ => (fun _ h => h.drop (.cons_cons _ <| .refl _)), ?_⟩)
 refine A2 8 rfl (by kernel_rfl) (by kernel_rfl) (by kernel_rfl) (by kernel_rfl) rfl rfl (fun _ h => h.drop (.cons_cons _ <| .refl _)) (fun _ _ _ h => h) (Ac (Ae)) ?_
 refine Cr (by kernel_rfl) ?_ _
 refine Ab <| A4 <| Ay rfl (.tmp (Ae) .nil) ?_
 show _ = _
 unfold placeN; rw [hr1]; rfl
end Go.Proofs.Ytccogmkhijgelaa
