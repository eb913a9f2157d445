/-
  A part of a proof: StemKnown returns true. No conditions.
-/
import Derived.Test.YtccogmkhijgelaaPaa
import Derived.Test.YtccogmkhijgelaaProg
import Derived.Maps.Keyed
import Derived.DeepKeys4
namespace Go.Proofs.Ytccogmkhijgelaa
open Go.RowKit
theorem agg_60 : AggT Try.prog 60 2 := aggT_of (by kernel_rfl)
theorem agg_64 : AggT Try.prog 64 4 := aggT_of (by kernel_rfl)
theorem agg_70 : AggT Try.prog 70 2 := aggT_of (by kernel_rfl)
theorem bd_100 : Body Try.prog 100 := Bo (by kernel_rfl)
theorem bd_101 : Body Try.prog 101 := Bo (by kernel_rfl)
theorem bd_121 : Body Try.prog 121 := Bo (by kernel_rfl)
theorem bd_124 : Body Try.prog 124 := Bo (by kernel_rfl)
theorem bd_98 : Body Try.prog 98 := Bo (by kernel_rfl)
theorem bd_99 : Body Try.prog 99 := Bo (by kernel_rfl)
theorem fd_60_0 : FieldT Try.prog 60 0 0 := C3 (by kernel_rfl)
theorem fd_60_1 : FieldT Try.prog 60 1 1 := C3 (by kernel_rfl)
theorem Bk : OneT Try.prog 3 := Df (by kernel_rfl)
theorem one_9 : OneT Try.prog 9 := Df (by kernel_rfl)
theorem Dx : SliceT Try.prog 22 70 2 := sliceT_of (by kernel_rfl)
theorem Cc : SliceT Try.prog 23 64 4 := sliceT_of (by kernel_rfl)
theorem Bm : SliceT Try.prog 26 3 1 := sliceT_of (by kernel_rfl)
theorem Dw : SliceT Try.prog 36 60 2 := sliceT_of (by kernel_rfl)
set_option maxRecDepth 100000 in
theorem quireName_ok {F : Heap} (s : ByteArray) : Ok Try.prog 55 [.string s].toArray F fun r _ => r = .bool (nameOk s) := by
 refine Ok.intro Try.func55 rfl Try.ntmps55 rfl fun w0 => ?_
 refine Af <| Ai fun ds => Aa rfl (Ad Ab) ?_
 refine Ah <| Ae <| Af <| Af <| Ai fun ds => Aa rfl (Ag (Ak rfl <| Aj rfl)) ?_
 refine Bb rfl (x_rangeS Try.underlying9 (Ac) fun b1 hb1 nb1 => ?_)
 refine Ah <| Ae <| Az <| By [2, 3, 4, 7, 8, 9, 10, 11, 12, 13, 14, 15, 16, 17, 18, 19, 20, 21, 22, 23, 24, 25, 26, 27, 28, 29, 30, 31, 32] (fun m e σ => ∃ k : Nat, m + k = s.size ∧ σ = ⟨F, [(b1, .stringIter s k)]⟩ ∧ ∀ j (hj : j < s.size), j < k → chOk j s[j] = true) (s.size) ?_ ?_
 · exact ⟨0, by omega, rfl, fun j hj h => absurd h (by omega)⟩
 ·
  rintro m e _ ⟨k, hm, rfl, hno⟩
  by_cases hlt : k < s.size
  ·
   by_cases ha : s[k].toNat < 128
   ·
    have hdec := decode_ascii s k hlt ha
    refine Af <| Ai fun ds => Bb rfl (x_nextS (Al rfl <| Ac) (i := 0) rfl hlt hdec (.here) ?_)
    refine Aa rfl (As (Ac) rfl) ?_
    refine Ah <| Ae <| Af <| Aq (Ac) rfl ?_
    by_cases hl1 : 97 ≤ (s[k].toNat : Int)
    ·
     refine Ay <| Ae <| Az <| Af <| Ai fun ds => Aa rfl (As (Ak rfl <| Ac) rfl) ?_
     refine Aa rfl (As (Ar rfl <| Ac) rfl) ?_
     refine Aa rfl (Ad (Ak rfl <| Ac)) ?_
     refine Aa rfl (Ad (Ak rfl <| Ac)) ?_
     refine Ah <| Ae <| Az <| Af <| Ai fun ds => Aa rfl (Ag (Ac)) ?_
     refine Aa rfl (q_geq (Ac) Ab) ?_
     refine Aa rfl (Ag (Ac)) ?_
     refine At rfl rfl (Ac) (by first | rfl | exact decide_eq_true (by omega)) ?_
     refine Aa rfl (Ag (Ar rfl <| Ak rfl <| Ac)) ?_
     refine At rfl rfl (Ak rfl <| Ac) (by first | rfl | exact decide_eq_true (by omega)) ?_
     refine Aa rfl (q_leq (Ac) Ab) ?_
     refine Aa rfl (A1 (Ar rfl <| Ac) (by first | rfl | exact decide_eq_true (by omega)) (Ac)) ?_
     refine Aa rfl (Ad (Ac)) ?_
     refine Ah <| Ae ?_
     by_cases hl2 : (s[k].toNat : Int) ≤ 122
     ·
      have hch : chOk k s[k] = true := by unfold chOk letterB digitB; simp; omega
      refine Aq (Ac) (by first | rfl | exact decide_eq_true (by omega)) ?_
      refine Ay <| Ba (Ba ?_)
      refine Ae ⟨_, m - 1, Off.eq (ou8 rfl <| ou4 rfl <| ou1 rfl <| Be), by omega, ?_⟩
      refine ⟨k + 1, by omega, rfl, fun j hj hjk => ?_⟩
      rcases Nat.lt_succ_iff_lt_or_eq.1 hjk with hjk | rfl
      · exact hno j hj hjk
      · exact hch
     ·
      refine Am (Ac) (by first | rfl | exact decide_eq_false (by omega)) ?_
      by_cases hz : k = 0
      ·
       refine Af <| Ai fun ds => Aa rfl (Ag (A8 rfl <| Ac)) ?_
       refine Aa rfl (Dh (Ac) Ab) ?_
       refine Aa rfl (Ag (Ac)) ?_
       refine A3 rfl rfl (Ac) (.inl (congrArg Value.bool (by first | rfl | exact decide_eq_false (by omega)))) rfl ?_
       refine A3 rfl rfl (Ak rfl <| Ac) (.inl (congrArg Value.bool (by first | rfl | exact decide_eq_false (by omega)))) rfl ?_
       refine A3 rfl rfl (Ar rfl <| Ac) (.inl (congrArg Value.bool (by first | rfl | exact decide_eq_false (by omega)))) rfl ?_
       refine A3 rfl rfl (Ac) (.inr rfl) rfl ?_
       refine A3 rfl rfl (Ak rfl <| Ac) (.inr rfl) rfl ?_
       refine A3 rfl rfl (A0 rfl <| Ak rfl <| Ac) (.inl (congrArg Value.bool (by first | rfl | exact decide_eq_false (by omega)))) rfl ?_
       refine A3 rfl rfl (A0 rfl <| Ar rfl <| Ac) (.inl (congrArg Value.bool (by first | rfl | exact decide_eq_false (by omega)))) rfl ?_
       refine A3 rfl rfl (Ac) (.inr rfl) rfl ?_
       refine A3 rfl rfl (Ak rfl <| Ac) (.inr rfl) rfl ?_
       refine A3 rfl rfl (A8 rfl <| Ak rfl <| Ac) (.inl (congrArg Value.bool (by first | rfl | exact decide_eq_false (by omega)))) rfl ?_
       refine Aa rfl (Bn (A8 rfl <| Ar rfl <| Ac) (by first | rfl | exact decide_eq_false (by omega)) Ab) ?_
       refine Aa rfl (Ad (Ac)) ?_
       refine Ah <| Ae ?_
       have hch : chOk k s[k] = false := by unfold chOk letterB digitB; simp; omega
       refine Am (Ac) (by first | rfl | exact decide_eq_false (by omega)) ?_
       refine Af <| Ai fun ds => Aa rfl (Ad Ab) ?_
       refine Ah <| Ae <| A4 <| Bd (Bd (A9 (Bd (A9 ?_))))
       refine Aw rfl (.tmp (Ac) .nil) ?_
       show _ = _
       rw [C8 (i := k) hlt hch]; rfl
      ·
       refine Af <| Ai fun ds => Aa rfl (Ag (A8 rfl <| Ac)) ?_
       refine Aa rfl (Dh (Ac) Ab) ?_
       refine Aa rfl (Ag (Ac)) ?_
       refine At rfl rfl (Ac) (by first | rfl | exact decide_eq_true (by omega)) ?_
       refine Aa rfl (Ag (A8 rfl <| Ar rfl <| Ac)) ?_
       refine At rfl rfl (Ak rfl <| Ac) (by first | rfl | exact decide_eq_true (by omega)) ?_
       refine Aa rfl (q_geq (Ac) Ab) ?_
       refine At rfl rfl (Ar rfl <| Ac) (by first | rfl | exact decide_eq_true (by omega)) ?_
       refine Aa rfl (Ag (Ac)) ?_
       by_cases hd1 : 48 ≤ (s[k].toNat : Int)
       ·
        refine At rfl rfl (Ac) (by first | rfl | exact decide_eq_true (by omega)) ?_
        refine Aa rfl (Ag (A8 rfl <| A0 rfl <| Ak rfl <| Ac)) ?_
        refine At rfl rfl (Ak rfl <| Ac) (by first | rfl | exact decide_eq_true (by omega)) ?_
        refine Aa rfl (q_leq (Ac) Ab) ?_
        refine At rfl rfl (A0 rfl <| Ak rfl <| Ac) (by first | rfl | exact decide_eq_true (by omega)) ?_
        refine Aa rfl (A1 (Ar rfl <| Ac) (by first | rfl | exact decide_eq_true (by omega)) (Ac)) ?_
        refine At rfl rfl (A0 rfl <| Ar rfl <| Ac) (by first | rfl | exact decide_eq_true (by omega)) ?_
        refine Aa rfl (Ag (Ac)) ?_
        by_cases hd2 : (s[k].toNat : Int) ≤ 57
        ·
         refine A3 rfl rfl (Ac) (.inl (congrArg Value.bool (by first | rfl | exact decide_eq_true (by omega)))) rfl ?_
         refine A3 rfl rfl (Ak rfl <| Ac) (.inl (congrArg Value.bool (by first | rfl | exact decide_eq_true (by omega)))) rfl ?_
         refine At rfl rfl (A8 rfl <| Ak rfl <| Ac) (by first | rfl | exact decide_eq_true (by omega)) ?_
         refine Aa rfl (A1 (Ar rfl <| Ac) (by first | rfl | exact decide_eq_true (by omega)) Ab) ?_
         refine Aa rfl (A1 (A8 rfl <| Ar rfl <| Ac) (by first | rfl | exact decide_eq_true (by omega)) (Ac)) ?_
         refine Aa rfl (Ad (Ac)) ?_
         refine Ah <| Ae ?_
         have hch : chOk k s[k] = true := by unfold chOk letterB digitB; simp; omega
         refine Aq (Ac) (by first | rfl | exact decide_eq_true (by omega)) ?_
         refine Ay <| Ba (Ba ?_)
         refine Ae ⟨_, m - 1, Off.eq (Dj rfl <| ou8 rfl <| ou4 rfl <| Be), by omega, ?_⟩
         refine ⟨k + 1, by omega, rfl, fun j hj hjk => ?_⟩
         rcases Nat.lt_succ_iff_lt_or_eq.1 hjk with hjk | rfl
         · exact hno j hj hjk
         · exact hch
        ·
         refine At rfl rfl (Ac) (by first | rfl | exact decide_eq_false (by omega)) ?_
         refine Aa rfl (Ag (A6 rfl <| Ak rfl <| Ac)) ?_
         refine At rfl rfl (Ak rfl <| Ac) (by first | rfl | exact decide_eq_false (by omega)) ?_
         refine Aa rfl (Bx (Ac) Ab) ?_
         refine At rfl rfl (A8 rfl <| Ak rfl <| Ac) (by first | rfl | exact decide_eq_true (by omega)) ?_
         refine Aa rfl (Bn (Ar rfl <| Ac) (by first | rfl | exact decide_eq_false (by omega)) (Ac)) ?_
         refine Aa rfl (A1 (A8 rfl <| Ar rfl <| Ac) (by first | rfl | exact decide_eq_true (by omega)) (Ac)) ?_
         refine Aa rfl (Ad (Ac)) ?_
         refine Ah <| Ae ?_
         by_cases hp : (s[k].toNat : Int) = 46
         ·
          have hch : chOk k s[k] = true := by unfold chOk letterB digitB; simp; omega
          refine Aq (Ac) (by first | rfl | exact decide_eq_true (by omega)) ?_
          refine Ay <| Ba (Ba ?_)
          refine Ae ⟨_, m - 1, Off.eq (Dj rfl <| ou8 rfl <| ou4 rfl <| Be), by omega, ?_⟩
          refine ⟨k + 1, by omega, rfl, fun j hj hjk => ?_⟩
          rcases Nat.lt_succ_iff_lt_or_eq.1 hjk with hjk | rfl
          · exact hno j hj hjk
          · exact hch
         ·
          have hch : chOk k s[k] = false := by unfold chOk letterB digitB; simp; omega
          refine Am (Ac) (by first | rfl | exact decide_eq_false (by omega)) ?_
          refine Af <| Ai fun ds => Aa rfl (Ad Ab) ?_
          refine Ah <| Ae <| A4 <| Bd (Bd (A9 (Bd (A9 ?_))))
          refine Aw rfl (.tmp (Ac) .nil) ?_
          show _ = _
          rw [C8 (i := k) hlt hch]; rfl
       ·
        refine A3 rfl rfl (Ac) (.inl (congrArg Value.bool (by first | rfl | exact decide_eq_false (by omega)))) rfl ?_
        refine A3 rfl rfl (Ak rfl <| Ac) (.inl (congrArg Value.bool (by first | rfl | exact decide_eq_false (by omega)))) rfl ?_
        refine At rfl rfl (A0 rfl <| Ak rfl <| Ac) (by first | rfl | exact decide_eq_true (by omega)) ?_
        refine Aa rfl (Bn (Ar rfl <| Ac) (by first | rfl | exact decide_eq_false (by omega)) Ab) ?_
        refine At rfl rfl (A0 rfl <| Ar rfl <| Ac) (by first | rfl | exact decide_eq_true (by omega)) ?_
        refine Aa rfl (Ag (Ac)) ?_
        refine At rfl rfl (Ac) (by first | rfl | exact decide_eq_false (by omega)) ?_
        refine Aa rfl (Ag (A6 rfl <| Ak rfl <| Ac)) ?_
        refine At rfl rfl (Ak rfl <| Ac) (by first | rfl | exact decide_eq_false (by omega)) ?_
        refine Aa rfl (Bx (Ac) Ab) ?_
        refine At rfl rfl (A8 rfl <| Ak rfl <| Ac) (by first | rfl | exact decide_eq_true (by omega)) ?_
        refine Aa rfl (Bn (Ar rfl <| Ac) (by first | rfl | exact decide_eq_false (by omega)) (Ac)) ?_
        refine Aa rfl (A1 (A8 rfl <| Ar rfl <| Ac) (by first | rfl | exact decide_eq_true (by omega)) (Ac)) ?_
        refine Aa rfl (Ad (Ac)) ?_
        refine Ah <| Ae ?_
        by_cases hp : (s[k].toNat : Int) = 46
        ·
         have hch : chOk k s[k] = true := by unfold chOk letterB digitB; simp; omega
         refine Aq (Ac) (by first | rfl | exact decide_eq_true (by omega)) ?_
         refine Ay <| Ba (Ba ?_)
         refine Ae ⟨_, m - 1, Off.eq (Dj rfl <| ou8 rfl <| ou4 rfl <| Be), by omega, ?_⟩
         refine ⟨k + 1, by omega, rfl, fun j hj hjk => ?_⟩
         rcases Nat.lt_succ_iff_lt_or_eq.1 hjk with hjk | rfl
         · exact hno j hj hjk
         · exact hch
        ·
         have hch : chOk k s[k] = false := by unfold chOk letterB digitB; simp; omega
         refine Am (Ac) (by first | rfl | exact decide_eq_false (by omega)) ?_
         refine Af <| Ai fun ds => Aa rfl (Ad Ab) ?_
         refine Ah <| Ae <| A4 <| Bd (Bd (A9 (Bd (A9 ?_))))
         refine Aw rfl (.tmp (Ac) .nil) ?_
         show _ = _
         rw [C8 (i := k) hlt hch]; rfl
    ·
     refine Ay <| Ae <| Az <| Af <| Ai fun ds => Aa rfl (As (Ak rfl <| Ac) rfl) ?_
     refine Aa rfl (As (Ar rfl <| Ac) rfl) ?_
     refine Aa rfl (Ad (Ak rfl <| Ac)) ?_
     refine Aa rfl (Ad (Ak rfl <| Ac)) ?_
     refine Ah <| Ae <| Az <| Af <| Ai fun ds => Aa rfl (Ag (Ac)) ?_
     refine Aa rfl (q_geq (Ac) Ab) ?_
     refine Aa rfl (Ag (Ac)) ?_
     refine A3 rfl rfl (Ac) (.inl (congrArg Value.bool (by first | rfl | exact decide_eq_false (by omega)))) rfl ?_
     refine A3 rfl rfl (Ak rfl <| Ac) (.inl (congrArg Value.bool (by first | rfl | exact decide_eq_false (by omega)))) rfl ?_
     refine Aa rfl (Bn (Ar rfl <| Ac) (by first | rfl | exact decide_eq_false (by omega)) Ab) ?_
     refine Aa rfl (Ad (Ac)) ?_
     refine Ah <| Ae <| Am (Ac) (by first | rfl | exact decide_eq_false (by omega)) ?_
     by_cases hz : k = 0
     ·
      refine Af <| Ai fun ds => Aa rfl (Ag (A8 rfl <| Ac)) ?_
      refine Aa rfl (Dh (Ac) Ab) ?_
      refine Aa rfl (Ag (Ac)) ?_
      refine A3 rfl rfl (Ac) (.inl (congrArg Value.bool (by first | rfl | exact decide_eq_false (by omega)))) rfl ?_
      refine A3 rfl rfl (Ak rfl <| Ac) (.inl (congrArg Value.bool (by first | rfl | exact decide_eq_false (by omega)))) rfl ?_
      refine A3 rfl rfl (Ar rfl <| Ac) (.inl (congrArg Value.bool (by first | rfl | exact decide_eq_false (by omega)))) rfl ?_
      refine A3 rfl rfl (Ac) (.inr rfl) rfl ?_
      refine A3 rfl rfl (Ak rfl <| Ac) (.inr rfl) rfl ?_
      refine A3 rfl rfl (A0 rfl <| Ak rfl <| Ac) (.inl (congrArg Value.bool (by first | rfl | exact decide_eq_false (by omega)))) rfl ?_
      refine A3 rfl rfl (A0 rfl <| Ar rfl <| Ac) (.inl (congrArg Value.bool (by first | rfl | exact decide_eq_false (by omega)))) rfl ?_
      refine A3 rfl rfl (Ac) (.inr rfl) rfl ?_
      refine A3 rfl rfl (Ak rfl <| Ac) (.inr rfl) rfl ?_
      refine A3 rfl rfl (A8 rfl <| Ak rfl <| Ac) (.inl (congrArg Value.bool (by first | rfl | exact decide_eq_false (by omega)))) rfl ?_
      refine Aa rfl (Bn (A8 rfl <| Ar rfl <| Ac) (by first | rfl | exact decide_eq_false (by omega)) Ab) ?_
      refine Aa rfl (Ad (Ac)) ?_
      refine Ah <| Ae ?_
      have hch : chOk k s[k] = false := by unfold chOk letterB digitB; simp; omega
      refine Am (Ac) (by first | rfl | exact decide_eq_false (by omega)) ?_
      refine Af <| Ai fun ds => Aa rfl (Ad Ab) ?_
      refine Ah <| Ae <| A4 <| Bd (Bd (A9 (Bd (A9 ?_))))
      refine Aw rfl (.tmp (Ac) .nil) ?_
      show _ = _
      rw [C8 (i := k) hlt hch]; rfl
     ·
      refine Af <| Ai fun ds => Aa rfl (Ag (A8 rfl <| Ac)) ?_
      refine Aa rfl (Dh (Ac) Ab) ?_
      refine Aa rfl (Ag (Ac)) ?_
      refine At rfl rfl (Ac) (by first | rfl | exact decide_eq_true (by omega)) ?_
      refine Aa rfl (Ag (A8 rfl <| Ar rfl <| Ac)) ?_
      refine At rfl rfl (Ak rfl <| Ac) (by first | rfl | exact decide_eq_true (by omega)) ?_
      refine Aa rfl (q_geq (Ac) Ab) ?_
      refine At rfl rfl (Ar rfl <| Ac) (by first | rfl | exact decide_eq_true (by omega)) ?_
      refine Aa rfl (Ag (Ac)) ?_
      by_cases hd1 : 48 ≤ (s[k].toNat : Int)
      ·
       refine At rfl rfl (Ac) (by first | rfl | exact decide_eq_true (by omega)) ?_
       refine Aa rfl (Ag (A8 rfl <| A0 rfl <| Ak rfl <| Ac)) ?_
       refine At rfl rfl (Ak rfl <| Ac) (by first | rfl | exact decide_eq_true (by omega)) ?_
       refine Aa rfl (q_leq (Ac) Ab) ?_
       refine At rfl rfl (A0 rfl <| Ak rfl <| Ac) (by first | rfl | exact decide_eq_true (by omega)) ?_
       refine Aa rfl (A1 (Ar rfl <| Ac) (by first | rfl | exact decide_eq_true (by omega)) (Ac)) ?_
       refine At rfl rfl (A0 rfl <| Ar rfl <| Ac) (by first | rfl | exact decide_eq_true (by omega)) ?_
       refine Aa rfl (Ag (Ac)) ?_
       by_cases hd2 : (s[k].toNat : Int) ≤ 57
       ·
        refine A3 rfl rfl (Ac) (.inl (congrArg Value.bool (by first | rfl | exact decide_eq_true (by omega)))) rfl ?_
        refine A3 rfl rfl (Ak rfl <| Ac) (.inl (congrArg Value.bool (by first | rfl | exact decide_eq_true (by omega)))) rfl ?_
        refine At rfl rfl (A8 rfl <| Ak rfl <| Ac) (by first | rfl | exact decide_eq_true (by omega)) ?_
        refine Aa rfl (A1 (Ar rfl <| Ac) (by first | rfl | exact decide_eq_true (by omega)) Ab) ?_
        refine Aa rfl (A1 (A8 rfl <| Ar rfl <| Ac) (by first | rfl | exact decide_eq_true (by omega)) (Ac)) ?_
        refine Aa rfl (Ad (Ac)) ?_
        refine Ah <| Ae ?_
        have hch : chOk k s[k] = true := by unfold chOk letterB digitB; simp; omega
        refine Aq (Ac) (by first | rfl | exact decide_eq_true (by omega)) ?_
        refine Ay <| Ba (Ba ?_)
        refine Ae ⟨_, m - 1, Off.eq (Dj rfl <| ou8 rfl <| ou4 rfl <| Be), by omega, ?_⟩
        refine ⟨k + 1, by omega, rfl, fun j hj hjk => ?_⟩
        rcases Nat.lt_succ_iff_lt_or_eq.1 hjk with hjk | rfl
        · exact hno j hj hjk
        · exact hch
       ·
        refine At rfl rfl (Ac) (by first | rfl | exact decide_eq_false (by omega)) ?_
        refine Aa rfl (Ag (A6 rfl <| Ak rfl <| Ac)) ?_
        refine At rfl rfl (Ak rfl <| Ac) (by first | rfl | exact decide_eq_false (by omega)) ?_
        refine Aa rfl (Bx (Ac) Ab) ?_
        refine At rfl rfl (A8 rfl <| Ak rfl <| Ac) (by first | rfl | exact decide_eq_true (by omega)) ?_
        refine Aa rfl (Bn (Ar rfl <| Ac) (by first | rfl | exact decide_eq_false (by omega)) (Ac)) ?_
        refine Aa rfl (A1 (A8 rfl <| Ar rfl <| Ac) (by first | rfl | exact decide_eq_true (by omega)) (Ac)) ?_
        refine Aa rfl (Ad (Ac)) ?_
        refine Ah <| Ae ?_
        by_cases hp : (s[k].toNat : Int) = 46
        ·
         have hch : chOk k s[k] = true := by unfold chOk letterB digitB; simp; omega
         refine Aq (Ac) (by first | rfl | exact decide_eq_true (by omega)) ?_
         refine Ay <| Ba (Ba ?_)
         refine Ae ⟨_, m - 1, Off.eq (Dj rfl <| ou8 rfl <| ou4 rfl <| Be), by omega, ?_⟩
         refine ⟨k + 1, by omega, rfl, fun j hj hjk => ?_⟩
         rcases Nat.lt_succ_iff_lt_or_eq.1 hjk with hjk | rfl
         · exact hno j hj hjk
         · exact hch
        ·
         have hch : chOk k s[k] = false := by unfold chOk letterB digitB; simp; omega
         refine Am (Ac) (by first | rfl | exact decide_eq_false (by omega)) ?_
         refine Af <| Ai fun ds => Aa rfl (Ad Ab) ?_
         refine Ah <| Ae <| A4 <| Bd (Bd (A9 (Bd (A9 ?_))))
         refine Aw rfl (.tmp (Ac) .nil) ?_
         show _ = _
         rw [C8 (i := k) hlt hch]; rfl
      ·
       refine A3 rfl rfl (Ac) (.inl (congrArg Value.bool (by first | rfl | exact decide_eq_false (by omega)))) rfl ?_
       refine A3 rfl rfl (Ak rfl <| Ac) (.inl (congrArg Value.bool (by first | rfl | exact decide_eq_false (by omega)))) rfl ?_
       refine At rfl rfl (A0 rfl <| Ak rfl <| Ac) (by first | rfl | exact decide_eq_true (by omega)) ?_
       refine Aa rfl (Bn (Ar rfl <| Ac) (by first | rfl | exact decide_eq_false (by omega)) Ab) ?_
       refine At rfl rfl (A0 rfl <| Ar rfl <| Ac) (by first | rfl | exact decide_eq_true (by omega)) ?_
       refine Aa rfl (Ag (Ac)) ?_
       refine At rfl rfl (Ac) (by first | rfl | exact decide_eq_false (by omega)) ?_
       refine Aa rfl (Ag (A6 rfl <| Ak rfl <| Ac)) ?_
       refine At rfl rfl (Ak rfl <| Ac) (by first | rfl | exact decide_eq_false (by omega)) ?_
       refine Aa rfl (Bx (Ac) Ab) ?_
       refine At rfl rfl (A8 rfl <| Ak rfl <| Ac) (by first | rfl | exact decide_eq_true (by omega)) ?_
       refine Aa rfl (Bn (Ar rfl <| Ac) (by first | rfl | exact decide_eq_false (by omega)) (Ac)) ?_
       refine Aa rfl (A1 (A8 rfl <| Ar rfl <| Ac) (by first | rfl | exact decide_eq_true (by omega)) (Ac)) ?_
       refine Aa rfl (Ad (Ac)) ?_
       refine Ah <| Ae ?_
       by_cases hp : (s[k].toNat : Int) = 46
       ·
        have hch : chOk k s[k] = true := by unfold chOk letterB digitB; simp; omega
        refine Aq (Ac) (by first | rfl | exact decide_eq_true (by omega)) ?_
        refine Ay <| Ba (Ba ?_)
        refine Ae ⟨_, m - 1, Off.eq (Dj rfl <| ou8 rfl <| ou4 rfl <| Be), by omega, ?_⟩
        refine ⟨k + 1, by omega, rfl, fun j hj hjk => ?_⟩
        rcases Nat.lt_succ_iff_lt_or_eq.1 hjk with hjk | rfl
        · exact hno j hj hjk
        · exact hch
       ·
        have hch : chOk k s[k] = false := by unfold chOk letterB digitB; simp; omega
        refine Am (Ac) (by first | rfl | exact decide_eq_false (by omega)) ?_
        refine Af <| Ai fun ds => Aa rfl (Ad Ab) ?_
        refine Ah <| Ae <| A4 <| Bd (Bd (A9 (Bd (A9 ?_))))
        refine Aw rfl (.tmp (Ac) .nil) ?_
        show _ = _
        rw [C8 (i := k) hlt hch]; rfl
   ·
    obtain ⟨rc, wd, hdec⟩ : ∃ rc wd, Utf8.decode s k = (rc, wd) := ⟨_, _, rfl⟩
    have hrc : 128 ≤ rc := by have := decode_high s k hlt (by omega); rw [hdec] at this; exact this
    refine Af <| Ai fun ds => Bb rfl (x_nextS (Al rfl <| Ac) (i := 0) rfl hlt hdec (.here) ?_)
    refine Aa rfl (As (Ac) rfl) ?_
    refine Ah <| Ae <| Af <| Aq (Ac) rfl ?_
    refine Ay <| Ae <| Az <| Af <| Ai fun ds => Aa rfl (As (Ak rfl <| Ac) rfl) ?_
    refine Aa rfl (As (Ar rfl <| Ac) rfl) ?_
    refine Aa rfl (Ad (Ak rfl <| Ac)) ?_
    refine Aa rfl (Ad (Ak rfl <| Ac)) ?_
    refine Ah <| Ae <| Az <| Af <| Ai fun ds => Aa rfl (Ag (Ac)) ?_
    refine Aa rfl (q_geq (Ac) Ab) ?_
    refine Aa rfl (Ag (Ac)) ?_
    refine At rfl rfl (Ac) (by first | rfl | exact decide_eq_true (by omega)) ?_
    refine Aa rfl (Ag (Ar rfl <| Ak rfl <| Ac)) ?_
    refine At rfl rfl (Ak rfl <| Ac) (by first | rfl | exact decide_eq_true (by omega)) ?_
    refine Aa rfl (q_leq (Ac) Ab) ?_
    refine Aa rfl (A1 (Ar rfl <| Ac) (by first | rfl | exact decide_eq_true (by omega)) (Ac)) ?_
    refine Aa rfl (Ad (Ac)) ?_
    refine Ah <| Ae <| Am (Ac) (by first | rfl | exact decide_eq_false (by omega)) ?_
    have hch : chOk k s[k] = false := by unfold chOk letterB digitB; simp; omega
    by_cases hz : k = 0
    ·
     refine Af <| Ai fun ds => Aa rfl (Ag (A8 rfl <| Ac)) ?_
     refine Aa rfl (Dh (Ac) Ab) ?_
     refine Aa rfl (Ag (Ac)) ?_
     refine A3 rfl rfl (Ac) (.inl (congrArg Value.bool (by first | rfl | exact decide_eq_false (by omega)))) rfl ?_
     refine A3 rfl rfl (Ak rfl <| Ac) (.inl (congrArg Value.bool (by first | rfl | exact decide_eq_false (by omega)))) rfl ?_
     refine A3 rfl rfl (Ar rfl <| Ac) (.inl (congrArg Value.bool (by first | rfl | exact decide_eq_false (by omega)))) rfl ?_
     refine A3 rfl rfl (Ac) (.inr rfl) rfl ?_
     refine A3 rfl rfl (Ak rfl <| Ac) (.inr rfl) rfl ?_
     refine A3 rfl rfl (A0 rfl <| Ak rfl <| Ac) (.inl (congrArg Value.bool (by first | rfl | exact decide_eq_false (by omega)))) rfl ?_
     refine A3 rfl rfl (A0 rfl <| Ar rfl <| Ac) (.inl (congrArg Value.bool (by first | rfl | exact decide_eq_false (by omega)))) rfl ?_
     refine A3 rfl rfl (Ac) (.inr rfl) rfl ?_
     refine A3 rfl rfl (Ak rfl <| Ac) (.inr rfl) rfl ?_
     refine A3 rfl rfl (A8 rfl <| Ak rfl <| Ac) (.inl (congrArg Value.bool (by first | rfl | exact decide_eq_false (by omega)))) rfl ?_
     refine Aa rfl (Bn (A8 rfl <| Ar rfl <| Ac) (by first | rfl | exact decide_eq_false (by omega)) Ab) ?_
     refine Aa rfl (Ad (Ac)) ?_
     refine Ah <| Ae <| Am (Ac) (by first | rfl | exact decide_eq_false (by omega)) ?_
     refine Af <| Ai fun ds => Aa rfl (Ad Ab) ?_
     refine Ah <| Ae <| A4 <| Bd (Bd (A9 (Bd (A9 ?_))))
     refine Aw rfl (.tmp (Ac) .nil) ?_
     show _ = _
     rw [C8 (i := k) hlt hch]; rfl
    ·
     refine Af <| Ai fun ds => Aa rfl (Ag (A8 rfl <| Ac)) ?_
     refine Aa rfl (Dh (Ac) Ab) ?_
     refine Aa rfl (Ag (Ac)) ?_
     refine At rfl rfl (Ac) (by first | rfl | exact decide_eq_true (by omega)) ?_
     refine Aa rfl (Ag (A8 rfl <| Ar rfl <| Ac)) ?_
     refine At rfl rfl (Ak rfl <| Ac) (by first | rfl | exact decide_eq_true (by omega)) ?_
     refine Aa rfl (q_geq (Ac) Ab) ?_
     refine At rfl rfl (Ar rfl <| Ac) (by first | rfl | exact decide_eq_true (by omega)) ?_
     refine Aa rfl (Ag (Ac)) ?_
     refine At rfl rfl (Ac) (by first | rfl | exact decide_eq_true (by omega)) ?_
     refine Aa rfl (Ag (A8 rfl <| A0 rfl <| Ak rfl <| Ac)) ?_
     refine At rfl rfl (Ak rfl <| Ac) (by first | rfl | exact decide_eq_true (by omega)) ?_
     refine Aa rfl (q_leq (Ac) Ab) ?_
     refine At rfl rfl (A0 rfl <| Ak rfl <| Ac) (by first | rfl | exact decide_eq_true (by omega)) ?_
     refine Aa rfl (A1 (Ar rfl <| Ac) (by first | rfl | exact decide_eq_true (by omega)) (Ac)) ?_
     refine At rfl rfl (A0 rfl <| Ar rfl <| Ac) (by first | rfl | exact decide_eq_true (by omega)) ?_
     refine Aa rfl (Ag (Ac)) ?_
     refine At rfl rfl (Ac) (by first | rfl | exact decide_eq_false (by omega)) ?_
     refine Aa rfl (Ag (A6 rfl <| Ak rfl <| Ac)) ?_
     refine At rfl rfl (Ak rfl <| Ac) (by first | rfl | exact decide_eq_false (by omega)) ?_
     refine Aa rfl (Bx (Ac) Ab) ?_
     refine At rfl rfl (A8 rfl <| Ak rfl <| Ac) (by first | rfl | exact decide_eq_true (by omega)) ?_
     refine Aa rfl (Bn (Ar rfl <| Ac) (by first | rfl | exact decide_eq_false (by omega)) (Ac)) ?_
     refine Aa rfl (A1 (A8 rfl <| Ar rfl <| Ac) (by first | rfl | exact decide_eq_true (by omega)) (Ac)) ?_
     refine Aa rfl (Ad (Ac)) ?_
     refine Ah <| Ae <| Am (Ac) (by first | rfl | exact decide_eq_false (by omega)) ?_
     refine Af <| Ai fun ds => Aa rfl (Ad Ab) ?_
     refine Ah <| Ae <| A4 <| Bd (Bd (A9 (Bd (A9 ?_))))
     refine Aw rfl (.tmp (Ac) .nil) ?_
     show _ = _
     rw [C8 (i := k) hlt hch]; rfl
  ·
   refine Af <| Ai fun ds => Bb rfl (x_nextE (Al rfl <| Ac) (i := 0) rfl hlt ?_)
   refine Aa rfl (As (Ac) rfl) ?_
   refine Ah <| Ae <| Af <| Am (Ac) rfl ?_
   by_cases h0 : s.size = 0
   ·
    refine Bt ?_
    refine Bg <| Bg <| Bj <| Ae <| Af <| Ai fun ds => Aa rfl (Ag (Ar rfl <| Al rfl <| Ar rfl <| Ak rfl <| Aj rfl)) ?_
    refine Aa rfl (q_nes (Ac) Ab) ?_
    refine Aa rfl (Ag (Ac)) ?_
    refine A3 rfl rfl (Ac) (.inl (congrArg Value.bool (by rw [emptyS]; simp [h0]))) rfl ?_
    refine A3 rfl rfl (Ak rfl <| Ac) (.inl (congrArg Value.bool (by rw [emptyS]; simp [h0]))) rfl ?_
    refine A3 rfl rfl (Ar rfl <| Ac) (.inl (congrArg Value.bool (by rw [emptyS]; simp [h0]))) rfl ?_
    refine Aa rfl (Bn (Ar rfl <| Ak rfl <| Ac) (by rw [emptyS]; simp [h0]) Ab) ?_
    refine Aa rfl (Ad (Ac)) ?_
    refine Ah <| Ae <| A4 <| Aw rfl (.tmp (Ac) .nil) ?_
    show _ = _
    rw [nameOk_len (by omega)]; rfl
   ·
    refine Bt ?_
    refine Bg <| Bg <| Bj <| Ae <| Af <| Ai fun ds => Aa rfl (Ag (Ar rfl <| Al rfl <| Ar rfl <| Ak rfl <| Aj rfl)) ?_
    refine Aa rfl (q_nes (Ac) Ab) ?_
    refine Aa rfl (Ag (Ac)) ?_
    refine At rfl rfl (Ac) (by rw [emptyS]; simp [h0]) ?_
    refine Aa rfl (Ag (A0 rfl <| Ak rfl <| Al rfl <| Ar rfl <| Ak rfl <| Aj rfl)) ?_
    refine At rfl rfl (Ak rfl <| Ac) (by rw [emptyS]; simp [h0]) ?_
    refine Aa rfl (q_lenS Try.underlying9 (Ac)) ?_
    refine At rfl rfl (Ar rfl <| Ac) (by rw [emptyS]; simp [h0]) ?_
    refine Aa rfl (q_leq (Ac) Ab) ?_
    refine Aa rfl (A1 (Ar rfl <| Ak rfl <| Ac) (by rw [emptyS]; simp [h0]) (Ac)) ?_
    refine Aa rfl (Ad (Ac)) ?_
    refine Ah <| Ae ?_
    by_cases h16 : (s.size : Int) ≤ 16
    ·
     refine A4 <| Aw rfl (.tmp (Ac) .nil) ?_
     show _ = _
     rw [nameOk_true (by omega) (by omega) fun j hj => hno j hj (by omega)]; simp [outOf, h16]
    ·
     refine A4 <| Aw rfl (.tmp (Ac) .nil) ?_
     show _ = _
     rw [nameOk_len (by omega)]; simp [outOf, h16]
set_option maxRecDepth 100000 in
theorem indexInt_ok {F : Heap} {v : Value} {xs : List Int} (h : Ints F v xs) (p : _ → Bool) {g : FuncId} {cs : List Value} (hg : Body Try.prog g) (hp : ∀ k (hk : k < xs.length), Ok Try.prog g ([Value.int .i64 xs[k]] ++ cs).toArray F fun r _ => r = .bool (p xs[k])) : Ok Try.prog 121 [v, .func (.func g) #[] cs.toArray].toArray F fun r _ => r = .int .i64 (findI p xs) := by
 refine Ok.intro Try.func121 rfl Try.ntmps121 rfl fun w0 => ?_
 have hlen := h.plain.lt
 refine Af <| Ai fun ds => Aa rfl (Ad Ab) ?_
 refine Ah <| Ae <| Af <| Af <| Ai fun ds => Aa rfl (Ag (Ak rfl <| Aj rfl)) ?_
 refine Aa rfl (Bp Bm (Ac) h.plain) ?_
 refine Aa rfl (Ag Ab) ?_
 refine Ah <| Ae <| Az <| By [4, 5, 8, 9, 10, 11, 12, 13, 14, 15, 16, 17, 18] (fun m e σ => ∃ k : Nat, m + k = xs.length ∧ e 8 = .int .i64 k ∧ σ = ⟨F, []⟩ ∧ ∀ j (hj : j < xs.length), j < k → p xs[j] = false) (xs.length) ?_ ?_
 · exact ⟨0, by omega, (Ac), rfl, fun j hj h => absurd h (by omega)⟩
 ·
  rintro m e _ ⟨k, hm, hs8, rfl, hno⟩
  by_cases hlt : k < xs.length
  ·
   refine Af <| Ai fun ds => Aa rfl (Bz (Au rfl hs8) (Al rfl <| Ak rfl <| Ac)) ?_
   refine Ah <| Ae <| Af <| Aq (Ac) (by first | rfl | exact decide_eq_true (by omega)) ?_
   by_cases hpk : p xs[k] = true
   ·
    refine Ay <| Ae <| Af <| Az <| Af <| Ai fun ds => Aa rfl (Ag (Ak rfl <| Au rfl hs8)) ?_
    refine Aa rfl (Ad (Ac)) ?_
    refine Ah <| Ae <| Af <| Ai fun ds => Aa rfl (Ag (Ar rfl <| Ak rfl <| Al rfl <| A0 rfl <| Aj rfl)) ?_
    refine Aa rfl (Ag (A0 rfl <| Al rfl <| A0 rfl <| Aj rfl)) ?_
    refine Aa rfl (Ag (Ar rfl <| Ac)) ?_
    refine Aa rfl (Bh  Bm (Ak rfl <| Ac) h.plain (Ac) rfl (by omega)) ?_
    refine Aa rfl (Ap Bk (Ac) (h.cell1 (by omega) rfl)) ?_
    refine B0 rfl (Bc hg (A0 rfl <| Ac) (.cons (Ac) .nil) (hp k hlt) (fun _ _ h => h)) ?_
    refine Ah <| Ae <| Aq (Ac) hpk ?_
    refine Af <| Ai fun ds => Aa rfl (Ag (A0 rfl <| Ar rfl <| Ac)) ?_
    refine Aa rfl (Ad (Ac)) ?_
    refine Ah <| Ae <| A4 <| Bd (A9 (A9 (Bd (A9 ?_))))
    refine Aw rfl (.tmp (Ac) .nil) ?_
    show _ = _
    rw [Do hlt hpk hno]; rfl
   ·
    replace hpk : p xs[k] = false := by simpa using hpk
    refine Ay <| Ae <| Af <| Az <| Af <| Ai fun ds => Aa rfl (Ag (Ak rfl <| Au rfl hs8)) ?_
    refine Aa rfl (Ad (Ac)) ?_
    refine Ah <| Ae <| Af <| Ai fun ds => Aa rfl (Ag (Ar rfl <| Ak rfl <| Al rfl <| A0 rfl <| Aj rfl)) ?_
    refine Aa rfl (Ag (A0 rfl <| Al rfl <| A0 rfl <| Aj rfl)) ?_
    refine Aa rfl (Ag (Ar rfl <| Ac)) ?_
    refine Aa rfl (Bh  Bm (Ak rfl <| Ac) h.plain (Ac) rfl (by omega)) ?_
    refine Aa rfl (Ap Bk (Ac) (h.cell1 (by omega) rfl)) ?_
    refine B0 rfl (Bc hg (A0 rfl <| Ac) (.cons (Ac) .nil) (hp k hlt) (fun _ _ h => h)) ?_
    refine Ah <| Ae <| Am (Ac) hpk ?_
    refine Ay <| Ba <| Ae <| Ai fun ds => Aa rfl (Bw (A8 rfl <| Ak rfl <| Au rfl hs8) Ab rfl (by omega) (by omega)) ?_
    refine Aa rfl (Ag (Ac)) ?_
    refine Ah <| Ae ⟨_, m - 1, Off.eq (ou8 rfl <| ou2 rfl <| ou1 rfl <| Be), by omega, ?_⟩
    refine ⟨k + 1, by omega, (Ac), rfl, fun j hj hjk => ?_⟩
    rcases Nat.lt_succ_iff_lt_or_eq.1 hjk with hjk | rfl
    · exact hno j hj hjk
    · exact hpk
  ·
   refine Af <| Ai fun ds => Aa rfl (Bz (Au rfl hs8) (Al rfl <| Ak rfl <| Ac)) ?_
   refine Ah <| Ae <| Af <| Am (Ac) (by first | rfl | exact decide_eq_false (by omega)) ?_
   refine Bt ?_
   refine Bg <| Bg <| Bj <| Ae <| Af <| Ai fun ds => Aa rfl (Ad Ab) ?_
   refine Ah <| Ae <| A4 <| Aw rfl (.tmp (Ac) .nil) ?_
   show _ = _
   rw [findI_none fun j hj => hno j hj (by omega)]; rfl
set_option maxRecDepth 100000 in
theorem containsInt_ok {F : Heap} {v : Value} {xs : List Int} (h : Ints F v xs) (p : _ → Bool) {g : FuncId} {cs : List Value} (hg : Body Try.prog g) (hp : ∀ k (hk : k < xs.length), Ok Try.prog g ([Value.int .i64 xs[k]] ++ cs).toArray F fun r _ => r = .bool (p xs[k])) : Ok Try.prog 98 [v, .func (.func g) #[] cs.toArray].toArray F fun r _ => r = .bool (xs.any p) := by
 refine Ok.intro Try.func98 rfl Try.ntmps98 rfl fun w0 => ?_
 refine Af <| Ai fun ds => Aa rfl (Ad Ab) ?_
 refine Ah <| Ae <| Af <| Ai fun ds => Aa rfl (Ag (Ak rfl <| Aj rfl)) ?_
 refine Aa rfl (Ag (Ar rfl <| Aj rfl)) ?_
 refine B0 rfl (Bc bd_121 Ax (.cons (Ak rfl <| Ac) (.cons (Ac) .nil)) (indexInt_ok h p hg hp) (fun _ _ h => h)) ?_
 refine Aa rfl (q_geq (Ac) Ab) ?_
 refine Aa rfl (Ad (Ac)) ?_
 refine Ah <| Ae <| A4 <| Aw rfl (.tmp (Ac) .nil) ?_
 show _ = _
 rw [← findI_any]; rfl
set_option maxRecDepth 100000 in
theorem outside1_ok {F : Heap} {b1 b2 T1 T2 : Nat} {lo hi : Int} (h1 : F b1 = some (bx T1 [.int .i64 lo])) (h2 : F b2 = some (bx T2 [.int .i64 hi])) (z : Int) : Ok Try.prog 99 [.int .i64 z, .pointer (some ⟨b1, 0, none⟩), .pointer (some ⟨b2, 0, none⟩)].toArray F fun r _ => r = .bool (!(inB lo hi z)) := by
 refine Ok.intro Try.func99 rfl Try.ntmps99 rfl fun w0 => ?_
 by_cases hz : z < lo
 ·
  refine Af <| Ai fun ds => Aa rfl (Ad Ab) ?_
  refine Ah <| Ae <| Af <| Ai fun ds => Aa rfl (Ag (Ak rfl <| Aj rfl)) ?_
  refine Aa rfl (Ap Bk (Ar rfl <| Aj rfl) (CellF.own h1 rfl).cell) ?_
  refine Aa rfl (Bz (Ak rfl <| Ac) (Ac)) ?_
  refine Aa rfl (Ag (Ac)) ?_
  refine A3 rfl rfl (Ac) (.inl (congrArg Value.bool (by first | rfl | exact decide_eq_true (by omega)))) rfl ?_
  refine A3 rfl rfl (Ak rfl <| Ac) (.inl (congrArg Value.bool (by first | rfl | exact decide_eq_true (by omega)))) rfl ?_
  refine A3 rfl rfl (Ar rfl <| Ac) (.inl (congrArg Value.bool (by first | rfl | exact decide_eq_true (by omega)))) rfl ?_
  refine Aa rfl (A1 (Ar rfl <| Ak rfl <| Ac) (by first | rfl | exact decide_eq_true (by omega)) Ab) ?_
  refine Aa rfl (Ad (Ac)) ?_
  refine Ah <| Ae <| A4 <| Aw rfl (.tmp (Ac) .nil) ?_
  show _ = _
  have : ¬ lo ≤ z := by omega
  simp [outOf, inB, this]
 ·
  refine Af <| Ai fun ds => Aa rfl (Ad Ab) ?_
  refine Ah <| Ae <| Af <| Ai fun ds => Aa rfl (Ag (Ak rfl <| Aj rfl)) ?_
  refine Aa rfl (Ap Bk (Ar rfl <| Aj rfl) (CellF.own h1 rfl).cell) ?_
  refine Aa rfl (Bz (Ak rfl <| Ac) (Ac)) ?_
  refine Aa rfl (Ag (Ac)) ?_
  refine At rfl rfl (Ac) (by first | rfl | exact decide_eq_false (by omega)) ?_
  refine Aa rfl (Ag (A0 rfl <| Ak rfl <| Aj rfl)) ?_
  refine At rfl rfl (Ak rfl <| Ac) (by first | rfl | exact decide_eq_false (by omega)) ?_
  refine Aa rfl (Ap Bk (A0 rfl <| Ar rfl <| Aj rfl) (CellF.own h2 rfl).cell) ?_
  refine At rfl rfl (Ar rfl <| Ac) (by first | rfl | exact decide_eq_false (by omega)) ?_
  refine Aa rfl (Dh (Ak rfl <| Ac) (Ac)) ?_
  refine Aa rfl (Bn (Ar rfl <| Ak rfl <| Ac) (by first | rfl | exact decide_eq_false (by omega)) (Ac)) ?_
  refine Aa rfl (Ad (Ac)) ?_
  refine Ah <| Ae ?_
  by_cases hz2 : hi < z
  ·
   refine A4 <| Aw rfl (.tmp (Ac) .nil) ?_
   show _ = _
   have : ¬ z ≤ hi := by omega
   simp [outOf, inB, hz2, this]
  ·
   refine A4 <| Aw rfl (.tmp (Ac) .nil) ?_
   show _ = _
   have e1 : lo ≤ z := by omega
   have e2 : z ≤ hi := by omega
   simp [outOf, inB, hz2, e1, e2]
set_option maxRecDepth 100000 in
theorem Cd {F : Heap} {v : Value} {xs : List Int} (lo hi : Int) (h : Ints F v xs) : Ok Try.prog 52 [.int .i64 lo, .int .i64 hi, v].toArray F fun r _ => r = .bool (xs.any fun z => !(inB lo hi z)) := by
 refine Ok.intro Try.func52 rfl Try.ntmps52 rfl fun w0 => ?_
 refine Af <| Ai fun ds => Bb rfl (B9 (Aj rfl) rfl fun b1 hb1 nb1 => ?_)
 refine Bb rfl (B9 (Ak rfl <| Aj rfl) rfl fun b2 hb2 nb2 => ?_)
 refine Aa rfl (Ad Ab) ?_
 refine Ah <| Ae <| Ca (i := 1) rfl hb1 (.next <| .here) fun F3 hF4 hz1 => ?_
 replace h := h.mono hF4
 refine Ca (i := 0) rfl hb2 (.here) fun F5 hF6 hz2 => ?_
 replace h := h.mono hF6
 replace hz1 := hF6 _ _ hz1
 refine Af <| Ai fun ds => Aa rfl (Ag (Ar rfl <| Ak rfl <| Aj rfl)) ?_
 refine Aa rfl (Cj (.cons (Ar rfl <| Ak rfl <| Ac) (.cons (Ar rfl <| Ac) .nil))) ?_
 refine B0 rfl (Bc bd_98 Ax (.cons (Ak rfl <| Ac) (.cons (Ac) .nil)) (containsInt_ok h (fun z => !(inB lo hi z)) bd_99 fun k hk => outside1_ok hz1 hz2 _) (fun _ _ h => h)) ?_
 refine Aa rfl (Ad (Ac)) ?_
 refine Ah <| Ae <| A4 <| Aw rfl (.tmp (Ac) .nil) ?_
 rfl
set_option maxRecDepth 100000 in
theorem indexPlc_ok {F : Heap} {v : Value} {xs : List Plc} (h : Sl F v 2 Plc.enc xs) (p : _ → Bool) {g : FuncId} {cs : List Value} (hg : Body Try.prog g) (hp : ∀ k (hk : k < xs.length), Ok Try.prog g ([Value.agg (Plc.enc xs[k]).toArray] ++ cs).toArray F fun r _ => r = .bool (p xs[k])) : Ok Try.prog 100 [v, .func (.func g) #[] cs.toArray].toArray F fun r _ => r = .int .i64 (findI p xs) := by
 refine Ok.intro Try.func100 rfl Try.ntmps100 rfl fun w0 => ?_
 have hlen := h.plain.lt
 refine Af <| Ai fun ds => Aa rfl (Ad Ab) ?_
 refine Ah <| Ae <| Af <| Af <| Ai fun ds => Aa rfl (Ag (Ak rfl <| Aj rfl)) ?_
 refine Aa rfl (Bp Dx (Ac) h.plain) ?_
 refine Aa rfl (Ag Ab) ?_
 refine Ah <| Ae <| Az <| By [4, 5, 8, 9, 10, 11, 12, 13, 14, 15, 16, 17, 18] (fun m e σ => ∃ k : Nat, m + k = xs.length ∧ e 8 = .int .i64 k ∧ σ = ⟨F, []⟩ ∧ ∀ j (hj : j < xs.length), j < k → p xs[j] = false) (xs.length) ?_ ?_
 · exact ⟨0, by omega, (Ac), rfl, fun j hj h => absurd h (by omega)⟩
 ·
  rintro m e _ ⟨k, hm, hs8, rfl, hno⟩
  by_cases hlt : k < xs.length
  ·
   refine Af <| Ai fun ds => Aa rfl (Bz (Au rfl hs8) (Al rfl <| Ak rfl <| Ac)) ?_
   refine Ah <| Ae <| Af <| Aq (Ac) (by first | rfl | exact decide_eq_true (by omega)) ?_
   by_cases hpk : p xs[k] = true
   ·
    refine Ay <| Ae <| Af <| Az <| Af <| Ai fun ds => Aa rfl (Ag (Ak rfl <| Au rfl hs8)) ?_
    refine Aa rfl (Ad (Ac)) ?_
    refine Ah <| Ae <| Af <| Ai fun ds => Aa rfl (Ag (Ar rfl <| Ak rfl <| Al rfl <| A0 rfl <| Aj rfl)) ?_
    refine Aa rfl (Ag (A0 rfl <| Al rfl <| A0 rfl <| Aj rfl)) ?_
    refine Aa rfl (Ag (Ar rfl <| Ac)) ?_
    refine Aa rfl (Bh  Dx (Ak rfl <| Ac) h.plain (Ac) rfl (by omega)) ?_
    refine Aa rfl (A7 agg_70 (Ac) rfl rfl (h.whole (by omega))) ?_
    refine B0 rfl (Bc hg (A0 rfl <| Ac) (.cons (Ac) .nil) (hp k hlt) (fun _ _ h => h)) ?_
    refine Ah <| Ae <| Aq (Ac) hpk ?_
    refine Af <| Ai fun ds => Aa rfl (Ag (A0 rfl <| Ar rfl <| Ac)) ?_
    refine Aa rfl (Ad (Ac)) ?_
    refine Ah <| Ae <| A4 <| Bd (A9 (A9 (Bd (A9 ?_))))
    refine Aw rfl (.tmp (Ac) .nil) ?_
    show _ = _
    rw [Do hlt hpk hno]; rfl
   ·
    replace hpk : p xs[k] = false := by simpa using hpk
    refine Ay <| Ae <| Af <| Az <| Af <| Ai fun ds => Aa rfl (Ag (Ak rfl <| Au rfl hs8)) ?_
    refine Aa rfl (Ad (Ac)) ?_
    refine Ah <| Ae <| Af <| Ai fun ds => Aa rfl (Ag (Ar rfl <| Ak rfl <| Al rfl <| A0 rfl <| Aj rfl)) ?_
    refine Aa rfl (Ag (A0 rfl <| Al rfl <| A0 rfl <| Aj rfl)) ?_
    refine Aa rfl (Ag (Ar rfl <| Ac)) ?_
    refine Aa rfl (Bh  Dx (Ak rfl <| Ac) h.plain (Ac) rfl (by omega)) ?_
    refine Aa rfl (A7 agg_70 (Ac) rfl rfl (h.whole (by omega))) ?_
    refine B0 rfl (Bc hg (A0 rfl <| Ac) (.cons (Ac) .nil) (hp k hlt) (fun _ _ h => h)) ?_
    refine Ah <| Ae <| Am (Ac) hpk ?_
    refine Ay <| Ba <| Ae <| Ai fun ds => Aa rfl (Bw (A8 rfl <| Ak rfl <| Au rfl hs8) Ab rfl (by omega) (by omega)) ?_
    refine Aa rfl (Ag (Ac)) ?_
    refine Ah <| Ae ⟨_, m - 1, Off.eq (ou8 rfl <| ou2 rfl <| ou1 rfl <| Be), by omega, ?_⟩
    refine ⟨k + 1, by omega, (Ac), rfl, fun j hj hjk => ?_⟩
    rcases Nat.lt_succ_iff_lt_or_eq.1 hjk with hjk | rfl
    · exact hno j hj hjk
    · exact hpk
  ·
   refine Af <| Ai fun ds => Aa rfl (Bz (Au rfl hs8) (Al rfl <| Ak rfl <| Ac)) ?_
   refine Ah <| Ae <| Af <| Am (Ac) (by first | rfl | exact decide_eq_false (by omega)) ?_
   refine Bt ?_
   refine Bg <| Bg <| Bj <| Ae <| Af <| Ai fun ds => Aa rfl (Ad Ab) ?_
   refine Ah <| Ae <| A4 <| Aw rfl (.tmp (Ac) .nil) ?_
   show _ = _
   rw [findI_none fun j hj => hno j hj (by omega)]; rfl
set_option maxRecDepth 100000 in
theorem containsPlc_ok {F : Heap} {v : Value} {xs : List Plc} (h : Sl F v 2 Plc.enc xs) (p : _ → Bool) {g : FuncId} {cs : List Value} (hg : Body Try.prog g) (hp : ∀ k (hk : k < xs.length), Ok Try.prog g ([Value.agg (Plc.enc xs[k]).toArray] ++ cs).toArray F fun r _ => r = .bool (p xs[k])) : Ok Try.prog 56 [v, .func (.func g) #[] cs.toArray].toArray F fun r _ => r = .bool (xs.any p) := by
 refine Ok.intro Try.func56 rfl Try.ntmps56 rfl fun w0 => ?_
 refine Af <| Ai fun ds => Aa rfl (Ad Ab) ?_
 refine Ah <| Ae <| Af <| Ai fun ds => Aa rfl (Ag (Ak rfl <| Aj rfl)) ?_
 refine Aa rfl (Ag (Ar rfl <| Aj rfl)) ?_
 refine B0 rfl (Bc bd_100 Ax (.cons (Ak rfl <| Ac) (.cons (Ac) .nil)) (indexPlc_ok h p hg hp) (fun _ _ h => h)) ?_
 refine Aa rfl (q_geq (Ac) Ab) ?_
 refine Aa rfl (Ad (Ac)) ?_
 refine Ah <| Ae <| A4 <| Aw rfl (.tmp (Ac) .nil) ?_
 show _ = _
 rw [← findI_any]; rfl
set_option maxRecDepth 100000 in
theorem indexEdn_ok {F : Heap} {v : Value} {xs : List (Value × Edn)} (h : Sl F v 4 edE xs) (p : _ → Bool) {g : FuncId} {cs : List Value} (hg : Body Try.prog g) (hp : ∀ k (hk : k < xs.length), Ok Try.prog g ([Value.agg (edE xs[k]).toArray] ++ cs).toArray F fun r _ => r = .bool (p xs[k])) : Ok Try.prog 101 [v, .func (.func g) #[] cs.toArray].toArray F fun r _ => r = .int .i64 (findI p xs) := by
 refine Ok.intro Try.func101 rfl Try.ntmps101 rfl fun w0 => ?_
 have hlen := h.plain.lt
 refine Af <| Ai fun ds => Aa rfl (Ad Ab) ?_
 refine Ah <| Ae <| Af <| Af <| Ai fun ds => Aa rfl (Ag (Ak rfl <| Aj rfl)) ?_
 refine Aa rfl (Bp Cc (Ac) h.plain) ?_
 refine Aa rfl (Ag Ab) ?_
 refine Ah <| Ae <| Az <| By [4, 5, 8, 9, 10, 11, 12, 13, 14, 15, 16, 17, 18] (fun m e σ => ∃ k : Nat, m + k = xs.length ∧ e 8 = .int .i64 k ∧ σ = ⟨F, []⟩ ∧ ∀ j (hj : j < xs.length), j < k → p xs[j] = false) (xs.length) ?_ ?_
 · exact ⟨0, by omega, (Ac), rfl, fun j hj h => absurd h (by omega)⟩
 ·
  rintro m e _ ⟨k, hm, hs8, rfl, hno⟩
  by_cases hlt : k < xs.length
  ·
   refine Af <| Ai fun ds => Aa rfl (Bz (Au rfl hs8) (Al rfl <| Ak rfl <| Ac)) ?_
   refine Ah <| Ae <| Af <| Aq (Ac) (by first | rfl | exact decide_eq_true (by omega)) ?_
   by_cases hpk : p xs[k] = true
   ·
    refine Ay <| Ae <| Af <| Az <| Af <| Ai fun ds => Aa rfl (Ag (Ak rfl <| Au rfl hs8)) ?_
    refine Aa rfl (Ad (Ac)) ?_
    refine Ah <| Ae <| Af <| Ai fun ds => Aa rfl (Ag (Ar rfl <| Ak rfl <| Al rfl <| A0 rfl <| Aj rfl)) ?_
    refine Aa rfl (Ag (A0 rfl <| Al rfl <| A0 rfl <| Aj rfl)) ?_
    refine Aa rfl (Ag (Ar rfl <| Ac)) ?_
    refine Aa rfl (Bh  Cc (Ak rfl <| Ac) h.plain (Ac) rfl (by omega)) ?_
    refine Aa rfl (A7 agg_64 (Ac) rfl rfl (h.whole (by omega))) ?_
    refine B0 rfl (Bc hg (A0 rfl <| Ac) (.cons (Ac) .nil) (hp k hlt) (fun _ _ h => h)) ?_
    refine Ah <| Ae <| Aq (Ac) hpk ?_
    refine Af <| Ai fun ds => Aa rfl (Ag (A0 rfl <| Ar rfl <| Ac)) ?_
    refine Aa rfl (Ad (Ac)) ?_
    refine Ah <| Ae <| A4 <| Bd (A9 (A9 (Bd (A9 ?_))))
    refine Aw rfl (.tmp (Ac) .nil) ?_
    show _ = _
    rw [Do hlt hpk hno]; rfl
   ·
    replace hpk : p xs[k] = false := by simpa using hpk
    refine Ay <| Ae <| Af <| Az <| Af <| Ai fun ds => Aa rfl (Ag (Ak rfl <| Au rfl hs8)) ?_
    refine Aa rfl (Ad (Ac)) ?_
    refine Ah <| Ae <| Af <| Ai fun ds => Aa rfl (Ag (Ar rfl <| Ak rfl <| Al rfl <| A0 rfl <| Aj rfl)) ?_
    refine Aa rfl (Ag (A0 rfl <| Al rfl <| A0 rfl <| Aj rfl)) ?_
    refine Aa rfl (Ag (Ar rfl <| Ac)) ?_
    refine Aa rfl (Bh  Cc (Ak rfl <| Ac) h.plain (Ac) rfl (by omega)) ?_
    refine Aa rfl (A7 agg_64 (Ac) rfl rfl (h.whole (by omega))) ?_
    refine B0 rfl (Bc hg (A0 rfl <| Ac) (.cons (Ac) .nil) (hp k hlt) (fun _ _ h => h)) ?_
    refine Ah <| Ae <| Am (Ac) hpk ?_
    refine Ay <| Ba <| Ae <| Ai fun ds => Aa rfl (Bw (A8 rfl <| Ak rfl <| Au rfl hs8) Ab rfl (by omega) (by omega)) ?_
    refine Aa rfl (Ag (Ac)) ?_
    refine Ah <| Ae ⟨_, m - 1, Off.eq (ou8 rfl <| ou2 rfl <| ou1 rfl <| Be), by omega, ?_⟩
    refine ⟨k + 1, by omega, (Ac), rfl, fun j hj hjk => ?_⟩
    rcases Nat.lt_succ_iff_lt_or_eq.1 hjk with hjk | rfl
    · exact hno j hj hjk
    · exact hpk
  ·
   refine Af <| Ai fun ds => Aa rfl (Bz (Au rfl hs8) (Al rfl <| Ak rfl <| Ac)) ?_
   refine Ah <| Ae <| Af <| Am (Ac) (by first | rfl | exact decide_eq_false (by omega)) ?_
   refine Bt ?_
   refine Bg <| Bg <| Bj <| Ae <| Af <| Ai fun ds => Aa rfl (Ad Ab) ?_
   refine Ah <| Ae <| A4 <| Aw rfl (.tmp (Ac) .nil) ?_
   show _ = _
   rw [findI_none fun j hj => hno j hj (by omega)]; rfl
set_option maxRecDepth 100000 in
theorem containsEdn_ok {F : Heap} {v : Value} {xs : List (Value × Edn)} (h : Sl F v 4 edE xs) (p : _ → Bool) {g : FuncId} {cs : List Value} (hg : Body Try.prog g) (hp : ∀ k (hk : k < xs.length), Ok Try.prog g ([Value.agg (edE xs[k]).toArray] ++ cs).toArray F fun r _ => r = .bool (p xs[k])) : Ok Try.prog 60 [v, .func (.func g) #[] cs.toArray].toArray F fun r _ => r = .bool (xs.any p) := by
 refine Ok.intro Try.func60 rfl Try.ntmps60 rfl fun w0 => ?_
 refine Af <| Ai fun ds => Aa rfl (Ad Ab) ?_
 refine Ah <| Ae <| Af <| Ai fun ds => Aa rfl (Ag (Ak rfl <| Aj rfl)) ?_
 refine Aa rfl (Ag (Ar rfl <| Aj rfl)) ?_
 refine B0 rfl (Bc bd_101 Ax (.cons (Ak rfl <| Ac) (.cons (Ac) .nil)) (indexEdn_ok h p hg hp) (fun _ _ h => h)) ?_
 refine Aa rfl (q_geq (Ac) Ab) ?_
 refine Aa rfl (Ad (Ac)) ?_
 refine Ah <| Ae <| A4 <| Aw rfl (.tmp (Ac) .nil) ?_
 show _ = _
 rw [← findI_any]; rfl
set_option maxRecDepth 100000 in
theorem indexSpn_ok {F : Heap} {v : Value} {xs : List (Int × Int)} (h : Sl F v 2 spanE xs) (p : _ → Bool) {g : FuncId} {cs : List Value} (hg : Body Try.prog g) (hp : ∀ k (hk : k < xs.length), Ok Try.prog g ([Value.agg (spanE xs[k]).toArray] ++ cs).toArray F fun r _ => r = .bool (p xs[k])) : Ok Try.prog 124 [v, .func (.func g) #[] cs.toArray].toArray F fun r _ => r = .int .i64 (findI p xs) := by
 refine Ok.intro Try.func124 rfl Try.ntmps124 rfl fun w0 => ?_
 have hlen := h.plain.lt
 refine Af <| Ai fun ds => Aa rfl (Ad Ab) ?_
 refine Ah <| Ae <| Af <| Af <| Ai fun ds => Aa rfl (Ag (Ak rfl <| Aj rfl)) ?_
 refine Aa rfl (Bp Dw (Ac) h.plain) ?_
 refine Aa rfl (Ag Ab) ?_
 refine Ah <| Ae <| Az <| By [4, 5, 8, 9, 10, 11, 12, 13, 14, 15, 16, 17, 18] (fun m e σ => ∃ k : Nat, m + k = xs.length ∧ e 8 = .int .i64 k ∧ σ = ⟨F, []⟩ ∧ ∀ j (hj : j < xs.length), j < k → p xs[j] = false) (xs.length) ?_ ?_
 · exact ⟨0, by omega, (Ac), rfl, fun j hj h => absurd h (by omega)⟩
 ·
  rintro m e _ ⟨k, hm, hs8, rfl, hno⟩
  by_cases hlt : k < xs.length
  ·
   refine Af <| Ai fun ds => Aa rfl (Bz (Au rfl hs8) (Al rfl <| Ak rfl <| Ac)) ?_
   refine Ah <| Ae <| Af <| Aq (Ac) (by first | rfl | exact decide_eq_true (by omega)) ?_
   by_cases hpk : p xs[k] = true
   ·
    refine Ay <| Ae <| Af <| Az <| Af <| Ai fun ds => Aa rfl (Ag (Ak rfl <| Au rfl hs8)) ?_
    refine Aa rfl (Ad (Ac)) ?_
    refine Ah <| Ae <| Af <| Ai fun ds => Aa rfl (Ag (Ar rfl <| Ak rfl <| Al rfl <| A0 rfl <| Aj rfl)) ?_
    refine Aa rfl (Ag (A0 rfl <| Al rfl <| A0 rfl <| Aj rfl)) ?_
    refine Aa rfl (Ag (Ar rfl <| Ac)) ?_
    refine Aa rfl (Bh  Dw (Ak rfl <| Ac) h.plain (Ac) rfl (by omega)) ?_
    refine Aa rfl (A7 agg_60 (Ac) rfl rfl (h.whole (by omega))) ?_
    refine B0 rfl (Bc hg (A0 rfl <| Ac) (.cons (Ac) .nil) (hp k hlt) (fun _ _ h => h)) ?_
    refine Ah <| Ae <| Aq (Ac) hpk ?_
    refine Af <| Ai fun ds => Aa rfl (Ag (A0 rfl <| Ar rfl <| Ac)) ?_
    refine Aa rfl (Ad (Ac)) ?_
    refine Ah <| Ae <| A4 <| Bd (A9 (A9 (Bd (A9 ?_))))
    refine Aw rfl (.tmp (Ac) .nil) ?_
    show _ = _
    rw [Do hlt hpk hno]; rfl
   ·
    replace hpk : p xs[k] = false := by simpa using hpk
    refine Ay <| Ae <| Af <| Az <| Af <| Ai fun ds => Aa rfl (Ag (Ak rfl <| Au rfl hs8)) ?_
    refine Aa rfl (Ad (Ac)) ?_
    refine Ah <| Ae <| Af <| Ai fun ds => Aa rfl (Ag (Ar rfl <| Ak rfl <| Al rfl <| A0 rfl <| Aj rfl)) ?_
    refine Aa rfl (Ag (A0 rfl <| Al rfl <| A0 rfl <| Aj rfl)) ?_
    refine Aa rfl (Ag (Ar rfl <| Ac)) ?_
    refine Aa rfl (Bh  Dw (Ak rfl <| Ac) h.plain (Ac) rfl (by omega)) ?_
    refine Aa rfl (A7 agg_60 (Ac) rfl rfl (h.whole (by omega))) ?_
    refine B0 rfl (Bc hg (A0 rfl <| Ac) (.cons (Ac) .nil) (hp k hlt) (fun _ _ h => h)) ?_
    refine Ah <| Ae <| Am (Ac) hpk ?_
    refine Ay <| Ba <| Ae <| Ai fun ds => Aa rfl (Bw (A8 rfl <| Ak rfl <| Au rfl hs8) Ab rfl (by omega) (by omega)) ?_
    refine Aa rfl (Ag (Ac)) ?_
    refine Ah <| Ae ⟨_, m - 1, Off.eq (ou8 rfl <| ou2 rfl <| ou1 rfl <| Be), by omega, ?_⟩
    refine ⟨k + 1, by omega, (Ac), rfl, fun j hj hjk => ?_⟩
    rcases Nat.lt_succ_iff_lt_or_eq.1 hjk with hjk | rfl
    · exact hno j hj hjk
    · exact hpk
  ·
   refine Af <| Ai fun ds => Aa rfl (Bz (Au rfl hs8) (Al rfl <| Ak rfl <| Ac)) ?_
   refine Ah <| Ae <| Af <| Am (Ac) (by first | rfl | exact decide_eq_false (by omega)) ?_
   refine Bt ?_
   refine Bg <| Bg <| Bj <| Ae <| Af <| Ai fun ds => Aa rfl (Ad Ab) ?_
   refine Ah <| Ae <| A4 <| Aw rfl (.tmp (Ac) .nil) ?_
   show _ = _
   rw [findI_none fun j hj => hno j hj (by omega)]; rfl
set_option maxRecDepth 100000 in
theorem containsSpn_ok {F : Heap} {v : Value} {xs : List (Int × Int)} (h : Sl F v 2 spanE xs) (p : _ → Bool) {g : FuncId} {cs : List Value} (hg : Body Try.prog g) (hp : ∀ k (hk : k < xs.length), Ok Try.prog g ([Value.agg (spanE xs[k]).toArray] ++ cs).toArray F fun r _ => r = .bool (p xs[k])) : Ok Try.prog 108 [v, .func (.func g) #[] cs.toArray].toArray F fun r _ => r = .bool (xs.any p) := by
 refine Ok.intro Try.func108 rfl Try.ntmps108 rfl fun w0 => ?_
 refine Af <| Ai fun ds => Aa rfl (Ad Ab) ?_
 refine Ah <| Ae <| Af <| Ai fun ds => Aa rfl (Ag (Ak rfl <| Aj rfl)) ?_
 refine Aa rfl (Ag (Ar rfl <| Aj rfl)) ?_
 refine B0 rfl (Bc bd_124 Ax (.cons (Ak rfl <| Ac) (.cons (Ac) .nil)) (indexSpn_ok h p hg hp) (fun _ _ h => h)) ?_
 refine Aa rfl (q_geq (Ac) Ab) ?_
 refine Aa rfl (Ad (Ac)) ?_
 refine Ah <| Ae <| A4 <| Aw rfl (.tmp (Ac) .nil) ?_
 show _ = _
 rw [← findI_any]; rfl
end Go.Proofs.Ytccogmkhijgelaa
namespace Go.Proofs.Ytccogmkhijgelaa
open Go.RowKit
theorem Cy : ZeroT Try.prog 3 (.int .i64 0) := Cv (by kernel_rfl)
theorem zr_64 : ZeroT Try.prog 64 (.agg #[.string ⟨#[]⟩, .int .i64 0, .int .i64 0, .slice none 0 0]) := Cv (by kernel_rfl)
theorem zr_70 : ZeroT Try.prog 70 (.agg #[.string ⟨#[]⟩, .int .i64 0]) := Cv (by kernel_rfl)
theorem Dk : Body Try.prog 52 := Bo (by kernel_rfl)
theorem bd_55 : Body Try.prog 55 := Bo (by kernel_rfl)
theorem bd_56 : Body Try.prog 56 := Bo (by kernel_rfl)
theorem bd_57 : Body Try.prog 57 := Bo (by kernel_rfl)
theorem bd_60 : Body Try.prog 60 := Bo (by kernel_rfl)
theorem bd_61 : Body Try.prog 61 := Bo (by kernel_rfl)
theorem C7 : FieldT Try.prog 25 0 0 := C3 (by kernel_rfl)
theorem Br : FieldT Try.prog 25 1 1 := C3 (by kernel_rfl)
theorem fd_64_0 : FieldT Try.prog 64 0 0 := C3 (by kernel_rfl)
theorem D2 : FieldT Try.prog 64 1 1 := C3 (by kernel_rfl)
theorem Cr : FieldT Try.prog 64 2 3 := C3 (by kernel_rfl)
theorem fd_70_0 : FieldT Try.prog 70 0 0 := C3 (by kernel_rfl)
theorem fd_70_1 : FieldT Try.prog 70 1 1 := C3 (by kernel_rfl)
theorem D1 : OneT Try.prog 22 := Df (by kernel_rfl)
theorem B3 : OneT Try.prog 23 := Df (by kernel_rfl)
theorem Cq : OneT Try.prog 26 := Df (by kernel_rfl)
theorem sz_64 : SizeT Try.prog 64 4 := Co (by kernel_rfl)
theorem sz_70 : SizeT Try.prog 70 2 := Co (by kernel_rfl)
theorem edE_one {p : Value × Edn} (h : p.1.oneCell' = true) : ∀ u ∈ edE p, u.oneCell' = true := by
 intro u hu
 simp only [edE, List.mem_cons, List.not_mem_nil, or_false] at hu
 rcases hu with rfl | rfl | rfl | rfl
 · rfl
 · rfl
 · rfl
 · exact h
theorem StmR.ones {F : Heap} {vp ve : Value} {ps : List (Value × Edn)} {s : Stm} (hr : StmR F vp ve ps s) : ∀ u ∈ [vp, ve], u.oneCell' = true := by
 intro u hu
 simp only [List.mem_cons, List.not_mem_nil, or_false] at hu
 rcases hu with rfl | rfl
 · exact hr.places.plain.one
 · exact hr.eds.plain.one
set_option maxRecDepth 100000 in
theorem firstPlc_ok {F : Heap} {v : Value} {xs : List Plc} (h : Sl F v 2 Plc.enc xs) (f : Nat → Int) {g : FuncId} {cs : List Value} (hg : Body Try.prog g) (hp : ∀ k (hk : k < xs.length), (∀ j, j < k → f j = 0) → Ok Try.prog g ([Value.int .i64 (k : Int), Value.agg (Plc.enc xs[k]).toArray] ++ cs).toArray F fun r _ => r = .int .i64 (f k)) : Ok Try.prog 53 [v, .func (.func g) #[] cs.toArray].toArray F fun r _ => r = .tuple #[.int .i64 (firstQ xs.length f).1, .int .i64 (firstQ xs.length f).2] := by
 refine Ok.intro Try.func53 rfl Try.ntmps53 rfl fun w0 => ?_
 have hlen := h.plain.lt
 refine Af <| Ai fun ds => Aa rfl (Ad Ab) ?_
 refine Aa rfl (Ad Ab) ?_
 refine Ah <| Ae <| Af <| Af <| Ai fun ds => Aa rfl (Ag (Ar rfl <| Aj rfl)) ?_
 refine Aa rfl (Bp Dx (Ac) h.plain) ?_
 refine Aa rfl (Ag Ab) ?_
 refine Ah <| Ae <| Az <| By [4, 5, 6, 7, 8, 11, 12, 13, 14, 15, 16, 17, 18, 19, 20, 21, 22, 23, 24] (fun m e σ => ∃ k : Nat, m + k = xs.length ∧ e 11 = .int .i64 (k : Int) ∧ σ = ⟨F, []⟩ ∧ ∀ j, j < k → f j = 0) (xs.length) ?_ ?_
 · exact ⟨0, by omega, (Ac), rfl, fun j h => absurd h (by omega)⟩
 ·
  rintro m e _ ⟨k, hm, hs11, rfl, hno⟩
  by_cases hlt : k < xs.length
  ·
   refine Af <| Ai fun ds => Aa rfl (Bz (Au rfl hs11) (Al rfl <| Ak rfl <| Ac)) ?_
   refine Ah <| Ae <| Af <| Aq (Ac) (by first | rfl | exact decide_eq_true (by omega)) ?_
   by_cases hfk : f k = 0
   ·
    refine Ay <| Ae <| Af <| Az <| Af <| Ai fun ds => Aa rfl (Ag (Ak rfl <| Au rfl hs11)) ?_
    refine Aa rfl (Bh  Dx (Ar rfl <| Al rfl <| Ar rfl <| Ac) h.plain (Ar rfl <| Au rfl hs11) rfl (by omega)) ?_
    refine Aa rfl (A7 agg_70 (Ac) rfl rfl (h.whole (by omega))) ?_
    refine Bb rfl (B2 zr_70 rfl fun b2 hb2 nb2 => ?_)
    refine Aa rfl (Ad (Ar rfl <| Ak rfl <| Ac)) ?_
    refine Cf (Cb sz_70 (Ak rfl <| Ac) (Ar rfl <| Ac) (i := 0) rfl rfl rfl rfl Plc.enc_one (.here) ?_)
    refine Ah <| Ae <| Af <| Ai fun ds => Aa rfl (Ag (A0 rfl <| Ar rfl <| Al rfl <| A0 rfl <| Ak rfl <| Aj rfl)) ?_
    refine Aa rfl (Ag (Ak rfl <| Ac)) ?_
    refine Aa rfl (A7 agg_70 (Ar rfl <| Ak rfl <| Ac) rfl rfl (A2 0 rfl)) ?_
    refine B0 rfl (Bc hg (Ar rfl <| Ac) (.cons (Ak rfl <| Ac) (.cons (Ac) .nil)) (hp k hlt hno) (fun _ _ h => h)) ?_
    refine Aa rfl (Ad (Ac)) ?_
    refine Ah <| Ae <| Af <| Ai fun ds => Aa rfl (Ag (Ac)) ?_
    refine Aa rfl (B6 (Ac) Ab) ?_
    refine Ah <| Ae <| Am (Ac) (decide_eq_false (fun h => h hfk)) ?_
    refine Ay <| Ba <| Ae <| Dp (fun _ _ h => h.drop (.cons _ <| .refl _)) ?_
    refine Ai fun ds => Aa rfl (Bw (A8 rfl <| A0 rfl <| Ak rfl <| Au rfl hs11) Ab rfl (by omega) (by omega)) ?_
    refine Aa rfl (Ag (Ac)) ?_
    refine Ah <| Ae ⟨_, m - 1, Off.eq (ou8 rfl <| ou4 rfl <| ou2 rfl <| ou1 rfl <| Be), by omega, ?_⟩
    refine ⟨k + 1, by omega, (Ac), rfl, fun j hjk => ?_⟩
    rcases Nat.lt_succ_iff_lt_or_eq.1 hjk with hjk | rfl
    · exact hno j hjk
    · exact hfk
   ·
    refine Ay <| Ae <| Af <| Az <| Af <| Ai fun ds => Aa rfl (Ag (Ak rfl <| Au rfl hs11)) ?_
    refine Aa rfl (Bh  Dx (Ar rfl <| Al rfl <| Ar rfl <| Ac) h.plain (Ar rfl <| Au rfl hs11) rfl (by omega)) ?_
    refine Aa rfl (A7 agg_70 (Ac) rfl rfl (h.whole (by omega))) ?_
    refine Bb rfl (B2 zr_70 rfl fun b3 hb3 nb3 => ?_)
    refine Aa rfl (Ad (Ar rfl <| Ak rfl <| Ac)) ?_
    refine Cf (Cb sz_70 (Ak rfl <| Ac) (Ar rfl <| Ac) (i := 0) rfl rfl rfl rfl Plc.enc_one (.here) ?_)
    refine Ah <| Ae <| Af <| Ai fun ds => Aa rfl (Ag (A0 rfl <| Ar rfl <| Al rfl <| A0 rfl <| Ak rfl <| Aj rfl)) ?_
    refine Aa rfl (Ag (Ak rfl <| Ac)) ?_
    refine Aa rfl (A7 agg_70 (Ar rfl <| Ak rfl <| Ac) rfl rfl (A2 0 rfl)) ?_
    refine B0 rfl (Bc hg (Ar rfl <| Ac) (.cons (Ak rfl <| Ac) (.cons (Ac) .nil)) (hp k hlt hno) (fun _ _ h => h)) ?_
    refine Aa rfl (Ad (Ac)) ?_
    refine Ah <| Ae <| Af <| Ai fun ds => Aa rfl (Ag (Ac)) ?_
    refine Aa rfl (B6 (Ac) Ab) ?_
    refine Ah <| Ae <| Aq (Ac) (decide_eq_true hfk) ?_
    refine Af <| Ai fun ds => Aa rfl (Ag (A0 rfl <| Ar rfl <| Ak rfl <| Ac)) ?_
    refine Aa rfl (Ag (Ar rfl <| Ak rfl <| Ac)) ?_
    refine Aa rfl (Ad (Ak rfl <| Ac)) ?_
    refine Aa rfl (Ad (Ak rfl <| Ac)) ?_
    refine Ah <| Ae <| A4 <| Bd (A9 (A9 (Bd (A9 ?_))))
    refine Aw rfl (.tmp (Ak rfl <| Ac) (.tmp (Ac) .nil)) ?_
    show _ = _
    rw [firstQ_bad hlt hno hfk]; rfl
  ·
   refine Af <| Ai fun ds => Aa rfl (Bz (Au rfl hs11) (Al rfl <| Ak rfl <| Ac)) ?_
   refine Ah <| Ae <| Af <| Am (Ac) (by first | rfl | exact decide_eq_false (by omega)) ?_
   refine Bt ?_
   refine Bg <| Bg <| Bj <| Ae <| Af <| Ai fun ds => Aa rfl (Ad Ab) ?_
   refine Aa rfl (Ad Ab) ?_
   refine Ah <| Ae <| A4 <| Aw rfl (.tmp (Ak rfl <| Ac) (.tmp (Ac) .nil)) ?_
   show _ = _
   rw [firstQ_ok fun j hj => hno j (by omega)]; rfl
set_option maxRecDepth 100000 in
theorem firstEdn_ok {F : Heap} {v : Value} {xs : List (Value × Edn)} (h : Sl F v 4 edE xs) (hone : ∀ p ∈ xs, p.1.oneCell' = true) (f : Nat → Int) {g : FuncId} {cs : List Value} (hg : Body Try.prog g) (hp : ∀ k (hk : k < xs.length), (∀ j, j < k → f j = 0) → Ok Try.prog g ([Value.int .i64 (k : Int), Value.agg (edE xs[k]).toArray] ++ cs).toArray F fun r _ => r = .int .i64 (f k)) : Ok Try.prog 58 [v, .func (.func g) #[] cs.toArray].toArray F fun r _ => r = .tuple #[.int .i64 (firstQ xs.length f).1, .int .i64 (firstQ xs.length f).2] := by
 refine Ok.intro Try.func58 rfl Try.ntmps58 rfl fun w0 => ?_
 have hlen := h.plain.lt
 refine Af <| Ai fun ds => Aa rfl (Ad Ab) ?_
 refine Aa rfl (Ad Ab) ?_
 refine Ah <| Ae <| Af <| Af <| Ai fun ds => Aa rfl (Ag (Ar rfl <| Aj rfl)) ?_
 refine Aa rfl (Bp Cc (Ac) h.plain) ?_
 refine Aa rfl (Ag Ab) ?_
 refine Ah <| Ae <| Az <| By [4, 5, 6, 7, 8, 11, 12, 13, 14, 15, 16, 17, 18, 19, 20, 21, 22, 23, 24] (fun m e σ => ∃ k : Nat, m + k = xs.length ∧ e 11 = .int .i64 (k : Int) ∧ σ = ⟨F, []⟩ ∧ ∀ j, j < k → f j = 0) (xs.length) ?_ ?_
 · exact ⟨0, by omega, (Ac), rfl, fun j h => absurd h (by omega)⟩
 ·
  rintro m e _ ⟨k, hm, hs11, rfl, hno⟩
  by_cases hlt : k < xs.length
  ·
   refine Af <| Ai fun ds => Aa rfl (Bz (Au rfl hs11) (Al rfl <| Ak rfl <| Ac)) ?_
   refine Ah <| Ae <| Af <| Aq (Ac) (by first | rfl | exact decide_eq_true (by omega)) ?_
   by_cases hfk : f k = 0
   ·
    refine Ay <| Ae <| Af <| Az <| Af <| Ai fun ds => Aa rfl (Ag (Ak rfl <| Au rfl hs11)) ?_
    refine Aa rfl (Bh  Cc (Ar rfl <| Al rfl <| Ar rfl <| Ac) h.plain (Ar rfl <| Au rfl hs11) rfl (by omega)) ?_
    refine Aa rfl (A7 agg_64 (Ac) rfl rfl (h.whole (by omega))) ?_
    refine Bb rfl (B2 zr_64 rfl fun b2 hb2 nb2 => ?_)
    refine Aa rfl (Ad (Ar rfl <| Ak rfl <| Ac)) ?_
    refine Cf (Cb sz_64 (Ak rfl <| Ac) (Ar rfl <| Ac) (i := 0) rfl rfl rfl rfl (edE_one (hone _ (List.getElem_mem hlt))) (.here) ?_)
    refine Ah <| Ae <| Af <| Ai fun ds => Aa rfl (Ag (A0 rfl <| Ar rfl <| Al rfl <| A0 rfl <| Ak rfl <| Aj rfl)) ?_
    refine Aa rfl (Ag (Ak rfl <| Ac)) ?_
    refine Aa rfl (A7 agg_64 (Ar rfl <| Ak rfl <| Ac) rfl rfl (A2 0 rfl)) ?_
    refine B0 rfl (Bc hg (Ar rfl <| Ac) (.cons (Ak rfl <| Ac) (.cons (Ac) .nil)) (hp k hlt hno) (fun _ _ h => h)) ?_
    refine Aa rfl (Ad (Ac)) ?_
    refine Ah <| Ae <| Af <| Ai fun ds => Aa rfl (Ag (Ac)) ?_
    refine Aa rfl (B6 (Ac) Ab) ?_
    refine Ah <| Ae <| Am (Ac) (decide_eq_false (fun h => h hfk)) ?_
    refine Ay <| Ba <| Ae <| Dp (fun _ _ h => h.drop (.cons _ <| .refl _)) ?_
    refine Ai fun ds => Aa rfl (Bw (A8 rfl <| A0 rfl <| Ak rfl <| Au rfl hs11) Ab rfl (by omega) (by omega)) ?_
    refine Aa rfl (Ag (Ac)) ?_
    refine Ah <| Ae ⟨_, m - 1, Off.eq (ou8 rfl <| ou4 rfl <| ou2 rfl <| ou1 rfl <| Be), by omega, ?_⟩
    refine ⟨k + 1, by omega, (Ac), rfl, fun j hjk => ?_⟩
    rcases Nat.lt_succ_iff_lt_or_eq.1 hjk with hjk | rfl
    · exact hno j hjk
    · exact hfk
   ·
    refine Ay <| Ae <| Af <| Az <| Af <| Ai fun ds => Aa rfl (Ag (Ak rfl <| Au rfl hs11)) ?_
    refine Aa rfl (Bh  Cc (Ar rfl <| Al rfl <| Ar rfl <| Ac) h.plain (Ar rfl <| Au rfl hs11) rfl (by omega)) ?_
    refine Aa rfl (A7 agg_64 (Ac) rfl rfl (h.whole (by omega))) ?_
    refine Bb rfl (B2 zr_64 rfl fun b3 hb3 nb3 => ?_)
    refine Aa rfl (Ad (Ar rfl <| Ak rfl <| Ac)) ?_
    refine Cf (Cb sz_64 (Ak rfl <| Ac) (Ar rfl <| Ac) (i := 0) rfl rfl rfl rfl (edE_one (hone _ (List.getElem_mem hlt))) (.here) ?_)
    refine Ah <| Ae <| Af <| Ai fun ds => Aa rfl (Ag (A0 rfl <| Ar rfl <| Al rfl <| A0 rfl <| Ak rfl <| Aj rfl)) ?_
    refine Aa rfl (Ag (Ak rfl <| Ac)) ?_
    refine Aa rfl (A7 agg_64 (Ar rfl <| Ak rfl <| Ac) rfl rfl (A2 0 rfl)) ?_
    refine B0 rfl (Bc hg (Ar rfl <| Ac) (.cons (Ak rfl <| Ac) (.cons (Ac) .nil)) (hp k hlt hno) (fun _ _ h => h)) ?_
    refine Aa rfl (Ad (Ac)) ?_
    refine Ah <| Ae <| Af <| Ai fun ds => Aa rfl (Ag (Ac)) ?_
    refine Aa rfl (B6 (Ac) Ab) ?_
    refine Ah <| Ae <| Aq (Ac) (decide_eq_true hfk) ?_
    refine Af <| Ai fun ds => Aa rfl (Ag (A0 rfl <| Ar rfl <| Ak rfl <| Ac)) ?_
    refine Aa rfl (Ag (Ar rfl <| Ak rfl <| Ac)) ?_
    refine Aa rfl (Ad (Ak rfl <| Ac)) ?_
    refine Aa rfl (Ad (Ak rfl <| Ac)) ?_
    refine Ah <| Ae <| A4 <| Bd (A9 (A9 (Bd (A9 ?_))))
    refine Aw rfl (.tmp (Ak rfl <| Ac) (.tmp (Ac) .nil)) ?_
    show _ = _
    rw [firstQ_bad hlt hno hfk]; rfl
  ·
   refine Af <| Ai fun ds => Aa rfl (Bz (Au rfl hs11) (Al rfl <| Ak rfl <| Ac)) ?_
   refine Ah <| Ae <| Af <| Am (Ac) (by first | rfl | exact decide_eq_false (by omega)) ?_
   refine Bt ?_
   refine Bg <| Bg <| Bj <| Ae <| Af <| Ai fun ds => Aa rfl (Ad Ab) ?_
   refine Aa rfl (Ad Ab) ?_
   refine Ah <| Ae <| A4 <| Aw rfl (.tmp (Ak rfl <| Ac) (.tmp (Ac) .nil)) ?_
   show _ = _
   rw [firstQ_ok fun j hj => hno j (by omega)]; rfl
set_option maxRecDepth 100000 in
theorem check11_ok {F : Heap} {c TB : Nat} {b : Plc} (hb : F c = some (bx TB b.enc)) (x : Plc) : Ok Try.prog 57 [.agg x.enc.toArray, .pointer (some ⟨c, 0, none⟩)].toArray F fun r _ => r = .bool (sameS x.name b.name) := by
 refine Ok.intro Try.func57 rfl Try.ntmps57 rfl fun w0 => ?_
 refine Af <| Ai fun ds => Bb rfl (B9 (Aj rfl) rfl fun b1 hb1 nb1 => ?_)
 refine Aa rfl (Ad Ab) ?_
 refine Ah <| Ae <| Af <| Ai fun ds => Aa rfl (Ao fd_70_0 (Ak rfl <| Ac)) ?_
 refine Aa rfl (Ap one_9 (Ac) (Cell.own 0 rfl rfl)) ?_
 refine Aa rfl (Ao fd_70_0 (A0 rfl <| Aj rfl)) ?_
 refine Aa rfl (Ap one_9 (Ac) (CellF.own hb rfl).cell) ?_
 refine Aa rfl (q_eqs (Ar rfl <| Ac) (Ac)) ?_
 refine Aa rfl (Ad (Ac)) ?_
 refine Ah <| Ae <| A4 <| Aw rfl (.tmp (Ac) .nil) ?_
 rfl
set_option maxRecDepth 100000 in
theorem check21_ok {F : Heap} {c TB : Nat} {b : Value × Edn} (hb : F c = some (bx TB (edE b))) (x : Value × Edn) : Ok Try.prog 61 [.agg (edE x).toArray, .pointer (some ⟨c, 0, none⟩)].toArray F fun r _ => r = .bool (sameS x.2.name b.2.name) := by
 refine Ok.intro Try.func61 rfl Try.ntmps61 rfl fun w0 => ?_
 refine Af <| Ai fun ds => Bb rfl (B9 (Aj rfl) rfl fun b1 hb1 nb1 => ?_)
 refine Aa rfl (Ad Ab) ?_
 refine Ah <| Ae <| Af <| Ai fun ds => Aa rfl (Ao fd_64_0 (Ak rfl <| Ac)) ?_
 refine Aa rfl (Ap one_9 (Ac) (Cell.own 0 rfl rfl)) ?_
 refine Aa rfl (Ao fd_64_0 (A0 rfl <| Aj rfl)) ?_
 refine Aa rfl (Ap one_9 (Ac) (CellF.own hb rfl).cell) ?_
 refine Aa rfl (q_eqs (Ar rfl <| Ac) (Ac)) ?_
 refine Aa rfl (Ad (Ac)) ?_
 refine Ah <| Ae <| A4 <| Aw rfl (.tmp (Ac) .nil) ?_
 rfl
set_option maxRecDepth 100000 in
theorem check1_ok {F : Heap} {vp ve : Value} {ps : List (Value × Edn)} {s : Stm} (hr : StmR F vp ve ps s) {c TC : Nat} (hc : F c = some (bx TC [vp, ve])) {k : Nat} (hk : k < s.places.length) : Ok Try.prog 54 [.int .i64 (k : Int), .agg (s.places[k].enc).toArray, .pointer (some ⟨c, 0, none⟩)].toArray F fun r _ => r = .int .i64 (plcErr s k) := by
 refine Ok.intro Try.func54 rfl Try.ntmps54 rfl fun w0 => ?_
 have hL1 := hr.places.plain.lt
 by_cases hn : nameOk s.places[k].name = true
 ·
  refine Af <| Ai fun ds => Bb rfl (B9 (Aj rfl) rfl fun b1 hb1 nb1 => ?_)
  refine Aa rfl (Ad Ab) ?_
  refine Ah <| Ae <| Af <| Az <| Af <| Ai fun ds => Aa rfl (Ao fd_70_0 (Ak rfl <| Ac)) ?_
  refine Aa rfl (Ap one_9 (Ac) (Cell.own 0 rfl rfl)) ?_
  refine B0 rfl (Bc bd_55 Ax (.cons (Ac) .nil) (quireName_ok _) (fun _ _ h => h)) ?_
  refine Aa rfl (C4 (Ac)) ?_
  refine Aa rfl (Ad (Ac)) ?_
  refine Ah <| Ae <| Am (Ac) (by rw [hn]; rfl) ?_
  refine Af <| Ca (i := 0) rfl hb1 (.here) fun F2 hF3 hq => ?_
  replace hr := hr.mono hF3
  replace hc := hF3 _ _ hc
  by_cases ht : (s.places.take k).any (fun y => sameS y.name s.places[k].name) = true
  ·
   refine Ai fun ds => Aa rfl (Ao C7 (A0 rfl <| Ar rfl <| Ak rfl <| Aj rfl)) ?_
   refine Aa rfl (Ap D1 (Ac) (CellF.own hc rfl).cell) ?_
   refine Aa rfl (Ag (A8 rfl <| Ak rfl <| Aj rfl)) ?_
   refine Aa rfl (q_sliceTo Dx (Ak rfl <| Ac) hr.places.plain (Ac) (k := k) rfl (by omega)) ?_
   refine Aa rfl (Cj (.cons (A8 rfl <| Ar rfl <| Ac) .nil)) ?_
   refine B0 rfl (Bc bd_56 Ax (.cons (Ak rfl <| Ac) (.cons (Ac) .nil)) (containsPlc_ok (hr.places.to (k := k) (by omega)) (fun y => sameS y.name s.places[k].name) bd_57 fun i hi => check11_ok hq _) (fun _ _ h => h)) ?_
   refine Aa rfl (Ad (Ac)) ?_
   refine Ah <| Ae <| Aq (Ac) ht ?_
   refine Af <| Ai fun ds => Aa rfl (Ad Ab) ?_
   refine Ah <| Ae <| A4 <| Bd (A9 ?_)
   refine Aw rfl (.tmp (Ac) .nil) ?_
   show _ = _
   rw [plcErr_at hk]; simp [outOf, hn, ht]
  ·
   replace ht : (s.places.take k).any (fun y => sameS y.name s.places[k].name) = false := by simpa using ht
   refine Ai fun ds => Aa rfl (Ao C7 (A0 rfl <| Ar rfl <| Ak rfl <| Aj rfl)) ?_
   refine Aa rfl (Ap D1 (Ac) (CellF.own hc rfl).cell) ?_
   refine Aa rfl (Ag (A8 rfl <| Ak rfl <| Aj rfl)) ?_
   refine Aa rfl (q_sliceTo Dx (Ak rfl <| Ac) hr.places.plain (Ac) (k := k) rfl (by omega)) ?_
   refine Aa rfl (Cj (.cons (A8 rfl <| Ar rfl <| Ac) .nil)) ?_
   refine B0 rfl (Bc bd_56 Ax (.cons (Ak rfl <| Ac) (.cons (Ac) .nil)) (containsPlc_ok (hr.places.to (k := k) (by omega)) (fun y => sameS y.name s.places[k].name) bd_57 fun i hi => check11_ok hq _) (fun _ _ h => h)) ?_
   refine Aa rfl (Ad (Ac)) ?_
   refine Ah <| Ae <| Am (Ac) ht ?_
   by_cases hv : inB 0 1 s.places[k].kind = true
   ·
    refine Af <| Ai fun ds => Aa rfl (Ao fd_70_1 (A8 rfl <| A0 rfl <| Ak rfl <| Ac)) ?_
    refine Aa rfl (Ap Bk (Ac) (CellF.own hq rfl).cell) ?_
    refine Bb rfl (B1 Bm Cy rfl (.cons (Ac) .nil) rfl rfl (by decide) (by simp [Value.oneCell']) fun b4 hb4 nb4 => ?_)
    refine Bu (i := 0) rfl hb4 .here fun F5 hF6 hz7 => ?_
    have hsl8 := Cn hz7
    refine B0 rfl (Bc Dk Ax (.cons Ab (.cons Ab (.cons (Ac) .nil))) (Cd _ _ hsl8) (fun _ _ h => h)) ?_
    refine Aa rfl (Ad (Ac)) ?_
    refine Ah <| Ae <| Am (Ac) (by simp [hv]) ?_
    refine Ay <| Ba <| Ae <| Af <| Ai fun ds => Aa rfl (Ad Ab) ?_
    refine Ah <| Ae <| A4 <| Aw rfl (.tmp (Ac) .nil) ?_
    show _ = _
    rw [plcErr_at hk]; simp [outOf, hn, ht, hv]
   ·
    replace hv : inB 0 1 s.places[k].kind = false := by simpa using hv
    refine Af <| Ai fun ds => Aa rfl (Ao fd_70_1 (A8 rfl <| A0 rfl <| Ak rfl <| Ac)) ?_
    refine Aa rfl (Ap Bk (Ac) (CellF.own hq rfl).cell) ?_
    refine Bb rfl (B1 Bm Cy rfl (.cons (Ac) .nil) rfl rfl (by decide) (by simp [Value.oneCell']) fun b9 hb9 nb9 => ?_)
    refine Bu (i := 0) rfl hb9 .here fun F10 hF11 hz12 => ?_
    have hsl13 := Cn hz12
    refine B0 rfl (Bc Dk Ax (.cons Ab (.cons Ab (.cons (Ac) .nil))) (Cd _ _ hsl13) (fun _ _ h => h)) ?_
    refine Aa rfl (Ad (Ac)) ?_
    refine Ah <| Ae <| Aq (Ac) (by simp [hv]) ?_
    refine Af <| Ai fun ds => Aa rfl (Ad Ab) ?_
    refine Ah <| Ae <| A4 <| Bd (A9 ?_)
    refine Aw rfl (.tmp (Ac) .nil) ?_
    show _ = _
    rw [plcErr_at hk]; simp [outOf, hn, ht, hv]
 ·
  replace hn : nameOk s.places[k].name = false := by simpa using hn
  refine Af <| Ai fun ds => Bb rfl (B9 (Aj rfl) rfl fun b14 hb14 nb14 => ?_)
  refine Aa rfl (Ad Ab) ?_
  refine Ah <| Ae <| Af <| Az <| Af <| Ai fun ds => Aa rfl (Ao fd_70_0 (Ak rfl <| Ac)) ?_
  refine Aa rfl (Ap one_9 (Ac) (Cell.own 0 rfl rfl)) ?_
  refine B0 rfl (Bc bd_55 Ax (.cons (Ac) .nil) (quireName_ok _) (fun _ _ h => h)) ?_
  refine Aa rfl (C4 (Ac)) ?_
  refine Aa rfl (Ad (Ac)) ?_
  refine Ah <| Ae <| Aq (Ac) (by rw [hn]; rfl) ?_
  refine Af <| Ai fun ds => Aa rfl (Ad Ab) ?_
  refine Ah <| Ae <| A4 <| Bd (A9 ?_)
  refine Aw rfl (.tmp (Ac) .nil) ?_
  show _ = _
  rw [plcErr_at hk]; simp [outOf, hn]
set_option maxRecDepth 100000 in
theorem check2_ok {F : Heap} {vp ve : Value} {ps : List (Value × Edn)} {s : Stm} (hr : StmR F vp ve ps s) {c TC : Nat} (hc : F c = some (bx TC [vp, ve])) {k : Nat} (hk : k < ps.length) : Ok Try.prog 59 [.int .i64 (k : Int), .agg (edE ps[k]).toArray, .pointer (some ⟨c, 0, none⟩)].toArray F fun r _ => r = .int .i64 (edErr s k) := by
 refine Ok.intro Try.func59 rfl Try.ntmps59 rfl fun w0 => ?_
 have hL1 := hr.eds.plain.lt
 have hL2 := hr.places.plain.lt
 have hke : k < s.editions.length := by rw [← hr.len]; exact hk
 have hea := hr.at hk
 have hrd := hr.rds _ (List.getElem_mem hk)
 have hL3 := hrd.plain.lt
 have hany := hr.any (q := fun y => sameS y.name ps[k].2.name) (k := k)
 by_cases hn : nameOk ps[k].2.name = true
 ·
  refine Af <| Ai fun ds => Bb rfl (B9 (Aj rfl) rfl fun b1 hb1 nb1 => ?_)
  refine Aa rfl (Ad Ab) ?_
  refine Ah <| Ae <| Af <| Az <| Af <| Ai fun ds => Aa rfl (Ao fd_64_0 (Ak rfl <| Ac)) ?_
  refine Aa rfl (Ap one_9 (Ac) (Cell.own 0 rfl rfl)) ?_
  refine B0 rfl (Bc bd_55 Ax (.cons (Ac) .nil) (quireName_ok _) (fun _ _ h => h)) ?_
  refine Aa rfl (C4 (Ac)) ?_
  refine Aa rfl (Ad (Ac)) ?_
  refine Ah <| Ae <| Am (Ac) (by rw [hn]; rfl) ?_
  refine Af <| Ca (i := 0) rfl hb1 (.here) fun F2 hF3 hq => ?_
  replace hr := hr.mono hF3
  replace hrd := hrd.mono hF3
  replace hc := hF3 _ _ hc
  by_cases ht : (ps.take k).any (fun y => sameS y.2.name ps[k].2.name) = true
  ·
   refine Ai fun ds => Aa rfl (Ao Br (A0 rfl <| Ar rfl <| Ak rfl <| Aj rfl)) ?_
   refine Aa rfl (Ap B3 (Ac) (CellF.own hc rfl).cell) ?_
   refine Aa rfl (Ag (A8 rfl <| Ak rfl <| Aj rfl)) ?_
   refine Aa rfl (q_sliceTo Cc (Ak rfl <| Ac) hr.eds.plain (Ac) (k := k) rfl (by omega)) ?_
   refine Aa rfl (Cj (.cons (A8 rfl <| Ar rfl <| Ac) .nil)) ?_
   refine B0 rfl (Bc bd_60 Ax (.cons (Ak rfl <| Ac) (.cons (Ac) .nil)) (containsEdn_ok (hr.eds.to (k := k) (by omega)) (fun y => sameS y.2.name ps[k].2.name) bd_61 fun i hi => check21_ok hq _) (fun _ _ h => h)) ?_
   refine Aa rfl (Ad (Ac)) ?_
   refine Ah <| Ae <| Aq (Ac) ht ?_
   rw [hany, hea] at ht
   rw [hea] at hn
   refine Af <| Ai fun ds => Aa rfl (Ad Ab) ?_
   refine Ah <| Ae <| A4 <| Bd (A9 ?_)
   refine Aw rfl (.tmp (Ac) .nil) ?_
   show _ = _
   rw [edErr_at hke]; simp [outOf, hn, ht]
  ·
   replace ht : (ps.take k).any (fun y => sameS y.2.name ps[k].2.name) = false := by simpa using ht
   refine Ai fun ds => Aa rfl (Ao Br (A0 rfl <| Ar rfl <| Ak rfl <| Aj rfl)) ?_
   refine Aa rfl (Ap B3 (Ac) (CellF.own hc rfl).cell) ?_
   refine Aa rfl (Ag (A8 rfl <| Ak rfl <| Aj rfl)) ?_
   refine Aa rfl (q_sliceTo Cc (Ak rfl <| Ac) hr.eds.plain (Ac) (k := k) rfl (by omega)) ?_
   refine Aa rfl (Cj (.cons (A8 rfl <| Ar rfl <| Ac) .nil)) ?_
   refine B0 rfl (Bc bd_60 Ax (.cons (Ak rfl <| Ac) (.cons (Ac) .nil)) (containsEdn_ok (hr.eds.to (k := k) (by omega)) (fun y => sameS y.2.name ps[k].2.name) bd_61 fun i hi => check21_ok hq _) (fun _ _ h => h)) ?_
   refine Aa rfl (Ad (Ac)) ?_
   refine Ah <| Ae <| Am (Ac) ht ?_
   have ht2 := ht
   rw [hany, hea] at ht2
   have hn2 := hn
   rw [hea] at hn2
   by_cases hy : (inB 1450 1850 ps[k].2.lo && inB 1450 1850 ps[k].2.hi) = true
   ·
    refine Af <| Ai fun ds => Aa rfl (Ao D2 (A8 rfl <| A0 rfl <| Ak rfl <| Ac)) ?_
    refine Aa rfl (Ao fd_60_0 (Ac)) ?_
    refine Aa rfl (Ap Bk (Ac) (CellF.own hq rfl).cell) ?_
    refine Aa rfl (Ao D2 (A6 rfl <| Ac)) ?_
    refine Aa rfl (Ao fd_60_1 (Ac)) ?_
    refine Aa rfl (Ap Bk (Ac) (CellF.own hq rfl).cell) ?_
    refine Bb rfl (B1 Bm Cy rfl (.cons (Ar rfl <| Ak rfl <| Ac) (.cons (Ac) .nil)) rfl rfl (by decide) (by simp [Value.oneCell']) fun b4 hb4 nb4 => ?_)
    refine Bu (i := 0) rfl hb4 .here fun F5 hF6 hz7 => ?_
    replace hr := hr.mono hF6
    replace hrd := hrd.mono hF6
    replace hc := hF6 _ _ hc
    replace hq := hF6 _ _ hq
    have hsl8 := ints_box2 hz7
    refine B0 rfl (Bc Dk Ax (.cons Ab (.cons Ab (.cons (Ac) .nil))) (Cd _ _ hsl8) (fun _ _ h => h)) ?_
    refine Aa rfl (Ad (Ac)) ?_
    refine Ah <| Ae <| Am (Ac) (by first | (rw [any_two]; simp only [Bool.and_eq_true] at hy; rw [hy.1, hy.2]; done) | (rw [any_two]; simp only [Bool.and_eq_true] at hy; rw [hy.1, hy.2]; rfl)) ?_
    by_cases hlh : ps[k].2.hi < ps[k].2.lo
    ·
     refine Af <| Ai fun ds => Aa rfl (Ao D2 (A6 rfl <| A0 rfl <| Ar rfl <| Ac)) ?_
     refine Aa rfl (Ao fd_60_0 (Ac)) ?_
     refine Aa rfl (Ap Bk (Ac) (CellF.own hq rfl).cell) ?_
     refine Aa rfl (Ao D2 (A6 rfl <| A8 rfl <| Ak rfl <| Ac)) ?_
     refine Aa rfl (Ao fd_60_1 (Ac)) ?_
     refine Aa rfl (Ap Bk (Ac) (CellF.own hq rfl).cell) ?_
     refine Aa rfl (Dh (Ar rfl <| Ak rfl <| Ac) (Ac)) ?_
     refine Aa rfl (Ad (Ac)) ?_
     refine Ah <| Ae <| Aq (Ac) (decide_eq_true hlh) ?_
     rw [hea] at hy hlh
     refine Af <| Ai fun ds => Aa rfl (Ad Ab) ?_
     refine Ah <| Ae <| A4 <| Bd (A9 ?_)
     refine Aw rfl (.tmp (Ac) .nil) ?_
     show _ = _
     rw [edErr_at hke, ednErr]; simp [outOf, hn2, ht2, hy, hlh]
    ·
     refine Af <| Ai fun ds => Aa rfl (Ao D2 (A6 rfl <| A0 rfl <| Ar rfl <| Ac)) ?_
     refine Aa rfl (Ao fd_60_0 (Ac)) ?_
     refine Aa rfl (Ap Bk (Ac) (CellF.own hq rfl).cell) ?_
     refine Aa rfl (Ao D2 (A6 rfl <| A8 rfl <| Ak rfl <| Ac)) ?_
     refine Aa rfl (Ao fd_60_1 (Ac)) ?_
     refine Aa rfl (Ap Bk (Ac) (CellF.own hq rfl).cell) ?_
     refine Aa rfl (Dh (Ar rfl <| Ak rfl <| Ac) (Ac)) ?_
     refine Aa rfl (Ad (Ac)) ?_
     refine Ah <| Ae <| Am (Ac) (decide_eq_false hlh) ?_
     by_cases hle : ps[k].2.rd.length = s.places.length
     ·
      refine Af <| Ai fun ds => Aa rfl (Ao Cr (A6 rfl <| A8 rfl <| A0 rfl <| Ar rfl <| Ac)) ?_
      refine Aa rfl (Ap Cq (Ac) (CellF.own hq rfl).cell) ?_
      refine Aa rfl (Bp Bm (Ac) hrd.plain) ?_
      refine Aa rfl (Ao C7 (Bf rfl <| Ar rfl <| Aj rfl)) ?_
      refine Aa rfl (Ap D1 (Ac) (CellF.own hc rfl).cell) ?_
      refine Aa rfl (Bp Dx (Ac) hr.places.plain) ?_
      refine Aa rfl (B6 (Ar rfl <| Ak rfl <| Ac) (Ac)) ?_
      refine Aa rfl (Ad (Ac)) ?_
      refine Ah <| Ae <| Am (Ac) (decide_eq_false (by omega)) ?_
      by_cases hv : (ps[k].2.rd.any fun z => !(inB 0 3 z)) = true
      ·
       refine Af <| Ai fun ds => Aa rfl (Ao Cr (Bf rfl <| A0 rfl <| Ar rfl <| Ac)) ?_
       refine Aa rfl (Ap Cq (Ac) (CellF.own hq rfl).cell) ?_
       refine B0 rfl (Bc Dk Ax (.cons Ab (.cons Ab (.cons (Ac) .nil))) (Cd _ _ hrd) (fun _ _ h => h)) ?_
       refine Aa rfl (Ad (Ac)) ?_
       refine Ah <| Ae <| Aq (Ac) hv ?_
       rw [hea] at hy hlh hle hv
       refine Af <| Ai fun ds => Aa rfl (Ad Ab) ?_
       refine Ah <| Ae <| A4 <| Bd (A9 ?_)
       refine Aw rfl (.tmp (Ac) .nil) ?_
       show _ = _
       rw [edErr_at hke, ednErr]; simp [outOf, hn2, ht2, hy, hlh, hle, hv]
      ·
       replace hv : (ps[k].2.rd.any fun z => !(inB 0 3 z)) = false := by simpa using hv
       refine Af <| Ai fun ds => Aa rfl (Ao Cr (Bf rfl <| A0 rfl <| Ar rfl <| Ac)) ?_
       refine Aa rfl (Ap Cq (Ac) (CellF.own hq rfl).cell) ?_
       refine B0 rfl (Bc Dk Ax (.cons Ab (.cons Ab (.cons (Ac) .nil))) (Cd _ _ hrd) (fun _ _ h => h)) ?_
       refine Aa rfl (Ad (Ac)) ?_
       refine Ah <| Ae <| Am (Ac) hv ?_
       rw [hea] at hy hlh hle hv
       refine Ay <| Ba <| Ae <| Af <| Ai fun ds => Aa rfl (Ad Ab) ?_
       refine Ah <| Ae <| A4 <| Aw rfl (.tmp (Ac) .nil) ?_
       show _ = _
       rw [edErr_at hke, ednErr]; simp [outOf, hn2, ht2, hy, hlh, hle, hv]
     ·
      refine Af <| Ai fun ds => Aa rfl (Ao Cr (A6 rfl <| A8 rfl <| A0 rfl <| Ar rfl <| Ac)) ?_
      refine Aa rfl (Ap Cq (Ac) (CellF.own hq rfl).cell) ?_
      refine Aa rfl (Bp Bm (Ac) hrd.plain) ?_
      refine Aa rfl (Ao C7 (Bf rfl <| Ar rfl <| Aj rfl)) ?_
      refine Aa rfl (Ap D1 (Ac) (CellF.own hc rfl).cell) ?_
      refine Aa rfl (Bp Dx (Ac) hr.places.plain) ?_
      refine Aa rfl (B6 (Ar rfl <| Ak rfl <| Ac) (Ac)) ?_
      refine Aa rfl (Ad (Ac)) ?_
      refine Ah <| Ae <| Aq (Ac) (decide_eq_true (by omega)) ?_
      rw [hea] at hy hlh hle
      refine Af <| Ai fun ds => Aa rfl (Ad Ab) ?_
      refine Ah <| Ae <| A4 <| Bd (A9 ?_)
      refine Aw rfl (.tmp (Ac) .nil) ?_
      show _ = _
      rw [edErr_at hke, ednErr]; simp [outOf, hn2, ht2, hy, hlh, hle]
   ·
    replace hy : (inB 1450 1850 ps[k].2.lo && inB 1450 1850 ps[k].2.hi) = false := by simpa using hy
    refine Af <| Ai fun ds => Aa rfl (Ao D2 (A8 rfl <| A0 rfl <| Ak rfl <| Ac)) ?_
    refine Aa rfl (Ao fd_60_0 (Ac)) ?_
    refine Aa rfl (Ap Bk (Ac) (CellF.own hq rfl).cell) ?_
    refine Aa rfl (Ao D2 (A6 rfl <| Ac)) ?_
    refine Aa rfl (Ao fd_60_1 (Ac)) ?_
    refine Aa rfl (Ap Bk (Ac) (CellF.own hq rfl).cell) ?_
    refine Bb rfl (B1 Bm Cy rfl (.cons (Ar rfl <| Ak rfl <| Ac) (.cons (Ac) .nil)) rfl rfl (by decide) (by simp [Value.oneCell']) fun b9 hb9 nb9 => ?_)
    refine Bu (i := 0) rfl hb9 .here fun F10 hF11 hz12 => ?_
    have hsl13 := ints_box2 hz12
    refine B0 rfl (Bc Dk Ax (.cons Ab (.cons Ab (.cons (Ac) .nil))) (Cd _ _ hsl13) (fun _ _ h => h)) ?_
    refine Aa rfl (Ad (Ac)) ?_
    refine Ah <| Ae <| Aq (Ac) (by rw [any_two]; rw [Bool.and_eq_false_iff] at hy; rcases hy with hy | hy <;> rw [hy] <;> simp) ?_
    rw [hea] at hy
    refine Af <| Ai fun ds => Aa rfl (Ad Ab) ?_
    refine Ah <| Ae <| A4 <| Bd (A9 ?_)
    refine Aw rfl (.tmp (Ac) .nil) ?_
    show _ = _
    rw [edErr_at hke, ednErr]; simp [outOf, hn2, ht2, hy]
 ·
  replace hn : nameOk ps[k].2.name = false := by simpa using hn
  refine Af <| Ai fun ds => Bb rfl (B9 (Aj rfl) rfl fun b14 hb14 nb14 => ?_)
  refine Aa rfl (Ad Ab) ?_
  refine Ah <| Ae <| Af <| Az <| Af <| Ai fun ds => Aa rfl (Ao fd_64_0 (Ak rfl <| Ac)) ?_
  refine Aa rfl (Ap one_9 (Ac) (Cell.own 0 rfl rfl)) ?_
  refine B0 rfl (Bc bd_55 Ax (.cons (Ac) .nil) (quireName_ok _) (fun _ _ h => h)) ?_
  refine Aa rfl (C4 (Ac)) ?_
  refine Aa rfl (Ad (Ac)) ?_
  refine Ah <| Ae <| Aq (Ac) (by rw [hn]; rfl) ?_
  rw [hea] at hn
  refine Af <| Ai fun ds => Aa rfl (Ad Ab) ?_
  refine Ah <| Ae <| A4 <| Bd (A9 ?_)
  refine Aw rfl (.tmp (Ac) .nil) ?_
  show _ = _
  rw [edErr_at hke]; simp [outOf, hn]
end Go.Proofs.Ytccogmkhijgelaa
namespace Go.Proofs.Ytccogmkhijgelaa
open Go.RowKit
theorem bd_53 : Body Try.prog 53 := Bo (by kernel_rfl)
theorem bd_54 : Body Try.prog 54 := Bo (by kernel_rfl)
theorem bd_58 : Body Try.prog 58 := Bo (by kernel_rfl)
theorem bd_59 : Body Try.prog 59 := Bo (by kernel_rfl)
set_option maxRecDepth 100000 in
theorem checkT_ok {F : Heap} {vp ve : Value} {ps : List (Value × Edn)} {s : Stm} (hr : StmR F vp ve ps s) : Ok Try.prog 16 [.agg #[vp, ve]].toArray F fun r _ => r = checkTV s := by
 refine Ok.intro Try.func16 rfl Try.ntmps16 rfl fun w0 => ?_
 have hL1 := hr.places.plain.lt
 have hL2 := hr.eds.plain.lt
 by_cases h1 : inB 1 6 s.places.length = true
 ·
  refine Af <| Ai fun ds => Bb rfl (B9 (Aj rfl) rfl fun b1 hb1 nb1 => ?_)
  refine Aa rfl (Ad Ab) ?_
  refine Aa rfl (Ad Ab) ?_
  refine Aa rfl (Ad Ab) ?_
  refine Ah <| Ae <| Af <| Af <| Ai fun ds => Aa rfl (Ao C7 (Ar rfl <| Ak rfl <| Ac)) ?_
  refine Aa rfl (Ap D1 (Ac) (Cell.own 0 rfl rfl)) ?_
  refine Aa rfl (Bp Dx (Ac) hr.places.plain) ?_
  refine Bb rfl (B1 Bm Cy rfl (.cons (Ac) .nil) rfl rfl (by decide) (by simp [Value.oneCell']) fun b2 hb2 nb2 => ?_)
  refine Bu (i := 0) rfl hb2 .here fun F3 hF4 hz5 => ?_
  replace hr := hr.mono hF4
  have hsl6 := Cn hz5
  refine B0 rfl (Bc Dk Ax (.cons Ab (.cons Ab (.cons (Ac) .nil))) (Cd _ _ hsl6) (fun _ _ h => h)) ?_
  refine Ah <| Ae <| Am (Ac) (by simp [h1]) ?_
  refine Ay <| Ae <| Af <| Ca (i := 0) rfl hb1 (.here) fun F7 hF8 hc1 => ?_
  replace hr := hr.mono hF8
  rcases firstQ_or (n := s.places.length) (f := plcErr s) with h2 | ⟨i2, e2, h2, he2⟩
  ·
   refine Ai fun ds => Aa rfl (Ao C7 (A8 rfl <| Ac)) ?_
   refine Aa rfl (Ap D1 (Ac) (CellF.own hc1 rfl).cell) ?_
   refine Aa rfl (Cj (.cons (A8 rfl <| Ar rfl <| Ac) .nil)) ?_
   refine B0 rfl (Bc bd_53 Ax (.cons (Ak rfl <| Ac) (.cons (Ac) .nil)) (firstPlc_ok hr.places (plcErr s) bd_54 fun k hk _ => check1_ok hr hc1 hk) (fun _ _ h => h.trans (show Value.tuple #[.int .i64 (firstQ s.places.length (plcErr s)).1, .int .i64 (firstQ s.places.length (plcErr s)).2] = Value.tuple #[.int .i64 0, .int .i64 0] by rw [h2]))) ?_
   refine Aa rfl (Ag (Ac)) ?_
   refine Aa rfl (As (Ac) rfl) ?_
   refine Aa rfl (As (Ak rfl <| Ac) rfl) ?_
   refine Aa rfl (Ad (Ak rfl <| Ac)) ?_
   refine Aa rfl (Ad (Ak rfl <| Ac)) ?_
   refine Ah <| Ae <| Af <| Az <| Af <| Ai fun ds => Aa rfl (Ag (Ac)) ?_
   refine Aa rfl (B6 (Ac) Ab) ?_
   refine Aa rfl (Ad (Ac)) ?_
   refine Ah <| Ae <| Am (Ac) (by first | rfl | decide) ?_
   by_cases h3 : inB 1 5 s.editions.length = true
   ·
    refine Af <| Ai fun ds => Aa rfl (Ao Br (A6 rfl <| A0 rfl <| Ac)) ?_
    refine Aa rfl (Ap B3 (Ac) (CellF.own hc1 rfl).cell) ?_
    refine Aa rfl (Bp Cc (Ac) hr.eds.plain) ?_
    refine Bb rfl (B1 Bm Cy rfl (.cons (Ac) .nil) rfl rfl (by decide) (by simp [Value.oneCell']) fun b9 hb9 nb9 => ?_)
    refine Bu (i := 0) rfl hb9 .here fun F10 hF11 hz12 => ?_
    replace hr := hr.mono hF11
    replace hc1 := hF11 _ _ hc1
    have hsl13 := Cn hz12
    refine B0 rfl (Bc Dk Ax (.cons Ab (.cons Ab (.cons (Ac) .nil))) (Cd _ _ hsl13) (fun _ _ h => h)) ?_
    refine Aa rfl (Ad (Ac)) ?_
    refine Ah <| Ae <| Am (Ac) (by simp [hr.len, h3]) ?_
    rcases firstQ_or (n := s.editions.length) (f := edErr s) with h4 | ⟨i4, e4, h4, he4⟩
    ·
     refine Ay <| Ba <| Ae <| Af <| Ai fun ds => Aa rfl (Ao Br (A6 rfl <| A8 rfl <| Ar rfl <| Ac)) ?_
     refine Aa rfl (Ap B3 (Ac) (CellF.own hc1 rfl).cell) ?_
     refine Aa rfl (Cj (.cons (A6 rfl <| A8 rfl <| A0 rfl <| Ac) .nil)) ?_
     refine B0 rfl (Bc bd_58 Ax (.cons (Ak rfl <| Ac) (.cons (Ac) .nil)) (firstEdn_ok hr.eds hr.one (edErr s) bd_59 fun k hk _ => check2_ok hr hc1 hk) (fun _ _ h => h.trans (show Value.tuple #[.int .i64 (firstQ ps.length (edErr s)).1, .int .i64 (firstQ ps.length (edErr s)).2] = Value.tuple #[.int .i64 0, .int .i64 0] by rw [hr.len, h4]))) ?_
     refine Aa rfl (Ag (Ac)) ?_
     refine Aa rfl (As (Ac) rfl) ?_
     refine Aa rfl (As (Ak rfl <| Ac) rfl) ?_
     refine Aa rfl (Ad (Ak rfl <| Ac)) ?_
     refine Aa rfl (Ad (Ak rfl <| Ac)) ?_
     refine Ah <| Ae <| Af <| Af <| Ai fun ds => Aa rfl (Ag (Ac)) ?_
     refine Aa rfl (B6 (Ac) Ab) ?_
     refine Ah <| Ae <| Am (Ac) (by first | rfl | decide) ?_
     refine Ay <| Ae <| Af <| Ai fun ds => Aa rfl (Ad Ab) ?_
     refine Aa rfl (Ad Ab) ?_
     refine Aa rfl (Ad Ab) ?_
     refine Ah <| Ae <| A4 <| Aw rfl (.tmp (Ar rfl <| Ac) (.tmp (Ak rfl <| Ac) (.tmp (Ac) .nil))) ?_
     exact (checkT_0 h1 h2 h3 h4).symm
    ·
     refine Ay <| Ba <| Ae <| Af <| Ai fun ds => Aa rfl (Ao Br (A6 rfl <| A8 rfl <| Ar rfl <| Ac)) ?_
     refine Aa rfl (Ap B3 (Ac) (CellF.own hc1 rfl).cell) ?_
     refine Aa rfl (Cj (.cons (A6 rfl <| A8 rfl <| A0 rfl <| Ac) .nil)) ?_
     refine B0 rfl (Bc bd_58 Ax (.cons (Ak rfl <| Ac) (.cons (Ac) .nil)) (firstEdn_ok hr.eds hr.one (edErr s) bd_59 fun k hk _ => check2_ok hr hc1 hk) (fun _ _ h => h.trans (show Value.tuple #[.int .i64 (firstQ ps.length (edErr s)).1, .int .i64 (firstQ ps.length (edErr s)).2] = Value.tuple #[.int .i64 i4, .int .i64 e4] by rw [hr.len, h4]))) ?_
     refine Aa rfl (Ag (Ac)) ?_
     refine Aa rfl (As (Ac) rfl) ?_
     refine Aa rfl (As (Ak rfl <| Ac) rfl) ?_
     refine Aa rfl (Ad (Ak rfl <| Ac)) ?_
     refine Aa rfl (Ad (Ak rfl <| Ac)) ?_
     refine Ah <| Ae <| Af <| Af <| Ai fun ds => Aa rfl (Ag (Ac)) ?_
     refine Aa rfl (B6 (Ac) Ab) ?_
     refine Ah <| Ae <| Aq (Ac) (decide_eq_true he4) ?_
     refine Af <| Ai fun ds => Aa rfl (Ag (Ar rfl <| Ak rfl <| Ac)) ?_
     refine Aa rfl (Ag (Ar rfl <| Ak rfl <| Ac)) ?_
     refine Aa rfl (Ad Ab) ?_
     refine Aa rfl (Ad (Ar rfl <| Ac)) ?_
     refine Aa rfl (Ad (Ar rfl <| Ac)) ?_
     refine Ah <| Ae <| A4 <| A9 ?_
     refine Aw rfl (.tmp (Ar rfl <| Ac) (.tmp (Ak rfl <| Ac) (.tmp (Ac) .nil))) ?_
     exact (checkT_e h1 h2 h3 h4 he4).symm
   ·
    replace h3 : inB 1 5 s.editions.length = false := by simpa using h3
    refine Af <| Ai fun ds => Aa rfl (Ao Br (A6 rfl <| A0 rfl <| Ac)) ?_
    refine Aa rfl (Ap B3 (Ac) (CellF.own hc1 rfl).cell) ?_
    refine Aa rfl (Bp Cc (Ac) hr.eds.plain) ?_
    refine Bb rfl (B1 Bm Cy rfl (.cons (Ac) .nil) rfl rfl (by decide) (by simp [Value.oneCell']) fun b14 hb14 nb14 => ?_)
    refine Bu (i := 0) rfl hb14 .here fun F15 hF16 hz17 => ?_
    replace hr := hr.mono hF16
    have hsl18 := Cn hz17
    refine B0 rfl (Bc Dk Ax (.cons Ab (.cons Ab (.cons (Ac) .nil))) (Cd _ _ hsl18) (fun _ _ h => h)) ?_
    refine Aa rfl (Ad (Ac)) ?_
    refine Ah <| Ae <| Aq (Ac) (by simp [hr.len, h3]) ?_
    refine Af <| Ai fun ds => Aa rfl (Ad Ab) ?_
    refine Aa rfl (Ad Ab) ?_
    refine Aa rfl (Ad Ab) ?_
    refine Ah <| Ae <| A4 <| Bd (A9 ?_)
    refine Aw rfl (.tmp (Ar rfl <| Ac) (.tmp (Ak rfl <| Ac) (.tmp (Ac) .nil))) ?_
    exact (checkT_2 h1 h2 h3).symm
  ·
   refine Ai fun ds => Aa rfl (Ao C7 (A8 rfl <| Ac)) ?_
   refine Aa rfl (Ap D1 (Ac) (CellF.own hc1 rfl).cell) ?_
   refine Aa rfl (Cj (.cons (A8 rfl <| Ar rfl <| Ac) .nil)) ?_
   refine B0 rfl (Bc bd_53 Ax (.cons (Ak rfl <| Ac) (.cons (Ac) .nil)) (firstPlc_ok hr.places (plcErr s) bd_54 fun k hk _ => check1_ok hr hc1 hk) (fun _ _ h => h.trans (show Value.tuple #[.int .i64 (firstQ s.places.length (plcErr s)).1, .int .i64 (firstQ s.places.length (plcErr s)).2] = Value.tuple #[.int .i64 i2, .int .i64 e2] by rw [h2]))) ?_
   refine Aa rfl (Ag (Ac)) ?_
   refine Aa rfl (As (Ac) rfl) ?_
   refine Aa rfl (As (Ak rfl <| Ac) rfl) ?_
   refine Aa rfl (Ad (Ak rfl <| Ac)) ?_
   refine Aa rfl (Ad (Ak rfl <| Ac)) ?_
   refine Ah <| Ae <| Af <| Az <| Af <| Ai fun ds => Aa rfl (Ag (Ac)) ?_
   refine Aa rfl (B6 (Ac) Ab) ?_
   refine Aa rfl (Ad (Ac)) ?_
   refine Ah <| Ae <| Aq (Ac) (decide_eq_true he2) ?_
   refine Af <| Ai fun ds => Aa rfl (Ag (A0 rfl <| Ac)) ?_
   refine Aa rfl (Ag (A0 rfl <| Ac)) ?_
   refine Aa rfl (Ad Ab) ?_
   refine Aa rfl (Ad (Ar rfl <| Ac)) ?_
   refine Aa rfl (Ad (Ar rfl <| Ac)) ?_
   refine Ah <| Ae <| A4 <| Bd (A9 ?_)
   refine Aw rfl (.tmp (Ar rfl <| Ac) (.tmp (Ak rfl <| Ac) (.tmp (Ac) .nil))) ?_
   exact (checkT_p h1 h2 he2).symm
 ·
  replace h1 : inB 1 6 s.places.length = false := by simpa using h1
  refine Af <| Ai fun ds => Bb rfl (B9 (Aj rfl) rfl fun b19 hb19 nb19 => ?_)
  refine Aa rfl (Ad Ab) ?_
  refine Aa rfl (Ad Ab) ?_
  refine Aa rfl (Ad Ab) ?_
  refine Ah <| Ae <| Af <| Af <| Ai fun ds => Aa rfl (Ao C7 (Ar rfl <| Ak rfl <| Ac)) ?_
  refine Aa rfl (Ap D1 (Ac) (Cell.own 0 rfl rfl)) ?_
  refine Aa rfl (Bp Dx (Ac) hr.places.plain) ?_
  refine Bb rfl (B1 Bm Cy rfl (.cons (Ac) .nil) rfl rfl (by decide) (by simp [Value.oneCell']) fun b20 hb20 nb20 => ?_)
  refine Bu (i := 0) rfl hb20 .here fun F21 hF22 hz23 => ?_
  have hsl24 := Cn hz23
  refine B0 rfl (Bc Dk Ax (.cons Ab (.cons Ab (.cons (Ac) .nil))) (Cd _ _ hsl24) (fun _ _ h => h)) ?_
  refine Ah <| Ae <| Aq (Ac) (by simp [h1]) ?_
  refine Af <| Ai fun ds => Aa rfl (Ad Ab) ?_
  refine Aa rfl (Ad Ab) ?_
  refine Aa rfl (Ad Ab) ?_
  refine Ah <| Ae <| A4 <| A9 ?_
  refine Aw rfl (.tmp (Ar rfl <| Ac) (.tmp (Ak rfl <| Ac) (.tmp (Ac) .nil))) ?_
  exact (checkT_1 h1).symm
end Go.Proofs.Ytccogmkhijgelaa
namespace Go.Proofs.Ytccogmkhijgelaa
open Go.RowKit
theorem B8 : AggT Try.prog 25 2 := aggT_of (by kernel_rfl)
end Go.Proofs.Ytccogmkhijgelaa
namespace Go.Proofs.Ytccogmkhijgelaa
open Go.RowKit
theorem el_3 : ElemT Try.prog 3 1 8 (.int .i64 0) := elemT_of (by kernel_rfl) rfl (by decide)
end Go.Proofs.Ytccogmkhijgelaa
namespace Go.Proofs.Ytccogmkhijgelaa
open Go.RowKit
def IsK (P : Program) (K : Nat) (v : Value) : Prop := ∃ l, keyOf P K v = some l
structure MapT (P : Program) (M K E : Nat) (z : Value) : Prop where
 under : P.underlying M = some (.map K E)
 zero : ZeroT P E z
 keyed : Go.Maps.Keyed P K
def entryO (p : (Value × Value) × Nat) : MapEntry := ⟨p.1.1, p.1.2, p.2⟩
/-- A map from which nothing was ever taken out. -/
def mapO (es : List (Value × Value)) : Obj := .map (es.zipIdx.map entryO).toArray es.length
theorem mapO_at {es : List (Value × Value)} {j : Nat} {e : MapEntry} (h : (es.zipIdx.map entryO)[j]? = some e) : ∃ p, es[j]? = some p ∧ e = ⟨p.1, p.2, j⟩ := by
 rw [List.getElem?_map, List.getElem?_zipIdx] at h
 cases hj : es[j]? with
 | none => rw [hj] at h; simp at h
 | some p => rw [hj] at h; simp [entryO] at h; exact ⟨p, rfl, h.symm⟩
theorem mapO_mem {es : List (Value × Value)} {e : MapEntry} (h : e ∈ es.zipIdx.map entryO) : ∃ j p, es[j]? = some p ∧ e = ⟨p.1, p.2, j⟩ := by
 obtain ⟨j, hj⟩ := List.getElem?_of_mem h
 obtain ⟨p, h1, h2⟩ := mapO_at hj
 exact ⟨j, p, h1, h2⟩
section
variable {P : Program} {n : Nat} {B : Base} {e : Env} {σ : St} {d : Option Nat} {ty : TypeId} {pos : String} {af : Array Edge} {gd : Option (Nat × Bool)}
theorem find_map {K : Nat} (hK : Go.Maps.Keyed P K) {k : Value} (hk : IsK P K k) {es : List (Value × Value)} (hall : ∀ p ∈ es, IsK P K p.1) (w : World) :
   ((Instr.findKey K k (es.zipIdx.map entryO)).run P w = .ok none w ∧ ∀ p ∈ es, p.1 ≠ k) ∨ ∃ j u, (Instr.findKey K k (es.zipIdx.map entryO)).run P w = .ok (some (j, u)) w ∧ es[j]? = some (k, u) := by
 obtain ⟨l, hl⟩ := hk
 rcases hK.find w hl (es.zipIdx.map entryO) (fun e he => by obtain ⟨j, p, h1, rfl⟩ := mapO_mem he; exact hall p (List.mem_of_getElem? h1)) with ⟨h1, h2⟩ | ⟨j, e0, h1, h2, h3⟩
 · refine .inl ⟨h1, fun p hp => ?_⟩
   obtain ⟨j, hj⟩ := List.getElem?_of_mem hp
   have : entryO (p, j) ∈ es.zipIdx.map entryO := by
     refine List.mem_map.2 ⟨(p, j), ?_, rfl⟩
     rw [List.mem_zipIdx_iff_getElem?]; exact hj
   exact h2 _ this
 · obtain ⟨p, q1, rfl⟩ := mapO_at h2
   refine .inr ⟨j, p.2, h1, ?_⟩
   rw [q1]
   simp only at h3
   rw [← h3]
theorem x_makeMap {M : Nat} {K : Value → St → Prop} (hn : ∀ b, B.w0.heap.size ≤ b → σ.F b = none → K (.map (some b)) ⟨σ.F, (b, mapO []) :: σ.H⟩) : OpX P n B ⟨d, .makeMap M none, ty, pos, af, gd⟩ e σ K :=
 .run fun w hw => ⟨_, _, _, .inl (by simp [execOp, Instr.makeMap]; rfl), hw.alloc (mapO []), hn _ hw.size hw.fresh⟩
theorem run_getMap {b : Nat} {es : List (Value × Value)} {w : World} (h : w.heap[b]? = some (mapO es)) : (Go.getObj b).run P w = .ok (mapO es) w := by
 simp only [Go.getObj, Sem.run, h]; simp [mapO]
theorem run_setMap {b : Nat} {es es' : List (Value × Value)} {w : World} (h : w.heap[b]? = some (mapO es)) : (Go.setObj b (mapO es')).run P w = .ok () { w with heap := w.heap.setIfInBounds b (mapO es') } := by
 simp only [Go.setObj, Sem.run, h]; simp [mapO]
theorem nodup_key {es : List (Value × Value)} (hd : (es.map (·.1)).Nodup) {i j : Nat} {k u v : Value} (hi : es[i]? = some (k, u)) (hj : es[j]? = some (k, v)) : i = j := by
 have h1 : (es.map (·.1))[i]? = some k := by simp [hi]
 have h2 : (es.map (·.1))[j]? = some k := by simp [hj]
 have hl : i < (es.map (·.1)).length := (List.getElem?_eq_some_iff.1 h1).1
 exact (List.getElem?_inj hl hd).1 (by rw [h1, h2])
theorem run_lookupN {M K E : Nat} {z k : Value} {b : Nat} {es : List (Value × Value)} (hT : MapT P M K E z) (hk : IsK P K k) (hall : ∀ p ∈ es, IsK P K p.1) (hno : ∀ p ∈ es, p.1 ≠ k) {w : World} (hb : w.heap[b]? = some (mapO es)) (ok : Bool) :
   (Instr.lookup M (.map (some b)) k ok).run P w = .ok (if ok then .tuple #[z, .bool false] else z) w := by
 obtain ⟨l, hl⟩ := hk
 have hc := fun em => hT.keyed.check w em hl
 have hb' := run_getMap (P := P) hb; unfold mapO at hb'
 have hf : (Instr.findKey K k (es.zipIdx.map entryO)).run P w = .ok none w := by
   rcases find_map hT.keyed ⟨l, hl⟩ hall w with ⟨h, -⟩ | ⟨j, u, -, h⟩
   · exact h
   · exact absurd rfl (hno _ (List.mem_of_getElem? h))
 cases ok <;> simp [Instr.lookup, B7 hT.under, hb', hc, hf, run_zero hT.zero]
theorem run_lookupS {M K E : Nat} {z k u : Value} {b j : Nat} {es : List (Value × Value)} (hT : MapT P M K E z) (hk : IsK P K k) (hall : ∀ p ∈ es, IsK P K p.1) (hd : (es.map (·.1)).Nodup) (hj : es[j]? = some (k, u)) {w : World} (hb : w.heap[b]? = some (mapO es)) (ok : Bool) :
   (Instr.lookup M (.map (some b)) k ok).run P w = .ok (if ok then .tuple #[u, .bool true] else u) w := by
 obtain ⟨l, hl⟩ := hk
 have hc := fun em => hT.keyed.check w em hl
 have hb' := run_getMap (P := P) hb; unfold mapO at hb'
 have hf : (Instr.findKey K k (es.zipIdx.map entryO)).run P w = .ok (some (j, u)) w := by
   rcases find_map hT.keyed ⟨l, hl⟩ hall w with ⟨-, h⟩ | ⟨i, v, h1, h2⟩
   · exact absurd rfl (h _ (List.mem_of_getElem? hj))
   · have := nodup_key hd h2 hj
     subst this
     rw [h2] at hj
     simp only [Option.some.injEq, Prod.mk.injEq] at hj
     rw [h1, hj.2]
 cases ok <;> simp [Instr.lookup, B7 hT.under, hb', hc, hf]
theorem q_lookup2N {M K E i b : Nat} {x y : Operand} {z k : Value} {es : List (Value × Value)} (hT : MapT P M K E z) (hx : ev e x = .map (some b)) (hy : ev e y = k) (hi : σ.H[i]? = some (b, mapO es)) (hk : IsK P K k) (hall : ∀ p ∈ es, IsK P K p.1) (hno : ∀ p ∈ es, p.1 ≠ k) :
   OpR P B ⟨d, .lookup M x y true, ty, pos, af, gd⟩ e σ (.tuple #[z, .bool false]) := fun w hw => by
 have := run_lookupN hT hk hall hno (hw.own _ (List.mem_of_getElem? hi)).1 true
 simp [execOp, hx, hy, this]
theorem q_lookup2S {M K E i b j : Nat} {x y : Operand} {z k u : Value} {es : List (Value × Value)} (hT : MapT P M K E z) (hx : ev e x = .map (some b)) (hy : ev e y = k) (hi : σ.H[i]? = some (b, mapO es)) (hk : IsK P K k) (hall : ∀ p ∈ es, IsK P K p.1) (hd : (es.map (·.1)).Nodup) (hj : es[j]? = some (k, u)) :
   OpR P B ⟨d, .lookup M x y true, ty, pos, af, gd⟩ e σ (.tuple #[u, .bool true]) := fun w hw => by
 have := run_lookupS hT hk hall hd hj (hw.own _ (List.mem_of_getElem? hi)).1 true
 simp [execOp, hx, hy, this]
theorem lits_int {T d : Nat} {q : IntKind} (hu : P.underlying T = some (.int q)) {z : Int} (hz : (Lit.int q z).wf = true) : P.keyLits (d + 1) T [.int q z] = some [.int q z] := by simp [Program.keyLits, hu, hz]
theorem wf64 {z : Int} (h1 : -9223372036854775808 ≤ z) (h2 : z ≤ 9223372036854775807) : (Lit.int .i64 z).wf = true := by
 have e1 : IntKind.i64.min = -9223372036854775808 := by decide
 have e2 : IntKind.i64.max = 9223372036854775807 := by decide
 simp [Lit.wf, e1, e2, h1, h2]
theorem keys_or {es : List (Value × Value)} (k : Value) : (∀ p ∈ es, p.1 ≠ k) ∨ ∃ (j : Nat) (u : Value), es[j]? = some (k, u) := by
 by_cases h : ∃ p ∈ es, p.1 = k
 · obtain ⟨p, hp, rfl⟩ := h
   obtain ⟨j, hj⟩ := List.getElem?_of_mem hp
   exact .inr ⟨j, p.2, hj⟩
 · exact .inl fun p hp he => h ⟨p, hp, he⟩
theorem all_snoc {K : Nat} {es : List (Value × Value)} {k v : Value} (h : ∀ p ∈ es, IsK P K p.1) (hk : IsK P K k) : ∀ p ∈ es ++ [(k, v)], IsK P K p.1 := by
 intro p hp
 rcases List.mem_append.1 hp with hp | hp
 · exact h p hp
 · simp at hp; subst hp; exact hk
theorem nd_snoc {es : List (Value × Value)} {k v : Value} (h : (es.map (·.1)).Nodup) (hk : ∀ p ∈ es, p.1 ≠ k) : ((es ++ [(k, v)]).map (·.1)).Nodup := by
 rw [List.map_append, List.nodup_append]
 refine ⟨h, by simp, fun a ha b hb => ?_⟩
 obtain ⟨p, hp, rfl⟩ := List.mem_map.1 ha
 simp at hb; subst hb
 exact hk p hp
theorem map_set {es : List (Value × Value)} {j : Nat} {k u v : Value} (hj : es[j]? = some (k, u)) : (es.set j (k, v)).map (·.1) = es.map (·.1) := by
 apply List.ext_getElem?
 intro m
 rw [List.getElem?_map, List.getElem?_map, List.getElem?_set]
 by_cases hm : j = m
 · subst hm; rw [if_pos rfl, hj]; simp [(List.getElem?_eq_some_iff.1 hj).1]
 · rw [if_neg hm]
theorem snoc_at {es : List (Value × Value)} {p : Value × Value} : (es ++ [p])[es.length]? = some p := by simp
end
end Go.Proofs.Ytccogmkhijgelaa
namespace Go.Proofs.Ytccogmkhijgelaa
open Go.RowKit
theorem zr_128 : ZeroT Try.prog 128 (.agg #[.slice none 0 0, .slice none 0 0, .map none]) := Cv (by kernel_rfl)
theorem bd_16 : Body Try.prog 16 := Bo (by kernel_rfl)
theorem bt_128 : BuildT Try.prog 128 [.slice none 0 0, .slice none 0 0, .map none] [(0, 2), (2, 1)] := buildT_of zr_128 (by kernel_rfl) (by decide)
theorem B4 : FieldT Try.prog 128 0 0 := C3 (by kernel_rfl)
structure StmX (F : Heap) (b : Nat) (vp ve vm : Value) (ps : List (Value × Edn)) (s : Stm) : Prop where
 r : StmR F vp ve ps s
 blk : F b = some (bx 128 [vp, ve, vm])
theorem StmX.mono {F F' : Heap} {b : Nat} {vp ve vm : Value} {ps : List (Value × Edn)} {s : Stm} (h : StmX F b vp ve vm ps s) (hF : F.le F') : StmX F' b vp ve vm ps s := ⟨h.r.mono hF, hF _ _ h.blk⟩
def OpenR (F : Heap) (u : Value) (Hn : List (Nat × Obj)) (vp ve : Value) (ps : List (Value × Edn)) (s : Stm) : Prop := ∃ b kb, u = .tuple #[.pointer (some ⟨b, 0, none⟩), .int .i64 0] ∧ StmX F b vp ve (.map (some kb)) ps s ∧ Hn = [(kb, mapO [])]
set_option maxRecDepth 100000 in
theorem open_ok {F : Heap} {vp ve : Value} {ps : List (Value × Edn)} {s : Stm} (hr : StmR F vp ve ps s) (h0 : (checkT s).2.2 = 0) : OkN Try.prog 65 [.agg #[vp, ve]].toArray F fun u F' Hn => OpenR F' u Hn vp ve ps s := by
 refine OkN.intro Try.func65 rfl Try.ntmps65 rfl fun w0 => ?_
 refine Af <| Ai fun ds => Bb rfl (B9 (Aj rfl) rfl fun b1 hb1 nb1 => ?_)
 refine Aa rfl (Ad Ab) ?_
 refine Aa rfl (Ad Ab) ?_
 refine Ah <| Ae <| Af <| Af <| Ai fun ds => Aa rfl (A7 B8 (Ar rfl <| Ac) rfl rfl (A2 0 rfl)) ?_
 refine B0 rfl (Bc bd_16 Ax (.cons (Ac) .nil) (checkT_ok hr) (fun _ _ h => h.trans (show checkTV s = .tuple #[.int .i64 (checkT s).1, .int .i64 (checkT s).2.1, .int .i64 (checkT s).2.2] from rfl))) ?_
 refine Aa rfl (Ag (Ac)) ?_
 refine Aa rfl (As (Ac) rfl) ?_
 refine Aa rfl (As (Ak rfl <| Ac) rfl) ?_
 refine Aa rfl (As (Ar rfl <| Ac) rfl) ?_
 refine Aa rfl (Ad (Ar rfl <| Ac)) ?_
 refine Aa rfl (Ad (Ar rfl <| Ac)) ?_
 refine Aa rfl (Ad (Ar rfl <| Ac)) ?_
 refine Ah <| Ae <| Af <| Ai fun ds => Aa rfl (Ag (Ac)) ?_
 refine Aa rfl (B6 (Ac) Ab) ?_
 refine Ah <| Ae <| Am (Ac) (decide_eq_false (fun h => h h0)) ?_
 refine Ay <| Ae <| Af <| Ai fun ds => Aa rfl (A7 B8 (A8 rfl <| A0 rfl <| Ak rfl <| Ac) rfl rfl (A2 0 rfl)) ?_
 refine Bb rfl (x_makeMap fun b2 hb2 nb2 => ?_)
 refine Aa rfl (D0 bt_128 (.cons (Ak rfl <| Ac) rfl (.cons (Ac) rfl .nil)) (.cons rfl rfl (Nat.le_of_ble_eq_true rfl) (.cons (.here) (.cons (.next <| .here) .nil)) (.cons rfl rfl (Nat.le_of_ble_eq_true rfl) (.cons (.next <| .next <| .here) .nil) .nil))) ?_
 refine Bb rfl (B9 (Ac) rfl fun b3 hb3 nb3 => ?_)
 refine Aa rfl (Ad (Ac)) ?_
 refine Aa rfl (Ad Ab) ?_
 refine Ah <| Ae <| Ca (i := 0) rfl hb3 (.here) fun F4 hF5 hz => ?_
 replace hr := hr.mono hF5
 refine A4 <| Ds rfl (.tmp (Ak rfl <| Ac) (.tmp (Ac) .nil)) (.cons_cons _ <| .cons _ <| .refl _) ?_
 exact ⟨_, _, rfl, ⟨hr, hz⟩, rfl⟩
set_option maxRecDepth 100000 in
theorem open_bad {F : Heap} {vp ve : Value} {ps : List (Value × Edn)} {s : Stm} (hr : StmR F vp ve ps s) (h0 : (checkT s).2.2 ≠ 0) : Ok Try.prog 65 [.agg #[vp, ve]].toArray F fun u _ => u = .tuple #[.pointer none, .int .i64 (checkT s).2.2] := by
 refine Ok.intro Try.func65 rfl Try.ntmps65 rfl fun w0 => ?_
 refine Af <| Ai fun ds => Bb rfl (B9 (Aj rfl) rfl fun b1 hb1 nb1 => ?_)
 refine Aa rfl (Ad Ab) ?_
 refine Aa rfl (Ad Ab) ?_
 refine Ah <| Ae <| Af <| Af <| Ai fun ds => Aa rfl (A7 B8 (Ar rfl <| Ac) rfl rfl (A2 0 rfl)) ?_
 refine B0 rfl (Bc bd_16 Ax (.cons (Ac) .nil) (checkT_ok hr) (fun _ _ h => h.trans (show checkTV s = .tuple #[.int .i64 (checkT s).1, .int .i64 (checkT s).2.1, .int .i64 (checkT s).2.2] from rfl))) ?_
 refine Aa rfl (Ag (Ac)) ?_
 refine Aa rfl (As (Ac) rfl) ?_
 refine Aa rfl (As (Ak rfl <| Ac) rfl) ?_
 refine Aa rfl (As (Ar rfl <| Ac) rfl) ?_
 refine Aa rfl (Ad (Ar rfl <| Ac)) ?_
 refine Aa rfl (Ad (Ar rfl <| Ac)) ?_
 refine Aa rfl (Ad (Ar rfl <| Ac)) ?_
 refine Ah <| Ae <| Af <| Ai fun ds => Aa rfl (Ag (Ac)) ?_
 refine Aa rfl (B6 (Ac) Ab) ?_
 refine Ah <| Ae <| Aq (Ac) (decide_eq_true h0) ?_
 refine Af <| Ai fun ds => Aa rfl (Ag (Ar rfl <| Ac)) ?_
 refine Aa rfl (Ad Ab) ?_
 refine Aa rfl (Ad (Ak rfl <| Ac)) ?_
 refine Ah <| Ae <| A4 <| A9 ?_
 refine Aw rfl (.tmp (Ak rfl <| Ac) (.tmp (Ac) .nil)) ?_
 rfl
set_option maxRecDepth 100000 in
theorem apart_ok {F : Heap} {b : Nat} {vp ve vm : Value} {ps : List (Value × Edn)} {s : Stm} (hX : StmX F b vp ve vm ps s) (hv : ValidT s) {a c : Nat} (ha : a < s.editions.length) (hb : c < s.editions.length) : Ok Try.prog 66 [.pointer (some ⟨b, 0, none⟩), .int .i64 (a : Int), .int .i64 (c : Int)].toArray F fun u F' => Nats F' u (apartL s a c) := by
 refine Ok.intro Try.func66 rfl Try.ntmps66 rfl fun w0 => ?_
 have hap : a < ps.length := by rw [hX.r.len]; exact ha
 have hbp : c < ps.length := by rw [hX.r.len]; exact hb
 have hL := hv.np
 have hL1 := hX.r.places.plain.lt
 refine Af <| Ai fun ds => Aa rfl (Ad Ab) ?_
 refine Ah <| Ae <| Af <| Af <| Ai fun ds => Aa rfl (Ag (Ak rfl <| Aj rfl)) ?_
 refine Aa rfl (Bq (Ac)) ?_
 refine Aa rfl (Ao B4 (Ac)) ?_
 refine Aa rfl (Ao C7 (Ac)) ?_
 refine Aa rfl (Ap D1 (Ac) (CellF.own hX.blk rfl).cell) ?_
 refine Aa rfl (Bp Dx (Ac) hX.r.places.plain) ?_
 refine Aa rfl (Ag Ab) ?_
 refine Ah <| Ae <| Az <| By [6, 7, 8, 9, 16, 17, 18, 19, 20, 21, 22, 23, 24, 25, 26, 27, 28, 29, 30, 31, 32, 33, 34, 35, 36, 37, 38, 39, 40, 41, 42, 43, 44, 45, 46, 47, 48, 49, 50, 51, 52, 53, 54, 55, 56] (fun m e σ => ∃ k : Nat, m + k = s.places.length ∧ e 16 = .int .i64 (k : Int) ∧ ∃ v6 R6, e 6 = v6 ∧ Own 3 1 v6 (selN (differB s a c) k).length ((selN (differB s a c) k).flatMap natE) R6 ∧ σ = ⟨F, R6⟩) (s.places.length) ?_ ?_
 · exact ⟨0, by omega, (Ac), _, _, (A0 rfl <| Ar rfl <| Ak rfl <| Ac), Own.nil, rfl⟩
 ·
  rintro m e _ ⟨k, hm, hs16, v6, R6, hs6, ho, rfl⟩; have hsl := Dr (p := differB s a c) (k := k)
  by_cases hlt : k < s.places.length
  ·
   have hpa : k < (s.ed a).rd.length := by rw [hv.rdl a ha]; exact hlt
   have hpb : k < (s.ed c).rd.length := by rw [hv.rdl c hb]; exact hlt
   have hra := hX.r.rd hap
   have hrb := hX.r.rd hbp
   have hd3 := differ_mul hv ha hb hlt
   have e1 := rdT_at hpa
   have e2 := rdT_at hpb
   have k1 := hv.rd a k ha hlt
   have k2 := hv.rd c k hb hlt
   have k3 : 0 ≤ s.r a k * s.r c k ∧ s.r a k * s.r c k ≤ 9 := ⟨Int.mul_nonneg k1.1 k2.1, Int.le_trans (Int.mul_le_mul_of_nonneg_left k2.2 k1.1) (by omega)⟩
   refine Af <| Ai fun ds => Aa rfl (Bz (Au rfl hs16) (Al rfl <| Ak rfl <| Ac)) ?_
   refine Ah <| Ae <| Af <| Aq (Ac) (by first | rfl | exact decide_eq_true (by omega)) ?_
   by_cases hne : s.r a k ≠ s.r c k
   ·
    refine Ay <| Ae <| Af <| Az <| Af <| Ai fun ds => Aa rfl (Ag (Ak rfl <| Au rfl hs16)) ?_
    refine Aa rfl (Ad (Ac)) ?_
    refine Ah <| Ae <| Af <| Dg (.inl rfl) (fun _ _ h => h) (by kernel_rfl) (by kernel_rfl) fun ds => ?_
    refine Bi rfl (Ag (Ar rfl <| Ak rfl <| Al rfl <| A8 rfl <| Aj rfl)) ?_
    refine Bi rfl (Bq (Ac)) ?_
    refine Bi rfl (Ao B4 (Ac)) ?_
    refine Bi rfl (Ao Br (Ac)) ?_
    refine Bi rfl (Ap B3 (Ac) (CellF.own hX.blk rfl).cell) ?_
    refine Bi rfl (Ag (A8 rfl <| Al rfl <| A8 rfl <| Aj rfl)) ?_
    refine Bi rfl (Bh (k := a) Cc (Ak rfl <| Ac) hX.r.eds.plain (Ac) rfl hap) ?_
    refine Bi rfl (Bv Cr (Ac)) ?_
    refine Bi rfl (Ap Cq (Ac) (hX.r.eds.cell hap rfl)) ?_
    refine Bi rfl (Ag (A8 rfl <| Ak rfl <| Ac)) ?_
    refine Bi rfl (Bh (k := k) Bm (Ak rfl <| Ac) hra.plain (Ac) rfl hpa) ?_
    refine Bi rfl (Ap Bk (Ac) (hra.cell1 hpa rfl)) ?_
    refine Bi rfl (Ag (A8 rfl <| A0 rfl <| Ar rfl <| Ak rfl <| Al rfl <| A8 rfl <| Aj rfl)) ?_
    refine Bi rfl (Bq (Ac)) ?_
    refine Bi rfl (Ao B4 (Ac)) ?_
    refine Bi rfl (Ao Br (Ac)) ?_
    refine Bi rfl (Ap B3 (Ac) (CellF.own hX.blk rfl).cell) ?_
    refine Bi rfl (Ag (A6 rfl <| A0 rfl <| Al rfl <| A8 rfl <| Aj rfl)) ?_
    refine Bi rfl (Bh (k := c) Cc (Ak rfl <| Ac) hX.r.eds.plain (Ac) rfl hbp) ?_
    refine Bi rfl (Bv Cr (Ac)) ?_
    refine Bi rfl (Ap Cq (Ac) (hX.r.eds.cell hbp rfl)) ?_
    refine Bi rfl (Ag (A6 rfl <| A0 rfl <| Ak rfl <| Ac)) ?_
    refine Bi rfl (Bh (k := k) Bm (Ak rfl <| Ac) hrb.plain (Ac) rfl hpb) ?_
    refine Bi rfl (Ap Bk (Ac) (hrb.cell1 hpb rfl)) ?_
    refine Bi rfl (Ad (A8 rfl <| A0 rfl <| Ac)) ?_
    refine Bi rfl (Ad (Ak rfl <| Ac)) ?_
    refine WQ_nil ?_
    refine Ae <| Af <| Ai fun ds => Aa rfl (Ag (Ak rfl <| Ac)) ?_
    refine Aa rfl (Ag (Ak rfl <| Ac)) ?_
    refine Aa rfl (B6 (Ak rfl <| Ac) (Ac)) ?_
    refine Aa rfl (Ag (Ac)) ?_
    refine At rfl rfl (Ac) (by rw [e1, e2]; exact decide_eq_true hne) ?_
    refine Aa rfl (Ag (A0 rfl <| Ak rfl <| Ac)) ?_
    refine At rfl rfl (Ak rfl <| Ac) (by rw [e1, e2]; exact decide_eq_true hne) ?_
    refine Aa rfl (Ag (A0 rfl <| Ak rfl <| Ac)) ?_
    refine At rfl rfl (Ar rfl <| Ac) (by rw [e1, e2]; exact decide_eq_true hne) ?_
    refine Aa rfl (q_mul (Ak rfl <| Ac) (Ac) rfl (by rw [e1, e2]; omega) (by rw [e1, e2]; omega)) ?_
    refine At rfl rfl (Ar rfl <| Ak rfl <| Ac) (by rw [e1, e2]; exact decide_eq_true hne) ?_
    refine Aa rfl (Dh (Ac) Ab) ?_
    refine Aa rfl (A1 (A0 rfl <| Ac) (by rw [e1, e2]; exact decide_eq_true hne) (Ac)) ?_
    refine Ah <| Ae ?_
    by_cases hp : 0 < s.r a k * s.r c k
    ·
     refine Aq (Ac) (by rw [e1, e2]; exact decide_eq_true hp) ?_
     refine Ai fun ds => Aa rfl (Ag (Bf rfl <| A0 rfl <| Ar rfl <| Au rfl hs6)) ?_
     refine Aa rfl (Ag (Bf rfl <| A0 rfl <| Ac)) ?_
     refine Bb rfl (B1 Bm Cy rfl (.cons (Ac) .nil) rfl rfl (by decide) (by simp [Value.oneCell']) fun b2 hb2 nb2 => ?_)
     refine Bb rfl (C1 Bm el_3 (Ar rfl <| Ac) ho (Ac) (src_box (s := 1) 0 rfl rfl (by simp [Value.oneCell'])) (by omega) (by omega) (.s <| .z) .last fun v3 R4 ho5 => ?_)
     have ho2 := ho5.snoc (x := k) rfl rfl
     refine Aa rfl (Ad (Ac)) ?_
     refine Ah <| Ba <| Ae <| Dp (fun _ _ h => h.drop (.cons _ <| .refl _)) ?_
     refine Ai fun ds => Aa rfl (Bw (Bf rfl <| A8 rfl <| Ar rfl <| Ak rfl <| Au rfl hs16) Ab rfl (by omega) (by omega)) ?_
     refine Aa rfl (Ag (Ac)) ?_
     refine Ah <| Ae ⟨_, m - 1, Off.eq (ou32 rfl <| ou8 rfl <| ou4 rfl <| ou1 rfl <| Be), by omega, ?_⟩
     exact ⟨k + 1, by omega, (Ac), _, _, (Ar rfl <| Ac), by rw [Dq, if_pos (hd3.1 ⟨hne, hp⟩)]; exact ho2, rfl⟩
    ·
     refine Am (Ac) (by rw [e1, e2]; exact decide_eq_false hp) ?_
     refine Ay <| Ba <| Ae <| Ai fun ds => Aa rfl (Bw (Bf rfl <| A0 rfl <| Ar rfl <| Au rfl hs16) Ab rfl (by omega) (by omega)) ?_
     refine Aa rfl (Ag (Ac)) ?_
     refine Ah <| Ae ⟨_, m - 1, Off.eq (ou32 rfl <| ou8 rfl <| Be), by omega, ?_⟩
     exact ⟨k + 1, by omega, (Ac), _, _, (Bf rfl <| A8 rfl <| Au rfl hs6), by rw [Dq, if_neg (fun h => hp (hd3.2 h).2)]; exact ho, rfl⟩
   ·
    refine Ay <| Ae <| Af <| Az <| Af <| Ai fun ds => Aa rfl (Ag (Ak rfl <| Au rfl hs16)) ?_
    refine Aa rfl (Ad (Ac)) ?_
    refine Ah <| Ae <| Af <| Dg (.inl rfl) (fun _ _ h => h) (by kernel_rfl) (by kernel_rfl) fun ds => ?_
    refine Bi rfl (Ag (Ar rfl <| Ak rfl <| Al rfl <| A8 rfl <| Aj rfl)) ?_
    refine Bi rfl (Bq (Ac)) ?_
    refine Bi rfl (Ao B4 (Ac)) ?_
    refine Bi rfl (Ao Br (Ac)) ?_
    refine Bi rfl (Ap B3 (Ac) (CellF.own hX.blk rfl).cell) ?_
    refine Bi rfl (Ag (A8 rfl <| Al rfl <| A8 rfl <| Aj rfl)) ?_
    refine Bi rfl (Bh (k := a) Cc (Ak rfl <| Ac) hX.r.eds.plain (Ac) rfl hap) ?_
    refine Bi rfl (Bv Cr (Ac)) ?_
    refine Bi rfl (Ap Cq (Ac) (hX.r.eds.cell hap rfl)) ?_
    refine Bi rfl (Ag (A8 rfl <| Ak rfl <| Ac)) ?_
    refine Bi rfl (Bh (k := k) Bm (Ak rfl <| Ac) hra.plain (Ac) rfl hpa) ?_
    refine Bi rfl (Ap Bk (Ac) (hra.cell1 hpa rfl)) ?_
    refine Bi rfl (Ag (A8 rfl <| A0 rfl <| Ar rfl <| Ak rfl <| Al rfl <| A8 rfl <| Aj rfl)) ?_
    refine Bi rfl (Bq (Ac)) ?_
    refine Bi rfl (Ao B4 (Ac)) ?_
    refine Bi rfl (Ao Br (Ac)) ?_
    refine Bi rfl (Ap B3 (Ac) (CellF.own hX.blk rfl).cell) ?_
    refine Bi rfl (Ag (A6 rfl <| A0 rfl <| Al rfl <| A8 rfl <| Aj rfl)) ?_
    refine Bi rfl (Bh (k := c) Cc (Ak rfl <| Ac) hX.r.eds.plain (Ac) rfl hbp) ?_
    refine Bi rfl (Bv Cr (Ac)) ?_
    refine Bi rfl (Ap Cq (Ac) (hX.r.eds.cell hbp rfl)) ?_
    refine Bi rfl (Ag (A6 rfl <| A0 rfl <| Ak rfl <| Ac)) ?_
    refine Bi rfl (Bh (k := k) Bm (Ak rfl <| Ac) hrb.plain (Ac) rfl hpb) ?_
    refine Bi rfl (Ap Bk (Ac) (hrb.cell1 hpb rfl)) ?_
    refine Bi rfl (Ad (A8 rfl <| A0 rfl <| Ac)) ?_
    refine Bi rfl (Ad (Ak rfl <| Ac)) ?_
    refine WQ_nil ?_
    refine Ae <| Af <| Ai fun ds => Aa rfl (Ag (Ak rfl <| Ac)) ?_
    refine Aa rfl (Ag (Ak rfl <| Ac)) ?_
    refine Aa rfl (B6 (Ak rfl <| Ac) (Ac)) ?_
    refine Aa rfl (Ag (Ac)) ?_
    refine A3 rfl rfl (Ac) (.inl (congrArg Value.bool (by rw [e1, e2]; exact decide_eq_false hne))) rfl ?_
    refine A3 rfl rfl (Ak rfl <| Ac) (.inl (congrArg Value.bool (by rw [e1, e2]; exact decide_eq_false hne))) rfl ?_
    refine A3 rfl rfl (Ar rfl <| Ac) (.inl (congrArg Value.bool (by rw [e1, e2]; exact decide_eq_false hne))) rfl ?_
    refine A3 rfl rfl (Ar rfl <| Ak rfl <| Ac) (.inl (congrArg Value.bool (by rw [e1, e2]; exact decide_eq_false hne))) rfl ?_
    refine Aa rfl (Bn (A0 rfl <| Ac) (by rw [e1, e2]; exact decide_eq_false hne) Ab) ?_
    refine Ah <| Ae <| Am (Ac) rfl ?_
    refine Ay <| Ba <| Ae <| Ai fun ds => Aa rfl (Bw (Bf rfl <| A0 rfl <| Ar rfl <| Au rfl hs16) Ab rfl (by omega) (by omega)) ?_
    refine Aa rfl (Ag (Ac)) ?_
    refine Ah <| Ae ⟨_, m - 1, Off.eq (ou32 rfl <| ou8 rfl <| Be), by omega, ?_⟩
    exact ⟨k + 1, by omega, (Ac), _, _, (Bf rfl <| A8 rfl <| Au rfl hs6), by rw [Dq, if_neg (fun h => hne (hd3.2 h).1)]; exact ho, rfl⟩
  ·
   refine Af <| Ai fun ds => Aa rfl (Bz (Au rfl hs16) (Al rfl <| Ak rfl <| Ac)) ?_
   refine Ah <| Ae <| Af <| Am (Ac) (by first | rfl | exact decide_eq_false (by omega)) ?_
   obtain rfl : k = s.places.length := by omega
   refine Cx (σ := ⟨_, _⟩) (by rfl) ho (.z) .last fun F6 hF7 hz8 => ?_
   have hn2 := ho.sl (fun _ => rfl) hz8 (by omega)
   refine Bt ?_
   refine Bg <| Bg <| Bj <| Ae <| Af <| Ai fun ds => Aa rfl (Ag (Ak rfl <| Au rfl hs6)) ?_
   refine Aa rfl (Ad (Ac)) ?_
   refine Ah <| Ae <| A4 <| Aw rfl (.tmp (Ac) .nil) ?_
   exact hn2
end Go.Proofs.Ytccogmkhijgelaa
namespace Go.Proofs.Ytccogmkhijgelaa
open Go.RowKit
theorem bd_65 : Body Try.prog 65 := Bo (by kernel_rfl)
theorem bd_66 : Body Try.prog 66 := Bo (by kernel_rfl)
set_option maxRecDepth 100000 in
theorem apart_top_ok {F : Heap} {vp ve : Value} {ps : List (Value × Edn)} {s : Stm} (hr : StmR F vp ve ps s) (a b : Int) : Ok Try.prog 18 [.agg #[vp, ve], .int .i64 a, .int .i64 b].toArray F fun u F' => NatsR F' u (apartE s a b) := by
 refine Ok.intro Try.func18 rfl Try.ntmps18 rfl fun w0 => ?_
 have hL := hr.eds.plain.lt
 have hlen := hr.len
 by_cases h0 : (checkT s).2.2 = 0
 ·
  have hv := Db h0
  by_cases h1 : inB 0 (s.editions.length - 1) a = true
  ·
   by_cases h2 : inB 0 (s.editions.length - 1) b = true
   ·
    have h3 := eds_ok h0 h1 h2
    obtain ⟨i, rfl, hi⟩ := inB_nat h1
    obtain ⟨j, rfl, hj⟩ := inB_nat h2
    refine Af <| Ai fun ds => Bb rfl (B9 (Aj rfl) rfl fun b1 hb1 nb1 => ?_)
    refine Aa rfl (Ad Ab) ?_
    refine Aa rfl (Ad Ab) ?_
    refine Ah <| Ae <| Af <| Ai fun ds => Aa rfl (A7 B8 (Ar rfl <| Ac) rfl rfl (A2 0 rfl)) ?_
    refine Bb rfl (C6 bd_65 Ax (.cons (Ac) .nil) (open_ok hr h0) fun v2 F3 R6 hr4 hF5 => ?_)
    replace hr := hr.mono hF5
    obtain ⟨ba, kb, rfl, hX, rfl⟩ := hr4
    refine Aa rfl (Ag (Ac)) ?_
    refine Aa rfl (As (Ac) rfl) ?_
    refine Aa rfl (As (Ak rfl <| Ac) rfl) ?_
    refine Aa rfl (Ad (Ak rfl <| Ac)) ?_
    refine Aa rfl (Ad (Ak rfl <| Ac)) ?_
    refine Ah <| Ae <| Af <| Az <| Af <| Ai fun ds => Aa rfl (Ag (Ac)) ?_
    refine Aa rfl (B6 (Ac) Ab) ?_
    refine Aa rfl (Ad (Ac)) ?_
    refine Ah <| Ae <| Am (Ac) (by decide) ?_
    refine Af <| Ai fun ds => Aa rfl (Ao Br (A8 rfl <| A0 rfl <| Ac)) ?_
    refine Aa rfl (Ap B3 (Ac) (Cell.own 0 rfl rfl)) ?_
    refine Aa rfl (Bp Cc (Ac) hr.eds.plain) ?_
    refine Aa rfl (q_sub (Ac) Ab rfl (by omega) (by omega)) ?_
    refine Aa rfl (Ag (A6 rfl <| Ak rfl <| Aj rfl)) ?_
    refine Aa rfl (Ag (A6 rfl <| Ar rfl <| Aj rfl)) ?_
    refine Bb rfl (B1 Bm Cy rfl (.cons (Ak rfl <| Ac) (.cons (Ac) .nil)) rfl rfl (by decide) (by simp [Value.oneCell']) fun b7 hb7 nb7 => ?_)
    refine Bu (i := 0) rfl hb7 .here fun F8 hF9 hz10 => ?_
    replace hX := hX.mono hF9
    have hsl11 := ints_box2 hz10
    refine B0 rfl (Bc Dk Ax (.cons Ab (.cons (Ar rfl <| Ak rfl <| Ac) (.cons (Ac) .nil))) (Cd _ _ hsl11) (fun _ _ h => h)) ?_
    refine Aa rfl (Ad (Ac)) ?_
    refine Ah <| Ae <| Am (Ac) (by simp [hlen, h1, h2]) ?_
    refine Ay <| Ba <| Ae <| Af <| Ai fun ds => Aa rfl (Ag (A8 rfl <| A0 rfl <| Ak rfl <| Ac)) ?_
    refine Aa rfl (Ag (A6 rfl <| A0 rfl <| Ar rfl <| Ak rfl <| Aj rfl)) ?_
    refine Aa rfl (Ag (A6 rfl <| A8 rfl <| Aj rfl)) ?_
    refine Bb rfl (Ch bd_66 Ax (.cons (Ar rfl <| Ac) (.cons (Ak rfl <| Ac) (.cons (Ac) .nil))) (apart_ok hX hv hi hj) fun v12 F13 hr14 hF15 => ?_)
    have hap := hr14
    refine Aa rfl (Ad (Ac)) ?_
    refine Aa rfl (Ad Ab) ?_
    refine Ah <| Ae <| A4 <| Aw rfl (.tmp (Ak rfl <| Ac) (.tmp (Ac) .nil)) ?_
    rw [apartE_ok h3]
    exact ⟨_, rfl, hap⟩
   ·
    replace h2 : inB 0 (s.editions.length - 1) b = false := by simpa using h2
    refine Af <| Ai fun ds => Bb rfl (B9 (Aj rfl) rfl fun b16 hb16 nb16 => ?_)
    refine Aa rfl (Ad Ab) ?_
    refine Aa rfl (Ad Ab) ?_
    refine Ah <| Ae <| Af <| Ai fun ds => Aa rfl (A7 B8 (Ar rfl <| Ac) rfl rfl (A2 0 rfl)) ?_
    refine Bb rfl (C6 bd_65 Ax (.cons (Ac) .nil) (open_ok hr h0) fun v17 F18 R21 hr19 hF20 => ?_)
    replace hr := hr.mono hF20
    obtain ⟨ba, kb, rfl, hX, rfl⟩ := hr19
    refine Aa rfl (Ag (Ac)) ?_
    refine Aa rfl (As (Ac) rfl) ?_
    refine Aa rfl (As (Ak rfl <| Ac) rfl) ?_
    refine Aa rfl (Ad (Ak rfl <| Ac)) ?_
    refine Aa rfl (Ad (Ak rfl <| Ac)) ?_
    refine Ah <| Ae <| Af <| Az <| Af <| Ai fun ds => Aa rfl (Ag (Ac)) ?_
    refine Aa rfl (B6 (Ac) Ab) ?_
    refine Aa rfl (Ad (Ac)) ?_
    refine Ah <| Ae <| Am (Ac) (by decide) ?_
    refine Af <| Ai fun ds => Aa rfl (Ao Br (A8 rfl <| A0 rfl <| Ac)) ?_
    refine Aa rfl (Ap B3 (Ac) (Cell.own 0 rfl rfl)) ?_
    refine Aa rfl (Bp Cc (Ac) hr.eds.plain) ?_
    refine Aa rfl (q_sub (Ac) Ab rfl (by omega) (by omega)) ?_
    refine Aa rfl (Ag (A6 rfl <| Ak rfl <| Aj rfl)) ?_
    refine Aa rfl (Ag (A6 rfl <| Ar rfl <| Aj rfl)) ?_
    refine Bb rfl (B1 Bm Cy rfl (.cons (Ak rfl <| Ac) (.cons (Ac) .nil)) rfl rfl (by decide) (by simp [Value.oneCell']) fun b22 hb22 nb22 => ?_)
    refine Bu (i := 0) rfl hb22 .here fun F23 hF24 hz25 => ?_
    have hsl26 := ints_box2 hz25
    refine B0 rfl (Bc Dk Ax (.cons Ab (.cons (Ar rfl <| Ak rfl <| Ac) (.cons (Ac) .nil))) (Cd _ _ hsl26) (fun _ _ h => h)) ?_
    refine Aa rfl (Ad (Ac)) ?_
    refine Ah <| Ae <| Aq (Ac) (by simp [hlen, h1, h2]) ?_
    refine Af <| Ai fun ds => Aa rfl (Ad Ab) ?_
    refine Aa rfl (Ad Ab) ?_
    refine Ah <| Ae <| A4 <| Bd (A9 ?_)
    refine Aw rfl (.tmp (Ak rfl <| Ac) (.tmp (Ac) .nil)) ?_
    rw [apartE_bad (eds_none h0 (by simp [h1, h2])) (by decide)]
    exact ⟨_, rfl, Sl.nil⟩
  ·
   replace h1 : inB 0 (s.editions.length - 1) a = false := by simpa using h1
   refine Af <| Ai fun ds => Bb rfl (B9 (Aj rfl) rfl fun b27 hb27 nb27 => ?_)
   refine Aa rfl (Ad Ab) ?_
   refine Aa rfl (Ad Ab) ?_
   refine Ah <| Ae <| Af <| Ai fun ds => Aa rfl (A7 B8 (Ar rfl <| Ac) rfl rfl (A2 0 rfl)) ?_
   refine Bb rfl (C6 bd_65 Ax (.cons (Ac) .nil) (open_ok hr h0) fun v28 F29 R32 hr30 hF31 => ?_)
   replace hr := hr.mono hF31
   obtain ⟨ba, kb, rfl, hX, rfl⟩ := hr30
   refine Aa rfl (Ag (Ac)) ?_
   refine Aa rfl (As (Ac) rfl) ?_
   refine Aa rfl (As (Ak rfl <| Ac) rfl) ?_
   refine Aa rfl (Ad (Ak rfl <| Ac)) ?_
   refine Aa rfl (Ad (Ak rfl <| Ac)) ?_
   refine Ah <| Ae <| Af <| Az <| Af <| Ai fun ds => Aa rfl (Ag (Ac)) ?_
   refine Aa rfl (B6 (Ac) Ab) ?_
   refine Aa rfl (Ad (Ac)) ?_
   refine Ah <| Ae <| Am (Ac) (by decide) ?_
   refine Af <| Ai fun ds => Aa rfl (Ao Br (A8 rfl <| A0 rfl <| Ac)) ?_
   refine Aa rfl (Ap B3 (Ac) (Cell.own 0 rfl rfl)) ?_
   refine Aa rfl (Bp Cc (Ac) hr.eds.plain) ?_
   refine Aa rfl (q_sub (Ac) Ab rfl (by omega) (by omega)) ?_
   refine Aa rfl (Ag (A6 rfl <| Ak rfl <| Aj rfl)) ?_
   refine Aa rfl (Ag (A6 rfl <| Ar rfl <| Aj rfl)) ?_
   refine Bb rfl (B1 Bm Cy rfl (.cons (Ak rfl <| Ac) (.cons (Ac) .nil)) rfl rfl (by decide) (by simp [Value.oneCell']) fun b33 hb33 nb33 => ?_)
   refine Bu (i := 0) rfl hb33 .here fun F34 hF35 hz36 => ?_
   have hsl37 := ints_box2 hz36
   refine B0 rfl (Bc Dk Ax (.cons Ab (.cons (Ar rfl <| Ak rfl <| Ac) (.cons (Ac) .nil))) (Cd _ _ hsl37) (fun _ _ h => h)) ?_
   refine Aa rfl (Ad (Ac)) ?_
   refine Ah <| Ae <| Aq (Ac) (by simp [hlen, h1]) ?_
   refine Af <| Ai fun ds => Aa rfl (Ad Ab) ?_
   refine Aa rfl (Ad Ab) ?_
   refine Ah <| Ae <| A4 <| Bd (A9 ?_)
   refine Aw rfl (.tmp (Ak rfl <| Ac) (.tmp (Ac) .nil)) ?_
   rw [apartE_bad (eds_none h0 (by simp [h1])) (by decide)]
   exact ⟨_, rfl, Sl.nil⟩
 ·
  refine Af <| Ai fun ds => Bb rfl (B9 (Aj rfl) rfl fun b38 hb38 nb38 => ?_)
  refine Aa rfl (Ad Ab) ?_
  refine Aa rfl (Ad Ab) ?_
  refine Ah <| Ae <| Af <| Ai fun ds => Aa rfl (A7 B8 (Ar rfl <| Ac) rfl rfl (A2 0 rfl)) ?_
  refine B0 rfl (Bc bd_65 Ax (.cons (Ac) .nil) (open_bad hr h0) (fun _ _ h => h)) ?_
  refine Aa rfl (Ag (Ac)) ?_
  refine Aa rfl (As (Ac) rfl) ?_
  refine Aa rfl (As (Ak rfl <| Ac) rfl) ?_
  refine Aa rfl (Ad (Ak rfl <| Ac)) ?_
  refine Aa rfl (Ad (Ak rfl <| Ac)) ?_
  refine Ah <| Ae <| Af <| Az <| Af <| Ai fun ds => Aa rfl (Ag (Ac)) ?_
  refine Aa rfl (B6 (Ac) Ab) ?_
  refine Aa rfl (Ad (Ac)) ?_
  refine Ah <| Ae <| Aq (Ac) (decide_eq_true h0) ?_
  refine Af <| Ai fun ds => Aa rfl (Ag (Ar rfl <| Ak rfl <| Ac)) ?_
  refine Aa rfl (Ad Ab) ?_
  refine Aa rfl (Ad (Ak rfl <| Ac)) ?_
  refine Ah <| Ae <| A4 <| Bd (A9 ?_)
  refine Aw rfl (.tmp (Ak rfl <| Ac) (.tmp (Ac) .nil)) ?_
  rw [apartE_bad (eds_bad h0) h0]
  exact ⟨_, rfl, Sl.nil⟩
end Go.Proofs.Ytccogmkhijgelaa
namespace Go.Proofs.Ytccogmkhijgelaa
def upN (l : List Int) (i : Nat) : Int := l[i]?.getD 0
theorem up_at {l : List Int} {i : Nat} (h : i < l.length) : l[i] = upN l i := by simp [upN, h]
/-- Each entry is one of the editions, or none. -/
def TreeIn (l : List Int) : Prop := ∀ i, i < l.length → -1 ≤ upN l i ∧ upN l i < l.length
theorem TreeIn.nat {l : List Int} (h : TreeIn l) {i : Nat} (hi : i < l.length) (hne : upN l i ≠ -1) : ∃ j : Nat, upN l i = (j : Int) ∧ j < l.length := by
 have := h i hi
 obtain ⟨j, hj⟩ := Int.eq_ofNat_of_zero_le (show 0 ≤ upN l i by omega)
 exact ⟨j, hj, by omega⟩
/-- So many steps lead to a first one. -/
def reach (l : List Int) : Nat → Nat → Bool
 | 0, at_ => decide (upN l at_ = -1)
 | f + 1, at_ => decide (upN l at_ = -1) || reach l f (upN l at_).toNat
theorem reach_end {l : List Int} {f i : Nat} (h : upN l i = -1) : reach l f i = true := by cases f <;> simp [reach, h]
theorem reach_zero {l : List Int} {i : Nat} (h : upN l i ≠ -1) : reach l 0 i = false := by simp [reach, h]
theorem reach_step {l : List Int} {f i j : Nat} (h : upN l i = (j : Int)) : reach l (f + 1) i = reach l f j := by
 have : upN l i ≠ -1 := by omega
 simp only [reach, decide_eq_false this, Bool.false_or]
 rw [h]; rfl
def firstsN (l : List Int) : Nat → Int
 | 0 => 0
 | k + 1 => if upN l k = -1 then firstsN l k + 1 else firstsN l k
theorem firsts_bound {l : List Int} : ∀ k, 0 ≤ firstsN l k ∧ firstsN l k ≤ k
 | 0 => by simp [firstsN]
 | k + 1 => by have := firsts_bound (l := l) k; unfold firstsN; split <;> omega
def isT (l : List Int) : Bool := (List.range l.length).all (reach l l.length) && decide (firstsN l l.length = 1)
theorem isT_no {l : List Int} {k : Nat} (hk : k < l.length) (h : reach l l.length k = false) : isT l = false := by
 unfold isT
 rw [show (List.range l.length).all (reach l l.length) = false from List.all_eq_false.2 ⟨k, by simpa using hk, by rw [h]; simp⟩, Bool.false_and]
theorem isT_all {l : List Int} (h : ∀ k, k < l.length → reach l l.length k = true) : isT l = decide (firstsN l l.length = 1) := by
 unfold isT
 rw [show (List.range l.length).all (reach l l.length) = true from List.all_eq_true.2 fun k hk => h k (by simpa using hk), Bool.true_and]
/-- The cells of an array that holds a tree. -/
def treeC (l : List Int) : List Go.Value := (List.range 5).map fun i => .int .i64 (upN l i)
theorem Ce {l : List Int} {i : Nat} (h : i < 5) : (treeC l)[0 + i * 1]? = some (.int .i64 (upN l i)) := by
 rw [show 0 + i * 1 = i by omega]; simp [treeC, h]
def treeV (l : List Int) : Go.Value := .agg (treeC l).toArray
end Go.Proofs.Ytccogmkhijgelaa
namespace Go.Proofs.Ytccogmkhijgelaa
open Go.RowKit
theorem Cm : ArrT Try.prog 100 5 3 1 := arrT_of (by kernel_rfl)
set_option maxRecDepth 100000 in
theorem whole_ok {F : Heap} {b : Nat} {vp ve vm : Value} {ps : List (Value × Edn)} {s : Stm} (hX : StmX F b vp ve vm ps s) {l : List Int} (hin : TreeIn l) (hll : l.length = s.editions.length) (hv : ValidT s) : Ok Try.prog 106 [.pointer (some ⟨b, 0, none⟩), treeV l].toArray F fun r _ => r = .bool (isT l) := by
 refine Ok.intro Try.func106 rfl Try.ntmps106 rfl fun w0 => ?_
 have hL := hX.r.eds.plain.lt
 have hlen := hX.r.len
 have hne := hv.ne
 refine Af <| Ai fun ds => Bb rfl (B9 (Aj rfl) rfl fun b1 hb1 nb1 => ?_)
 refine Aa rfl (Ad Ab) ?_
 refine Ah <| Ae <| Af <| Ai fun ds => Aa rfl (Ad Ab) ?_
 refine Ah <| Ae <| Af <| Af <| Ai fun ds => Aa rfl (Ag (Ar rfl <| Ak rfl <| Aj rfl)) ?_
 refine Aa rfl (Bq (Ac)) ?_
 refine Aa rfl (Ao B4 (Ac)) ?_
 refine Aa rfl (Ao Br (Ac)) ?_
 refine Aa rfl (Ap B3 (Ac) (CellF.own hX.blk rfl).cell) ?_
 refine Aa rfl (Bp Cc (Ac) hX.r.eds.plain) ?_
 refine Aa rfl (Ag Ab) ?_
 refine Ah <| Ae <| Az <| By [4, 5, 6, 7, 8, 15, 16, 17, 18, 19, 20, 21, 22, 23, 24, 25, 26, 27, 28, 29, 30, 31, 32, 33, 34, 35, 36, 37, 38, 39, 40, 41, 42] (fun m e σ => ∃ k : Nat, m + k = l.length ∧ e 15 = .int .i64 (k : Int) ∧ e 5 = .int .i64 (firstsN l k) ∧ σ = ⟨F, [(b1, bx 100 (treeC l))]⟩ ∧ ∀ j, j < k → reach l l.length j = true) (l.length) ?_ ?_
 · exact ⟨0, by omega, (Ac), (A0 rfl <| Ar rfl <| Ak rfl <| Ac), rfl, fun j h => absurd h (by omega)⟩
 ·
  rintro m e _ ⟨k, hm, hs15, hs5, rfl, hno⟩
  by_cases hlt : k < l.length
  ·
   have hfb := firsts_bound (l := l) k
   have hk5 : k < 5 := by omega
   refine Af <| Ai fun ds => Aa rfl (Bz (Au rfl hs15) (Al rfl <| Ak rfl <| Ac)) ?_
   refine Ah <| Ae <| Af <| Aq (Ac) (by first | rfl | exact decide_eq_true (by omega)) ?_
   by_cases hf1 : upN l k = -1
   ·
    refine Ay <| Ae <| Af <| Az <| Af <| Ai fun ds => Aa rfl (Ag (Ak rfl <| Au rfl hs15)) ?_
    refine Aa rfl (Ad (Ac)) ?_
    refine Ah <| Ae <| Af <| Af <| Ai fun ds => Aa rfl (Ag (Ac)) ?_
    refine Aa rfl (Bl (k := k) Cm (A0 rfl <| Al rfl <| A8 rfl <| Ak rfl <| Ac) (Ac) rfl hk5) ?_
    refine Aa rfl (Ap Bk (Ac) (Cell.own 0 rfl (Ce hk5))) ?_
    refine Aa rfl (Bx (Ac) Ab) ?_
    refine Ah <| Ae <| Aq (Ac) (decide_eq_true hf1) ?_
    refine Ai fun ds => Aa rfl (Ag (A0 rfl <| Ar rfl <| Ak rfl <| Au rfl hs5)) ?_
    refine Aa rfl (Bw (Ac) Ab rfl (by omega) (by omega)) ?_
    refine Aa rfl (Ad (Ac)) ?_
    refine Ah <| Ae <| Af <| Ai fun ds => Aa rfl (Ag (A0 rfl <| Ar rfl <| Ak rfl <| Ac)) ?_
    refine Aa rfl (Ad (Ac)) ?_
    refine Aa rfl (Ad Ab) ?_
    refine Ah <| Ae <| Az <| By [4, 7, 8, 25, 26, 27, 28, 29, 30, 31, 32, 33, 34, 35, 36, 37, 38, 39, 40, 41] (fun m e σ => ∃ st a : Nat, m + st = l.length ∧ st ≤ l.length ∧ a < l.length ∧ e 8 = .int .i64 (st : Int) ∧ e 7 = .int .i64 (a : Int) ∧ reach l l.length k = reach l (l.length - st) a ∧ σ = ⟨F, [(b1, bx 100 (treeC l))]⟩) (l.length) ?_ ?_
    · exact ⟨0, k, by omega, by omega, hlt, (Ac), (Ak rfl <| Ac), rfl, rfl⟩
    ·
     rintro m2 e2 _ ⟨st, a, hm2, hsl, ha, ht8, ht7, hre, rfl⟩
     have ha5 : a < 5 := by omega
     by_cases hz0 : upN l a = -1
     ·
      have htrue : reach l l.length k = true := by rw [hre]; exact reach_end hz0
      refine Af <| Af <| Ai fun ds => Aa rfl (Ag (Au rfl ht7)) ?_
      refine Aa rfl (Bl (k := a) Cm (Ak rfl <| Al rfl <| A8 rfl <| A0 rfl <| Ak rfl <| Al rfl <| A8 rfl <| Ak rfl <| Ac) (Ac) rfl ha5) ?_
      refine Aa rfl (Ap Bk (Ac) (Cell.own 0 rfl (Ce ha5))) ?_
      refine Aa rfl (B6 (Ac) Ab) ?_
      refine Ah <| Ae <| Am (Ac) (decide_eq_false (fun h => h hz0)) ?_
      refine Bt ?_
      refine Bg <| Bg <| Bj <| Ba <| Ae <| Ai fun ds => Aa rfl (Bw (A0 rfl <| Al rfl <| A8 rfl <| A0 rfl <| Ak rfl <| Au rfl hs15) Ab rfl (by omega) (by omega)) ?_
      refine Aa rfl (Ag (Ac)) ?_
      refine Ah <| Ae ⟨_, m - 1, Off.eq (ou4 rfl <| ou2 rfl <| off_in rfl <| ou8 rfl <| ou4 rfl <| ou1 rfl <| Be), by omega, ?_⟩
      refine ⟨k + 1, by omega, (Ac), by rw [firstsN, if_pos hf1]; exact (A0 rfl <| Ar rfl <| Al rfl <| Ar rfl <| Ak rfl <| Ac), rfl, fun j hj => ?_⟩
      rcases Nat.lt_succ_iff_lt_or_eq.1 hj with hj | rfl
      · exact hno j hj
      · exact htrue
     ·
      obtain ⟨c, hc, hcl⟩ := hin.nat ha hz0
      refine Af <| Af <| Ai fun ds => Aa rfl (Ag (Au rfl ht7)) ?_
      refine Aa rfl (Bl (k := a) Cm (Ak rfl <| Al rfl <| A8 rfl <| A0 rfl <| Ak rfl <| Al rfl <| A8 rfl <| Ak rfl <| Ac) (Ac) rfl ha5) ?_
      refine Aa rfl (Ap Bk (Ac) (Cell.own 0 rfl (Ce ha5))) ?_
      refine Aa rfl (B6 (Ac) Ab) ?_
      refine Ah <| Ae <| Aq (Ac) (decide_eq_true hz0) ?_
      by_cases hs : l.length ≤ st
      ·
       have hfalse : reach l l.length k = false := by rw [hre, show l.length - st = 0 by omega]; exact reach_zero hz0
       refine Ay <| Ae <| Af <| Az <| Af <| Ai fun ds => Aa rfl (Ag (A0 rfl <| Au rfl ht8)) ?_
       refine Aa rfl (Bw (Ac) Ab rfl (by omega) (by omega)) ?_
       refine Aa rfl (Ad (Ac)) ?_
       refine Ah <| Ae <| Af <| Ai fun ds => Aa rfl (Ag (Ac)) ?_
       refine Aa rfl (Ag (A8 rfl <| Al rfl <| A8 rfl <| A0 rfl <| Ak rfl <| Al rfl <| A8 rfl <| Ar rfl <| Aj rfl)) ?_
       refine Aa rfl (Bq (Ac)) ?_
       refine Aa rfl (Ao B4 (Ac)) ?_
       refine Aa rfl (Ao Br (Ac)) ?_
       refine Aa rfl (Ap B3 (Ac) (CellF.own hX.blk rfl).cell) ?_
       refine Aa rfl (Bp Cc (Ac) hX.r.eds.plain) ?_
       refine Aa rfl (Dh (A0 rfl <| Ar rfl <| Ac) (Ac)) ?_
       refine Ah <| Ae <| Aq (Ac) (decide_eq_true (by omega)) ?_
       refine Af <| Ai fun ds => Aa rfl (Ad Ab) ?_
       refine Ah <| Ae <| A4 <| Bd (A9 (A9 (Bd (Bd (A9 (A9 (Bd (A9 ?_))))))))
       refine Aw rfl (.tmp (Ac) .nil) ?_
       show _ = _
       rw [isT_no hlt hfalse]; rfl
      ·
       refine Ay <| Ae <| Af <| Az <| Af <| Ai fun ds => Aa rfl (Ag (A0 rfl <| Au rfl ht8)) ?_
       refine Aa rfl (Bw (Ac) Ab rfl (by omega) (by omega)) ?_
       refine Aa rfl (Ad (Ac)) ?_
       refine Ah <| Ae <| Af <| Ai fun ds => Aa rfl (Ag (Ac)) ?_
       refine Aa rfl (Ag (A8 rfl <| Al rfl <| A8 rfl <| A0 rfl <| Ak rfl <| Al rfl <| A8 rfl <| Ar rfl <| Aj rfl)) ?_
       refine Aa rfl (Bq (Ac)) ?_
       refine Aa rfl (Ao B4 (Ac)) ?_
       refine Aa rfl (Ao Br (Ac)) ?_
       refine Aa rfl (Ap B3 (Ac) (CellF.own hX.blk rfl).cell) ?_
       refine Aa rfl (Bp Cc (Ac) hX.r.eds.plain) ?_
       refine Aa rfl (Dh (A0 rfl <| Ar rfl <| Ac) (Ac)) ?_
       refine Ah <| Ae <| Am (Ac) (decide_eq_false (by omega)) ?_
       refine Ay <| Ba <| Ae <| Ai fun ds => Aa rfl (Ag (A8 rfl <| A0 rfl <| Ar rfl <| Ak rfl <| Au rfl ht7)) ?_
       refine Aa rfl (Bl (k := a) Cm (A6 rfl <| Al rfl <| A8 rfl <| A0 rfl <| Ak rfl <| Al rfl <| A8 rfl <| Ak rfl <| Ac) (Ac) rfl ha5) ?_
       refine Aa rfl (Ap Bk (Ac) (Cell.own 0 rfl (Ce ha5))) ?_
       refine Aa rfl (Ad (Ac)) ?_
       refine Ah <| Ae ⟨_, m2 - 1, Off.eq (Dj rfl <| ou2 rfl <| ou1 rfl <| Be), by omega, ?_⟩
       exact ⟨st + 1, c, by omega, by omega, hcl, (A8 rfl <| A0 rfl <| Ac), by rw [← hc]; exact (Ac), by rw [hre, show l.length - st = (l.length - (st + 1)) + 1 by omega]; exact reach_step hc, rfl⟩
   ·
    refine Ay <| Ae <| Af <| Az <| Af <| Ai fun ds => Aa rfl (Ag (Ak rfl <| Au rfl hs15)) ?_
    refine Aa rfl (Ad (Ac)) ?_
    refine Ah <| Ae <| Af <| Af <| Ai fun ds => Aa rfl (Ag (Ac)) ?_
    refine Aa rfl (Bl (k := k) Cm (A0 rfl <| Al rfl <| A8 rfl <| Ak rfl <| Ac) (Ac) rfl hk5) ?_
    refine Aa rfl (Ap Bk (Ac) (Cell.own 0 rfl (Ce hk5))) ?_
    refine Aa rfl (Bx (Ac) Ab) ?_
    refine Ah <| Ae <| Am (Ac) (decide_eq_false hf1) ?_
    refine Ay <| Ae <| Af <| Ai fun ds => Aa rfl (Ag (A0 rfl <| Ac)) ?_
    refine Aa rfl (Ad (Ac)) ?_
    refine Aa rfl (Ad Ab) ?_
    refine Ah <| Ae <| Az <| By [4, 7, 8, 25, 26, 27, 28, 29, 30, 31, 32, 33, 34, 35, 36, 37, 38, 39, 40, 41] (fun m e σ => ∃ st a : Nat, m + st = l.length ∧ st ≤ l.length ∧ a < l.length ∧ e 8 = .int .i64 (st : Int) ∧ e 7 = .int .i64 (a : Int) ∧ reach l l.length k = reach l (l.length - st) a ∧ σ = ⟨F, [(b1, bx 100 (treeC l))]⟩) (l.length) ?_ ?_
    · exact ⟨0, k, by omega, by omega, hlt, (Ac), (Ak rfl <| Ac), rfl, rfl⟩
    ·
     rintro m2 e2 _ ⟨st, a, hm2, hsl, ha, ht8, ht7, hre, rfl⟩
     have ha5 : a < 5 := by omega
     by_cases hz0 : upN l a = -1
     ·
      have htrue : reach l l.length k = true := by rw [hre]; exact reach_end hz0
      refine Af <| Af <| Ai fun ds => Aa rfl (Ag (Au rfl ht7)) ?_
      refine Aa rfl (Bl (k := a) Cm (Ak rfl <| Al rfl <| A8 rfl <| Ar rfl <| Al rfl <| A8 rfl <| Ak rfl <| Ac) (Ac) rfl ha5) ?_
      refine Aa rfl (Ap Bk (Ac) (Cell.own 0 rfl (Ce ha5))) ?_
      refine Aa rfl (B6 (Ac) Ab) ?_
      refine Ah <| Ae <| Am (Ac) (decide_eq_false (fun h => h hz0)) ?_
      refine Bt ?_
      refine Bg <| Bg <| Bj <| Ba <| Ae <| Ai fun ds => Aa rfl (Bw (A0 rfl <| Al rfl <| A8 rfl <| Ar rfl <| Au rfl hs15) Ab rfl (by omega) (by omega)) ?_
      refine Aa rfl (Ag (Ac)) ?_
      refine Ah <| Ae ⟨_, m - 1, Off.eq (ou4 rfl <| ou2 rfl <| off_in rfl <| ou8 rfl <| ou2 rfl <| Be), by omega, ?_⟩
      refine ⟨k + 1, by omega, (Ac), by rw [firstsN, if_neg hf1]; exact (A0 rfl <| Ar rfl <| Al rfl <| A8 rfl <| Ar rfl <| Au rfl hs5), rfl, fun j hj => ?_⟩
      rcases Nat.lt_succ_iff_lt_or_eq.1 hj with hj | rfl
      · exact hno j hj
      · exact htrue
     ·
      obtain ⟨c, hc, hcl⟩ := hin.nat ha hz0
      refine Af <| Af <| Ai fun ds => Aa rfl (Ag (Au rfl ht7)) ?_
      refine Aa rfl (Bl (k := a) Cm (Ak rfl <| Al rfl <| A8 rfl <| Ar rfl <| Al rfl <| A8 rfl <| Ak rfl <| Ac) (Ac) rfl ha5) ?_
      refine Aa rfl (Ap Bk (Ac) (Cell.own 0 rfl (Ce ha5))) ?_
      refine Aa rfl (B6 (Ac) Ab) ?_
      refine Ah <| Ae <| Aq (Ac) (decide_eq_true hz0) ?_
      by_cases hs : l.length ≤ st
      ·
       have hfalse : reach l l.length k = false := by rw [hre, show l.length - st = 0 by omega]; exact reach_zero hz0
       refine Ay <| Ae <| Af <| Az <| Af <| Ai fun ds => Aa rfl (Ag (A0 rfl <| Au rfl ht8)) ?_
       refine Aa rfl (Bw (Ac) Ab rfl (by omega) (by omega)) ?_
       refine Aa rfl (Ad (Ac)) ?_
       refine Ah <| Ae <| Af <| Ai fun ds => Aa rfl (Ag (Ac)) ?_
       refine Aa rfl (Ag (A8 rfl <| Al rfl <| A8 rfl <| Ar rfl <| Al rfl <| A8 rfl <| Ar rfl <| Aj rfl)) ?_
       refine Aa rfl (Bq (Ac)) ?_
       refine Aa rfl (Ao B4 (Ac)) ?_
       refine Aa rfl (Ao Br (Ac)) ?_
       refine Aa rfl (Ap B3 (Ac) (CellF.own hX.blk rfl).cell) ?_
       refine Aa rfl (Bp Cc (Ac) hX.r.eds.plain) ?_
       refine Aa rfl (Dh (A0 rfl <| Ar rfl <| Ac) (Ac)) ?_
       refine Ah <| Ae <| Aq (Ac) (decide_eq_true (by omega)) ?_
       refine Af <| Ai fun ds => Aa rfl (Ad Ab) ?_
       refine Ah <| Ae <| A4 <| Bd (A9 (A9 (Bd (Bd (A9 (A9 (Bd (A9 ?_))))))))
       refine Aw rfl (.tmp (Ac) .nil) ?_
       show _ = _
       rw [isT_no hlt hfalse]; rfl
      ·
       refine Ay <| Ae <| Af <| Az <| Af <| Ai fun ds => Aa rfl (Ag (A0 rfl <| Au rfl ht8)) ?_
       refine Aa rfl (Bw (Ac) Ab rfl (by omega) (by omega)) ?_
       refine Aa rfl (Ad (Ac)) ?_
       refine Ah <| Ae <| Af <| Ai fun ds => Aa rfl (Ag (Ac)) ?_
       refine Aa rfl (Ag (A8 rfl <| Al rfl <| A8 rfl <| Ar rfl <| Al rfl <| A8 rfl <| Ar rfl <| Aj rfl)) ?_
       refine Aa rfl (Bq (Ac)) ?_
       refine Aa rfl (Ao B4 (Ac)) ?_
       refine Aa rfl (Ao Br (Ac)) ?_
       refine Aa rfl (Ap B3 (Ac) (CellF.own hX.blk rfl).cell) ?_
       refine Aa rfl (Bp Cc (Ac) hX.r.eds.plain) ?_
       refine Aa rfl (Dh (A0 rfl <| Ar rfl <| Ac) (Ac)) ?_
       refine Ah <| Ae <| Am (Ac) (decide_eq_false (by omega)) ?_
       refine Ay <| Ba <| Ae <| Ai fun ds => Aa rfl (Ag (A8 rfl <| A0 rfl <| Ar rfl <| Ak rfl <| Au rfl ht7)) ?_
       refine Aa rfl (Bl (k := a) Cm (A6 rfl <| Al rfl <| A8 rfl <| Ar rfl <| Al rfl <| A8 rfl <| Ak rfl <| Ac) (Ac) rfl ha5) ?_
       refine Aa rfl (Ap Bk (Ac) (Cell.own 0 rfl (Ce ha5))) ?_
       refine Aa rfl (Ad (Ac)) ?_
       refine Ah <| Ae ⟨_, m2 - 1, Off.eq (Dj rfl <| ou2 rfl <| ou1 rfl <| Be), by omega, ?_⟩
       exact ⟨st + 1, c, by omega, by omega, hcl, (A8 rfl <| A0 rfl <| Ac), by rw [← hc]; exact (Ac), by rw [hre, show l.length - st = (l.length - (st + 1)) + 1 by omega]; exact reach_step hc, rfl⟩
  ·
   refine Af <| Ai fun ds => Aa rfl (Bz (Au rfl hs15) (Al rfl <| Ak rfl <| Ac)) ?_
   refine Ah <| Ae <| Af <| Am (Ac) (by first | rfl | exact decide_eq_false (by omega)) ?_
   obtain rfl : k = l.length := by omega
   refine Bt ?_
   refine Bg <| Bg <| Bj <| Ae <| Af <| Ai fun ds => Aa rfl (Ag (Ak rfl <| Au rfl hs5)) ?_
   refine Aa rfl (Bx (Ac) Ab) ?_
   refine Aa rfl (Ad (Ac)) ?_
   refine Ah <| Ae <| A4 <| Aw rfl (.tmp (Ac) .nil) ?_
   show _ = _
   rw [isT_all hno]; rfl
end Go.Proofs.Ytccogmkhijgelaa
namespace Go.Proofs.Ytccogmkhijgelaa
/-- An error 'z', or that of the first so many numbers. -/
def gTo (z : Int) (p : Int → Bool) (l : List Int) (k : Nat) : Int := if z ≠ 0 then z else if ((l.take k).any fun x => !(p x)) = true then 7 else 0
section
variable {z : Int} {p : Int → Bool} {l : List Int}
theorem gTo_zero : gTo z p l 0 = z := by
 unfold gTo
 by_cases h : z = 0
 · rw [if_neg (fun k => k h), h]; simp
 · rw [if_pos h]
theorem gTo_ok (h0 : z = 0) (j : Nat) : gTo z p l j = if ((l.take j).any fun x => !(p x)) = true then 7 else 0 := by unfold gTo; rw [if_neg (fun q => q h0)]
theorem gTo_stop {k : Nat} (h : gTo z p l k ≠ 0) : gTo z p l k = gTo z p l l.length := by
 by_cases h0 : z = 0
 · rw [gTo_ok h0] at h
   have h1 : ((l.take k).any fun x => !(p x)) = true := by
     cases hc : (l.take k).any fun x => !(p x) with
     | true => rfl
     | false => rw [hc] at h; simp at h
   rw [gTo_ok h0, gTo_ok h0, if_pos h1, if_pos]
   rw [List.any_eq_true] at h1 ⊢
   obtain ⟨x, hx, hb⟩ := h1
   exact ⟨x, by rw [List.take_length]; exact List.mem_of_mem_take hx, hb⟩
 · unfold gTo; rw [if_pos h0, if_pos h0]
theorem gTo_none (h : gTo z p l l.length = 0) : z = 0 ∧ ∀ x ∈ l, p x = true := by
 by_cases h0 : z = 0
 · rw [gTo_ok h0, List.take_length] at h
   have h1 : (l.any fun x => !(p x)) = false := by
     cases hc : l.any fun x => !(p x) with
     | false => rfl
     | true => rw [hc] at h; simp at h
   rw [List.any_eq_false] at h1
   exact ⟨h0, fun x hx => by simpa using h1 x hx⟩
 · unfold gTo at h; rw [if_pos h0] at h; exact absurd h h0
end
def treeZ (s : Stm) (l : List Int) : Int := if (checkT s).2.2 ≠ 0 then (checkT s).2.2 else if l.length ≠ s.editions.length then 3 else 0
def inT (l : List Int) (z : Int) : Bool := inB (-1) (l.length - 1) z
def trTo (s : Stm) (l : List Int) (k : Nat) : Int := gTo (treeZ s l) (inT l) l k
def treeErr (s : Stm) (l : List Int) : Int := if trTo s l l.length ≠ 0 then trTo s l l.length else if isT l = false then 2 else 0
theorem treeZ_bad {s : Stm} {l : List Int} (h : (checkT s).2.2 ≠ 0) : treeZ s l = (checkT s).2.2 := if_pos h
theorem treeZ_len {s : Stm} {l : List Int} (h : (checkT s).2.2 = 0) (h2 : l.length ≠ s.editions.length) : treeZ s l = 3 := by unfold treeZ; rw [if_neg (fun k => k h), if_pos h2]
theorem treeZ_ok {s : Stm} {l : List Int} (h : (checkT s).2.2 = 0) (h2 : l.length = s.editions.length) : treeZ s l = 0 := by unfold treeZ; rw [if_neg (fun k => k h), if_neg (fun k => k h2)]
theorem trTo_in {s : Stm} {l : List Int} (h : trTo s l l.length = 0) : (checkT s).2.2 = 0 ∧ l.length = s.editions.length ∧ TreeIn l := by
 obtain ⟨h1, h2⟩ := gTo_none h
 unfold treeZ at h1
 split at h1
 · rename_i h3; exact absurd h1 h3
 · rename_i h3
   split at h1
   · cases h1
   · rename_i h4
     refine ⟨Classical.not_not.1 h3, Classical.not_not.1 h4, fun i hi => ?_⟩
     have := h2 _ (List.getElem_mem hi)
     rw [up_at hi] at this
     simp [inT, inB] at this
     omega
theorem treeErr_stop {s : Stm} {l : List Int} {k : Nat} (h : trTo s l k ≠ 0) : treeErr s l = trTo s l k := by
 have e : trTo s l k = trTo s l l.length := gTo_stop h
 unfold treeErr; rw [if_pos (by rw [← e]; exact h), e]
theorem treeErr_in {s : Stm} {l : List Int} (h : trTo s l l.length = 0) : treeErr s l = if isT l = false then 2 else 0 := by unfold treeErr; rw [if_neg (fun k => k h)]
theorem treeErr_ok {s : Stm} {l : List Int} (h : treeErr s l = 0) : (checkT s).2.2 = 0 ∧ l.length = s.editions.length ∧ TreeIn l ∧ isT l = true := by
 unfold treeErr at h
 split at h
 · rename_i h1; exact absurd h h1
 · rename_i h1
   split at h
   · cases h
   · rename_i h2
     obtain ⟨a, b, c⟩ := trTo_in (Classical.not_not.1 h1)
     exact ⟨a, b, c, by simpa using h2⟩
end Go.Proofs.Ytccogmkhijgelaa
namespace Go.Proofs.Ytccogmkhijgelaa
open Go.RowKit
section
variable {P : Program} {n : Nat} {B : Base} {e : Env} {σ : St} {d : Option Nat} {ty : TypeId} {pos : String} {af : Array Edge} {gd : Option (Nat × Bool)}
inductive OutE {α : Type} (p : α) : List α → List α → Prop
 | here {us : List α} : OutE p (p :: us) us
 | next {u : α} {us us' : List α} : OutE p us us' → OutE p (u :: us) (u :: us')
 | skip {S us us' : List α} : OutE p us us' → OutE p (S ++ us) (S ++ us')
 | lastS {S : List α} : OutE p (S ++ [p]) S
inductive OutB {α : Type} (R : List α) : List α → List α → Prop
 | here {us : List α} : OutB R (R ++ us) us
 | last : OutB R R []
 | next {u : α} {us us' : List α} : OutB R us us' → OutB R (u :: us) (u :: us')
 | skip {S us us' : List α} : OutB R us us' → OutB R (S ++ us) (S ++ us')
 | lastS {S : List α} : OutB R (S ++ R) S
theorem OutE.perm {α : Type} {p : α} {H H1 : List α} (h : OutE p H H1) : H.Perm (p :: H1) := by
 induction h with
 | here => exact .refl _
 | next _ ih => exact (ih.cons _).trans (.swap _ _ _)
 | skip _ ih => exact (ih.append_left _).trans List.perm_middle
 | lastS => exact List.perm_append_comm
theorem OutB.perm {α : Type} {R H H1 : List α} (h : OutB R H H1) : H.Perm (R ++ H1) := by
 induction h with
 | here => exact .refl _
 | last => rw [List.append_nil]
 | next _ ih => exact (ih.cons _).trans List.perm_middle.symm
 | skip _ ih =>
   refine (ih.append_left _).trans ?_
   rw [← List.append_assoc, ← List.append_assoc]
   exact List.perm_append_comm.append_right _
 | lastS => exact List.perm_append_comm
inductive PickB {α : Type} : List α → List α → Prop
 | nil {H : List α} : PickB H []
 | all {H : List α} : PickB H H
 | one {p : α} {H H1 H' : List α} : OutE p H H1 → PickB H1 H' → PickB H (p :: H')
 | blk {R H H1 H' : List α} : OutB R H H1 → PickB H1 H' → PickB H (R ++ H')
 | lastb {R H H1 : List α} : OutB R H H1 → PickB H R
theorem PickB.sub {α : Type} {H H' : List α} (h : PickB H H') : ∃ D, H.Perm (H' ++ D) := by
 induction h with
 | @nil H => exact ⟨H, by simp⟩
 | all => exact ⟨[], by simp⟩
 | one ho _ ih => obtain ⟨D, hD⟩ := ih; exact ⟨D, ho.perm.trans (hD.cons _)⟩
 | blk ho _ ih => obtain ⟨D, hD⟩ := ih; exact ⟨D, by rw [List.append_assoc]; exact ho.perm.trans (hD.append_left _)⟩
 | lastb ho => exact ⟨_, ho.perm⟩
theorem Holds.pickB {w : World} (h : Holds B σ w) {H' : List (Nat × Obj)} (hp : PickB σ.H H') : Holds B ⟨σ.F, H'⟩ w := by
 obtain ⟨D, hD⟩ := hp.sub
 refine h.perm (fun p hm => hD.symm.mem_iff.1 (List.mem_append_left _ hm)) fun hn => ?_
 have := (hD.map (·.1)).nodup_iff.1 hn
 rw [List.map_append, List.nodup_append] at this
 exact this.1
theorem WC_pickB {c : Code} {Q : Exit → Env → St → Prop} {H' : List (Nat × Obj)} (hp : PickB σ.H H') (h : WC P n B c Q e ⟨σ.F, H'⟩) : WC P n B c Q e σ := Dp (fun _ _ hw => hw.pickB hp) h
theorem WX_orderB {ops : Array Oper} {Q : Exit → Env → St → Prop} {σS : St} {ts : List Nat} {fuel : Nat} {listed : Array Bool} {H' : List (Nat × Obj)} (hp : PickB σ.H H') (h : WX P n B ops Q σS ts fuel listed e ⟨σ.F, H'⟩) : WX P n B ops Q σS ts fuel listed e σ := WX_imp (fun _ hw => hw.pickB hp) h
end
end Go.Proofs.Ytccogmkhijgelaa
namespace Go.Proofs.Ytccogmkhijgelaa
open Go.RowKit
theorem none_le {F F' : Heap} (hF : F.le F') {b : Nat} (h : F' b = none) : F b = none := by
 cases hb : F b with
 | none => rfl
 | some o => have := hF _ _ hb; rw [h] at this; cases this
theorem ext_le {F0 F F' : Heap} (h0 : F0.le F) (hF : F.le F') {b : Nat} (h : F' b = F0 b) : F b = F0 b := by
 cases h2 : F b with
 | some o => rw [← h]; exact (hF _ _ h2).symm
 | none => exact (none_le h0 h2).symm
theorem Holds.weak {B : Base} {F F' : Heap} {H : List (Nat × Obj)} {w : World} (h : Holds B ⟨F', H⟩ w) (hF : F.le F') (h0 : B.F0.le F) : Holds B ⟨F, H⟩ w :=
 ⟨h.os, h.tape, h.output, h.size, h.old, fun b o hb => h.sub b o (hF b o hb), fun p hp => let ⟨h1, h2, h3⟩ := h.own p hp; ⟨h1, none_le hF h2, h3⟩, h.nodup, fun b hb => ext_le h0 hF (h.ext b hb), h0,
   fun D hD => let ⟨h1, h2, h3, h4⟩ := h.marks D hD; ⟨h1, none_le hF h2, h3, h4⟩, h.dnodup⟩
end Go.Proofs.Ytccogmkhijgelaa
namespace Go.Proofs.Ytccogmkhijgelaa
open Go.RowKit
section
variable {P : Program} {n : Nat} {B : Base} {e : Env} {σ : St} {d : Option Nat} {ty : TypeId} {pos : String} {af : Array Edge} {gd : Option (Nat × Bool)}
theorem WL_order {ops : Array Oper} {Q : Exit → Env → St → Prop} {l : List Oper} {H' : List (Nat × Obj)} (hp : Pick σ.H H') (h : WL P n B ops Q l e ⟨σ.F, H'⟩) : WL P n B ops Q l e σ := WL_imp (fun _ hw => hw.pick hp) h
/-- The same where the blocks that one was handed stand among the others. -/
theorem Holds.freezeRM {w : World} (hw : Holds B σ w) {E s k : Nat} {v : Value} {cs : List Value} {R TT : List (Nat × Obj)} {f g : List (Nat × Obj) → List (Nat × Obj)} (hM : ∀ m ∈ B.M, m ∈ keys (f (g []))) (hown : Own E s v k cs R) (hH : Hole σ.H TT f) (hR : Tail TT R g) :
   ∃ F', σ.F.le F' ∧ (∀ p ∈ R, F' p.1 = some p.2) ∧ Holds B ⟨F', f (g [])⟩ w := by
 obtain ⟨A, q1, q2⟩ := hH.eq
 obtain ⟨C, r1, r2⟩ := hR.eq
 rw [q2, r2] at hM ⊢
 simp only [List.nil_append] at hM ⊢
 match R, hown with
 | [], _ =>
   have hs : σ = ⟨σ.F, A ++ C⟩ := by
     cases σ with
     | mk F H => simp only at q1; rw [q1, r1]; simp
   exact ⟨σ.F, Heap.le_refl _, by simp, by rw [← hs]; exact hw⟩
 | [(b, o)], _ =>
   have hi : σ.H[A.length]? = some (b, o) := by rw [q1, r1]; simp
   have hm := hw.own _ (List.mem_of_getElem? hi)
   have hb : B.w0.heap.size ≤ b := by
     rcases hm.2.2 with h1 | h1
     · exact h1
     · have hk := hM _ h1
       have hnd := hw.nodup
       rw [q1, r1] at hnd
       simp only [List.map_append, List.map_cons, List.map_nil] at hnd
       rw [List.nodup_append] at hnd
       obtain ⟨-, n2, n3⟩ := hnd
       have hk' : b ∈ (A ++ C).map (·.1) := hk
       rw [List.map_append] at hk'
       rcases List.mem_append.1 hk' with hk' | hk'
       · exact absurd rfl (n3 _ hk' b (by simp))
       · simp at n2 hk'
         obtain ⟨x, hx⟩ := hk'
         exact absurd hx (n2.1 x)
   have hfz := hw.freeze hi hb
   have herase : σ.H.eraseIdx A.length = A ++ C := by
     rw [q1, r1, List.eraseIdx_append_of_length_le (Nat.le_refl _)]; simp
   rw [herase] at hfz
   exact ⟨_, grown_le hm.2.1, fun p hp => by simp at hp; subst hp; exact grown_here, hfz⟩
theorem WC_freezeRM {c : Code} {Q : Exit → Env → St → Prop} {E s k : Nat} {v : Value} {cs : List Value} {R TT : List (Nat × Obj)} {f g : List (Nat × Obj) → List (Nat × Obj)} (hM : ∀ m ∈ B.M, m ∈ keys (f (g []))) (hown : Own E s v k cs R) (hH : Hole σ.H TT f) (hR : Tail TT R g)
   (h : ∀ F', σ.F.le F' → (∀ p ∈ R, F' p.1 = some p.2) → WC P n B c Q e ⟨F', f (g [])⟩) : WC P n B c Q e σ := fun ds a w ha hw => by
 obtain ⟨F', k1, k2, k3⟩ := hw.freezeRM (B := B.at ds) hM hown hH hR
 exact h F' k1 k2 ds a w ha k3
/-- A key that a map does not have is put into it. -/
theorem x_updateN {M K E i b : Nat} {x y y2 : Operand} {z k v : Value} {es : List (Value × Value)} {H' : List (Nat × Obj)} {Q : Value → St → Prop} (hT : MapT P M K E z) (hx : ev e x = .map (some b)) (hy : ev e y = k) (hy2 : ev e y2 = v) (hi : σ.H[i]? = some (b, mapO es)) (hk : IsK P K k) (hall : ∀ p ∈ es, IsK P K p.1) (hno : ∀ p ∈ es, p.1 ≠ k)
   (hH : SetL σ.H i (b, mapO (es ++ [(k, v)])) H') (hn : Q undef ⟨σ.F, H'⟩) : OpX P n B ⟨d, .mapUpdate M x y y2, ty, pos, af, gd⟩ e σ Q := .run fun w hw => by
 have hb := (hw.own _ (List.mem_of_getElem? hi)).1
 obtain ⟨l, hl⟩ := hk
 have hc := fun em => hT.keyed.check w em hl
 have hf : (Instr.findKey K k (es.zipIdx.map entryO)).run P w = .ok none w := by
   rcases find_map hT.keyed ⟨l, hl⟩ hall w with ⟨h, -⟩ | ⟨j, u, -, h⟩
   · exact h
   · exact absurd rfl (hno _ (List.mem_of_getElem? h))
 have hobj : Obj.map ((es.zipIdx.map entryO).toArray.push ⟨k, v, es.length⟩) (es.length + 1) = mapO (es ++ [(k, v)]) := by
   unfold mapO
   congr 1
   · simp [List.zipIdx_append, entryO]
   · simp
 rw [hH.eq.1] at hn
 refine ⟨_, _, _, .inr ⟨?_, rfl⟩, hw.setObj hi (o' := mapO (es ++ [(k, v)])), hn⟩
 have hg := run_getMap (P := P) hb
 have hs := run_setMap (P := P) (es' := (es ++ [(k, v)])) hb
 simp only [execOp, hx, hy, hy2, Instr.mapUpdate, Sem.run_bind, B7 hT.under, Result.andThen_ok, hg]
 simp only [mapO, hc, Result.andThen_ok, hf, Sem.run_bind]
 rw [hobj, hs]
 simp [mapO]
end
end Go.Proofs.Ytccogmkhijgelaa
namespace Go.Proofs.Ytccogmkhijgelaa
open Go.RowKit
section
variable {P : Program} {n : Nat} {B : Base} {e : Env} {σ : St} {d : Option Nat} {ty : TypeId} {pos : String} {af : Array Edge} {gd : Option (Nat × Bool)}
theorem q_sliceArr {T E s n b : Nat} {x : Operand} (hT : P.underlying T = some (.array n E)) (hE : SizeT P E s) (hx : ev e x = .pointer (some ⟨b, 0, none⟩)) :
   OpR P B ⟨d, .slice T x none none none, ty, pos, af, gd⟩ e σ (.slice (some ⟨b, 0, none⟩) n n) := fun w _ => by
 have hs := Ci (P := P) (T := E) (s := s) hE
 simp [execOp, hx, Instr.sliceAt, Instr.sureAddr, Instr.sliceBounds, B7 hT, hs, Addr.add]
theorem setAt_to : ∀ (vs pre : List Value) (c : List Value), vs.length ≤ c.length → setAt (pre ++ c).toArray pre.length vs = (pre ++ (vs ++ c.drop vs.length)).toArray
 | [], pre, c, _ => by simp [setAt]
 | v :: vs, pre, [], h => by simp at h
 | v :: vs, pre, u :: c, h => by
   unfold setAt
   have : (pre ++ u :: c).toArray.setIfInBounds pre.length v = ((pre ++ [v]) ++ c).toArray := by simp
   rw [this]
   have := setAt_to vs (pre ++ [v]) c (by simpa using h)
   simp only [List.length_append, List.length_singleton] at this
   rw [this]; simp
/-- 'copy(x, y)' of no more than there is room for. -/
theorem x_copyTo {T E s i b m k c TB : Nat} {x y : Operand} {u : Value} {l l' news : List Value} {H' : List (Nat × Obj)} {K : Value → St → Prop} {ts : Array TypeId} (hts : ts[0]? = some T) (hT : SliceT P T E s) (hx : ev e x = .slice (some ⟨b, 0, none⟩) m c) (hy : ev e y = u)
   (hi : σ.H[i]? = some (b, bx TB l)) (hl : l.length = m * s) (hsrc : Src σ u k news s) (hkm : k ≤ m) (hnl : news.length = k * s) (hc : news ++ l.drop news.length = l') (hH : SetL σ.H i (b, bx TB l') H') (hn : K (.int .i64 k) ⟨σ.F, H'⟩) :
   OpX P n B ⟨d, .call ⟨.builtin .copy, #[x, y], ts⟩, ty, pos, af, gd⟩ e σ K := .run fun w hw => by
 subst hc
 have hb := (hw.own _ (List.mem_of_getElem? hi)).1
 have hlen := hsrc.len (P := P) w
 have hcells := hsrc.run (P := P) hw
 obtain ⟨h1, h2, -⟩ := hsrc
 have hle : news.length ≤ l.length := by rw [hnl, hl]; exact Nat.mul_le_mul_right s hkm
 obtain ⟨w', e1, e2, e3, e4, e5, e6, e7⟩ := Dy (P := P) news 0 0 l.toArray w hb (by simp; omega) h2
 have hset := setAt_to news [] l hle
 simp only [List.nil_append, List.length_nil] at hset
 rw [Nat.zero_add, hset] at e6
 have hs := Ci (P := P) (T := E) (s := s) hT.2
 rw [hH.eq.1] at hn
 have hmin : Nat.min k m = k := Nat.min_eq_left hkm
 refine ⟨_, _, _, .inl ?_, hw.write hi e2 e3 e4 e5 e6 e7, hn⟩
 simp only [execOp, resolve, invoke, builtin, Builtin.copy_]
 simp [B7 hT.1, hs, hlen, hcells, hmin, e1, goInt, hts, hx, hy]
end
end Go.Proofs.Ytccogmkhijgelaa
namespace Go.Proofs.Ytccogmkhijgelaa
open Go.RowKit
theorem Di : ZeroT Try.prog 100 (.agg #[.int .i64 0, .int .i64 0, .int .i64 0, .int .i64 0, .int .i64 0]) := Cv (by kernel_rfl)
theorem Bs : AggT Try.prog 100 5 := aggT_of (by kernel_rfl)
theorem bd_106 : Body Try.prog 106 := Bo (by kernel_rfl)
theorem Dn : SizeT Try.prog 100 5 := Co (by kernel_rfl)
theorem treeC_copy {l : List Int} (h : l.length ≤ 5) : l.flatMap intE ++ (treeC []).drop (l.flatMap intE).length = treeC l := by
 have e : l.flatMap intE = l.map fun z => .int .i64 z := by
   induction l with
   | nil => rfl
   | cons a l ih => rw [List.flatMap_cons, ih (by simp at h; omega)]; rfl
 rw [e]
 apply List.ext_getElem
 · simp [treeC]; omega
 · intro i h1 h2
   have hi : i < 5 := by simpa [treeC] using h2
   by_cases hl : i < l.length
   · rw [List.getElem_append_left (by simpa using hl)]
     simp [treeC, upN, hl]
   · rw [List.getElem_append_right (by simp; omega)]
     simp [treeC, upN, hl]
theorem Cz {l : List Int} : ∀ u ∈ treeC l, u.oneCell' = true := by
 intro u hu
 obtain ⟨i, -, rfl⟩ := List.mem_map.1 hu
 rfl
theorem trTo_any {s : Stm} {l : List Int} (h0 : (checkT s).2.2 = 0) (hle : l.length = s.editions.length) : trTo s l l.length = if (l.any fun x => !(inB (-1) (l.length - 1) x)) = true then 7 else 0 := by
 unfold trTo; rw [gTo_ok (treeZ_ok h0 hle), List.take_length]; rfl
def EnterR (F : Heap) (u : Value) (Hn : List (Nat × Obj)) (vp ve : Value) (ps : List (Value × Edn)) (s : Stm) (l : List Int) : Prop := ∃ b kb, u = .tuple #[.pointer (some ⟨b, 0, none⟩), treeV l, .int .i64 0] ∧ StmX F b vp ve (.map (some kb)) ps s ∧ Hn = [(kb, mapO [])]
set_option maxRecDepth 100000 in
theorem enter_ok {F : Heap} {vp ve : Value} {ps : List (Value × Edn)} {s : Stm} (hr : StmR F vp ve ps s) {v : Value} {l : List Int} (hl : Ints F v l) (hok : treeErr s l = 0) : OkN Try.prog 68 [.agg #[vp, ve], v].toArray F fun u F' Hn => EnterR F' u Hn vp ve ps s l := by
 have hle0 : F.le F := Heap.le_refl _
 refine OkN.intro Try.func68 rfl Try.ntmps68 rfl fun w0 => ?_
 have hL := hl.plain.lt
 obtain ⟨h0, hle, hin, hT⟩ := treeErr_ok hok
 have hv := Db h0
 have hne := hv.ne
 have hlen := hr.len
 have hl5 : l.length ≤ 5 := by omega
 have hany : (l.any fun x => !(inB (-1) (l.length - 1) x)) = false := by rw [List.any_eq_false]; intro x hx; obtain ⟨i, hi, rfl⟩ := List.getElem_of_mem hx; rw [up_at hi]; have := hin i hi; simp [inB]; omega
 refine Af <| Ai fun ds => Bb rfl (B9 (Aj rfl) rfl fun b1 hb1 nb1 => ?_)
 refine Aa rfl (Ad Ab) ?_
 refine Bb rfl (B2 Di rfl fun b2 hb2 nb2 => ?_)
 refine Aa rfl (Ad Ab) ?_
 refine Ah <| Ae <| Af <| Ai fun ds => Aa rfl (A7 B8 (Ar rfl <| Ak rfl <| Ac) rfl rfl (A2 1 rfl)) ?_
 refine Bb rfl (C6 bd_65 Ax (.cons (Ac) .nil) (open_ok hr h0) fun v3 F4 R7 hr5 hF6 => ?_)
 replace hr := hr.mono hF6
 replace hl := hl.mono hF6
 replace hle0 := Heap.le_trans hle0 hF6
 obtain ⟨ba, kb, rfl, hX, rfl⟩ := hr5
 refine Aa rfl (Ag (Ac)) ?_
 refine Aa rfl (As (Ac) rfl) ?_
 refine Aa rfl (As (Ak rfl <| Ac) rfl) ?_
 refine Aa rfl (Ad (Ak rfl <| Ac)) ?_
 refine Aa rfl (Ad (Ak rfl <| Ac)) ?_
 refine Ah <| Ae <| Af <| Az <| Af <| Ai fun ds => Aa rfl (Ag (Ac)) ?_
 refine Aa rfl (B6 (Ac) Ab) ?_
 refine Aa rfl (Ad (Ac)) ?_
 refine Ah <| Ae <| Am (Ac) (by decide) ?_
 refine Af <| Ai fun ds => Aa rfl (Ag (A8 rfl <| A0 rfl <| Ar rfl <| Aj rfl)) ?_
 refine Aa rfl (Bp Bm (Ac) hl.plain) ?_
 refine Aa rfl (Ao Br (A8 rfl <| A0 rfl <| Ar rfl <| Ak rfl <| Ac)) ?_
 refine Aa rfl (Ap B3 (Ac) (Cell.own 1 rfl rfl)) ?_
 refine Aa rfl (Bp Cc (Ac) hr.eds.plain) ?_
 refine Aa rfl (B6 (Ar rfl <| Ak rfl <| Ac) (Ac)) ?_
 refine Aa rfl (Ad (Ac)) ?_
 refine Ah <| Ae <| Am (Ac) (decide_eq_false (by omega)) ?_
 refine Af <| Ai fun ds => Aa rfl (Ag (A6 rfl <| A0 rfl <| Ak rfl <| Aj rfl)) ?_
 refine Aa rfl (Bp Bm (Ac) hl.plain) ?_
 refine Aa rfl (q_sub (Ac) Ab rfl (by omega) (by omega)) ?_
 refine Aa rfl (Ag (A6 rfl <| A8 rfl <| Aj rfl)) ?_
 refine B0 rfl (Bc Dk Ax (.cons Ab (.cons (Ak rfl <| Ac) (.cons (Ac) .nil))) (Cd _ _ hl) (fun _ _ h => h)) ?_
 refine Aa rfl (Ad (Ac)) ?_
 refine Ah <| Ae <| Am (Ac) hany ?_
 refine Ay <| Ba <| Ae <| Af <| Ai fun ds => Aa rfl (q_sliceArr (s := 1) Try.underlying100 (Co (by kernel_rfl)) (A6 rfl <| A8 rfl <| Ac)) ?_
 refine Aa rfl (Ag (A6 rfl <| A8 rfl <| A0 rfl <| Aj rfl)) ?_
 refine Bb rfl (x_copyTo (s := 1) rfl Bm (Ak rfl <| Ac) (Ac) (i := 0) rfl rfl hl.srcInt (by omega) (by rw [flat_len (enc := intE) (s := 1) (fun _ => rfl)]) (treeC_copy hl5) (.here) ?_)
 refine Ah <| Ae <| Af <| Af <| Ai fun ds => Aa rfl (Ag (A6 rfl <| A0 rfl <| Ac)) ?_
 refine Aa rfl (A7 Bs (A6 rfl <| A8 rfl <| A0 rfl <| Ac) rfl rfl (A2 0 rfl)) ?_
 refine B0 rfl (Bc bd_106 Ax (.cons (Ak rfl <| Ac) (.cons (Ac) .nil)) (whole_ok hX hin hle hv) (fun _ _ h => h)) ?_
 refine Aa rfl (C4 (Ac)) ?_
 refine Ah <| Ae <| Am (Ac) (by rw [hT]; rfl) ?_
 refine Ay <| Ae <| Af ?_
 have hleS := hle0
 refine Cu (.inl rfl) (fun _ _ h => h) (.cons_cons _ <| .cons_cons _ <| .cons_cons _ <| .refl _) [] (by kernel_rfl) fun ds => ?_
 refine A5 0 rfl (by kernel_rfl) (by kernel_rfl) (by kernel_rfl) (by kernel_rfl) rfl rfl (fun _ h => h.drop (.cons_cons _ <| .cons_cons _ <| .cons_cons _ <| .refl _)) (fun _ _ _ h => h) (Ag (A6 rfl <| A8 rfl <| Ac)) ?_
 refine A5 1 rfl (by kernel_rfl) (by kernel_rfl) (by kernel_rfl) (by kernel_rfl) rfl rfl (fun _ h => h.drop (.cons_cons _ <| .cons_cons _ <| .cons_cons _ <| .refl _)) (fun _ _ _ h => h) (A7 Bs (Bf rfl <| Ac) rfl rfl (A2 0 rfl)) ?_
 refine A5 2 rfl (by kernel_rfl) (by kernel_rfl) (by kernel_rfl) (by kernel_rfl) rfl rfl (fun _ h => h.drop (.cons_cons _ <| .cons_cons _ <| .cons_cons _ <| .refl _)) (fun _ _ _ h => h) (Ad (Ak rfl <| Ac)) ?_
 refine WX_x0 3 rfl (by kernel_rfl) (Cb Dn (Bf rfl <| Ar rfl <| Ac) (Ak rfl <| Ac) (i := 0) rfl rfl rfl rfl Cz (.here) ⟨fun _ _ => (fun _ h => h.drop (.cons_cons _ <| .cons_cons _ <| .cons_cons _ <| .refl _)), ?_⟩)
 refine A5 4 rfl (by kernel_rfl) (by kernel_rfl) (by kernel_rfl) (by kernel_rfl) rfl rfl (fun _ h => h.drop (.cons_cons _ <| .cons_cons _ <| .cons_cons _ <| .refl _)) (fun _ _ _ h => h) (Ad Ab) ?_
 refine C2 (by kernel_rfl) ?_ _
 refine Ae <| A4 <| Ds rfl (.tmp (Ak rfl <| Ac) (.agg Bs (Bf rfl <| Ar rfl <| Ak rfl <| Ac) rfl rfl (A2 0 rfl) (.tmp (Ac) .nil))) (.cons _ <| .cons _ <| .refl _) ?_
 exact ⟨_, _, rfl, hX, rfl⟩
theorem tr_bad {s : Stm} {l : List Int} (h : (checkT s).2.2 ≠ 0) : treeErr s l = (checkT s).2.2 := by
 have e : trTo s l 0 = (checkT s).2.2 := (gTo_zero).trans (treeZ_bad h)
 rw [treeErr_stop (k := 0) (by rw [e]; exact h), e]
theorem tr_len {s : Stm} {l : List Int} (h : (checkT s).2.2 = 0) (h2 : l.length ≠ s.editions.length) : treeErr s l = 3 := by
 have e : trTo s l 0 = 3 := (gTo_zero).trans (treeZ_len h h2)
 rw [treeErr_stop (k := 0) (by rw [e]; decide), e]
theorem tr_out {s : Stm} {l : List Int} (h : (checkT s).2.2 = 0) (h2 : l.length = s.editions.length) (h3 : (l.any fun x => !(inB (-1) (l.length - 1) x)) = true) : treeErr s l = 7 := by
 have e := trTo_any h h2
 rw [if_pos h3] at e
 rw [treeErr_stop (by rw [e]; decide), e]
theorem tr_in {s : Stm} {l : List Int} (h : (checkT s).2.2 = 0) (h2 : l.length = s.editions.length) (h3 : (l.any fun x => !(inB (-1) (l.length - 1) x)) = false) : trTo s l l.length = 0 := by
 rw [trTo_any h h2, if_neg (by rw [h3]; simp)]
set_option maxRecDepth 100000 in
theorem enter_bad {F : Heap} {vp ve : Value} {ps : List (Value × Edn)} {s : Stm} (hr : StmR F vp ve ps s) {v : Value} {l : List Int} (hl : Ints F v l) (hbad : treeErr s l ≠ 0) : Ok Try.prog 68 [.agg #[vp, ve], v].toArray F fun u _ => ∃ l2, u = .tuple #[.pointer none, treeV l2, .int .i64 (treeErr s l)] := by
 have hle0 : F.le F := Heap.le_refl _
 refine Ok.intro Try.func68 rfl Try.ntmps68 rfl fun w0 => ?_
 have hL := hl.plain.lt
 have hlen := hr.len
 by_cases h0 : (checkT s).2.2 = 0
 ·
  have hv := Db h0
  have hne := hv.ne
  refine Af <| Ai fun ds => Bb rfl (B9 (Aj rfl) rfl fun b1 hb1 nb1 => ?_)
  refine Aa rfl (Ad Ab) ?_
  refine Bb rfl (B2 Di rfl fun b2 hb2 nb2 => ?_)
  refine Aa rfl (Ad Ab) ?_
  refine Ah <| Ae <| Af <| Ai fun ds => Aa rfl (A7 B8 (Ar rfl <| Ak rfl <| Ac) rfl rfl (A2 1 rfl)) ?_
  refine Bb rfl (C6 bd_65 Ax (.cons (Ac) .nil) (open_ok hr h0) fun v3 F4 R7 hr5 hF6 => ?_)
  replace hr := hr.mono hF6
  replace hl := hl.mono hF6
  replace hle0 := Heap.le_trans hle0 hF6
  obtain ⟨ba, kb, rfl, hX, rfl⟩ := hr5
  refine Aa rfl (Ag (Ac)) ?_
  refine Aa rfl (As (Ac) rfl) ?_
  refine Aa rfl (As (Ak rfl <| Ac) rfl) ?_
  refine Aa rfl (Ad (Ak rfl <| Ac)) ?_
  refine Aa rfl (Ad (Ak rfl <| Ac)) ?_
  refine Ah <| Ae <| Af <| Az <| Af <| Ai fun ds => Aa rfl (Ag (Ac)) ?_
  refine Aa rfl (B6 (Ac) Ab) ?_
  refine Aa rfl (Ad (Ac)) ?_
  refine Ah <| Ae <| Am (Ac) (by decide) ?_
  by_cases hle : l.length = s.editions.length
  ·
   have hl5 : l.length ≤ 5 := by omega
   refine Af <| Ai fun ds => Aa rfl (Ag (A8 rfl <| A0 rfl <| Ar rfl <| Aj rfl)) ?_
   refine Aa rfl (Bp Bm (Ac) hl.plain) ?_
   refine Aa rfl (Ao Br (A8 rfl <| A0 rfl <| Ar rfl <| Ak rfl <| Ac)) ?_
   refine Aa rfl (Ap B3 (Ac) (Cell.own 1 rfl rfl)) ?_
   refine Aa rfl (Bp Cc (Ac) hr.eds.plain) ?_
   refine Aa rfl (B6 (Ar rfl <| Ak rfl <| Ac) (Ac)) ?_
   refine Aa rfl (Ad (Ac)) ?_
   refine Ah <| Ae <| Am (Ac) (decide_eq_false (by omega)) ?_
   by_cases hany : (l.any fun x => !(inB (-1) (l.length - 1) x)) = true
   ·
    refine Af <| Ai fun ds => Aa rfl (Ag (A6 rfl <| A0 rfl <| Ak rfl <| Aj rfl)) ?_
    refine Aa rfl (Bp Bm (Ac) hl.plain) ?_
    refine Aa rfl (q_sub (Ac) Ab rfl (by omega) (by omega)) ?_
    refine Aa rfl (Ag (A6 rfl <| A8 rfl <| Aj rfl)) ?_
    refine B0 rfl (Bc Dk Ax (.cons Ab (.cons (Ak rfl <| Ac) (.cons (Ac) .nil))) (Cd _ _ hl) (fun _ _ h => h)) ?_
    refine Aa rfl (Ad (Ac)) ?_
    refine Ah <| Ae <| Aq (Ac) hany ?_
    refine Af ?_
    have hleS := hle0
    refine Cu (.inl rfl) (fun _ _ h => h) (.cons_cons _ <| .cons_cons _ <| .cons_cons _ <| .refl _) [] (by kernel_rfl) fun ds => ?_
    refine A5 0 rfl (by kernel_rfl) (by kernel_rfl) (by kernel_rfl) (by kernel_rfl) rfl rfl (fun _ h => h.drop (.cons_cons _ <| .cons_cons _ <| .cons_cons _ <| .refl _)) (fun _ _ _ h => h) (A7 Bs (A6 rfl <| A8 rfl <| Ac) rfl rfl (A2 0 rfl)) ?_
    refine A5 1 rfl (by kernel_rfl) (by kernel_rfl) (by kernel_rfl) (by kernel_rfl) rfl rfl (fun _ h => h.drop (.cons_cons _ <| .cons_cons _ <| .cons_cons _ <| .refl _)) (fun _ _ _ h => h) (Ad Ab) ?_
    refine WX_x0 2 rfl (by kernel_rfl) (Cb Dn (A6 rfl <| A8 rfl <| Ar rfl <| Ac) (Ak rfl <| Ac) (i := 0) rfl rfl rfl rfl (by simp [Value.oneCell']) (.here) ⟨fun _ _ => (fun _ h => h.drop (.cons_cons _ <| .cons_cons _ <| .cons_cons _ <| .refl _)), ?_⟩)
    refine A5 3 rfl (by kernel_rfl) (by kernel_rfl) (by kernel_rfl) (by kernel_rfl) rfl rfl (fun _ h => h.drop (.cons_cons _ <| .cons_cons _ <| .cons_cons _ <| .refl _)) (fun _ _ _ h => h) (Ad Ab) ?_
    refine C2 (by kernel_rfl) ?_ _
    refine Ae <| A4 <| Bd (A9 ?_)
    refine Aw rfl (.tmp (Ak rfl <| Ac) (.agg Bs (A6 rfl <| A8 rfl <| Ar rfl <| Ak rfl <| Ac) rfl rfl (A2 0 rfl) (.tmp (Ac) .nil))) ?_
    rw [tr_out h0 hle hany]
    exact ⟨[], rfl⟩
   ·
    replace hany : (l.any fun x => !(inB (-1) (l.length - 1) x)) = false := by simpa using hany
    have hi0 := tr_in h0 hle hany
    obtain ⟨-, -, hin⟩ := trTo_in hi0
    refine Af <| Ai fun ds => Aa rfl (Ag (A6 rfl <| A0 rfl <| Ak rfl <| Aj rfl)) ?_
    refine Aa rfl (Bp Bm (Ac) hl.plain) ?_
    refine Aa rfl (q_sub (Ac) Ab rfl (by omega) (by omega)) ?_
    refine Aa rfl (Ag (A6 rfl <| A8 rfl <| Aj rfl)) ?_
    refine B0 rfl (Bc Dk Ax (.cons Ab (.cons (Ak rfl <| Ac) (.cons (Ac) .nil))) (Cd _ _ hl) (fun _ _ h => h)) ?_
    refine Aa rfl (Ad (Ac)) ?_
    refine Ah <| Ae <| Am (Ac) hany ?_
    have hT : isT l = false := by cases hq : isT l with | true => exact absurd (by rw [treeErr_in hi0, hq]; rfl) hbad | false => rfl
    refine Ay <| Ba <| Ae <| Af <| Ai fun ds => Aa rfl (q_sliceArr (s := 1) Try.underlying100 (Co (by kernel_rfl)) (A6 rfl <| A8 rfl <| Ac)) ?_
    refine Aa rfl (Ag (A6 rfl <| A8 rfl <| A0 rfl <| Aj rfl)) ?_
    refine Bb rfl (x_copyTo (s := 1) rfl Bm (Ak rfl <| Ac) (Ac) (i := 0) rfl rfl hl.srcInt (by omega) (by rw [flat_len (enc := intE) (s := 1) (fun _ => rfl)]) (treeC_copy hl5) (.here) ?_)
    refine Ah <| Ae <| Af <| Af <| Ai fun ds => Aa rfl (Ag (A6 rfl <| A0 rfl <| Ac)) ?_
    refine Aa rfl (A7 Bs (A6 rfl <| A8 rfl <| A0 rfl <| Ac) rfl rfl (A2 0 rfl)) ?_
    refine B0 rfl (Bc bd_106 Ax (.cons (Ak rfl <| Ac) (.cons (Ac) .nil)) (whole_ok hX hin hle hv) (fun _ _ h => h)) ?_
    refine Aa rfl (C4 (Ac)) ?_
    refine Ah <| Ae <| Aq (Ac) (by rw [hT]; rfl) ?_
    refine Af ?_
    have hleS := hle0
    refine Cu (.inl rfl) (fun _ _ h => h) (.cons_cons _ <| .cons_cons _ <| .cons_cons _ <| .refl _) [] (by kernel_rfl) fun ds => ?_
    refine A5 0 rfl (by kernel_rfl) (by kernel_rfl) (by kernel_rfl) (by kernel_rfl) rfl rfl (fun _ h => h.drop (.cons_cons _ <| .cons_cons _ <| .cons_cons _ <| .refl _)) (fun _ _ _ h => h) (A7 Bs (A6 rfl <| A8 rfl <| A0 rfl <| Ar rfl <| Ak rfl <| Ac) rfl rfl (A2 0 rfl)) ?_
    refine A5 1 rfl (by kernel_rfl) (by kernel_rfl) (by kernel_rfl) (by kernel_rfl) rfl rfl (fun _ h => h.drop (.cons_cons _ <| .cons_cons _ <| .cons_cons _ <| .refl _)) (fun _ _ _ h => h) (Ad Ab) ?_
    refine WX_x0 2 rfl (by kernel_rfl) (Cb Dn (Bf rfl <| Ak rfl <| Ac) (Ak rfl <| Ac) (i := 0) rfl rfl rfl rfl Cz (.here) ⟨fun _ _ => (fun _ h => h.drop (.cons_cons _ <| .cons_cons _ <| .cons_cons _ <| .refl _)), ?_⟩)
    refine A5 3 rfl (by kernel_rfl) (by kernel_rfl) (by kernel_rfl) (by kernel_rfl) rfl rfl (fun _ h => h.drop (.cons_cons _ <| .cons_cons _ <| .cons_cons _ <| .refl _)) (fun _ _ _ h => h) (Ad Ab) ?_
    refine C2 (by kernel_rfl) ?_ _
    refine Ae <| A4 <| A9 ?_
    refine Aw rfl (.tmp (Ak rfl <| Ac) (.agg Bs (Bf rfl <| Ar rfl <| Ac) rfl rfl (A2 0 rfl) (.tmp (Ac) .nil))) ?_
    rw [show treeErr s l = 2 by rw [treeErr_in hi0, hT]; rfl]
    exact ⟨l, rfl⟩
  ·
   refine Af <| Ai fun ds => Aa rfl (Ag (A8 rfl <| A0 rfl <| Ar rfl <| Aj rfl)) ?_
   refine Aa rfl (Bp Bm (Ac) hl.plain) ?_
   refine Aa rfl (Ao Br (A8 rfl <| A0 rfl <| Ar rfl <| Ak rfl <| Ac)) ?_
   refine Aa rfl (Ap B3 (Ac) (Cell.own 1 rfl rfl)) ?_
   refine Aa rfl (Bp Cc (Ac) hr.eds.plain) ?_
   refine Aa rfl (B6 (Ar rfl <| Ak rfl <| Ac) (Ac)) ?_
   refine Aa rfl (Ad (Ac)) ?_
   refine Ah <| Ae <| Aq (Ac) (decide_eq_true (by omega)) ?_
   refine Af ?_
   have hleS := hle0
   refine Cu (.inl rfl) (fun _ _ h => h) (.cons_cons _ <| .cons_cons _ <| .cons_cons _ <| .refl _) [] (by kernel_rfl) fun ds => ?_
   refine A5 0 rfl (by kernel_rfl) (by kernel_rfl) (by kernel_rfl) (by kernel_rfl) rfl rfl (fun _ h => h.drop (.cons_cons _ <| .cons_cons _ <| .cons_cons _ <| .refl _)) (fun _ _ _ h => h) (A7 Bs (A6 rfl <| Ar rfl <| Ac) rfl rfl (A2 0 rfl)) ?_
   refine A5 1 rfl (by kernel_rfl) (by kernel_rfl) (by kernel_rfl) (by kernel_rfl) rfl rfl (fun _ h => h.drop (.cons_cons _ <| .cons_cons _ <| .cons_cons _ <| .refl _)) (fun _ _ _ h => h) (Ad Ab) ?_
   refine WX_x0 2 rfl (by kernel_rfl) (Cb Dn (A6 rfl <| A0 rfl <| Ac) (Ak rfl <| Ac) (i := 0) rfl rfl rfl rfl (by simp [Value.oneCell']) (.here) ⟨fun _ _ => (fun _ h => h.drop (.cons_cons _ <| .cons_cons _ <| .cons_cons _ <| .refl _)), ?_⟩)
   refine A5 3 rfl (by kernel_rfl) (by kernel_rfl) (by kernel_rfl) (by kernel_rfl) rfl rfl (fun _ h => h.drop (.cons_cons _ <| .cons_cons _ <| .cons_cons _ <| .refl _)) (fun _ _ _ h => h) (Ad Ab) ?_
   refine C2 (by kernel_rfl) ?_ _
   refine Ae <| A4 <| Bd (A9 ?_)
   refine Aw rfl (.tmp (Ak rfl <| Ac) (.agg Bs (A6 rfl <| A0 rfl <| Ak rfl <| Ac) rfl rfl (A2 0 rfl) (.tmp (Ac) .nil))) ?_
   rw [tr_len h0 hle]
   exact ⟨[], rfl⟩
 ·
  refine Af <| Ai fun ds => Bb rfl (B9 (Aj rfl) rfl fun b8 hb8 nb8 => ?_)
  refine Aa rfl (Ad Ab) ?_
  refine Bb rfl (B2 Di rfl fun b9 hb9 nb9 => ?_)
  refine Aa rfl (Ad Ab) ?_
  refine Ah <| Ae <| Af <| Ai fun ds => Aa rfl (A7 B8 (Ar rfl <| Ak rfl <| Ac) rfl rfl (A2 1 rfl)) ?_
  refine B0 rfl (Bc bd_65 Ax (.cons (Ac) .nil) (open_bad hr h0) (fun _ _ h => h)) ?_
  refine Aa rfl (Ag (Ac)) ?_
  refine Aa rfl (As (Ac) rfl) ?_
  refine Aa rfl (As (Ak rfl <| Ac) rfl) ?_
  refine Aa rfl (Ad (Ak rfl <| Ac)) ?_
  refine Aa rfl (Ad (Ak rfl <| Ac)) ?_
  refine Ah <| Ae <| Af <| Az <| Af <| Ai fun ds => Aa rfl (Ag (Ac)) ?_
  refine Aa rfl (B6 (Ac) Ab) ?_
  refine Aa rfl (Ad (Ac)) ?_
  refine Ah <| Ae <| Aq (Ac) (decide_eq_true h0) ?_
  refine Af ?_
  have hleS := hle0
  refine Cu (.inl rfl) (fun _ _ h => h) (.cons_cons _ <| .cons_cons _ <| .refl _) [] (by kernel_rfl) fun ds => ?_
  refine A5 0 rfl (by kernel_rfl) (by kernel_rfl) (by kernel_rfl) (by kernel_rfl) rfl rfl (fun _ h => h.drop (.cons_cons _ <| .cons_cons _ <| .refl _)) (fun _ _ _ h => h) (A7 Bs (A8 rfl <| Ar rfl <| Ak rfl <| Ac) rfl rfl (A2 0 rfl)) ?_
  refine A5 1 rfl (by kernel_rfl) (by kernel_rfl) (by kernel_rfl) (by kernel_rfl) rfl rfl (fun _ h => h.drop (.cons_cons _ <| .cons_cons _ <| .refl _)) (fun _ _ _ h => h) (Ag (A0 rfl <| Ac)) ?_
  refine A5 2 rfl (by kernel_rfl) (by kernel_rfl) (by kernel_rfl) (by kernel_rfl) rfl rfl (fun _ h => h.drop (.cons_cons _ <| .cons_cons _ <| .refl _)) (fun _ _ _ h => h) (Ad Ab) ?_
  refine WX_x0 3 rfl (by kernel_rfl) (Cb Dn (A8 rfl <| A0 rfl <| Ar rfl <| Ac) (Ar rfl <| Ac) (i := 0) rfl rfl rfl rfl (by simp [Value.oneCell']) (.here) ⟨fun _ _ => (fun _ h => h.drop (.cons_cons _ <| .cons_cons _ <| .refl _)), ?_⟩)
  refine A5 4 rfl (by kernel_rfl) (by kernel_rfl) (by kernel_rfl) (by kernel_rfl) rfl rfl (fun _ h => h.drop (.cons_cons _ <| .cons_cons _ <| .refl _)) (fun _ _ _ h => h) (Ad (Ak rfl <| Ac)) ?_
  refine C2 (by kernel_rfl) ?_ _
  refine Ae <| A4 <| Bd (A9 ?_)
  refine Aw rfl (.tmp (Ak rfl <| Ac) (.agg Bs (A8 rfl <| A0 rfl <| Ar rfl <| Ak rfl <| Ac) rfl rfl (A2 0 rfl) (.tmp (Ac) .nil))) ?_
  rw [tr_bad h0]
  exact ⟨[], rfl⟩
end Go.Proofs.Ytccogmkhijgelaa
namespace Go.Proofs.Ytccogmkhijgelaa
open Go.RowKit
theorem stoodSp : Try.prog.stoodInHeld 60 = false := by kernel_rfl
theorem guardSp : Try.prog.eqGuardType Try.prog.depth 60 = false := by kernel_rfl
theorem oneSp : OneT Try.prog 3 := Df (by kernel_rfl)
set_option maxRecDepth 100000 in
theorem refInts_ok {F : Heap} {v u : Value} {xs ys : List Int} (hx : Sl F v 1 intE xs) (hy : Sl F u 1 intE ys) : Ok Try.prog 20 [v, u].toArray F fun r _ => r = .bool (decide (xs = ys)) := by
 refine Ok.intro Try.func20 rfl Try.ntmps20 rfl fun w0 => ?_
 have hlen := hx.plain.lt
 have hlen2 := hy.plain.lt
 refine Af <| Ai fun ds => Aa rfl (Ad Ab) ?_
 refine Ah <| Ae <| Af <| Ai fun ds => Aa rfl (Ag (Ak rfl <| Aj rfl)) ?_
 refine Aa rfl (Bp Bm (Ac) hx.plain) ?_
 refine Aa rfl (Ag (Ar rfl <| Ak rfl <| Aj rfl)) ?_
 refine Aa rfl (Bp Bm (Ac) hy.plain) ?_
 refine Aa rfl (Bx (Ar rfl <| Ac) (Ac)) ?_
 refine Aa rfl (Ad (Ac)) ?_
 refine Ah <| Ae <| Af <| Af <| Ai fun ds => Aa rfl (Ad Ab) ?_
 refine Ah <| Ae <| Az <| By [5, 6, 12, 13, 14, 15, 16, 17, 18, 19, 20, 21, 22, 23, 24, 25, 26, 27, 28, 29] (fun m e σ => ∃ (k : Nat) (ok : Bool), m + k = xs.length + 1 ∧ e 6 = .int .i64 k ∧ e 5 = .bool ok ∧ σ = ⟨F, []⟩ ∧ (ok = true → k ≤ xs.length ∧ xs.length = ys.length ∧ xs.take k = ys.take k) ∧ (ok = false → xs ≠ ys)) (xs.length + 1) ?_ ?_
 · refine ⟨0, _, by omega, (Ac), (Ak rfl <| Ac), rfl, fun h => ⟨by omega, by have := of_decide_eq_true h; omega, rfl⟩, fun h he => ?_⟩; subst he; exact absurd rfl (of_decide_eq_false h)
 ·
  rintro m e _ ⟨k, ok, hm, hs6, hs5, rfl, hT, hF⟩
  cases ok
  ·
   refine Af <| Af <| Ai fun ds => Aa rfl (Ag (Au rfl hs5)) ?_
   refine Aa rfl (Ag (Ac)) ?_
   refine A3 rfl rfl (Ac) (.inl (congrArg Value.bool rfl)) rfl ?_
   refine A3 rfl rfl (Ak rfl <| Ac) (.inl (congrArg Value.bool rfl)) rfl ?_
   refine A3 rfl rfl (Ar rfl <| Ac) (.inl (congrArg Value.bool rfl)) rfl ?_
   refine A3 rfl rfl (Ar rfl <| Ak rfl <| Ac) (.inl (congrArg Value.bool rfl)) rfl ?_
   refine Aa rfl (Bn (A0 rfl <| Ac) rfl Ab) ?_
   refine Ah <| Ae <| Am (Ac) rfl ?_
   refine Bt ?_
   refine Bg <| Bg <| Bj <| Ae <| Af <| Ai fun ds => Aa rfl (Ag (A0 rfl <| Ar rfl <| Ak rfl <| Au rfl hs5)) ?_
   refine Aa rfl (Ad (Ac)) ?_
   refine Ah <| Ae <| A4 <| Aw rfl (.tmp (Ac) .nil) ?_
   show _ = _
   rw [decide_eq_false (hF rfl)]; rfl
  ·
   obtain ⟨hk, hll, htk⟩ := hT rfl
   refine Af <| Af <| Ai fun ds => Aa rfl (Ag (Au rfl hs5)) ?_
   refine Aa rfl (Ag (Ac)) ?_
   refine At rfl rfl (Ac) rfl ?_
   refine Aa rfl (Ag (Ar rfl <| Au rfl hs6)) ?_
   refine At rfl rfl (Ak rfl <| Ac) rfl ?_
   refine Aa rfl (Ag (Ar rfl <| Ak rfl <| Al rfl <| A8 rfl <| Aj rfl)) ?_
   refine At rfl rfl (Ar rfl <| Ac) rfl ?_
   refine Aa rfl (Bp Bm (Ac) hx.plain) ?_
   refine At rfl rfl (Ar rfl <| Ak rfl <| Ac) rfl ?_
   refine Aa rfl (Bz (Ar rfl <| Ac) (Ac)) ?_
   refine Aa rfl (A1 (A0 rfl <| Ac) rfl (Ac)) ?_
   refine Ah <| Ae ?_
   by_cases hlt : k < xs.length
   ·
    refine Aq (Ac) (by first | rfl | exact decide_eq_true (by omega)) ?_
    refine Ay <| Ae <| Af <| Az <| Dg (.inl rfl) (fun _ _ h => h) (by kernel_rfl) (by kernel_rfl) fun ds => ?_
    refine Bi rfl (Ag (A0 rfl <| Ar rfl <| Ak rfl <| Al rfl <| A8 rfl <| Aj rfl)) ?_
    refine Bi rfl (Ag (A8 rfl <| Au rfl hs6)) ?_
    refine Bi rfl (Bh  Bm (Ak rfl <| Ac) hx.plain (Ac) rfl hlt) ?_
    refine Bi rfl (Ap Bk (Ac) (hx.cell1 hlt rfl)) ?_
    refine Bi rfl (Ag (A8 rfl <| Ar rfl <| Ak rfl <| Al rfl <| A8 rfl <| Aj rfl)) ?_
    refine Bi rfl (Ag (A8 rfl <| A0 rfl <| Au rfl hs6)) ?_
    refine Bi rfl (Bh  Bm (Ak rfl <| Ac) hy.plain (Ac) rfl (by omega)) ?_
    refine Bi rfl (Ap Bk (Ac) (hy.cell1 (by omega) rfl)) ?_
    refine Bi rfl (Bx (A0 rfl <| Ac) (Ac)) ?_
    refine Bi rfl (Ad (Ac)) ?_
    refine WQ_nil ?_
    refine Ba <| Ae <| Ai fun ds => Aa rfl (Ag (A6 rfl <| Ak rfl <| Au rfl hs6)) ?_
    refine Aa rfl (Bw (Ac) Ab rfl (by omega) (by omega)) ?_
    refine Aa rfl (Ad (Ac)) ?_
    refine Ah <| Ae ⟨_, m - 1, Off.eq (Dj rfl <| ou4 rfl <| Be), by omega, ?_⟩
    have hlt2 : k < ys.length := by omega
    refine ⟨k + 1, _, by omega, (Ac), (Ar rfl <| Ak rfl <| Ac), rfl, fun h => ⟨by omega, hll, take_succ_eq hlt hlt2 htk (of_decide_eq_true h)⟩, fun h => ne_at hlt hlt2 (of_decide_eq_false h)⟩
   ·
    refine Am (Ac) (by first | rfl | exact decide_eq_false (by omega)) ?_
    refine Bt ?_
    refine Bg <| Bg <| Bj <| Ae <| Af <| Ai fun ds => Aa rfl (Ag (A0 rfl <| Ar rfl <| Ak rfl <| Au rfl hs5)) ?_
    refine Aa rfl (Ad (Ac)) ?_
    refine Ah <| Ae <| A4 <| Aw rfl (.tmp (Ac) .nil) ?_
    show _ = _
    obtain rfl : k = xs.length := by omega
    rw [decide_eq_true (eq_of_take hll htk)]; rfl
set_option maxRecDepth 100000 in
theorem refSpans_ok {F : Heap} {v u : Value} {xs ys : List (Int × Int)} (hx : Sl F v 2 spanE xs) (hy : Sl F u 2 spanE ys) : Ok Try.prog 25 [v, u].toArray F fun r _ => r = .bool (decide (xs = ys)) := by
 refine Ok.intro Try.func25 rfl Try.ntmps25 rfl fun w0 => ?_
 have hlen := hx.plain.lt
 have hlen2 := hy.plain.lt
 refine Af <| Ai fun ds => Aa rfl (Ad Ab) ?_
 refine Ah <| Ae <| Af <| Ai fun ds => Aa rfl (Ag (Ak rfl <| Aj rfl)) ?_
 refine Aa rfl (Bp Dw (Ac) hx.plain) ?_
 refine Aa rfl (Ag (Ar rfl <| Ak rfl <| Aj rfl)) ?_
 refine Aa rfl (Bp Dw (Ac) hy.plain) ?_
 refine Aa rfl (Bx (Ar rfl <| Ac) (Ac)) ?_
 refine Aa rfl (Ad (Ac)) ?_
 refine Ah <| Ae <| Af <| Af <| Ai fun ds => Aa rfl (Ad Ab) ?_
 refine Ah <| Ae <| Az <| By [5, 6, 12, 13, 14, 15, 16, 17, 18, 19, 20, 21, 22, 23, 24, 25, 26, 27, 28, 29] (fun m e σ => ∃ (k : Nat) (ok : Bool), m + k = xs.length + 1 ∧ e 6 = .int .i64 k ∧ e 5 = .bool ok ∧ σ = ⟨F, []⟩ ∧ (ok = true → k ≤ xs.length ∧ xs.length = ys.length ∧ xs.take k = ys.take k) ∧ (ok = false → xs ≠ ys)) (xs.length + 1) ?_ ?_
 · refine ⟨0, _, by omega, (Ac), (Ak rfl <| Ac), rfl, fun h => ⟨by omega, by have := of_decide_eq_true h; omega, rfl⟩, fun h he => ?_⟩; subst he; exact absurd rfl (of_decide_eq_false h)
 ·
  rintro m e _ ⟨k, ok, hm, hs6, hs5, rfl, hT, hF⟩
  cases ok
  ·
   refine Af <| Af <| Ai fun ds => Aa rfl (Ag (Au rfl hs5)) ?_
   refine Aa rfl (Ag (Ac)) ?_
   refine A3 rfl rfl (Ac) (.inl (congrArg Value.bool rfl)) rfl ?_
   refine A3 rfl rfl (Ak rfl <| Ac) (.inl (congrArg Value.bool rfl)) rfl ?_
   refine A3 rfl rfl (Ar rfl <| Ac) (.inl (congrArg Value.bool rfl)) rfl ?_
   refine A3 rfl rfl (Ar rfl <| Ak rfl <| Ac) (.inl (congrArg Value.bool rfl)) rfl ?_
   refine Aa rfl (Bn (A0 rfl <| Ac) rfl Ab) ?_
   refine Ah <| Ae <| Am (Ac) rfl ?_
   refine Bt ?_
   refine Bg <| Bg <| Bj <| Ae <| Af <| Ai fun ds => Aa rfl (Ag (A0 rfl <| Ar rfl <| Ak rfl <| Au rfl hs5)) ?_
   refine Aa rfl (Ad (Ac)) ?_
   refine Ah <| Ae <| A4 <| Aw rfl (.tmp (Ac) .nil) ?_
   show _ = _
   rw [decide_eq_false (hF rfl)]; rfl
  ·
   obtain ⟨hk, hll, htk⟩ := hT rfl
   refine Af <| Af <| Ai fun ds => Aa rfl (Ag (Au rfl hs5)) ?_
   refine Aa rfl (Ag (Ac)) ?_
   refine At rfl rfl (Ac) rfl ?_
   refine Aa rfl (Ag (Ar rfl <| Au rfl hs6)) ?_
   refine At rfl rfl (Ak rfl <| Ac) rfl ?_
   refine Aa rfl (Ag (Ar rfl <| Ak rfl <| Al rfl <| A8 rfl <| Aj rfl)) ?_
   refine At rfl rfl (Ar rfl <| Ac) rfl ?_
   refine Aa rfl (Bp Dw (Ac) hx.plain) ?_
   refine At rfl rfl (Ar rfl <| Ak rfl <| Ac) rfl ?_
   refine Aa rfl (Bz (Ar rfl <| Ac) (Ac)) ?_
   refine Aa rfl (A1 (A0 rfl <| Ac) rfl (Ac)) ?_
   refine Ah <| Ae ?_
   by_cases hlt : k < xs.length
   ·
    refine Aq (Ac) (by first | rfl | exact decide_eq_true (by omega)) ?_
    refine Ay <| Ae <| Af <| Az <| Dg (.inl rfl) (fun _ _ h => h) (by kernel_rfl) (by kernel_rfl) fun ds => ?_
    refine Bi rfl (Ag (A0 rfl <| Ar rfl <| Ak rfl <| Al rfl <| A8 rfl <| Aj rfl)) ?_
    refine Bi rfl (Ag (A8 rfl <| Au rfl hs6)) ?_
    refine Bi rfl (Bh  Dw (Ak rfl <| Ac) hx.plain (Ac) rfl hlt) ?_
    refine Bi rfl (A7 agg_60 (Ac) rfl rfl (hx.whole hlt)) ?_
    refine Bi rfl (Ag (A8 rfl <| Ar rfl <| Ak rfl <| Al rfl <| A8 rfl <| Aj rfl)) ?_
    refine Bi rfl (Ag (A8 rfl <| A0 rfl <| Au rfl hs6)) ?_
    refine Bi rfl (Bh  Dw (Ak rfl <| Ac) hy.plain (Ac) rfl (by omega)) ?_
    refine Bi rfl (A7 agg_60 (Ac) rfl rfl (hy.whole (by omega))) ?_
    refine Bi rfl (q_eqlZ2 Try.underlying60 stoodSp guardSp (by decide) (by decide) rfl rfl Try.underlying3 Try.underlying3 oneSp oneSp (A0 rfl <| Ac) (Ac)) ?_
    refine Bi rfl (Ad (Ac)) ?_
    refine WQ_nil ?_
    refine Ba <| Ae <| Ai fun ds => Aa rfl (Ag (A6 rfl <| Ak rfl <| Au rfl hs6)) ?_
    refine Aa rfl (Bw (Ac) Ab rfl (by omega) (by omega)) ?_
    refine Aa rfl (Ad (Ac)) ?_
    refine Ah <| Ae ⟨_, m - 1, Off.eq (Dj rfl <| ou4 rfl <| Be), by omega, ?_⟩
    have hlt2 : k < ys.length := by omega
    refine ⟨k + 1, _, by omega, (Ac), (Ar rfl <| Ak rfl <| Ac), rfl, fun h => ⟨by omega, hll, take_succ_eq hlt hlt2 htk (by simp only [Bool.and_eq_true, beq_iff_eq] at h; exact Prod.ext h.1 h.2)⟩, fun h => ne_at hlt hlt2 (by intro he; rw [he] at h; simp at h)⟩
   ·
    refine Am (Ac) (by first | rfl | exact decide_eq_false (by omega)) ?_
    refine Bt ?_
    refine Bg <| Bg <| Bj <| Ae <| Af <| Ai fun ds => Aa rfl (Ag (A0 rfl <| Ar rfl <| Ak rfl <| Au rfl hs5)) ?_
    refine Aa rfl (Ad (Ac)) ?_
    refine Ah <| Ae <| A4 <| Aw rfl (.tmp (Ac) .nil) ?_
    show _ = _
    obtain rfl : k = xs.length := by omega
    rw [decide_eq_true (eq_of_take hll htk)]; rfl
def sourceL (l : List Int) (i : Nat) : List Int := if upN l i = -1 then [] else [upN l i]
set_option maxRecDepth 100000 in
theorem source_ok {F : Heap} {l : List Int} {i : Nat} (hi : i < 5) : Ok Try.prog 73 [treeV l, .int .i64 (i : Int)].toArray F fun u F' => Ints F' u (sourceL l i) := by
 refine Ok.intro Try.func73 rfl Try.ntmps73 rfl fun w0 => ?_
 by_cases h1 : upN l i = -1
 ·
  refine Af <| Ai fun ds => Bb rfl (B9 (Aj rfl) rfl fun b1 hb1 nb1 => ?_)
  refine Aa rfl (Ad Ab) ?_
  refine Ah <| Ae <| Af <| Af <| Ai fun ds => Aa rfl (Ag (Ar rfl <| Aj rfl)) ?_
  refine Aa rfl (Bl (k := i) Cm (Ar rfl <| Ac) (Ac) rfl hi) ?_
  refine Aa rfl (Ap Bk (Ac) (Cell.own 0 rfl (Ce hi))) ?_
  refine Aa rfl (Bx (Ac) Ab) ?_
  refine Ah <| Ae <| Aq (Ac) (decide_eq_true h1) ?_
  refine Af <| Ai fun ds => Aa rfl (Ad Ab) ?_
  refine Ah <| Ae <| A4 <| A9 ?_
  refine Aw rfl (.tmp (Ac) .nil) ?_
  unfold sourceL; rw [if_pos h1]; exact Sl.nil
 ·
  refine Af <| Ai fun ds => Bb rfl (B9 (Aj rfl) rfl fun b2 hb2 nb2 => ?_)
  refine Aa rfl (Ad Ab) ?_
  refine Ah <| Ae <| Af <| Af <| Ai fun ds => Aa rfl (Ag (Ar rfl <| Aj rfl)) ?_
  refine Aa rfl (Bl (k := i) Cm (Ar rfl <| Ac) (Ac) rfl hi) ?_
  refine Aa rfl (Ap Bk (Ac) (Cell.own 0 rfl (Ce hi))) ?_
  refine Aa rfl (Bx (Ac) Ab) ?_
  refine Ah <| Ae <| Am (Ac) (decide_eq_false h1) ?_
  refine Ay <| Ae <| Af <| Ai fun ds => Aa rfl (Ag (A0 rfl <| Ar rfl <| Aj rfl)) ?_
  refine Aa rfl (Bl (k := i) Cm (A0 rfl <| Ar rfl <| Ac) (Ac) rfl hi) ?_
  refine Aa rfl (Ap Bk (Ac) (Cell.own 0 rfl (Ce hi))) ?_
  refine Bb rfl (B1 Bm Cy rfl (.cons (Ac) .nil) rfl rfl (by decide) (by simp [Value.oneCell']) fun b3 hb3 nb3 => ?_)
  refine Bu (i := 0) rfl hb3 .here fun F4 hF5 hz6 => ?_
  have hsl7 := Cn hz6
  refine Aa rfl (Ad (Ac)) ?_
  refine Ah <| Ae <| A4 <| Aw rfl (.tmp (Ac) .nil) ?_
  unfold sourceL; rw [if_neg h1]; exact hsl7
end Go.Proofs.Ytccogmkhijgelaa
namespace Go.Proofs.Ytccogmkhijgelaa
open Go.RowKit
theorem bd_118 : Body Try.prog 118 := Bo (by kernel_rfl)
theorem bd_127 : Body Try.prog 127 := Bo (by kernel_rfl)
set_option maxRecDepth 100000 in
theorem isNaN_ok {F : Heap} (z : Int) : Ok Try.prog 127 [.int .i64 z].toArray F fun r _ => r = .bool false := by
 refine Ok.intro Try.func127 rfl Try.ntmps127 rfl fun w0 => ?_
 refine Af <| Ai fun ds => Aa rfl (Ad Ab) ?_
 refine Ah <| Ae <| Af <| Ai fun ds => Aa rfl (Ag (Ak rfl <| Aj rfl)) ?_
 refine Aa rfl (Ag (Ar rfl <| Aj rfl)) ?_
 refine Aa rfl (B6 (Ak rfl <| Ac) (Ac)) ?_
 refine Aa rfl (Ad (Ac)) ?_
 refine Ah <| Ae <| A4 <| Aw rfl (.tmp (Ac) .nil) ?_
 show _ = _
 simp [outOf]
set_option maxRecDepth 100000 in
theorem cmp_ok {F : Heap} (a b : Int) : Ok Try.prog 118 [.int .i64 a, .int .i64 b].toArray F fun r _ => r = .int .i64 (cmpZ a b) := by
 refine Ok.intro Try.func118 rfl Try.ntmps118 rfl fun w0 => ?_
 refine Af <| Ai fun ds => Aa rfl (Ad Ab) ?_
 refine Ah <| Ae <| Af <| Ai fun ds => Aa rfl (Ag (Ak rfl <| Aj rfl)) ?_
 refine B0 rfl (Bc bd_127 Ax (.cons (Ac) .nil) (isNaN_ok _) (fun _ _ h => h)) ?_
 refine Aa rfl (Ad (Ac)) ?_
 refine Ah <| Ae <| Af <| Ai fun ds => Aa rfl (Ag (A0 rfl <| Aj rfl)) ?_
 refine B0 rfl (Bc bd_127 Ax (.cons (Ac) .nil) (isNaN_ok _) (fun _ _ h => h)) ?_
 refine Aa rfl (Ad (Ac)) ?_
 refine Ah <| Ae <| Af <| Af <| Ai fun ds => Aa rfl (Ag (Ar rfl <| Ak rfl <| Ac)) ?_
 refine Ah <| Ae <| Am (Ac) rfl ?_
 refine Ay <| Ae <| Af <| Af <| Ai fun ds => Aa rfl (Ag (Ak rfl <| Ac)) ?_
 refine Ah <| Ae <| Am (Ac) rfl ?_
 by_cases h1 : a < b
 ·
  refine Ay <| Ae <| Af <| Af <| Ai fun ds => Aa rfl (Ag (A8 rfl <| Ak rfl <| Aj rfl)) ?_
  refine Aa rfl (Ag (A8 rfl <| Ar rfl <| Aj rfl)) ?_
  refine Aa rfl (Bz (Ak rfl <| Ac) (Ac)) ?_
  refine Ah <| Ae <| Aq (Ac) (by first | rfl | exact decide_eq_true (by omega)) ?_
  refine Af <| Ai fun ds => Aa rfl (Ad Ab) ?_
  refine Ah <| Ae <| A4 <| A9 ?_
  refine Aw rfl (.tmp (Ac) .nil) ?_
  show _ = _
  unfold cmpZ; rw [if_pos h1]; rfl
 ·
  refine Ay <| Ae <| Af <| Af <| Ai fun ds => Aa rfl (Ag (A8 rfl <| Ak rfl <| Aj rfl)) ?_
  refine Aa rfl (Ag (A8 rfl <| Ar rfl <| Aj rfl)) ?_
  refine Aa rfl (Bz (Ak rfl <| Ac) (Ac)) ?_
  refine Ah <| Ae <| Am (Ac) (by first | rfl | exact decide_eq_false (by omega)) ?_
  by_cases h2 : b < a
  ·
   refine Ay <| Ae <| Af <| Af <| Ai fun ds => Aa rfl (Ag (A8 rfl <| A0 rfl <| Aj rfl)) ?_
   refine Aa rfl (Ag (A8 rfl <| A0 rfl <| Ak rfl <| Aj rfl)) ?_
   refine Aa rfl (Dh (Ak rfl <| Ac) (Ac)) ?_
   refine Ah <| Ae <| Aq (Ac) (by first | rfl | exact decide_eq_true (by omega)) ?_
   refine Af <| Ai fun ds => Aa rfl (Ad Ab) ?_
   refine Ah <| Ae <| A4 <| A9 ?_
   refine Aw rfl (.tmp (Ac) .nil) ?_
   show _ = _
   unfold cmpZ; rw [if_neg h1, if_pos h2]; rfl
  ·
   refine Ay <| Ae <| Af <| Af <| Ai fun ds => Aa rfl (Ag (A8 rfl <| A0 rfl <| Aj rfl)) ?_
   refine Aa rfl (Ag (A8 rfl <| A0 rfl <| Ak rfl <| Aj rfl)) ?_
   refine Aa rfl (Dh (Ak rfl <| Ac) (Ac)) ?_
   refine Ah <| Ae <| Am (Ac) (by first | rfl | exact decide_eq_false (by omega)) ?_
   refine Ay <| Ae <| Af <| Ai fun ds => Aa rfl (Ad Ab) ?_
   refine Ah <| Ae <| A4 <| Aw rfl (.tmp (Ac) .nil) ?_
   show _ = _
   unfold cmpZ; rw [if_neg h1, if_neg h2]; rfl
set_option maxRecDepth 100000 in
theorem compare_ok {F : Heap} {v u : Value} {xs ys : List Nat} (hx : Nats F v xs) (hy : Nats F u ys) : Ok Try.prog 84 [v, u].toArray F fun r _ => r = .int .i64 (cmpL xs ys) := by
 refine Ok.intro Try.func84 rfl Try.ntmps84 rfl fun w0 => ?_
 have hlen := hx.plain.lt
 have hlen2 := hy.plain.lt
 refine Af <| Ai fun ds => Aa rfl (Ad Ab) ?_
 refine Ah <| Ae <| Af <| Af <| Ai fun ds => Aa rfl (Ag (Ak rfl <| Aj rfl)) ?_
 refine Aa rfl (Bp Bm (Ac) hx.plain) ?_
 refine Aa rfl (Ag Ab) ?_
 refine Ah <| Ae <| Az <| By [4, 5, 6, 7, 8, 11, 12, 13, 14, 15, 16, 17, 18, 19, 20, 21, 22, 23, 24, 25, 26, 27, 28, 29, 30] (fun m e σ => ∃ k : Nat, m + k = xs.length ∧ k ≤ ys.length ∧ e 11 = .int .i64 k ∧ σ = ⟨F, []⟩ ∧ xs.take k = ys.take k) (xs.length) ?_ ?_
 · exact ⟨0, by omega, by omega, (Ac), rfl, rfl⟩
 ·
  rintro m e _ ⟨k, hm, hk, hs11, rfl, htk⟩
  by_cases hlt : k < xs.length
  ·
   refine Af <| Ai fun ds => Aa rfl (Bz (Au rfl hs11) (Al rfl <| Ak rfl <| Ac)) ?_
   refine Ah <| Ae <| Af <| Aq (Ac) (by first | rfl | exact decide_eq_true (by omega)) ?_
   by_cases hlt2 : k < ys.length
   ·
    refine Ay <| Ae <| Af <| Az <| Af <| Ai fun ds => Aa rfl (Ag (Ak rfl <| Au rfl hs11)) ?_
    refine Aa rfl (Bh  Bm (Ar rfl <| Al rfl <| Ar rfl <| Ac) hx.plain (Ar rfl <| Au rfl hs11) rfl hlt) ?_
    refine Aa rfl (Ap Bk (Ac) (hx.cell1 hlt rfl)) ?_
    refine Aa rfl (Ad (Ar rfl <| Ac)) ?_
    refine Aa rfl (Ad (Ak rfl <| Ac)) ?_
    refine Ah <| Ae <| Af <| Af <| Ai fun ds => Aa rfl (Ag (Ak rfl <| Ac)) ?_
    refine Aa rfl (Ag (A0 rfl <| Ar rfl <| Ak rfl <| Al rfl <| A0 rfl <| Aj rfl)) ?_
    refine Aa rfl (Bp Bm (Ac) hy.plain) ?_
    refine Aa rfl (q_geq (Ar rfl <| Ac) (Ac)) ?_
    refine Ah <| Ae <| Am (Ac) (by first | rfl | exact decide_eq_false (by omega)) ?_
    by_cases hc : cmpZ xs[k] ys[k] = 0
    ·
     refine Ay <| Ae <| Af <| Ai fun ds => Aa rfl (Ag (A8 rfl <| Ar rfl <| Al rfl <| A0 rfl <| Aj rfl)) ?_
     refine Aa rfl (Ag (A0 rfl <| Ar rfl <| Ac)) ?_
     refine Aa rfl (Bh  Bm (Ak rfl <| Ac) hy.plain (Ac) rfl hlt2) ?_
     refine Aa rfl (Ap Bk (Ac) (hy.cell1 hlt2 rfl)) ?_
     refine Aa rfl (Ad (Ac)) ?_
     refine Ah <| Ae <| Af <| Ai fun ds => Aa rfl (Ag (A8 rfl <| Ak rfl <| Ac)) ?_
     refine Aa rfl (Ag (Ak rfl <| Ac)) ?_
     refine B0 rfl (Bc bd_118 Ax (.cons (Ak rfl <| Ac) (.cons (Ac) .nil)) (cmp_ok _ _) (fun _ _ h => h)) ?_
     refine Aa rfl (Ad (Ac)) ?_
     refine Ah <| Ae <| Af <| Ai fun ds => Aa rfl (Ag (Ac)) ?_
     refine Aa rfl (B6 (Ac) Ab) ?_
     refine Ah <| Ae <| Am (Ac) (decide_eq_false (by simpa using hc)) ?_
     refine Ay <| Ba <| Ae <| Ai fun ds => Aa rfl (Bw (A6 rfl <| A0 rfl <| Ak rfl <| Au rfl hs11) Ab rfl (by omega) (by omega)) ?_
     refine Aa rfl (Ag (Ac)) ?_
     refine Ah <| Ae ⟨_, m - 1, Off.eq (Dj rfl <| ou4 rfl <| ou2 rfl <| ou1 rfl <| Be), by omega, ?_⟩
     exact ⟨k + 1, by omega, by omega, (Ac), rfl, take_succ_eq hlt hlt2 htk (by have := cmpZ_zero hc; omega)⟩
    ·
     refine Ay <| Ae <| Af <| Ai fun ds => Aa rfl (Ag (A8 rfl <| Ar rfl <| Al rfl <| A0 rfl <| Aj rfl)) ?_
     refine Aa rfl (Ag (A0 rfl <| Ar rfl <| Ac)) ?_
     refine Aa rfl (Bh  Bm (Ak rfl <| Ac) hy.plain (Ac) rfl hlt2) ?_
     refine Aa rfl (Ap Bk (Ac) (hy.cell1 hlt2 rfl)) ?_
     refine Aa rfl (Ad (Ac)) ?_
     refine Ah <| Ae <| Af <| Ai fun ds => Aa rfl (Ag (A8 rfl <| Ak rfl <| Ac)) ?_
     refine Aa rfl (Ag (Ak rfl <| Ac)) ?_
     refine B0 rfl (Bc bd_118 Ax (.cons (Ak rfl <| Ac) (.cons (Ac) .nil)) (cmp_ok _ _) (fun _ _ h => h)) ?_
     refine Aa rfl (Ad (Ac)) ?_
     refine Ah <| Ae <| Af <| Ai fun ds => Aa rfl (Ag (Ac)) ?_
     refine Aa rfl (B6 (Ac) Ab) ?_
     refine Ah <| Ae <| Aq (Ac) (decide_eq_true hc) ?_
     refine Af <| Ai fun ds => Aa rfl (Ag (Ar rfl <| Ac)) ?_
     refine Aa rfl (Ad (Ac)) ?_
     refine Ah <| Ae <| A4 <| Bd (A9 (A9 (Bd (A9 ?_))))
     refine Aw rfl (.tmp (Ac) .nil) ?_
     show _ = _
     rw [cmpL_at hlt hlt2 htk hc]; rfl
   ·
    refine Ay <| Ae <| Af <| Az <| Af <| Ai fun ds => Aa rfl (Ag (Ak rfl <| Au rfl hs11)) ?_
    refine Aa rfl (Bh  Bm (Ar rfl <| Al rfl <| Ar rfl <| Ac) hx.plain (Ar rfl <| Au rfl hs11) rfl hlt) ?_
    refine Aa rfl (Ap Bk (Ac) (hx.cell1 hlt rfl)) ?_
    refine Aa rfl (Ad (Ar rfl <| Ac)) ?_
    refine Aa rfl (Ad (Ak rfl <| Ac)) ?_
    refine Ah <| Ae <| Af <| Af <| Ai fun ds => Aa rfl (Ag (Ak rfl <| Ac)) ?_
    refine Aa rfl (Ag (A0 rfl <| Ar rfl <| Ak rfl <| Al rfl <| A0 rfl <| Aj rfl)) ?_
    refine Aa rfl (Bp Bm (Ac) hy.plain) ?_
    refine Aa rfl (q_geq (Ar rfl <| Ac) (Ac)) ?_
    refine Ah <| Ae <| Aq (Ac) (by first | rfl | exact decide_eq_true (by omega)) ?_
    refine Af <| Ai fun ds => Aa rfl (Ad Ab) ?_
    refine Ah <| Ae <| A4 <| A9 (Bd (A9 (A9 (Bd (A9 ?_)))))
    refine Aw rfl (.tmp (Ac) .nil) ?_
    show _ = _
    rw [cmpL_end1 hlt (by omega) htk]; rfl
  ·
   refine Af <| Ai fun ds => Aa rfl (Bz (Au rfl hs11) (Al rfl <| Ak rfl <| Ac)) ?_
   refine Ah <| Ae <| Af <| Am (Ac) (by first | rfl | exact decide_eq_false (by omega)) ?_
   obtain rfl : k = xs.length := by omega
   by_cases h2 : xs.length < ys.length
   ·
    refine Bt ?_
    refine Bg <| Bg <| Bj <| Ae <| Af <| Af <| Ai fun ds => Aa rfl (Ag (Ak rfl <| Al rfl <| A0 rfl <| Aj rfl)) ?_
    refine Aa rfl (Bp Bm (Ac) hx.plain) ?_
    refine Aa rfl (Ag (Ar rfl <| Ak rfl <| Al rfl <| A0 rfl <| Aj rfl)) ?_
    refine Aa rfl (Bp Bm (Ac) hy.plain) ?_
    refine Aa rfl (Bz (Ar rfl <| Ac) (Ac)) ?_
    refine Ah <| Ae <| Aq (Ac) (by first | rfl | exact decide_eq_true (by omega)) ?_
    refine Af <| Ai fun ds => Aa rfl (Ad Ab) ?_
    refine Ah <| Ae <| A4 <| A9 ?_
    refine Aw rfl (.tmp (Ac) .nil) ?_
    show _ = _
    rw [cmpL_end0 hk htk, if_pos h2]; rfl
   ·
    refine Bt ?_
    refine Bg <| Bg <| Bj <| Ae <| Af <| Af <| Ai fun ds => Aa rfl (Ag (Ak rfl <| Al rfl <| A0 rfl <| Aj rfl)) ?_
    refine Aa rfl (Bp Bm (Ac) hx.plain) ?_
    refine Aa rfl (Ag (Ar rfl <| Ak rfl <| Al rfl <| A0 rfl <| Aj rfl)) ?_
    refine Aa rfl (Bp Bm (Ac) hy.plain) ?_
    refine Aa rfl (Bz (Ar rfl <| Ac) (Ac)) ?_
    refine Ah <| Ae <| Am (Ac) (by first | rfl | exact decide_eq_false (by omega)) ?_
    refine Ay <| Ae <| Af <| Ai fun ds => Aa rfl (Ad Ab) ?_
    refine Ah <| Ae <| A4 <| Aw rfl (.tmp (Ac) .nil) ?_
    show _ = _
    rw [cmpL_end0 hk htk, if_neg h2]; rfl
set_option maxRecDepth 100000 in
theorem indexZ_ok {F : Heap} {v : Value} {l : List Int} (hl : Ints F v l) (z : Int) : Ok Try.prog 125 [v, .int .i64 z].toArray F fun r _ => r = .int .i64 (findI (fun x => decide (z = x)) l) := by
 refine Ok.intro Try.func125 rfl Try.ntmps125 rfl fun w0 => ?_
 have hlen := hl.plain.lt
 refine Af <| Ai fun ds => Aa rfl (Ad Ab) ?_
 refine Ah <| Ae <| Af <| Af <| Ai fun ds => Aa rfl (Ag (Ak rfl <| Aj rfl)) ?_
 refine Aa rfl (Bp Bm (Ac) hl.plain) ?_
 refine Aa rfl (Ag Ab) ?_
 refine Ah <| Ae <| Az <| By [4, 5, 8, 9, 10, 11, 12, 13, 14, 15, 16, 17, 18] (fun m e σ => ∃ k : Nat, m + k = l.length ∧ e 8 = .int .i64 k ∧ σ = ⟨F, []⟩ ∧ ∀ j (hj : j < l.length), j < k → (fun x => decide (z = x)) l[j] = false) (l.length) ?_ ?_
 · exact ⟨0, by omega, (Ac), rfl, fun j hj h => absurd h (by omega)⟩
 ·
  rintro m e _ ⟨k, hm, hs8, rfl, hno⟩
  by_cases hlt : k < l.length
  ·
   refine Af <| Ai fun ds => Aa rfl (Bz (Au rfl hs8) (Al rfl <| Ak rfl <| Ac)) ?_
   refine Ah <| Ae <| Af <| Aq (Ac) (by first | rfl | exact decide_eq_true (by omega)) ?_
   by_cases he : z = l[k]
   ·
    refine Ay <| Ae <| Af <| Az <| Af <| Ai fun ds => Aa rfl (Ag (Ak rfl <| Au rfl hs8)) ?_
    refine Aa rfl (Ad (Ac)) ?_
    refine Ah <| Ae <| Af <| Ai fun ds => Aa rfl (Ag (Ar rfl <| Ak rfl <| Al rfl <| A0 rfl <| Aj rfl)) ?_
    refine Aa rfl (Ag (A0 rfl <| Al rfl <| A0 rfl <| Aj rfl)) ?_
    refine Aa rfl (Ag (Ar rfl <| Ac)) ?_
    refine Aa rfl (Bh  Bm (Ak rfl <| Ac) hl.plain (Ac) rfl hlt) ?_
    refine Aa rfl (Ap Bk (Ac) (hl.cell1 hlt rfl)) ?_
    refine Aa rfl (Bx (A0 rfl <| Ac) (Ac)) ?_
    refine Ah <| Ae <| Aq (Ac) (decide_eq_true he) ?_
    refine Af <| Ai fun ds => Aa rfl (Ag (A0 rfl <| Ar rfl <| Ac)) ?_
    refine Aa rfl (Ad (Ac)) ?_
    refine Ah <| Ae <| A4 <| Bd (A9 (A9 (Bd (A9 ?_))))
    refine Aw rfl (.tmp (Ac) .nil) ?_
    show _ = _
    rw [Do (p := (fun x => decide (z = x))) hlt (decide_eq_true he) hno]; rfl
   ·
    refine Ay <| Ae <| Af <| Az <| Af <| Ai fun ds => Aa rfl (Ag (Ak rfl <| Au rfl hs8)) ?_
    refine Aa rfl (Ad (Ac)) ?_
    refine Ah <| Ae <| Af <| Ai fun ds => Aa rfl (Ag (Ar rfl <| Ak rfl <| Al rfl <| A0 rfl <| Aj rfl)) ?_
    refine Aa rfl (Ag (A0 rfl <| Al rfl <| A0 rfl <| Aj rfl)) ?_
    refine Aa rfl (Ag (Ar rfl <| Ac)) ?_
    refine Aa rfl (Bh  Bm (Ak rfl <| Ac) hl.plain (Ac) rfl hlt) ?_
    refine Aa rfl (Ap Bk (Ac) (hl.cell1 hlt rfl)) ?_
    refine Aa rfl (Bx (A0 rfl <| Ac) (Ac)) ?_
    refine Ah <| Ae <| Am (Ac) (decide_eq_false he) ?_
    refine Ay <| Ba <| Ae <| Ai fun ds => Aa rfl (Bw (A8 rfl <| Ak rfl <| Au rfl hs8) Ab rfl (by omega) (by omega)) ?_
    refine Aa rfl (Ag (Ac)) ?_
    refine Ah <| Ae ⟨_, m - 1, Off.eq (ou8 rfl <| ou2 rfl <| ou1 rfl <| Be), by omega, ?_⟩
    refine ⟨k + 1, by omega, (Ac), rfl, fun j hj hjk => ?_⟩
    rcases Nat.lt_succ_iff_lt_or_eq.1 hjk with hjk | rfl
    · exact hno j hj hjk
    · exact decide_eq_false he
  ·
   refine Af <| Ai fun ds => Aa rfl (Bz (Au rfl hs8) (Al rfl <| Ak rfl <| Ac)) ?_
   refine Ah <| Ae <| Af <| Am (Ac) (by first | rfl | exact decide_eq_false (by omega)) ?_
   refine Bt ?_
   refine Bg <| Bg <| Bj <| Ae <| Af <| Ai fun ds => Aa rfl (Ad Ab) ?_
   refine Ah <| Ae <| A4 <| Aw rfl (.tmp (Ac) .nil) ?_
   show _ = _
   rw [findI_none (p := (fun x => decide (z = x))) (fun j hj => hno j hj (by omega))]; rfl
end Go.Proofs.Ytccogmkhijgelaa
namespace Go.Proofs.Ytccogmkhijgelaa
abbrev Edges := List (Nat × Nat)
def upMax (E : Edges) (i : Nat) (g : Nat → Int) (b : Int) : Int := E.foldl (fun m e => if e.2 = i then max m (g e.1 + 1) else m) b
theorem upMax_le {E : Edges} {i : Nat} {g : Nat → Int} : ∀ {b c : Int}, upMax E i g b ≤ c ↔ b ≤ c ∧ ∀ e ∈ E, e.2 = i → g e.1 + 1 ≤ c := by
 induction E with
 | nil => intro b c; simp [upMax]
 | cons a E ih =>
   intro b c
   have : upMax (a :: E) i g b = upMax E i g (if a.2 = i then max b (g a.1 + 1) else b) := rfl
   rw [this, ih]
   constructor
   · rintro ⟨h1, h2⟩
     refine ⟨by split at h1 <;> omega, fun e he hi => ?_⟩
     rcases List.mem_cons.1 he with rfl | he
     · rw [if_pos hi] at h1; omega
     · exact h2 e he hi
   · rintro ⟨h1, h2⟩
     refine ⟨?_, fun e he hi => h2 e (List.mem_cons_of_mem _ he) hi⟩
     split
     · rename_i hi; have := h2 a List.mem_cons_self hi; omega
     · exact h1
/-- After so many steps. -/
def climb (E : Edges) (base : Nat → Int) : Nat → Nat → Int
 | 0, i => base i
 | f + 1, i => upMax E i (climb E base f) (base i)
section
variable {E : Edges} {base : Nat → Int}
theorem D3 {f i : Nat} {c : Int} : climb E base (f + 1) i ≤ c ↔ base i ≤ c ∧ ∀ e ∈ E, e.2 = i → climb E base f e.1 + 1 ≤ c := upMax_le
theorem Cw {f i : Nat} : base i ≤ climb E base f i := by
 cases f with
 | zero => exact Int.le_refl _
 | succ f => exact (D3.1 (Int.le_refl _)).1
theorem climb_edge {f : Nat} {e : Nat × Nat} (he : e ∈ E) : climb E base f e.1 + 1 ≤ climb E base (f + 1) e.2 := (D3.1 (Int.le_refl _)).2 e he rfl
theorem climb_mono {f : Nat} : ∀ i, climb E base f i ≤ climb E base (f + 1) i := by
 induction f with
 | zero => intro i; exact Cw
 | succ f ih => intro i; exact D3.2 ⟨Cw, fun e he hi => by subst hi; have := ih e.1; have := climb_edge (f := f + 1) (base := base) he; omega⟩
theorem climb_stable {rank : Nat → Nat} (hr : ∀ e ∈ E, rank e.1 < rank e.2) : ∀ {f i : Nat}, rank i ≤ f → climb E base (f + 1) i = climb E base f i := by
 intro f
 induction f with
 | zero =>
   intro i hi
   refine Int.le_antisymm (D3.2 ⟨Cw, fun e he h => ?_⟩) (climb_mono i)
   have := hr e he; rw [h] at this; omega
 | succ f ih =>
   intro i hi
   refine Int.le_antisymm (D3.2 ⟨Cw, fun e he h => ?_⟩) (climb_mono i)
   have := hr e he
   rw [h] at this
   rw [ih (by omega)]
   subst h
   exact climb_edge he
/-- No other numbers that fit are less. -/
theorem climb_least {n : Nat} (hE : ∀ e ∈ E, e.1 < n ∧ e.2 < n) {L : Nat → Int} (h0 : ∀ i, i < n → base i ≤ L i) (h1 : ∀ e ∈ E, L e.1 + 1 ≤ L e.2) : ∀ f i, i < n → climb E base f i ≤ L i := by
 intro f
 induction f with
 | zero => exact h0
 | succ f ih =>
   intro i hi
   refine D3.2 ⟨h0 i hi, fun e he h => ?_⟩
   have := ih e.1 (hE e he).1
   have := h1 e he
   rw [h] at this
   omega
end
/-- Nothing is earlier than itself. -/
def Dag (n : Nat) (E : Edges) : Prop := (∀ e ∈ E, e.1 < n ∧ e.2 < n) ∧ ∃ ρ : Nat → Nat, ∀ e ∈ E, ρ e.1 < ρ e.2
def rankC (ρ : Nat → Nat) (n i : Nat) : Nat := (List.range n).countP fun j => decide (ρ j < ρ i)
theorem countP_lt {α : Type} {p q : α → Bool} {k : α} (hpq : ∀ x, p x = true → q x = true) (hq : q k = true) (hp : p k = false) : ∀ {l : List α}, k ∈ l → l.countP p < l.countP q
 | [], h => nomatch h
 | a :: l, h => by
   have hle : l.countP p ≤ l.countP q := List.countP_mono_left fun x _ => hpq x
   simp only [List.countP_cons]
   rcases List.mem_cons.1 h with rfl | h
   · rw [if_pos hq, if_neg (by rw [hp]; simp)]; omega
   · have ih := countP_lt hpq hq hp h
     by_cases h1 : p a = true
     · rw [if_pos h1, if_pos (hpq a h1)]; omega
     · rw [if_neg h1]; split <;> omega
theorem rankC_lt {ρ : Nat → Nat} {n k i : Nat} (hk : k < n) (h : ρ k < ρ i) : rankC ρ n k < rankC ρ n i := by
 refine countP_lt (k := k) (fun x hx => ?_) ?_ ?_ (List.mem_range.2 hk)
 · have := of_decide_eq_true hx; exact decide_eq_true (by omega)
 · exact decide_eq_true h
 · exact decide_eq_false (by omega)
theorem rankC_le {ρ : Nat → Nat} {n i : Nat} : rankC ρ n i ≤ n := by
 have := List.countP_le_length (p := fun j => decide (ρ j < ρ i)) (l := List.range n)
 rw [List.length_range] at this
 exact this
def swapE (E : Edges) : Edges := E.map fun e => (e.2, e.1)
theorem Dc {E : Edges} {e : Nat × Nat} : e ∈ swapE E ↔ (e.2, e.1) ∈ E := by
 unfold swapE
 rw [List.mem_map]
 constructor
 · rintro ⟨a, ha, rfl⟩; exact ha
 · intro h; exact ⟨_, h, rfl⟩
theorem Dag.rank {n : Nat} {E : Edges} (h : Dag n E) : ∃ rank : Nat → Nat, (∀ e ∈ E, rank e.1 < rank e.2) ∧ ∀ i, rank i ≤ n := by
 obtain ⟨h1, ρ, h2⟩ := h
 exact ⟨rankC ρ n, fun e he => rankC_lt (h1 e he).1 (h2 e he), fun i => rankC_le⟩
theorem Dag.swap {n : Nat} {E : Edges} (h : Dag n E) : Dag n (swapE E) := by
 obtain ⟨rank, h2, h3⟩ := h.rank
 refine ⟨fun e he => ?_, fun i => n - rank i, fun e he => ?_⟩
 · have := h.1 _ (Dc.1 he); exact ⟨this.2, this.1⟩
 · have := h2 _ (Dc.1 he)
   have := h3 e.1
   simp only at *
   omega
theorem Dag.stable {n : Nat} {E : Edges} (h : Dag n E) {base : Nat → Int} (i : Nat) : climb E base (n + 1) i = climb E base n i := by
 obtain ⟨rank, h2, h3⟩ := h.rank
 exact climb_stable h2 (h3 i)
theorem Dag.fits {n : Nat} {E : Edges} (h : Dag n E) {base : Nat → Int} {e : Nat × Nat} (he : e ∈ E) : climb E base n e.1 + 1 ≤ climb E base n e.2 := by
 have := climb_edge (f := n) (base := base) he
 rw [h.stable] at this
 exact this
def updI (cur : Nat → Int) (i : Nat) (v : Int) : Nat → Int := fun j => if j = i then v else cur j
structure Relaxed (n : Nat) (E : Edges) (base : Nat → Int) (r : Nat) (D : Nat × Nat → Prop) (cur : Nat → Int) : Prop where
 lo : ∀ i, i < n → climb E base r i ≤ cur i
 hi : ∀ i, i < n → cur i ≤ climb E base n i
 done : ∀ e ∈ E, D e → climb E base r e.1 + 1 ≤ cur e.2
section
variable {n : Nat} {E : Edges} {base : Nat → Int} {r : Nat} {D : Nat × Nat → Prop} {cur : Nat → Int}
theorem Relaxed.start (h : ∀ i, i < n → cur i = base i) : Relaxed n E base 0 (fun _ => False) cur :=
 ⟨fun i hi => by rw [h i hi]; exact Int.le_refl _, fun i hi => by rw [h i hi]; exact Cw, fun _ _ h => h.elim⟩
theorem Relaxed.weaken (h : Relaxed n E base r D cur) {D' : Nat × Nat → Prop} (hD : ∀ e ∈ E, D' e → D e) : Relaxed n E base r D' cur := ⟨h.lo, h.hi, fun e he h' => h.done e he (hD e he h')⟩
theorem Relaxed.step (h : Relaxed n E base r D cur) (hd : Dag n E) {k i : Nat} (he : (k, i) ∈ E) : Relaxed n E base r (fun x => D x ∨ x = (k, i)) (updI cur i (max (cur i) (cur k + 1))) := by
 have hk := hd.1 _ he
 refine ⟨fun j hj => ?_, fun j hj => ?_, fun x hx hD => ?_⟩
 · unfold updI
   split
   · rename_i hji; subst hji; have := h.lo j hj; omega
   · exact h.lo j hj
 · unfold updI
   split
   · rename_i hji
     subst hji
     have h1 := h.hi j hj
     have h2 := h.hi k hk.1
     have h3 := hd.fits (base := base) he
     simp only at h3
     omega
   · exact h.hi j hj
 · have h1 := h.lo k hk.1
   unfold updI
   rcases hD with hD | rfl
   · have h2 := h.done x hx hD
     split
     · rename_i hji; rw [hji] at h2; omega
     · exact h2
   · simp only [if_true]; omega
theorem Relaxed.round (h : Relaxed n E base r D cur) (hD : ∀ e ∈ E, D e) : Relaxed n E base (r + 1) (fun _ => False) cur :=
 ⟨fun i hi => D3.2 ⟨Int.le_trans Cw (h.lo i hi), fun e he hi => by subst hi; exact h.done e he (hD e he)⟩, h.hi, fun _ _ h => h.elim⟩
theorem Relaxed.full (h : Relaxed n E base r D cur) (hr : n ≤ r) {i : Nat} (hi : i < n) : cur i = climb E base n i := by
 have hm : ∀ d, climb E base n i ≤ climb E base (n + d) i := by
   intro d
   induction d with
   | zero => exact Int.le_refl _
   | succ d ih => exact Int.le_trans ih (climb_mono i)
 have h1 := hm (r - n)
 rw [show n + (r - n) = r by omega] at h1
 have h2 := h.lo i hi
 have h3 := h.hi i hi
 omega
end
def treeE (l : List Int) : Edges := (List.range l.length).flatMap fun i => if upN l i = -1 then [] else [((upN l i).toNat, i)]
theorem treeE_mem {l : List Int} {e : Nat × Nat} : e ∈ treeE l ↔ e.2 < l.length ∧ upN l e.2 ≠ -1 ∧ e.1 = (upN l e.2).toNat := by
 unfold treeE
 rw [List.mem_flatMap]
 constructor
 · rintro ⟨i, hi, he⟩
   split at he
   · cases he
   · rename_i h
     simp at he
     subst he
     exact ⟨by simpa using hi, h, rfl⟩
 · rintro ⟨h1, h2, h3⟩
   refine ⟨e.2, by simpa using h1, ?_⟩
   rw [if_neg h2]
   simp
   exact Prod.ext h3 rfl
theorem treeE_at {l : List Int} {i k : Nat} (hi : i < l.length) (h : upN l i = (k : Int)) : (k, i) ∈ treeE l := treeE_mem.2 ⟨hi, by simp only; omega, by simp only; omega⟩
/-- How far from a first one. -/
def dep (l : List Int) : Nat → Nat → Nat
 | 0, _ => 0
 | f + 1, i => if upN l i = -1 then 0 else dep l f (upN l i).toNat + 1
theorem dep_le {l : List Int} : ∀ {f i : Nat}, dep l f i ≤ f
 | 0, _ => Nat.le_refl _
 | f + 1, i => by unfold dep; split; exact Nat.zero_le _; have := dep_le (l := l) (f := f) (i := (upN l i).toNat); omega
theorem dep_stable {l : List Int} : ∀ {f i : Nat}, reach l f i = true → dep l (f + 1) i = dep l f i
 | 0, i, h => by have : upN l i = -1 := by simpa [reach] using h
                 unfold dep; rw [if_pos this]
 | f + 1, i, h => by
   by_cases h1 : upN l i = -1
   · unfold dep; rw [if_pos h1, if_pos h1]
   · simp only [reach, decide_eq_false h1, Bool.false_or] at h
     have e := dep_stable h
     rw [dep, if_neg h1, e]
     conv => rhs; rw [dep, if_neg h1]
theorem reach_up {l : List Int} {f i k : Nat} (h : upN l i = (k : Int)) (hr : reach l f i = true) : ∃ f', f = f' + 1 ∧ reach l f' k = true := by
 cases f with
 | zero => rw [reach_zero (by omega)] at hr; cases hr
 | succ f => exact ⟨f, rfl, by rw [← reach_step h]; exact hr⟩
theorem dep_edge {l : List Int} {f i k : Nat} (h : upN l i = (k : Int)) (hr : reach l f i = true) : dep l f i = dep l f k + 1 := by
 obtain ⟨f', rfl, h2⟩ := reach_up h hr
 rw [dep_stable h2]
 conv => lhs; rw [dep, if_neg (by omega), h]
 rfl
structure IsTree (l : List Int) : Prop where
 in_ : TreeIn l
 reach : ∀ i, i < l.length → reach l l.length i = true
 one : firstsN l l.length = 1
theorem isTree_of {l : List Int} (h : TreeIn l) (ht : isT l = true) : IsTree l := by
 unfold isT at ht
 rw [Bool.and_eq_true, List.all_eq_true] at ht
 exact ⟨h, fun i hi => ht.1 i (List.mem_range.2 hi), of_decide_eq_true ht.2⟩
theorem IsTree.isT {l : List Int} (h : IsTree l) : isT l = true := by
 unfold Go.Proofs.Ytccogmkhijgelaa.isT
 rw [Bool.and_eq_true, List.all_eq_true]
 exact ⟨fun i hi => h.reach i (List.mem_range.1 hi), decide_eq_true h.one⟩
theorem IsTree.edge {l : List Int} (h : IsTree l) {e : Nat × Nat} (he : e ∈ treeE l) : e.1 < l.length ∧ e.2 < l.length ∧ upN l e.2 = (e.1 : Int) := by
 obtain ⟨h1, h2, h3⟩ := treeE_mem.1 he
 obtain ⟨j, hj, hjl⟩ := h.in_.nat h1 h2
 rw [hj] at h3
 have : e.1 = j := by omega
 exact ⟨by omega, h1, by omega⟩
theorem IsTree.dag {l : List Int} (h : IsTree l) : Dag l.length (treeE l) := by
 refine ⟨fun e he => ⟨(h.edge he).1, (h.edge he).2.1⟩, dep l l.length, fun e he => ?_⟩
 obtain ⟨h1, h2, h3⟩ := h.edge he
 rw [dep_edge h3 (h.reach _ h2)]
 omega
/-- An edition is another one, or was set from it. -/
def under (l : List Int) : Nat → Nat → Nat → Bool
 | 0, x, o => decide (x = o)
 | f + 1, x, o => decide (x = o) || (if upN l x = -1 then false else under l f (upN l x).toNat o)
def underB (l : List Int) (x o : Nat) : Bool := under l l.length x o
theorem under_self {l : List Int} {f x : Nat} : under l f x x = true := by cases f <;> simp [under]
theorem under_stable {l : List Int} {o : Nat} : ∀ {f i : Nat}, reach l f i = true → under l (f + 1) i o = under l f i o
 | 0, i, h => by have : upN l i = -1 := by simpa [reach] using h
                 simp [under, this]
 | f + 1, i, h => by
   by_cases h1 : upN l i = -1
   · simp [under, h1]
   · simp only [reach, decide_eq_false h1, Bool.false_or] at h
     have e := under_stable (o := o) h
     rw [under, if_neg h1, e]
     conv => rhs; rw [under, if_neg h1]
theorem under_edge {l : List Int} {f i k o : Nat} (h : upN l i = (k : Int)) (hr : reach l f i = true) : under l f i o = (decide (i = o) || under l f k o) := by
 obtain ⟨f', rfl, h2⟩ := reach_up h hr
 rw [under_stable h2]
 conv => lhs; rw [under, if_neg (by omega), h]
 rfl
theorem IsTree.dag2 {l : List Int} (h : IsTree l) {o x : Nat} (ho : o < l.length) (hx : x < l.length) (hu : underB l o x = false) : Dag l.length (treeE l ++ [(o, x)]) := by
 refine ⟨fun e he => ?_, fun i => dep l l.length i + (if underB l i x = true then l.length + 1 else 0), fun e he => ?_⟩
 · rcases List.mem_append.1 he with he | he
   · exact ⟨(h.edge he).1, (h.edge he).2.1⟩
   · simp at he; subst he; exact ⟨ho, hx⟩
 · rcases List.mem_append.1 he with he | he
   · obtain ⟨h1, h2, h3⟩ := h.edge he
     have e1 := dep_edge h3 (h.reach _ h2)
     have e2 := under_edge (o := x) h3 (h.reach _ h2)
     show dep l l.length e.1 + (if under l l.length e.1 x = true then l.length + 1 else 0) < dep l l.length e.2 + (if under l l.length e.2 x = true then l.length + 1 else 0)
     by_cases hk : under l l.length e.1 x = true
     · rw [hk, Bool.or_true] at e2
       rw [if_pos hk, if_pos e2]; omega
     · rw [if_neg hk]; omega
   · simp at he
     subst he
     have : dep l l.length o ≤ l.length := dep_le
     show dep l l.length o + (if underB l o x = true then l.length + 1 else 0) < dep l l.length x + (if underB l x x = true then l.length + 1 else 0)
     rw [if_neg (by rw [hu]; simp), if_pos (show underB l x x = true from under_self)]
     omega
def firstY (s : Stm) (E : Edges) (i : Nat) : Int := climb E (fun i => (s.ed i).lo) s.editions.length i
def lastY (s : Stm) (E : Edges) (i : Nat) : Int := -(climb (swapE E) (fun i => -(s.ed i).hi) s.editions.length i)
def fitsE (s : Stm) (E : Edges) : Bool := (List.range s.editions.length).all fun i => decide (firstY s E i ≤ (s.ed i).hi)
theorem fitsE_iff {s : Stm} {E : Edges} : fitsE s E = true ↔ ∀ i, i < s.editions.length → firstY s E i ≤ (s.ed i).hi := by
 unfold fitsE
 rw [List.all_eq_true]
 exact ⟨fun h i hi => of_decide_eq_true (h i (List.mem_range.2 hi)), fun h i hi => decide_eq_true (h i (List.mem_range.1 hi))⟩
theorem lastY_hi {s : Stm} {E : Edges} {i : Nat} : lastY s E i ≤ (s.ed i).hi := by
 have : -(s.ed i).hi ≤ climb (swapE E) (fun i => -(s.ed i).hi) s.editions.length i := Cw (base := fun i => -(s.ed i).hi)
 unfold lastY; omega
theorem firstY_lo {s : Stm} {E : Edges} {i : Nat} : (s.ed i).lo ≤ firstY s E i := Cw
/-- Years that fit are no earlier, and no later. -/
theorem years_in {s : Stm} {E : Edges} (hE : ∀ e ∈ E, e.1 < s.editions.length ∧ e.2 < s.editions.length) {L : Nat → Int} (h0 : ∀ i, i < s.editions.length → (s.ed i).lo ≤ L i ∧ L i ≤ (s.ed i).hi) (h1 : ∀ e ∈ E, L e.1 + 1 ≤ L e.2) :
   ∀ i, i < s.editions.length → firstY s E i ≤ L i ∧ L i ≤ lastY s E i := by
 intro i hi
 refine ⟨climb_least hE (fun i hi => (h0 i hi).1) h1 _ i hi, ?_⟩
 have := climb_least (E := swapE E) (base := fun i => -(s.ed i).hi) (n := s.editions.length) (fun e he => ⟨(hE _ (Dc.1 he)).2, (hE _ (Dc.1 he)).1⟩) (L := fun i => -(L i)) (fun i hi => by have := (h0 i hi).2; show -(s.ed i).hi ≤ -(L i); omega)
   (fun e he => Int.le_trans (show -(L e.1) + 1 ≤ -(L e.2) from by have : L e.2 + 1 ≤ L e.1 := h1 _ (Dc.1 he); omega) (Int.le_refl _)) s.editions.length i hi
 have h9 : climb (swapE E) (fun i => -(s.ed i).hi) s.editions.length i ≤ -(L i) := this
 unfold lastY; omega
theorem fits_both {s : Stm} {E : Edges} (hd : Dag s.editions.length E) : fitsE s E = true ↔ ∀ i, i < s.editions.length → firstY s E i ≤ lastY s E i := by
 rw [fitsE_iff]
 constructor
 · intro h i hi
   exact (years_in hd.1 (L := firstY s E) (fun i hi => ⟨firstY_lo, h i hi⟩) (fun e he => hd.fits he) i hi).2
 · intro h i hi
   exact Int.le_trans (h i hi) lastY_hi
theorem firstY_bound {s : Stm} (hv : ValidT s) {E : Edges} (hE : ∀ e ∈ E, e.1 < s.editions.length ∧ e.2 < s.editions.length) : ∀ f i, i < s.editions.length → 1450 ≤ climb E (fun i => (s.ed i).lo) f i ∧ climb E (fun i => (s.ed i).lo) f i ≤ 1850 + f := by
 intro f
 induction f with
 | zero => intro i hi; have := hv.year i hi; show 1450 ≤ (s.ed i).lo ∧ (s.ed i).lo ≤ 1850 + ((0 : Nat) : Int); omega
 | succ f ih =>
   intro i hi
   have hy := hv.year i hi
   refine ⟨Int.le_trans hy.1 (Cw (base := fun i => (s.ed i).lo)), D3.2 ⟨by show (s.ed i).lo ≤ _; omega, fun e he hi => ?_⟩⟩
   have := ih e.1 (hE e he).1
   omega
theorem lastY_bound {s : Stm} (hv : ValidT s) {E : Edges} (hE : ∀ e ∈ E, e.1 < s.editions.length ∧ e.2 < s.editions.length) : ∀ f i, i < s.editions.length → -1850 ≤ climb (swapE E) (fun i => -(s.ed i).hi) f i ∧ climb (swapE E) (fun i => -(s.ed i).hi) f i ≤ -1450 + f := by
 intro f
 induction f with
 | zero => intro i hi; have := hv.year i hi; show -1850 ≤ -(s.ed i).hi ∧ -(s.ed i).hi ≤ -1450 + ((0 : Nat) : Int); omega
 | succ f ih =>
   intro i hi
   have hy := hv.year i hi
   refine ⟨Int.le_trans (show -1850 ≤ -(s.ed i).hi by omega) (Cw (base := fun i => -(s.ed i).hi)), D3.2 ⟨by show -(s.ed i).hi ≤ _; omega, fun e he hi => ?_⟩⟩
   have := ih e.1 (hE _ (Dc.1 he)).2
   omega
end Go.Proofs.Ytccogmkhijgelaa
namespace Go.Proofs.Ytccogmkhijgelaa
def sumN (n : Nat) (f : Nat → Int) : Int := match n with
 | 0 => 0
 | k + 1 => sumN k f + f k
theorem sumN_le {n : Nat} {f g : Nat → Int} (h : ∀ i, i < n → f i ≤ g i) : sumN n f ≤ sumN n g := by
 induction n with
 | zero => exact Int.le_refl _
 | succ n ih => have := ih fun i hi => h i (by omega); have := h n (by omega); simp only [sumN]; omega
theorem Cs {n : Nat} {f g : Nat → Int} (h : ∀ i, i < n → f i = g i) : sumN n f = sumN n g := Int.le_antisymm (sumN_le fun i hi => Int.le_of_eq (h i hi)) (sumN_le fun i hi => Int.le_of_eq (h i hi).symm)
theorem sumN_add {n : Nat} {f g : Nat → Int} : sumN n (fun i => f i + g i) = sumN n f + sumN n g := by
 induction n with
 | zero => rfl
 | succ n ih => simp only [sumN, ih]; omega
theorem sumN_zero {n : Nat} : sumN n (fun _ => 0) = 0 := by
 induction n with
 | zero => rfl
 | succ n ih => simp only [sumN, ih]; rfl
theorem sumN_nonneg {n : Nat} {f : Nat → Int} (h : ∀ i, i < n → 0 ≤ f i) : 0 ≤ sumN n f := by
 have := sumN_le (f := fun _ => 0) h
 rw [sumN_zero] at this
 exact this
theorem sumN_swap {n m : Nat} {f : Nat → Nat → Int} : sumN n (fun i => sumN m fun k => f i k) = sumN m fun k => sumN n fun i => f i k := by
 induction n with
 | zero => simp only [sumN]; exact sumN_zero.symm
 | succ n ih => simp only [sumN, ih, ← sumN_add]
theorem sumN_one {n j : Nat} (hj : j < n) {c : Int} : sumN n (fun i => if j = i then c else 0) = c := by
 induction n with
 | zero => omega
 | succ n ih =>
   simp only [sumN]
   by_cases h : j = n
   · rw [if_pos h]
     have : sumN n (fun i => if j = i then c else 0) = 0 := by rw [Cs (g := fun _ => 0) fun i hi => if_neg (by omega)]; exact sumN_zero
     omega
   · rw [if_neg h, ih (by omega)]; omega
theorem sumN_none {n : Nat} {j : Int} (hj : j = -1) {c : Int} : sumN n (fun i => if j = (i : Int) then c else 0) = 0 := by
 rw [Cs (g := fun _ => 0) fun i hi => if_neg (by omega)]; exact sumN_zero
theorem sumN_mem {n i : Nat} {f : Nat → Int} (h : ∀ i, i < n → 0 ≤ f i) (hi : i < n) : f i ≤ sumN n f := by
 induction n with
 | zero => omega
 | succ n ih =>
   simp only [sumN]
   by_cases h2 : i = n
   · subst h2; have := sumN_nonneg (n := i) (f := f) fun j hj => h j (by omega); omega
   · have := ih (fun j hj => h j (by omega)) (by omega); have := h n (by omega); omega
def never : Int := 1048576
/-- From one reading to another: nothing, one change, or not possible. -/
def stepOk (free : Bool) (a b : Int) : Prop := a = b ∨ a < b ∨ free = true
def bestTo (free : Bool) (own : Int → Int) (a : Int) : Nat → Int
 | 0 => never
 | m + 1 => if (m + 1 : Int) = a then min (bestTo free own a m) (own (m + 1)) else if a < (m + 1 : Int) ∨ free = true then min (bestTo free own a m) (own (m + 1) + 1) else bestTo free own a m
def fitR (s : Stm) (p i : Nat) (a : Int) : Prop := s.r i p = 0 ∨ s.r i p = a
instance {s : Stm} {p i : Nat} {a : Int} : Decidable (fitR s p i a) := by unfold fitR; infer_instance
def freeP (s : Stm) (p : Nat) : Bool := decide ((s.pl p).kind = 0)
def costK (s : Stm) (l : List Int) (p : Nat) (sub : Nat → Int → Int) (i : Nat) : Nat → Int → Int
 | 0, a => if fitR s p i a then 0 else never
 | k + 1, a => if upN l k = (i : Int) then min never (costK s l p sub i k a + bestTo (freeP s p) (sub k) a 3) else costK s l p sub i k a
def costT (s : Stm) (l : List Int) (p : Nat) : Nat → Nat → Int → Int
 | 0, _, _ => 0
 | f + 1, i, a => costK s l p (costT s l p f) i l.length a
def costN (s : Stm) (l : List Int) (p i : Nat) (a : Int) : Int := costT s l p (l.length + 1) i a
def min3 (c : Int → Int) : Int := min (min (c 1) (c 2)) (c 3)
def rootN (l : List Int) : Int := findI (fun x => decide ((-1 : Int) = x)) l
def placeN (s : Stm) (l : List Int) (p : Nat) : Int := min3 (costN s l p (rootN l).toNat)
theorem costK_cong {s : Stm} {l : List Int} {p i : Nat} {f g : Nat → Int → Int} : ∀ {n : Nat}, (∀ k, k < n → upN l k = (i : Int) → f k = g k) → ∀ a, costK s l p f i n a = costK s l p g i n a
 | 0, _, _ => rfl
 | n + 1, h, a => by
   unfold costK
   rw [costK_cong (fun k hk => h k (by omega)) a]
   split
   · rename_i hu; rw [h n (by omega) hu]
   · rfl
theorem cost_stable {s : Stm} {l : List Int} {p : Nat} (ht : IsTree l) : ∀ {f i : Nat}, i < l.length → l.length + 1 ≤ dep l l.length i + f → costT s l p (f + 1) i = costT s l p f i
 | 0, i, hi, h => by have := dep_le (l := l) (f := l.length) (i := i); omega
 | f + 1, i, hi, h => by
   funext a
   rw [costT]
   conv => rhs; rw [costT]
   refine costK_cong (fun k hk hu => ?_) a
   refine cost_stable ht hk ?_
   have := dep_edge hu (ht.reach k hk)
   omega
/-- What a child asks for. -/
theorem cost_fix {s : Stm} {l : List Int} {p : Nat} (ht : IsTree l) {i : Nat} (hi : i < l.length) : costN s l p i = costK s l p (costN s l p) i l.length := by
 unfold costN
 rw [← cost_stable ht hi (by omega)]
 rfl
section
variable {s : Stm} {l : List Int} {p : Nat}
theorem best_bound {free : Bool} {own : Int → Int} {a : Int} (h : ∀ m, 0 ≤ own m) : ∀ m, 0 ≤ bestTo free own a m ∧ bestTo free own a m ≤ never
 | 0 => by unfold bestTo never; omega
 | m + 1 => by
   have := best_bound (free := free) (a := a) h m
   have := h (m + 1)
   unfold bestTo
   split
   · omega
   · split <;> omega
theorem best_le {free : Bool} {own : Int → Int} {a : Int} : ∀ {m : Nat} {b : Nat}, 1 ≤ b → b ≤ m → stepOk free a b → bestTo free own a m ≤ own b + (if a = (b : Int) then 0 else 1)
 | 0, b, h1, h2, _ => by omega
 | m + 1, b, h1, h2, h3 => by
   by_cases hb : b = m + 1
   · subst hb
     have e : ((m + 1 : Nat) : Int) = (m : Int) + 1 := by omega
     rw [e] at h3 ⊢
     unfold bestTo
     rcases h3 with h3 | h3
     · rw [if_pos h3.symm, if_pos h3]; omega
     · by_cases h4 : (m : Int) + 1 = a
       · rw [if_pos h4, if_pos h4.symm]; omega
       · rw [if_neg h4, if_pos h3, if_neg (fun h => h4 h.symm)]; omega
   · have := best_le (own := own) (m := m) h1 (by omega) h3
     unfold bestTo
     split
     · omega
     · split <;> omega
/-- One of them is as good as the best. -/
theorem best_some {free : Bool} {own : Int → Int} {a : Int} : ∀ {m : Nat}, bestTo free own a m < never → ∃ b : Nat, 1 ≤ b ∧ b ≤ m ∧ stepOk free a b ∧ bestTo free own a m = own b + (if a = (b : Int) then 0 else 1)
 | 0, h => by unfold bestTo at h; omega
 | m + 1, h => by
   have ih := best_some (free := free) (own := own) (a := a) (m := m)
   have old : bestTo free own a (m + 1) = bestTo free own a m → ∃ b : Nat, 1 ≤ b ∧ b ≤ m + 1 ∧ stepOk free a b ∧ bestTo free own a (m + 1) = own b + (if a = (b : Int) then 0 else 1) := fun e => by
     rw [e] at h ⊢
     obtain ⟨b, h1, h2, h3⟩ := ih h
     exact ⟨b, h1, by omega, h3⟩
   have e : bestTo free own a (m + 1) = if (m + 1 : Int) = a then min (bestTo free own a m) (own (m + 1)) else if a < (m + 1 : Int) ∨ free = true then min (bestTo free own a m) (own (m + 1) + 1) else bestTo free own a m := rfl
   by_cases h4 : (m + 1 : Int) = a
   · rw [if_pos h4] at e
     by_cases h5 : bestTo free own a m ≤ own (m + 1)
     · exact old (by omega)
     · exact ⟨m + 1, by omega, by omega, .inl (by push_cast; omega), by rw [if_pos (by push_cast; omega)]; push_cast; omega⟩
   · rw [if_neg h4] at e
     by_cases h6 : a < (m + 1 : Int) ∨ free = true
     · rw [if_pos h6] at e
       by_cases h5 : bestTo free own a m ≤ own (m + 1) + 1
       · exact old (by omega)
       · exact ⟨m + 1, by omega, by omega, .inr (by push_cast; exact h6), by rw [if_neg (by push_cast; omega)]; push_cast; omega⟩
     · rw [if_neg h6] at e
       exact old e
theorem costK_bound {sub : Nat → Int → Int} (h : ∀ k a, 0 ≤ sub k a) {i : Nat} : ∀ n a, 0 ≤ costK s l p sub i n a ∧ costK s l p sub i n a ≤ never
 | 0, a => by unfold costK never; split <;> omega
 | n + 1, a => by
   have := costK_bound h (i := i) n a
   have := best_bound (free := freeP s p) (a := a) (h n) 3
   unfold costK
   split <;> omega
theorem costT_bound : ∀ f i a, 0 ≤ costT s l p f i a ∧ costT s l p f i a ≤ never
 | 0, _, _ => by unfold costT never; omega
 | f + 1, i, a => costK_bound (fun k b => (costT_bound f k b).1) _ _
theorem Dv (i : Nat) (a : Int) : 0 ≤ costN s l p i a ∧ costN s l p i a ≤ never := costT_bound _ _ _
/-- What one edition changes. -/
def chg (l : List Int) (g : Nat → Int) (k : Nat) : Int := if upN l k = -1 then 0 else if g (upN l k).toNat = g k then 0 else 1
theorem chg_at {l : List Int} {g : Nat → Int} {k i : Nat} (hu : upN l k = (i : Int)) : chg l g k = if g i = g k then 0 else 1 := by
 have h1 : ¬ upN l k = -1 := by omega
 have h2 : (upN l k).toNat = i := by omega
 unfold chg; rw [if_neg h1, h2]
structure Filling (s : Stm) (l : List Int) (p : Nat) (g : Nat → Int) : Prop where
 val : ∀ i, i < l.length → 1 ≤ g i ∧ g i ≤ 3
 fit : ∀ i, i < l.length → fitR s p i (g i)
def Possible (s : Stm) (l : List Int) (p : Nat) (g : Nat → Int) : Prop := ∀ i, i < l.length → upN l i ≠ -1 → stepOk (freeP s p) (g (upN l i).toNat) (g i)
def changesOf (l : List Int) (g : Nat → Int) : Int := sumN l.length (chg l g)
theorem costK_le {sub : Nat → Int → Int} {g : Nat → Int} {i : Nat} (hfit : fitR s p i (g i)) : ∀ {n : Nat}, (∀ k, k < n → 1 ≤ g k ∧ g k ≤ 3) → (∀ k, k < n → upN l k = (i : Int) → stepOk (freeP s p) (g i) (g k)) →
   costK s l p sub i n (g i) ≤ sumN n (fun k => if upN l k = (i : Int) then sub k (g k) + (if g i = g k then 0 else 1) else 0)
 | 0, _, _ => by unfold costK sumN; rw [if_pos hfit]; exact Int.le_refl _
 | n + 1, h, h2 => by
   have ih := costK_le (sub := sub) hfit (n := n) (fun k hk => h k (by omega)) (fun k hk => h2 k (by omega))
   unfold costK
   simp only [sumN]
   split
   · rename_i hu
     have hv := h n (by omega)
     obtain ⟨b, hb⟩ := Int.eq_ofNat_of_zero_le (show 0 ≤ g n by omega)
     have hs := h2 n (by omega) hu
     rw [hb] at hs
     have := best_le (own := sub n) (m := 3) (b := b) (by omega) (by omega) hs
     rw [← hb] at this
     omega
   · omega
theorem sum_kids {c : Nat → Int} (ht : IsTree l) : sumN l.length (fun i => sumN l.length fun k => if upN l k = (i : Int) then c k else 0) = sumN l.length fun k => if upN l k = -1 then 0 else c k := by
 rw [sumN_swap]
 refine Cs fun k hk => ?_
 by_cases h : upN l k = -1
 · rw [if_pos h]; exact sumN_none h
 · rw [if_neg h]
   obtain ⟨j, hj, hjl⟩ := ht.in_.nat hk h
   rw [hj, Cs (g := fun i => if j = i then c k else 0) fun i _ => by simp only [Int.natCast_inj]]
   exact sumN_one hjl
theorem sum_split {c : Nat → Int} : sumN l.length c = sumN l.length (fun k => if upN l k = -1 then c k else 0) + sumN l.length fun k => if upN l k = -1 then 0 else c k := by
 rw [← sumN_add]
 exact Cs fun k _ => by split <;> omega
/-- A filling that is possible has no fewer changes. -/
theorem cost_lower (ht : IsTree l) {g : Nat → Int} (hf : Filling s l p g) (hp : Possible s l p g) {r : Nat} (hr : r < l.length) (hru : upN l r = -1) : costN s l p r (g r) ≤ changesOf l g := by
 have h1 : ∀ i, i < l.length → costN s l p i (g i) ≤ sumN l.length fun k => if upN l k = (i : Int) then costN s l p k (g k) + (if g i = g k then 0 else 1) else 0 := fun i hi => by
   rw [cost_fix ht hi]
   exact costK_le (hf.fit i hi) hf.val fun k hk hu => by have := hp k hk (by omega); rw [hu] at this; exact this
 have h2 := sumN_le h1
 have h3 : sumN l.length (fun i => sumN l.length fun k => if upN l k = (i : Int) then costN s l p k (g k) + (if g i = g k then 0 else 1) else 0) = sumN l.length fun k => if upN l k = -1 then 0 else costN s l p k (g k) + chg l g k := by
   rw [← sum_kids ht]
   refine Cs fun i _ => Cs fun k _ => ?_
   by_cases hu : upN l k = (i : Int)
   · rw [if_pos hu, if_pos hu, chg_at hu]
   · rw [if_neg hu, if_neg hu]
 rw [h3, sum_split (c := fun i => costN s l p i (g i))] at h2
 have h4 : sumN l.length (fun k => if upN l k = -1 then 0 else costN s l p k (g k) + chg l g k) = sumN l.length (fun k => if upN l k = -1 then 0 else costN s l p k (g k)) + changesOf l g := by
   unfold changesOf
   rw [← sumN_add]
   refine Cs fun k _ => ?_
   split
   · rename_i hu; unfold chg; rw [if_pos hu]; rfl
   · rfl
 rw [h4] at h2
 have h5 := sumN_mem (n := l.length) (i := r) (f := fun k => if upN l k = -1 then costN s l p k (g k) else 0) (fun k _ => by show 0 ≤ if upN l k = -1 then costN s l p k (g k) else 0; split; exact (Dv _ _).1; exact Int.le_refl _) hr
 simp only [if_pos hru] at h5
 omega
/-- One that has just as many. -/
def stepB (free : Bool) (own : Int → Int) (a b : Int) : Bool := (decide (a = b) || (decide (a < b) || free)) && decide (bestTo free own a 3 = own b + (if a = b then 0 else 1))
theorem stepB_iff {free : Bool} {own : Int → Int} {a b : Int} : stepB free own a b = true ↔ stepOk free a b ∧ bestTo free own a 3 = own b + (if a = b then 0 else 1) := by simp [stepB, stepOk]
def pickM (free : Bool) (own : Int → Int) (a : Int) : Int := bif stepB free own a 1 then 1 else bif stepB free own a 2 then 2 else 3
theorem pickM_ok {free : Bool} {own : Int → Int} {a : Int} (h : bestTo free own a 3 < never) : 1 ≤ pickM free own a ∧ pickM free own a ≤ 3 ∧ stepOk free a (pickM free own a) ∧ bestTo free own a 3 = own (pickM free own a) + (if a = pickM free own a then 0 else 1) := by
 obtain ⟨b, h1, h2, h3, h4⟩ := best_some h
 have hb := stepB_iff.2 ⟨h3, h4⟩
 unfold pickM
 cases q1 : stepB free own a 1 with
 | true => exact ⟨Int.le_refl _, (show (1 : Int) ≤ 3 by decide), stepB_iff.1 q1⟩
 | false =>
   cases q2 : stepB free own a 2 with
   | true => exact ⟨(show (1 : Int) ≤ 2 by decide), (show (2 : Int) ≤ 3 by decide), stepB_iff.1 q2⟩
   | false =>
     have hb2 : b = 1 ∨ b = 2 ∨ b = 3 := by omega
     rcases hb2 with rfl | rfl | rfl
     · exact absurd (hb.symm.trans q1) (by decide)
     · exact absurd (hb.symm.trans q2) (by decide)
     · exact ⟨(show (1 : Int) ≤ 3 by decide), Int.le_refl _, h3, h4⟩
def walkUp (l : List Int) (z : Int) (st : Nat → Int → Int) : Nat → Nat → Int
 | 0, _ => z
 | f + 1, i => if upN l i = -1 then z else st i (walkUp l z st f (upN l i).toNat)
theorem walk_stable {z : Int} {st : Nat → Int → Int} : ∀ {f i : Nat}, reach l f i = true → walkUp l z st (f + 1) i = walkUp l z st f i
 | 0, i, h => by have : upN l i = -1 := by simpa [reach] using h
                 unfold walkUp; rw [if_pos this]
 | f + 1, i, h => by
   by_cases h1 : upN l i = -1
   · unfold walkUp; rw [if_pos h1, if_pos h1]
   · simp only [reach, decide_eq_false h1, Bool.false_or] at h
     have e := walk_stable (z := z) (st := st) h
     rw [walkUp, if_neg h1, e]
     conv => rhs; rw [walkUp, if_neg h1]
theorem walk_edge {z : Int} {st : Nat → Int → Int} {f i k : Nat} (h : upN l i = (k : Int)) (hr : reach l f i = true) : walkUp l z st f i = st i (walkUp l z st f k) := by
 obtain ⟨f', rfl, h2⟩ := reach_up h hr
 rw [walk_stable h2]
 conv => lhs; rw [walkUp, if_neg (by omega), h]
 rfl
theorem walk_root {z : Int} {st : Nat → Int → Int} {f i : Nat} (h : upN l i = -1) : walkUp l z st f i = z := by cases f <;> simp [walkUp, h]
theorem costK_parts {sub : Nat → Int → Int} (hs : ∀ k a, 0 ≤ sub k a) {i : Nat} {a : Int} : ∀ {n : Nat}, costK s l p sub i n a < never → fitR s p i a ∧ (∀ k, k < n → upN l k = (i : Int) → bestTo (freeP s p) (sub k) a 3 < never) ∧
   costK s l p sub i n a = sumN n (fun k => if upN l k = (i : Int) then bestTo (freeP s p) (sub k) a 3 else 0)
 | 0, h => by
   unfold costK at h ⊢
   split at h
   · rename_i hf; exact ⟨hf, fun k hk => absurd hk (by omega), by rw [if_pos hf]; rfl⟩
   · omega
 | n + 1, h => by
   have e : costK s l p sub i (n + 1) a = if upN l n = (i : Int) then min never (costK s l p sub i n a + bestTo (freeP s p) (sub n) a 3) else costK s l p sub i n a := rfl
   rw [e] at h ⊢
   have hb := best_bound (free := freeP s p) (a := a) (hs n) 3
   have hk := costK_bound (s := s) (l := l) (p := p) hs (i := i) n a
   by_cases hu : upN l n = (i : Int)
   · rw [if_pos hu] at h ⊢
     obtain ⟨h1, h2, h3⟩ := costK_parts hs (n := n) (a := a) (i := i) (by omega)
     refine ⟨h1, fun k hk hu2 => ?_, ?_⟩
     · by_cases hkn : k = n
       · subst hkn; omega
       · exact h2 k (by omega) hu2
     · simp only [sumN]; rw [if_pos hu, ← h3]; omega
   · rw [if_neg hu] at h ⊢
     obtain ⟨h1, h2, h3⟩ := costK_parts hs (n := n) h
     refine ⟨h1, fun k hk hu2 => ?_, ?_⟩
     · by_cases hkn : k = n
       · subst hkn; exact absurd hu2 hu
       · exact h2 k (by omega) hu2
     · simp only [sumN]; rw [if_neg hu, ← h3]; omega
theorem first_le_one {n : Nat} : ∀ i k, i < n → k < n → upN l i = -1 → upN l k = -1 → firstsN l n ≤ 1 → i = k := by
 have key : ∀ n i k, i < k → k < n → upN l i = -1 → upN l k = -1 → 2 ≤ firstsN l n := by
   have one : ∀ n i, i < n → upN l i = -1 → 1 ≤ firstsN l n := by
     intro n
     induction n with
     | zero => intro i h; omega
     | succ n ih =>
       intro i hi hu
       unfold firstsN
       by_cases h : i = n
       · subst h; rw [if_pos hu]; have := firsts_bound (l := l) i; omega
       · have := ih i (by omega) hu; split <;> omega
   intro n
   induction n with
   | zero => intro i k _ h; omega
   | succ n ih =>
     intro i k hik hk h1 h2
     unfold firstsN
     by_cases h : k = n
     · subst h; rw [if_pos h2]; have := one k i hik h1; omega
     · have := ih i k hik (by omega) h1 h2; split <;> omega
 intro i k hi hk h1 h2 h3
 rcases Nat.lt_trichotomy i k with h | h | h
 · have := key n i k h hk h1 h2; omega
 · exact h
 · have := key n k i h hi h2 h1; omega
theorem cost_upper (ht : IsTree l) {r : Nat} (hr : r < l.length) (hru : upN l r = -1) {a : Int} (ha : 1 ≤ a ∧ a ≤ 3) (hc : costN s l p r a < never) : ∃ g, Filling s l p g ∧ Possible s l p g ∧ g r = a ∧ changesOf l g = costN s l p r a := by
 let g : Nat → Int := walkUp l a (fun i b => pickM (freeP s p) (costN s l p i) b) l.length
 have hgr : g r = a := walk_root hru
 have huniq : ∀ k, k < l.length → upN l k = -1 → k = r := fun k hk hu => first_le_one k r hk hr hu hru (by rw [ht.one]; exact Int.le_refl _)
 have hge : ∀ k (i : Nat), k < l.length → upN l k = (i : Int) → g k = pickM (freeP s p) (costN s l p k) (g i) := fun k i hk hu => walk_edge hu (ht.reach k hk)
 have hnn : ∀ k b, 0 ≤ costN s l p k b := fun k b => (Dv k b).1
 -- all costs along g are less than never
 have hall : ∀ d i, i < l.length → dep l l.length i ≤ d → costN s l p i (g i) < never := by
   intro d
   induction d with
   | zero =>
     intro i hi hd
     by_cases hu : upN l i = -1
     · rw [huniq i hi hu, hgr]; exact hc
     · obtain ⟨j, hj, hjl⟩ := ht.in_.nat hi hu
       have := dep_edge hj (ht.reach i hi)
       omega
   | succ d ih =>
     intro i hi hd
     by_cases hu : upN l i = -1
     · rw [huniq i hi hu, hgr]; exact hc
     · obtain ⟨j, hj, hjl⟩ := ht.in_.nat hi hu
       have h1 := dep_edge hj (ht.reach i hi)
       have h2 := ih j hjl (by omega)
       rw [cost_fix ht hjl] at h2
       obtain ⟨-, h3, -⟩ := costK_parts hnn h2
       have h4 := h3 i hi hj
       have h5 := pickM_ok h4
       rw [← hge i j hi hj] at h5
       have := (hnn i (g i))
       have h6 := h5.2.2.2
       split at h6 <;> omega
 have hlt : ∀ i, i < l.length → costN s l p i (g i) < never := fun i hi => hall _ i hi (Nat.le_refl _)
 have hparts : ∀ i, i < l.length → fitR s p i (g i) ∧ (∀ k, k < l.length → upN l k = (i : Int) → bestTo (freeP s p) (costN s l p k) (g i) 3 < never) ∧ costN s l p i (g i) = sumN l.length (fun k => if upN l k = (i : Int) then bestTo (freeP s p) (costN s l p k) (g i) 3 else 0) := fun i hi => by
   have h := hlt i hi
   have hfx := congrFun (cost_fix (s := s) (p := p) ht hi) (g i)
   rw [hfx] at h ⊢
   exact costK_parts hnn h
 have hkid : ∀ i k, i < l.length → k < l.length → upN l k = (i : Int) → 1 ≤ g k ∧ g k ≤ 3 ∧ stepOk (freeP s p) (g i) (g k) ∧ bestTo (freeP s p) (costN s l p k) (g i) 3 = costN s l p k (g k) + (if g i = g k then 0 else 1) := fun i k hi hk hu => by
   have := pickM_ok ((hparts i hi).2.1 k hk hu)
   rw [← hge k i hk hu] at this
   exact this
 refine ⟨g, ⟨fun i hi => ?_, fun i hi => (hparts i hi).1⟩, fun i hi hu => ?_, hgr, ?_⟩
 · by_cases hu : upN l i = -1
   · rw [huniq i hi hu, hgr]; exact ha
   · obtain ⟨j, hj, hjl⟩ := ht.in_.nat hi hu
     have := hkid j i hjl hi hj
     exact ⟨this.1, this.2.1⟩
 · obtain ⟨j, hj, hjl⟩ := ht.in_.nat hi hu
   have := (hkid j i hjl hi hj).2.2.1
   rw [hj]; exact this
 · have h1 : sumN l.length (fun i => costN s l p i (g i)) = sumN l.length fun i => sumN l.length fun k => if upN l k = (i : Int) then costN s l p k (g k) + chg l g k else 0 := by
     refine Cs fun i hi => ?_
     rw [(hparts i hi).2.2]
     refine Cs fun k hk => ?_
     by_cases hu : upN l k = (i : Int)
     · rw [if_pos hu, if_pos hu, (hkid i k hi hk hu).2.2.2, chg_at hu]
     · rw [if_neg hu, if_neg hu]
   rw [sum_kids ht, sum_split (c := fun i => costN s l p i (g i))] at h1
   have h4 : sumN l.length (fun k => if upN l k = -1 then 0 else costN s l p k (g k) + chg l g k) = sumN l.length (fun k => if upN l k = -1 then 0 else costN s l p k (g k)) + changesOf l g := by
     unfold changesOf
     rw [← sumN_add]
     refine Cs fun k _ => ?_
     split
     · rename_i hu; unfold chg; rw [if_pos hu]; rfl
     · rfl
   rw [h4] at h1
   have h5 : sumN l.length (fun k => if upN l k = -1 then costN s l p k (g k) else 0) = costN s l p r a := by
     rw [Cs (g := fun k => if r = k then costN s l p r a else 0) fun k hk => ?_]
     · exact sumN_one hr
     · by_cases hu : upN l k = -1
       · rw [if_pos hu, huniq k hk hu, if_pos rfl, hgr]
       · rw [if_neg hu, if_neg (fun h : r = k => hu (by rw [← h]; exact hru))]
   omega
end
end Go.Proofs.Ytccogmkhijgelaa
