/-
  A part of a proof: TopFolios returns true of any press, any room and whatever is shelved, and leaves what it is handed as it was.
-/
import Derived.Test.YtkjfmibiinfhfaaGreatPab
import Derived.Test.YtkjfmibiinfhfaaGreatProg
import Derived.KernelRfl
namespace Go.Proofs.YtkjfmibiinfhfaaGreat
set_option synthInstance.maxSize 4000
set_option synthInstance.maxHeartbeats 1000000
section
set_option maxRecDepth 100000
open Go.RowKit
theorem bd_130 : Body Tryz.prog 130 := AB (by kernel_rfl)
theorem bd_55 : Body Tryz.prog 55 := AB (by kernel_rfl)
theorem Sc : Body Tryz.prog 56 := AB (by kernel_rfl)
theorem bd_94 : Body Tryz.prog 94 := AB (by kernel_rfl)
theorem bd_95 : Body Tryz.prog 95 := AB (by kernel_rfl)
theorem bd_98 : Body Tryz.prog 98 := AB (by kernel_rfl)
theorem bd_102 : Body Tryz.prog 102 := AB (by kernel_rfl)
theorem EU : FieldT Tryz.prog 44 0 0 := AU (by kernel_rfl)
instance : FieldI Tryz.prog 44 0 0 := ⟨EU⟩
theorem ET : FieldT Tryz.prog 44 1 1 := AU (by kernel_rfl)
instance : FieldI Tryz.prog 44 1 1 := ⟨ET⟩
theorem AM : OneT Tryz.prog 3 := BA (by kernel_rfl)
instance : OneI Tryz.prog 3 := ⟨AM⟩
theorem BU : OneT Tryz.prog 9 := BA (by kernel_rfl)
instance : OneI Tryz.prog 9 := ⟨BU⟩
theorem Ds : SliceT Tryz.prog 67 9 1 := BO (by kernel_rfl)
instance : SliceI Tryz.prog 67 := ⟨_, _, Ds⟩
theorem AR : SliceT Tryz.prog 59 3 1 := BO (by kernel_rfl)
instance : SliceI Tryz.prog 59 := ⟨_, _, AR⟩
theorem M5 {F : Heap} (c : UInt8) : Ok Tryz.prog 94 [.int .u8 (c.toNat : Int)].toArray F fun r _ => r = .bool (letterB c) := by
 refine Ok.intro Tryz.func94 rfl Tryz.ntmps94 rfl fun w0 => ?_
 by_cases h1 : 97 ≤ (c.toNat : Int)
 ·refine AD (Ag 1) <| Ax (Ag 3) fun ds => Ai rfl rfl Aa (by first | rfl | exact dT (by omega)) <| Ao (Ag 1) <| Ai rfl rfl Aa (by first | rfl | exact dT (by omega)) <| Ao (Ag 1) <| Ad rfl (At Aa (by first | rfl | exact dT (by omega)) Aa) <| Aw (Ag 1) ?_
  by_cases h2 : (c.toNat : Int) ≤ 122
  ·refine Au <| Am rfl Bi ?_
   show _ = _; simp [outOf, letterB, h1, h2]
  refine Au <| Am rfl Bi ?_
  show _ = _; simp [outOf, letterB, h1, h2]
 refine AD (Ag 1) <| Ax (Ag 3) fun ds => Ar rfl rfl Aa (.inl (congrArg Value.bool (by first | rfl | exact dF (by omega)))) rfl <| Ar rfl rfl Aa (.inl (congrArg Value.bool (by first | rfl | exact dF (by omega)))) rfl <| Ad rfl (A9 Aa (by first | rfl | exact dF (by omega)) Aa) <| Aw (Ag 1) <| Au <| Am rfl Bi ?_
 show _ = _; simp [outOf, letterB, h1]
theorem UT {F : Heap} (c : UInt8) : Ok Tryz.prog 95 [.int .u8 (c.toNat : Int)].toArray F fun r _ => r = .bool (digitB c) := by
 refine Ok.intro Tryz.func95 rfl Tryz.ntmps95 rfl fun w0 => ?_
 by_cases h1 : 48 ≤ (c.toNat : Int)
 ·refine AD (Ag 1) <| Ax (Ag 3) fun ds => Ai rfl rfl Aa (by first | rfl | exact dT (by omega)) <| Ao (Ag 1) <| Ai rfl rfl Aa (by first | rfl | exact dT (by omega)) <| Ao (Ag 1) <| Ad rfl (At Aa (by first | rfl | exact dT (by omega)) Aa) <| Aw (Ag 1) ?_
  by_cases h2 : (c.toNat : Int) ≤ 57
  ·refine Au <| Am rfl Bi ?_
   show _ = _; simp [outOf, digitB, h1, h2]
  refine Au <| Am rfl Bi ?_
  show _ = _; simp [outOf, digitB, h1, h2]
 refine AD (Ag 1) <| Ax (Ag 3) fun ds => Ar rfl rfl Aa (.inl (congrArg Value.bool (by first | rfl | exact dF (by omega)))) rfl <| Ar rfl rfl Aa (.inl (congrArg Value.bool (by first | rfl | exact dF (by omega)))) rfl <| Ad rfl (A9 Aa (by first | rfl | exact dF (by omega)) Aa) <| Aw (Ag 1) <| Au <| Am rfl Bi ?_
 show _ = _; simp [outOf, digitB, h1]
theorem Eb {F : Heap} (z lo hi : Int) : Ok Tryz.prog 19 [.int .i64 z, .int .i64 lo, .int .i64 hi].toArray F fun r _ => r = .bool (inB lo hi z) := by
 refine Ok.intro Tryz.func19 rfl Tryz.ntmps19 rfl fun w0 => ?_
 by_cases h1 : lo ≤ z
 ·refine AD (Ag 1) <| Ax (Ag 4) fun ds => Ai rfl rfl Aa (by first | rfl | exact dT (by omega)) <| Ao (Ag 1) <| Ai rfl rfl Aa (by first | rfl | exact dT (by omega)) <| Ao (Ag 1) <| Ai rfl rfl Aa (by first | rfl | exact dT (by omega)) <| Ao (Ag 1) <| Ad rfl (At Aa (by first | rfl | exact dT (by omega)) Aa) <| Aw (Ag 1) ?_
  by_cases h2 : z ≤ hi
  ·refine Au <| Am rfl Bi ?_
   show _ = _; simp [outOf, inB, h1, h2]
  refine Au <| Am rfl Bi ?_
  show _ = _; simp [outOf, inB, h1, h2]
 refine AD (Ag 1) <| Ax (Ag 4) fun ds => Ar rfl rfl Aa (.inl (congrArg Value.bool (by first | rfl | exact dF (by omega)))) rfl <| Ar rfl rfl Aa (.inl (congrArg Value.bool (by first | rfl | exact dF (by omega)))) rfl <| Ar rfl rfl Aa (.inl (congrArg Value.bool (by first | rfl | exact dF (by omega)))) rfl <| Ad rfl (A9 Aa (by first | rfl | exact dF (by omega)) Aa) <| Aw (Ag 1) <| Au <| Am rfl Bi ?_
 show _ = _; simp [outOf, inB, h1]
theorem Fy {F : Heap} (s : ByteArray) : Ok Tryz.prog 56 [.string s].toArray F fun r _ => r = .bool (nameOk s) := by
 refine Ok.intro Tryz.func56 rfl Tryz.ntmps56 rfl fun w0 => ?_
 by_cases h0 : (s.size : Int) = 0
 ·refine AD (Ag 1) <| Ac <| Ax (Ag 1) fun ds => Ad rfl (Cg Tryz.underlying9 Aa) <| Ao (Ag 2) <| Ar rfl rfl Aa (.inl (congrArg Value.bool (by first | rfl | exact dT (by omega)))) rfl <| Ar rfl rfl Aa (.inl (congrArg Value.bool (by first | rfl | exact dT (by omega)))) rfl <| Ar rfl rfl Aa (.inl (congrArg Value.bool (by first | rfl | exact dT (by omega)))) rfl <| Ad rfl (At Aa (by first | rfl | exact dT (by omega)) Aa) <| Al <| Ab <| Ah Aa (by first | rfl | exact dT (by omega)) <| AD (Ag 1) <| Au <| Ay <| Am rfl Bi ?_
  show _ = _
  rw [FF (by omega)]; rfl
 refine AD (Ag 1) <| Ac <| Ax (Ag 1) fun ds => Ad rfl (Cg Tryz.underlying9 Aa) <| Ao (Ag 2) <| Ai rfl rfl Aa (by first | rfl | exact dF (by omega)) <| Ao (Ag 1) <| Ai rfl rfl Aa (by first | rfl | exact dF (by omega)) <| Ad rfl (Cg Tryz.underlying9 Aa) <| Ai rfl rfl Aa (by first | rfl | exact dF (by omega)) <| Ao (Ag 1) <| Ad rfl (A9 Aa (by first | rfl | exact dF (by omega)) Aa) <| Al <| Ab ?_
 by_cases h16 : (16 : Int) < s.size
 ·refine Ah Aa (by first | rfl | exact dT (by omega)) <| AD (Ag 1) <| Au <| Ay <| Am rfl Bi ?_
  show _ = _
  rw [FF (by omega)]; rfl
 refine Ae Aa (by first | rfl | exact dF (by omega)) <| Ak <| Ab <| Ac <| AD (Ag 1) <| Aq ?_
 refine AH [2, 3, 12, 13, 14, 15, 16, 17, 18, 19, 20, 21, 22, 23, 24, 25, 26, 27, 28, 29, 30, 31, 32, 33, 34, 35, 36, 37, 38, 39] (fun m e σ => ∃ k : Nat, m + k = s.size ∧ Fct e 3 (.int .i64 k) ∧ σ = ⟨F, []⟩ ∧ ∀ j (hj : j < s.size), j < k → chOk j s[j] = true) (s.size) ?_ ?_
 · exact ⟨0, by omega, Ba, rfl, fun j hj h => absurd h (by omega)⟩
 rintro m e _ ⟨k, hm, hs3, rfl, hno⟩
 by_cases hlt : k < s.size
 ·refine Ac <| Ax (Ag 2) fun ds => Ad rfl (Cg Tryz.underlying9 Aa) <| Aw (Ag 1) <| Ah Aa (by first | rfl | exact dT (by omega)) ?_
  by_cases hl : letterB s[k] = true
  ·have hch : chOk k s[k] = true := by unfold chOk; rw [hl]; rfl
   refine Ak <| Ab <| Ac <| Aq <| Ax (Ag 2) fun ds => Ad rfl (BJ Tryz.underlying9 Aa Aa rfl hlt) <| AE rfl (As bd_94 Aa AO (M5 _) (fun _ _ h => h)) <| Ao (Ag 2) <| Ar rfl rfl Aa (.inl (congrArg Value.bool (by first | rfl | (simp [hl]; done)))) rfl <| Ar rfl rfl Aa (.inl (congrArg Value.bool (by first | rfl | (simp [hl]; done)))) rfl <| Ar rfl rfl Aa (.inl (congrArg Value.bool (by first | rfl | (simp [hl]; done)))) rfl <| Ar rfl rfl Aa (.inr rfl) rfl <| Ar rfl rfl Aa (.inr rfl) rfl <| Ar rfl rfl Aa (.inr rfl) rfl <| Ar rfl rfl Aa (.inr rfl) rfl <| Ar rfl rfl Aa (.inr rfl) rfl <| Ar rfl rfl Aa (.inr rfl) rfl <| Ar rfl rfl Aa (.inr rfl) rfl <| Ar rfl rfl Aa (.inr rfl) rfl <| Ar rfl rfl Aa (.inr rfl) rfl <| Ar rfl rfl Aa (.inr rfl) rfl <| Ar rfl rfl Aa (.inr rfl) rfl <| Ar rfl rfl Aa (.inl (congrArg Value.bool (by first | rfl | (simp [hl]; done)))) rfl <| Ad rfl (A9 Aa (by first | rfl | (simp [hl]; done)) Aa) <| Al <| Ab <| Ae Aa (by first | rfl | (simp [hl]; done)) <| Ak <| A4 <| Ab <| Aj fun ds => Ao (Ag 1) <| Ad rfl (AJ Aa Aa rfl (by omega) (by omega)) <| Ao (Ag 1) <| Al ?_
   refine Ab ⟨_, m - 1, Off.eq (Bx rfl <| Ci rfl <| BI rfl <| BQ rfl <| A3), by omega, ?_⟩
   refine ⟨k + 1, by omega, Ba, rfl, fun j hj hjk => ?_⟩
   rcases Nat.lt_succ_iff_lt_or_eq.1 hjk with hjk | rfl
   · exact hno j hj hjk
   exact hch
  replace hl : letterB s[k] = false := by simpa using hl
  refine Ak <| Ab <| Ac <| Aq <| Ax (Ag 2) fun ds => Ad rfl (BJ Tryz.underlying9 Aa Aa rfl hlt) <| AE rfl (As bd_94 Aa AO (M5 _) (fun _ _ h => h)) <| Ao (Ag 2) <| Ai rfl rfl Aa (by first | rfl | (simp [hl]; done)) <| Ao (Ag 1) <| Ai rfl rfl Aa (by first | rfl | (simp [hl]; done)) <| Ao (Ag 1) <| Ai rfl rfl Aa (by first | rfl | (simp [hl]; done)) <| Ao (Ag 1) ?_
  by_cases hz : k = 0
  ·have hch : chOk k s[k] = false := by unfold chOk; rw [hl]; simp [hz]
   refine Ar rfl rfl Aa (.inl (congrArg Value.bool (by first | rfl | exact dT (by omega)))) rfl <| Ar rfl rfl Aa (.inl (congrArg Value.bool (by first | rfl | exact dT (by omega)))) rfl <| Ar rfl rfl Aa (.inl (congrArg Value.bool (by first | rfl | exact dT (by omega)))) rfl <| Ar rfl rfl Aa (.inl (congrArg Value.bool (by first | rfl | exact dT (by omega)))) rfl <| Ar rfl rfl Aa (.inl (congrArg Value.bool (by first | rfl | exact dT (by omega)))) rfl <| Ar rfl rfl Aa (.inl (congrArg Value.bool (by first | rfl | exact dT (by omega)))) rfl <| Ar rfl rfl Aa (.inr rfl) rfl <| Ar rfl rfl Aa (.inr rfl) rfl <| Ar rfl rfl Aa (.inr rfl) rfl <| Ar rfl rfl Aa (.inr rfl) rfl <| Ar rfl rfl Aa (.inl (congrArg Value.bool (by first | rfl | exact dT (by omega)))) rfl <| Ai rfl rfl Aa (by first | rfl | (simp [hl]; done)) <| Ad rfl (At Aa (by first | rfl | exact dT (by omega)) Aa) <| Ad rfl (At Aa (by first | rfl | (simp [hl]; done)) Aa) <| Al <| Ab <| Ah Aa (by first | rfl | exact dT (by omega)) <| AD (Ag 1) <| Au ?_
   refine A7 (Ay (Ay (A7 (Ay ?_))))
   refine Am rfl Bi ?_
   show _ = _
   rw [CC (i := k) hlt hch]; rfl
  refine Ai rfl rfl Aa (by first | rfl | exact dF (by omega)) <| Ao (Ag 1) <| Ai rfl rfl Aa (by first | rfl | exact dF (by omega)) <| Ao (Ag 1) <| Ai rfl rfl Aa (by first | rfl | exact dF (by omega)) <| Ad rfl (BJ Tryz.underlying9 Aa Aa rfl hlt) <| Ai rfl rfl Aa (by first | rfl | exact dF (by omega)) <| AE rfl (As bd_95 Aa AO (UT _) (fun _ _ h => h)) <| Ai rfl rfl Aa (by first | rfl | exact dF (by omega)) <| Ao (Ag 1) <| Ai rfl rfl Aa (by first | rfl | exact dF (by omega)) <| Ao (Ag 1) ?_
  by_cases hd : digitB s[k] = true
  ·have hch : chOk k s[k] = true := by unfold chOk; rw [hd]; simp [hz]
   refine Ar rfl rfl Aa (.inl (congrArg Value.bool (by first | rfl | (simp [hd]; done)))) rfl <| Ar rfl rfl Aa (.inl (congrArg Value.bool (by first | rfl | (simp [hd]; done)))) rfl <| Ar rfl rfl Aa (.inl (congrArg Value.bool (by first | rfl | (simp [hd]; done)))) rfl <| Ar rfl rfl Aa (.inl (congrArg Value.bool (by first | rfl | (simp [hd]; done)))) rfl <| Ai rfl rfl Aa (by first | rfl | exact dF (by omega)) <| Ad rfl (A9 Aa (by first | rfl | (simp [hd]; done)) Aa) <| Ai rfl rfl Aa (by first | rfl | (simp [hl]; done)) <| Ad rfl (A9 Aa (by first | rfl | exact dF (by omega)) Aa) <| Ad rfl (At Aa (by first | rfl | (simp [hl]; done)) Aa) <| Al <| Ab <| Ae Aa (by first | rfl | (simp [hd]; done)) <| Ak <| A4 <| Ab <| Aj fun ds => Ao (Ag 1) <| Ad rfl (AJ Aa Aa rfl (by omega) (by omega)) <| Ao (Ag 1) <| Al ?_
   refine Ab ⟨_, m - 1, Off.eq (Bx rfl <| Ci rfl <| BI rfl <| BQ rfl <| A3), by omega, ?_⟩
   refine ⟨k + 1, by omega, Ba, rfl, fun j hj hjk => ?_⟩
   rcases Nat.lt_succ_iff_lt_or_eq.1 hjk with hjk | rfl
   · exact hno j hj hjk
   exact hch
  replace hd : digitB s[k] = false := by simpa using hd
  refine Ai rfl rfl Aa (by first | rfl | (simp [hd]; done)) <| Ao (Ag 1) <| Ai rfl rfl Aa (by first | rfl | (simp [hd]; done)) <| Ao (Ag 1) <| Ai rfl rfl Aa (by first | rfl | (simp [hd]; done)) <| Ad rfl (BJ Tryz.underlying9 Aa Aa rfl hlt) <| Ai rfl rfl Aa (by first | rfl | (simp [hd]; done)) <| Ao (Ag 1) <| Ai rfl rfl Aa (by first | rfl | exact dF (by omega)) <| Ad rfl (At Aa (by first | rfl | (simp [hd]; done)) Aa) <| Ai rfl rfl Aa (by first | rfl | (simp [hl]; done)) <| Ad rfl (A9 Aa (by first | rfl | exact dF (by omega)) Aa) <| Ad rfl (At Aa (by first | rfl | (simp [hl]; done)) Aa) <| Al <| Ab ?_
  by_cases hp : (s[k].toNat : Int) = 46
  ·have hch : chOk k s[k] = true := by unfold chOk; simp [hz, hp]
   refine Ae Aa (by first | rfl | exact dF (by omega)) <| Ak <| A4 <| Ab <| Aj fun ds => Ao (Ag 1) <| Ad rfl (AJ Aa Aa rfl (by omega) (by omega)) <| Ao (Ag 1) <| Al ?_
   refine Ab ⟨_, m - 1, Off.eq (Bx rfl <| Ci rfl <| BI rfl <| BQ rfl <| A3), by omega, ?_⟩
   refine ⟨k + 1, by omega, Ba, rfl, fun j hj hjk => ?_⟩
   rcases Nat.lt_succ_iff_lt_or_eq.1 hjk with hjk | rfl
   · exact hno j hj hjk
   exact hch
  have hch : chOk k s[k] = false := by unfold chOk; simp [hl, hd, hp]
  refine Ah Aa (by first | rfl | exact dT (by omega)) <| AD (Ag 1) <| Au ?_
  refine A7 (Ay (Ay (A7 (Ay ?_))))
  refine Am rfl Bi ?_
  show _ = _
  rw [CC (i := k) hlt hch]; rfl
 refine Ac <| Ax (Ag 2) fun ds => Ad rfl (Cg Tryz.underlying9 Aa) <| Aw (Ag 1) <| Ae Aa (by first | rfl | exact dF (by omega)) <| AG ?_
 refine A2 <| A2 <| A8 <| Ab <| AD (Ag 1) <| Au <| Am rfl Bi ?_
 show _ = _
 rw [JQ (by omega) (by omega) fun j hj => hno j hj (by omega)]; rfl
theorem Dk {F : Heap} (s : ByteArray) : Ok Tryz.prog 117 [.string s].toArray F fun r _ => r = .bool (nameOk s) := by
 refine Ok.intro Tryz.func117 rfl Tryz.ntmps117 rfl fun w0 => AD (Ag 1) <| Ac <| Ax (Ag 1) fun ds => A5 rfl <| Ht Tryz.underlying9 Aa fun b1 hb1 nb1 => Al <| Ab <| Aq ?_
 refine AH [2, 3, 4, 7, 8, 9, 10, 11, 12, 13, 14, 15, 16, 17, 18, 19, 20, 21, 22, 23, 24, 25, 26, 27, 28, 29, 30, 31, 32] (fun m e σ => ∃ k : Nat, m + k = s.size ∧ σ = ⟨F, [(b1, .stringIter s k)]⟩ ∧ ∀ j (hj : j < s.size), j < k → chOk j s[j] = true) (s.size) ?_ ?_
 · exact ⟨0, by omega, rfl, fun j hj h => absurd h (by omega)⟩
 rintro m e _ ⟨k, hm, rfl, hno⟩
 by_cases hlt : k < s.size
 ·by_cases ha : s[k].toNat < 128
  ·have hdec := decode_ascii s k hlt ha
   refine Ac <| Aj fun ds => A5 rfl <| G7 Aa (i := 0) rfl hlt hdec (.here) <| Aw (Ag 1) <| Ac <| Ah Aa rfl ?_
   by_cases hl1 : 97 ≤ (s[k].toNat : Int)
   ·refine Ak <| Ab <| Aq <| AD (Ag 4) <| Aq <| Ax (Ag 3) fun ds => Ai rfl rfl Aa (by first | rfl | exact dT (by omega)) <| Ao (Ag 1) <| Ai rfl rfl Aa (by first | rfl | exact dT (by omega)) <| Ao (Ag 1) <| Ad rfl (At Aa (by first | rfl | exact dT (by omega)) Aa) <| Aw (Ag 1) ?_
    by_cases hl2 : (s[k].toNat : Int) ≤ 122
    ·have hch : chOk k s[k] = true := by unfold chOk letterB digitB; simp; omega
     refine Ah Aa (by first | rfl | exact dT (by omega)) <| Ak <| A4 <| A4 ?_
     refine Ab ⟨_, m - 1, Off.eq (Ci rfl <| BI rfl <| BQ rfl <| A3), by omega, ?_⟩
     refine ⟨k + 1, by omega, rfl, fun j hj hjk => ?_⟩
     rcases Nat.lt_succ_iff_lt_or_eq.1 hjk with hjk | rfl
     · exact hno j hj hjk
     exact hch
    refine Ae Aa (by first | rfl | exact dF (by omega)) ?_
    by_cases hz : k = 0
    ·refine Ax (Ag 3) fun ds => Ar rfl rfl Aa (.inl (congrArg Value.bool (by first | rfl | exact dF (by omega)))) rfl <| Ar rfl rfl Aa (.inl (congrArg Value.bool (by first | rfl | exact dF (by omega)))) rfl <| Ar rfl rfl Aa (.inl (congrArg Value.bool (by first | rfl | exact dF (by omega)))) rfl <| Ar rfl rfl Aa (.inr rfl) rfl <| Ar rfl rfl Aa (.inr rfl) rfl <| Ar rfl rfl Aa (.inl (congrArg Value.bool (by first | rfl | exact dF (by omega)))) rfl <| Ar rfl rfl Aa (.inl (congrArg Value.bool (by first | rfl | exact dF (by omega)))) rfl <| Ar rfl rfl Aa (.inr rfl) rfl <| Ar rfl rfl Aa (.inr rfl) rfl <| Ar rfl rfl Aa (.inl (congrArg Value.bool (by first | rfl | exact dF (by omega)))) rfl <| Ad rfl (A9 Aa (by first | rfl | exact dF (by omega)) Aa) <| Aw (Ag 1) ?_
     have hch : chOk k s[k] = false := by unfold chOk letterB digitB; simp; omega
     refine Ae Aa (by first | rfl | exact dF (by omega)) <| AD (Ag 1) <| Au ?_
     refine A7 (A7 (Ay (A7 (Ay ?_))))
     refine Am rfl Bi ?_
     show _ = _
     rw [CC (i := k) hlt hch]; rfl
    refine Ax (Ag 3) fun ds => Ai rfl rfl Aa (by first | rfl | exact dT (by omega)) <| Ao (Ag 1) <| Ai rfl rfl Aa (by first | rfl | exact dT (by omega)) <| Ao (Ag 1) <| Ai rfl rfl Aa (by first | rfl | exact dT (by omega)) <| Ao (Ag 1) ?_
    by_cases hd1 : 48 ≤ (s[k].toNat : Int)
    ·refine Ai rfl rfl Aa (by first | rfl | exact dT (by omega)) <| Ao (Ag 1) <| Ai rfl rfl Aa (by first | rfl | exact dT (by omega)) <| Ao (Ag 1) <| Ai rfl rfl Aa (by first | rfl | exact dT (by omega)) <| Ad rfl (At Aa (by first | rfl | exact dT (by omega)) Aa) <| Ai rfl rfl Aa (by first | rfl | exact dT (by omega)) <| Ao (Ag 1) ?_
     by_cases hd2 : (s[k].toNat : Int) ≤ 57
     ·refine Ar rfl rfl Aa (.inl (congrArg Value.bool (by first | rfl | exact dT (by omega)))) rfl <| Ar rfl rfl Aa (.inl (congrArg Value.bool (by first | rfl | exact dT (by omega)))) rfl <| Ai rfl rfl Aa (by first | rfl | exact dT (by omega)) <| Ad rfl (At Aa (by first | rfl | exact dT (by omega)) Aa) <| Ad rfl (At Aa (by first | rfl | exact dT (by omega)) Aa) <| Aw (Ag 1) ?_
      have hch : chOk k s[k] = true := by unfold chOk letterB digitB; simp; omega
      refine Ah Aa (by first | rfl | exact dT (by omega)) <| Ak <| A4 <| A4 ?_
      refine Ab ⟨_, m - 1, Off.eq (Bx rfl <| Ci rfl <| BI rfl <| A3), by omega, ?_⟩
      refine ⟨k + 1, by omega, rfl, fun j hj hjk => ?_⟩
      rcases Nat.lt_succ_iff_lt_or_eq.1 hjk with hjk | rfl
      · exact hno j hj hjk
      exact hch
     refine Ai rfl rfl Aa (by first | rfl | exact dF (by omega)) <| Ao (Ag 1) <| Ai rfl rfl Aa (by first | rfl | exact dF (by omega)) <| Ao (Ag 1) <| Ai rfl rfl Aa (by first | rfl | exact dT (by omega)) <| Ad rfl (A9 Aa (by first | rfl | exact dF (by omega)) Aa) <| Ad rfl (At Aa (by first | rfl | exact dT (by omega)) Aa) <| Aw (Ag 1) ?_
     by_cases hp : (s[k].toNat : Int) = 46
     ·have hch : chOk k s[k] = true := by unfold chOk letterB digitB; simp; omega
      refine Ah Aa (by first | rfl | exact dT (by omega)) <| Ak <| A4 <| A4 ?_
      refine Ab ⟨_, m - 1, Off.eq (Bx rfl <| Ci rfl <| BI rfl <| A3), by omega, ?_⟩
      refine ⟨k + 1, by omega, rfl, fun j hj hjk => ?_⟩
      rcases Nat.lt_succ_iff_lt_or_eq.1 hjk with hjk | rfl
      · exact hno j hj hjk
      exact hch
     have hch : chOk k s[k] = false := by unfold chOk letterB digitB; simp; omega
     refine Ae Aa (by first | rfl | exact dF (by omega)) <| AD (Ag 1) <| Au ?_
     refine A7 (A7 (Ay (A7 (Ay ?_))))
     refine Am rfl Bi ?_
     show _ = _
     rw [CC (i := k) hlt hch]; rfl
    refine Ar rfl rfl Aa (.inl (congrArg Value.bool (by first | rfl | exact dF (by omega)))) rfl <| Ar rfl rfl Aa (.inl (congrArg Value.bool (by first | rfl | exact dF (by omega)))) rfl <| Ai rfl rfl Aa (by first | rfl | exact dT (by omega)) <| Ad rfl (A9 Aa (by first | rfl | exact dF (by omega)) Aa) <| Ai rfl rfl Aa (by first | rfl | exact dT (by omega)) <| Ao (Ag 1) <| Ai rfl rfl Aa (by first | rfl | exact dF (by omega)) <| Ao (Ag 1) <| Ai rfl rfl Aa (by first | rfl | exact dF (by omega)) <| Ao (Ag 1) <| Ai rfl rfl Aa (by first | rfl | exact dT (by omega)) <| Ad rfl (A9 Aa (by first | rfl | exact dF (by omega)) Aa) <| Ad rfl (At Aa (by first | rfl | exact dT (by omega)) Aa) <| Aw (Ag 1) ?_
    by_cases hp : (s[k].toNat : Int) = 46
    ·have hch : chOk k s[k] = true := by unfold chOk letterB digitB; simp; omega
     refine Ah Aa (by first | rfl | exact dT (by omega)) <| Ak <| A4 <| A4 ?_
     refine Ab ⟨_, m - 1, Off.eq (Bx rfl <| Ci rfl <| BI rfl <| A3), by omega, ?_⟩
     refine ⟨k + 1, by omega, rfl, fun j hj hjk => ?_⟩
     rcases Nat.lt_succ_iff_lt_or_eq.1 hjk with hjk | rfl
     · exact hno j hj hjk
     exact hch
    have hch : chOk k s[k] = false := by unfold chOk letterB digitB; simp; omega
    refine Ae Aa (by first | rfl | exact dF (by omega)) <| AD (Ag 1) <| Au ?_
    refine A7 (A7 (Ay (A7 (Ay ?_))))
    refine Am rfl Bi ?_
    show _ = _
    rw [CC (i := k) hlt hch]; rfl
   refine Ak <| Ab <| Aq <| AD (Ag 4) <| Aq <| Ax (Ag 3) fun ds => Ar rfl rfl Aa (.inl (congrArg Value.bool (by first | rfl | exact dF (by omega)))) rfl <| Ar rfl rfl Aa (.inl (congrArg Value.bool (by first | rfl | exact dF (by omega)))) rfl <| Ad rfl (A9 Aa (by first | rfl | exact dF (by omega)) Aa) <| Aw (Ag 1) <| Ae Aa (by first | rfl | exact dF (by omega)) ?_
   by_cases hz : k = 0
   ·refine Ax (Ag 3) fun ds => Ar rfl rfl Aa (.inl (congrArg Value.bool (by first | rfl | exact dF (by omega)))) rfl <| Ar rfl rfl Aa (.inl (congrArg Value.bool (by first | rfl | exact dF (by omega)))) rfl <| Ar rfl rfl Aa (.inl (congrArg Value.bool (by first | rfl | exact dF (by omega)))) rfl <| Ar rfl rfl Aa (.inr rfl) rfl <| Ar rfl rfl Aa (.inr rfl) rfl <| Ar rfl rfl Aa (.inl (congrArg Value.bool (by first | rfl | exact dF (by omega)))) rfl <| Ar rfl rfl Aa (.inl (congrArg Value.bool (by first | rfl | exact dF (by omega)))) rfl <| Ar rfl rfl Aa (.inr rfl) rfl <| Ar rfl rfl Aa (.inr rfl) rfl <| Ar rfl rfl Aa (.inl (congrArg Value.bool (by first | rfl | exact dF (by omega)))) rfl <| Ad rfl (A9 Aa (by first | rfl | exact dF (by omega)) Aa) <| Aw (Ag 1) ?_
    have hch : chOk k s[k] = false := by unfold chOk letterB digitB; simp; omega
    refine Ae Aa (by first | rfl | exact dF (by omega)) <| AD (Ag 1) <| Au ?_
    refine A7 (A7 (Ay (A7 (Ay ?_))))
    refine Am rfl Bi ?_
    show _ = _
    rw [CC (i := k) hlt hch]; rfl
   refine Ax (Ag 3) fun ds => Ai rfl rfl Aa (by first | rfl | exact dT (by omega)) <| Ao (Ag 1) <| Ai rfl rfl Aa (by first | rfl | exact dT (by omega)) <| Ao (Ag 1) <| Ai rfl rfl Aa (by first | rfl | exact dT (by omega)) <| Ao (Ag 1) ?_
   by_cases hd1 : 48 ≤ (s[k].toNat : Int)
   ·refine Ai rfl rfl Aa (by first | rfl | exact dT (by omega)) <| Ao (Ag 1) <| Ai rfl rfl Aa (by first | rfl | exact dT (by omega)) <| Ao (Ag 1) <| Ai rfl rfl Aa (by first | rfl | exact dT (by omega)) <| Ad rfl (At Aa (by first | rfl | exact dT (by omega)) Aa) <| Ai rfl rfl Aa (by first | rfl | exact dT (by omega)) <| Ao (Ag 1) ?_
    by_cases hd2 : (s[k].toNat : Int) ≤ 57
    ·refine Ar rfl rfl Aa (.inl (congrArg Value.bool (by first | rfl | exact dT (by omega)))) rfl <| Ar rfl rfl Aa (.inl (congrArg Value.bool (by first | rfl | exact dT (by omega)))) rfl <| Ai rfl rfl Aa (by first | rfl | exact dT (by omega)) <| Ad rfl (At Aa (by first | rfl | exact dT (by omega)) Aa) <| Ad rfl (At Aa (by first | rfl | exact dT (by omega)) Aa) <| Aw (Ag 1) ?_
     have hch : chOk k s[k] = true := by unfold chOk letterB digitB; simp; omega
     refine Ah Aa (by first | rfl | exact dT (by omega)) <| Ak <| A4 <| A4 ?_
     refine Ab ⟨_, m - 1, Off.eq (Bx rfl <| Ci rfl <| BI rfl <| A3), by omega, ?_⟩
     refine ⟨k + 1, by omega, rfl, fun j hj hjk => ?_⟩
     rcases Nat.lt_succ_iff_lt_or_eq.1 hjk with hjk | rfl
     · exact hno j hj hjk
     exact hch
    refine Ai rfl rfl Aa (by first | rfl | exact dF (by omega)) <| Ao (Ag 1) <| Ai rfl rfl Aa (by first | rfl | exact dF (by omega)) <| Ao (Ag 1) <| Ai rfl rfl Aa (by first | rfl | exact dT (by omega)) <| Ad rfl (A9 Aa (by first | rfl | exact dF (by omega)) Aa) <| Ad rfl (At Aa (by first | rfl | exact dT (by omega)) Aa) <| Aw (Ag 1) ?_
    by_cases hp : (s[k].toNat : Int) = 46
    ·have hch : chOk k s[k] = true := by unfold chOk letterB digitB; simp; omega
     refine Ah Aa (by first | rfl | exact dT (by omega)) <| Ak <| A4 <| A4 ?_
     refine Ab ⟨_, m - 1, Off.eq (Bx rfl <| Ci rfl <| BI rfl <| A3), by omega, ?_⟩
     refine ⟨k + 1, by omega, rfl, fun j hj hjk => ?_⟩
     rcases Nat.lt_succ_iff_lt_or_eq.1 hjk with hjk | rfl
     · exact hno j hj hjk
     exact hch
    have hch : chOk k s[k] = false := by unfold chOk letterB digitB; simp; omega
    refine Ae Aa (by first | rfl | exact dF (by omega)) <| AD (Ag 1) <| Au ?_
    refine A7 (A7 (Ay (A7 (Ay ?_))))
    refine Am rfl Bi ?_
    show _ = _
    rw [CC (i := k) hlt hch]; rfl
   refine Ar rfl rfl Aa (.inl (congrArg Value.bool (by first | rfl | exact dF (by omega)))) rfl <| Ar rfl rfl Aa (.inl (congrArg Value.bool (by first | rfl | exact dF (by omega)))) rfl <| Ai rfl rfl Aa (by first | rfl | exact dT (by omega)) <| Ad rfl (A9 Aa (by first | rfl | exact dF (by omega)) Aa) <| Ai rfl rfl Aa (by first | rfl | exact dT (by omega)) <| Ao (Ag 1) <| Ai rfl rfl Aa (by first | rfl | exact dF (by omega)) <| Ao (Ag 1) <| Ai rfl rfl Aa (by first | rfl | exact dF (by omega)) <| Ao (Ag 1) <| Ai rfl rfl Aa (by first | rfl | exact dT (by omega)) <| Ad rfl (A9 Aa (by first | rfl | exact dF (by omega)) Aa) <| Ad rfl (At Aa (by first | rfl | exact dT (by omega)) Aa) <| Aw (Ag 1) ?_
   by_cases hp : (s[k].toNat : Int) = 46
   ·have hch : chOk k s[k] = true := by unfold chOk letterB digitB; simp; omega
    refine Ah Aa (by first | rfl | exact dT (by omega)) <| Ak <| A4 <| A4 ?_
    refine Ab ⟨_, m - 1, Off.eq (Bx rfl <| Ci rfl <| BI rfl <| A3), by omega, ?_⟩
    refine ⟨k + 1, by omega, rfl, fun j hj hjk => ?_⟩
    rcases Nat.lt_succ_iff_lt_or_eq.1 hjk with hjk | rfl
    · exact hno j hj hjk
    exact hch
   have hch : chOk k s[k] = false := by unfold chOk letterB digitB; simp; omega
   refine Ae Aa (by first | rfl | exact dF (by omega)) <| AD (Ag 1) <| Au ?_
   refine A7 (A7 (Ay (A7 (Ay ?_))))
   refine Am rfl Bi ?_
   show _ = _
   rw [CC (i := k) hlt hch]; rfl
  obtain ⟨rc, wd, hdec⟩ : ∃ rc wd, Utf8.decode s k = (rc, wd) := ⟨_, _, rfl⟩
  have hrc : 128 ≤ rc := by have := JY s k hlt (by omega); rw [hdec] at this; exact this
  refine Ac <| Aj fun ds => A5 rfl <| G7 Aa (i := 0) rfl hlt hdec (.here) <| Aw (Ag 1) <| Ac <| Ah Aa rfl <| Ak <| Ab <| Aq <| AD (Ag 4) <| Aq <| Ax (Ag 3) fun ds => Ai rfl rfl Aa (by first | rfl | exact dT (by omega)) <| Ao (Ag 1) <| Ai rfl rfl Aa (by first | rfl | exact dT (by omega)) <| Ao (Ag 1) <| Ad rfl (At Aa (by first | rfl | exact dT (by omega)) Aa) <| Aw (Ag 1) <| Ae Aa (by first | rfl | exact dF (by omega)) ?_
  have hch : chOk k s[k] = false := by unfold chOk letterB digitB; simp; omega
  by_cases hz : k = 0
  ·refine Ax (Ag 3) fun ds => Ar rfl rfl Aa (.inl (congrArg Value.bool (by first | rfl | exact dF (by omega)))) rfl <| Ar rfl rfl Aa (.inl (congrArg Value.bool (by first | rfl | exact dF (by omega)))) rfl <| Ar rfl rfl Aa (.inl (congrArg Value.bool (by first | rfl | exact dF (by omega)))) rfl <| Ar rfl rfl Aa (.inr rfl) rfl <| Ar rfl rfl Aa (.inr rfl) rfl <| Ar rfl rfl Aa (.inl (congrArg Value.bool (by first | rfl | exact dF (by omega)))) rfl <| Ar rfl rfl Aa (.inl (congrArg Value.bool (by first | rfl | exact dF (by omega)))) rfl <| Ar rfl rfl Aa (.inr rfl) rfl <| Ar rfl rfl Aa (.inr rfl) rfl <| Ar rfl rfl Aa (.inl (congrArg Value.bool (by first | rfl | exact dF (by omega)))) rfl <| Ad rfl (A9 Aa (by first | rfl | exact dF (by omega)) Aa) <| Aw (Ag 1) <| Ae Aa (by first | rfl | exact dF (by omega)) <| AD (Ag 1) <| Au ?_
   refine A7 (A7 (Ay (A7 (Ay ?_))))
   refine Am rfl Bi ?_
   show _ = _
   rw [CC (i := k) hlt hch]; rfl
  refine Ax (Ag 3) fun ds => Ai rfl rfl Aa (by first | rfl | exact dT (by omega)) <| Ao (Ag 1) <| Ai rfl rfl Aa (by first | rfl | exact dT (by omega)) <| Ao (Ag 1) <| Ai rfl rfl Aa (by first | rfl | exact dT (by omega)) <| Ao (Ag 1) <| Ai rfl rfl Aa (by first | rfl | exact dT (by omega)) <| Ao (Ag 1) <| Ai rfl rfl Aa (by first | rfl | exact dT (by omega)) <| Ao (Ag 1) <| Ai rfl rfl Aa (by first | rfl | exact dT (by omega)) <| Ad rfl (At Aa (by first | rfl | exact dT (by omega)) Aa) <| Ai rfl rfl Aa (by first | rfl | exact dT (by omega)) <| Ao (Ag 1) <| Ai rfl rfl Aa (by first | rfl | exact dF (by omega)) <| Ao (Ag 1) <| Ai rfl rfl Aa (by first | rfl | exact dF (by omega)) <| Ao (Ag 1) <| Ai rfl rfl Aa (by first | rfl | exact dT (by omega)) <| Ad rfl (A9 Aa (by first | rfl | exact dF (by omega)) Aa) <| Ad rfl (At Aa (by first | rfl | exact dT (by omega)) Aa) <| Aw (Ag 1) <| Ae Aa (by first | rfl | exact dF (by omega)) <| AD (Ag 1) <| Au ?_
  refine A7 (A7 (Ay (A7 (Ay ?_))))
  refine Am rfl Bi ?_
  show _ = _
  rw [CC (i := k) hlt hch]; rfl
 refine Ac <| Aj fun ds => A5 rfl <| Ki Aa (i := 0) rfl hlt <| Aw (Ag 1) <| Ac <| Ae Aa rfl ?_
 by_cases h0 : s.size = 0
 ·refine AG ?_
  refine A2 <| A2 <| A8 <| Ab <| Ax (Ag 3) fun ds => Ar rfl rfl Aa (.inl (congrArg Value.bool (by rw [Gr]; simp [h0]))) rfl <| Ar rfl rfl Aa (.inl (congrArg Value.bool (by rw [Gr]; simp [h0]))) rfl <| Ar rfl rfl Aa (.inl (congrArg Value.bool (by rw [Gr]; simp [h0]))) rfl <| Ad rfl (A9 Aa (by rw [Gr]; simp [h0]) Aa) <| Aw (Ag 1) <| Au <| Am rfl Bi ?_
  show _ = _
  rw [FF (by omega)]; rfl
 refine AG ?_
 refine A2 <| A2 <| A8 <| Ab <| Ax (Ag 3) fun ds => Ai rfl rfl Aa (by rw [Gr]; simp [h0]) <| Ao (Ag 1) <| Ai rfl rfl Aa (by rw [Gr]; simp [h0]) <| Ad rfl (Cg Tryz.underlying9 Aa) <| Ai rfl rfl Aa (by rw [Gr]; simp [h0]) <| Ao (Ag 1) <| Ad rfl (At Aa (by rw [Gr]; simp [h0]) Aa) <| Aw (Ag 1) ?_
 by_cases h16 : (s.size : Int) ≤ 16
 ·refine Au <| Am rfl Bi ?_
  show _ = _
  rw [JQ (by omega) (by omega) fun j hj => hno j hj (by omega)]; simp [outOf, h16]
 refine Au <| Am rfl Bi ?_
 show _ = _
 rw [FF (by omega)]; simp [outOf, h16]
theorem Oz {F : Heap} {v : Value} {xs : List ByteArray} (h : Sl F v 1 strE xs) (wd : ByteArray) : Ok Tryz.prog 55 [v, .string wd].toArray F fun r _ => r = .int .i64 (findI (fun x => sameS x wd) xs) := by
 refine Ok.intro Tryz.func55 rfl Tryz.ntmps55 rfl fun w0 => ?_
 have hlen := h.plain.lt
 refine AD (Ag 1) <| Ax (Ag 1) fun ds => Ad rfl (AA Ds Aa h.plain) <| Ad rfl (Br Aa Aa rfl (by omega) (by omega)) <| Aw (Ag 1) <| Ac <| Aq ?_
 refine AH [5, 10, 11, 12, 13, 14, 15, 16, 17, 18, 19, 20, 21] (fun m e σ => ∃ z : Int, m = (z + 1).toNat ∧ -1 ≤ z ∧ z < xs.length ∧ Fct e 5 (.int .i64 z) ∧ σ = ⟨F, []⟩ ∧ ∀ j (hj : j < xs.length), z < j → sameS xs[j] wd = false) (xs.length) ?_ ?_
 · exact ⟨xs.length - 1, by omega, by omega, by omega, Ba, rfl, fun j hj h => absurd h (by omega)⟩
 rintro m e _ ⟨z, hm, hz1, hz2, hs5, rfl, hno⟩
 by_cases hz : 0 ≤ z
 ·obtain ⟨k, rfl⟩ := Int.eq_ofNat_of_zero_le hz
  have hk : k < xs.length := by omega
  refine Ac <| Ax (Ag 3) fun ds => Ai rfl rfl Aa (by first | rfl | exact dT (by omega)) <| Ao (Ag 1) <| Ai rfl rfl Aa (by first | rfl | exact dT (by omega)) <| Ao (Ag 1) <| Ai rfl rfl Aa (by first | rfl | exact dT (by omega)) <| Ad rfl (A1  Ds Aa h.plain Aa rfl (by omega)) <| Ai rfl rfl Aa (by first | rfl | exact dT (by omega)) <| Ad rfl (Ap BU Aa (h.cell1 (by omega) rfl)) <| Ai rfl rfl Aa (by first | rfl | exact dT (by omega)) <| Ao (Ag 1) <| Ai rfl rfl Aa (by first | rfl | exact dT (by omega)) <| Ao (Ag 1) <| Ad rfl (At Aa (by first | rfl | exact dT (by omega)) Aa) <| Al <| Ab ?_
  by_cases hsm : sameS xs[k] wd = true
  ·refine Ae Aa (by simpa [sameS] using hsm) <| AG ?_
   refine A2 <| A2 <| A8 <| Ab <| Ac <| AD (Ag 1) <| Aq ?_
   refine AH [4, 6, 22, 23, 24, 25, 26, 27, 28, 29, 30, 31, 32, 33] (fun m e σ => ∃ q : Nat, m + q = k ∧ Fct e 6 (.int .i64 q) ∧ σ = ⟨F, []⟩ ∧ ∀ j (hj : j < xs.length), j < q → sameS xs[j] wd = false) (k) ?_ ?_
   · exact ⟨0, by omega, Ba, rfl, fun j hj h => absurd h (by omega)⟩
   rintro m2 e2 _ ⟨q, hm2, ht6, rfl, hno2⟩
   by_cases hq : q < k
   ·refine Ac <| AD (Ag 3) <| Ah Aa (by first | rfl | exact dT (by omega)) ?_
    by_cases hsq : sameS xs[q] wd = true
    ·refine Ak <| Ab <| Ac <| Aq <| Ax (Ag 2) fun ds => Ad rfl (A1  Ds Aa h.plain Aa rfl (by omega)) <| Ad rfl (Ap BU Aa (h.cell1 (by omega) rfl)) <| Aw (Ag 2) <| Ah Aa hsq <| AD (Ag 2) <| Au ?_
     refine A7 (Ay (Ay (A7 (Ay ?_))))
     refine Am rfl Bi ?_
     show _ = _
     rw [DV (p := fun x => sameS x wd) (k := q) (by omega) hsq hno2]; rfl
    replace hsq : sameS xs[q] wd = false := by simpa using hsq
    refine Ak <| Ab <| Ac <| Aq <| Ax (Ag 2) fun ds => Ad rfl (A1  Ds Aa h.plain Aa rfl (by omega)) <| Ad rfl (Ap BU Aa (h.cell1 (by omega) rfl)) <| Aw (Ag 2) <| Ae Aa hsq <| Ak <| A4 <| Ab <| Aj fun ds => Ao (Ag 1) <| Ad rfl (AJ Aa Aa rfl (by omega) (by omega)) <| Ao (Ag 1) <| Al ?_
    refine Ab ⟨_, m2 - 1, Off.eq (Ci rfl <| BI rfl <| A3), by omega, ?_⟩
    refine ⟨q + 1, by omega, Ba, rfl, fun j hj hjk => ?_⟩
    rcases Nat.lt_succ_iff_lt_or_eq.1 hjk with hjk | rfl
    · exact hno2 j hj hjk
    exact hsq
   refine Ac <| AD (Ag 3) <| Ae Aa (by first | rfl | exact dF (by omega)) <| AG ?_
   refine A2 <| A2 <| A8 <| Ab <| AD (Ag 2) <| Au <| Am rfl Bi ?_
   show _ = _
   rw [DV (p := fun x => sameS x wd) (k := k) hk hsm (fun j hj hjk => hno2 j hj (by omega))]; rfl
  replace hsm : sameS xs[k] wd = false := by simpa using hsm
  refine Ah Aa (by simpa [sameS] using hsm) <| Ak <| Ab <| Aq <| Aj fun ds => Ao (Ag 1) <| Ad rfl (Br Aa Aa rfl (by omega) (by omega)) <| Ao (Ag 1) <| Al <| A4 ?_
  refine Ab ⟨_, m - 1, Off.eq (Ci rfl <| BI rfl <| BQ rfl <| A3), by omega, ?_⟩
  refine ⟨(k : Int) - 1, by omega, by omega, by omega, Ba, rfl, fun j hj hjk => ?_⟩
  by_cases hjk2 : j = k
  · subst hjk2; exact hsm
  exact hno j hj (by omega)
 refine Ac <| Ax (Ag 3) fun ds => Ar rfl rfl Aa (.inl (congrArg Value.bool (by first | rfl | exact dF (by omega)))) rfl <| Ar rfl rfl Aa (.inl (congrArg Value.bool (by first | rfl | exact dF (by omega)))) rfl <| Ar rfl rfl Aa (.inl (congrArg Value.bool (by first | rfl | exact dF (by omega)))) rfl <| Ar rfl rfl Aa (.inl (congrArg Value.bool (by first | rfl | exact dF (by omega)))) rfl <| Ar rfl rfl Aa (.inl (congrArg Value.bool (by first | rfl | exact dF (by omega)))) rfl <| Ar rfl rfl Aa (.inl (congrArg Value.bool (by first | rfl | exact dF (by omega)))) rfl <| Ad rfl (A9 Aa (by first | rfl | exact dF (by omega)) Aa) <| Al <| Ab <| Ae Aa (by first | rfl | exact dF (by omega)) <| AG ?_
 refine A2 <| A2 <| A8 <| Ab <| Ac <| AD (Ag 1) <| Aq ?_
 refine AH [4, 6, 22, 23, 24, 25, 26, 27, 28, 29, 30, 31, 32, 33] (fun m e σ => m = 0 ∧ Fct e 6 (.int .i64 0) ∧ σ = ⟨F, []⟩) (0) ?_ ?_
 · exact ⟨rfl, Ba, rfl⟩
 rintro m2 e2 _ ⟨hm2, ht6, rfl⟩
 refine Ac <| AD (Ag 3) <| Ae Aa (by first | rfl | exact dF (by omega)) <| AG ?_
 refine A2 <| A2 <| A8 <| Ab <| AD (Ag 2) <| Au <| Am rfl Bi ?_
 show _ = _
 obtain rfl : z = -1 := by omega
 rw [EH (p := fun x => sameS x wd) (fun j hj => hno j hj (by omega))]; rfl
theorem Ej {F : Heap} {v : Value} {xs : List ByteArray} (h : Sl F v 1 strE xs) (wd : ByteArray) : Ok Tryz.prog 14 [.string wd, v].toArray F fun r _ => r = .int .i64 (freshE wd xs) := by
 refine Ok.intro Tryz.func14 rfl Tryz.ntmps14 rfl fun w0 => ?_
 by_cases hp : 0 ≤ findI (fun x => sameS x wd) xs
 ·refine AD (Ag 1) <| AD (Ag 1) <| Ac <| Ax (Ag 2) fun ds => AE rfl (As bd_55 Aa AO (Oz h wd) (fun _ _ h => h)) <| Aw (Ag 1) <| Ah Aa (by first | rfl | exact dT (by omega)) ?_
  by_cases hn : nameOk wd = true
  ·refine Aj fun ds => Aw (Ag 1) <| Ac <| Ax (Ag 1) fun ds => AE rfl (As Sc Aa AO (Fy wd) (fun _ _ h => h)) <| Aw (Ag 1) <| Ae Aa (by rw [hn]; first | done | rfl) <| Ak <| Ab <| AD (Ag 2) <| Au <| Am rfl Bi ?_
   show _ = _
   simp [outOf, freshE, hn, ← E4, hp]
  refine Aj fun ds => Aw (Ag 1) <| Ac <| Ax (Ag 1) fun ds => AE rfl (As Sc Aa AO (Fy wd) (fun _ _ h => h)) <| Aw (Ag 1) <| Ah Aa (by simpa using hn) <| Aj fun ds => Aw (Ag 1) <| AD (Ag 2) <| Au <| Am rfl Bi ?_
  show _ = _
  simp [outOf, freshE, hn]
 refine AD (Ag 1) <| AD (Ag 1) <| Ac <| Ax (Ag 2) fun ds => AE rfl (As bd_55 Aa AO (Oz h wd) (fun _ _ h => h)) <| Aw (Ag 1) <| Ae Aa (by first | rfl | exact dF (by omega)) ?_
 by_cases hn : nameOk wd = true
 ·refine Ak <| Ab <| Ac <| Ax (Ag 1) fun ds => AE rfl (As Sc Aa AO (Fy wd) (fun _ _ h => h)) <| Aw (Ag 1) <| Ae Aa (by rw [hn]; first | done | rfl) <| Ak <| Ab <| AD (Ag 2) <| Au <| Am rfl Bi ?_
  show _ = _
  simp [outOf, freshE, hn, ← E4, hp]
 refine Ak <| Ab <| Ac <| Ax (Ag 1) fun ds => AE rfl (As Sc Aa AO (Fy wd) (fun _ _ h => h)) <| Aw (Ag 1) <| Ah Aa (by simpa using hn) <| Aj fun ds => Aw (Ag 1) <| AD (Ag 2) <| Au <| Am rfl Bi ?_
 show _ = _
 simp [outOf, freshE, hn]
theorem Fi {F : Heap} (a b lo hi : Int) : Ok Tryz.prog 57 [.agg #[.int .i64 a, .int .i64 b], .int .i64 lo, .int .i64 hi].toArray F fun r _ => r = .int .i64 (rangeE a b lo hi) := by
 refine Ok.intro Tryz.func57 rfl Tryz.ntmps57 rfl fun w0 => ?_
 by_cases h1 : min a b < lo
 ·refine Ac <| Aj fun ds => A5 rfl <| AX Aa rfl fun b1 hb1 nb1 => Aw (Ag 1) <| Ac <| Ax (Ag 8) fun ds => Ar rfl rfl Aa (.inl (congrArg Value.bool (by first | rfl | exact dT (by omega)))) rfl <| Ar rfl rfl Aa (.inl (congrArg Value.bool (by first | rfl | exact dT (by omega)))) rfl <| Ar rfl rfl Aa (.inl (congrArg Value.bool (by first | rfl | exact dT (by omega)))) rfl <| Ar rfl rfl Aa (.inl (congrArg Value.bool (by first | rfl | exact dT (by omega)))) rfl <| Ar rfl rfl Aa (.inl (congrArg Value.bool (by first | rfl | exact dT (by omega)))) rfl <| Ar rfl rfl Aa (.inl (congrArg Value.bool (by first | rfl | exact dT (by omega)))) rfl <| Ar rfl rfl Aa (.inl (congrArg Value.bool (by first | rfl | exact dT (by omega)))) rfl <| Ad rfl (At Aa (by first | rfl | exact dT (by omega)) Aa) <| Al <| Ab <| Ah Aa (by first | rfl | exact dT (by omega)) <| AD (Ag 1) <| Au <| Ay <| Am rfl Bi ?_
  show _ = _
  unfold rangeE; simp only [outOf]; rw [if_pos (Or.inl h1)]
 refine Ac <| Aj fun ds => A5 rfl <| AX Aa rfl fun b2 hb2 nb2 => Aw (Ag 1) <| Ac <| Ax (Ag 8) fun ds => Ai rfl rfl Aa (by first | rfl | exact dF (by omega)) <| Ao (Ag 1) <| Ai rfl rfl Aa (by first | rfl | exact dF (by omega)) <| Ao (Ag 1) <| Ai rfl rfl Aa (by first | rfl | exact dF (by omega)) <| Ao (Ag 1) <| Ai rfl rfl Aa (by first | rfl | exact dF (by omega)) <| Ao (Ag 1) <| Ai rfl rfl Aa (by first | rfl | exact dF (by omega)) <| Ao (Ag 1) <| Ai rfl rfl Aa (by first | rfl | exact dF (by omega)) <| Ao (Ag 1) <| Ai rfl rfl Aa (by first | rfl | exact dF (by omega)) <| Ao (Ag 1) <| Ad rfl (A9 Aa (by first | rfl | exact dF (by omega)) Aa) <| Al <| Ab ?_
 by_cases h2 : hi < max a b
 ·refine Ah Aa (by first | rfl | exact dT (by omega)) <| AD (Ag 1) <| Au <| Ay <| Am rfl Bi ?_
  show _ = _
  unfold rangeE; simp only [outOf]; rw [if_pos (Or.inr h2)]
 refine Ae Aa (by first | rfl | exact dF (by omega)) ?_
 by_cases h3 : b < a
 ·refine Ak <| Ab <| Ac <| AD (Ag 5) <| Ah Aa (by first | rfl | exact dT (by omega)) <| AD (Ag 1) <| Au <| Ay <| Am rfl Bi ?_
  show _ = _
  unfold rangeE; simp only [outOf]; rw [if_neg (by omega), if_pos h3]
 refine Ak <| Ab <| Ac <| AD (Ag 5) <| Ae Aa (by first | rfl | exact dF (by omega)) <| Ak <| Ab <| AD (Ag 1) <| Au <| Am rfl Bi ?_
 show _ = _
 unfold rangeE; simp only [outOf]; rw [if_neg (by omega), if_neg h3]
theorem OZ {F : Heap} {v : Value} {xs : List Int} (h : Ints F v xs) (p : _ → Bool) {g : FuncId} {cs : List Value} (hg : Body Tryz.prog g) (hp : ∀ k (hk : k < xs.length), Ok Tryz.prog g ([Value.int .i64 xs[k]] ++ cs).toArray F fun r _ => r = .bool (p xs[k])) : Ok Tryz.prog 130 [v, .func (.func g) #[] cs.toArray].toArray F fun r _ => r = .int .i64 (findI p xs) := by
 refine Ok.intro Tryz.func130 rfl Tryz.ntmps130 rfl fun w0 => ?_
 have hlen := h.plain.lt
 refine AD (Ag 1) <| Ac <| Ax (Ag 1) fun ds => Ad rfl (AA AR Aa h.plain) <| Aw (Ag 1) <| Aq ?_
 refine AH [4, 5, 8, 9, 10, 11, 12, 13, 14, 15, 16, 17, 18] (fun m e σ => ∃ k : Nat, m + k = xs.length ∧ Fct e 8 (.int .i64 k) ∧ σ = ⟨F, []⟩ ∧ ∀ j (hj : j < xs.length), j < k → p xs[j] = false) (xs.length) ?_ ?_
 · exact ⟨0, by omega, Ba, rfl, fun j hj h => absurd h (by omega)⟩
 rintro m e _ ⟨k, hm, hs8, rfl, hno⟩
 by_cases hlt : k < xs.length
 ·refine AD (Ag 1) <| Ac <| Ah Aa (by first | rfl | exact dT (by omega)) ?_
  by_cases hpk : p xs[k] = true
  ·refine Ak <| Ab <| Ac <| Aq <| AD (Ag 2) <| Ax (Ag 3) fun ds => Ad rfl (A1  AR Aa h.plain Aa rfl (by omega)) <| Ad rfl (Ap AM Aa (h.cell1 (by omega) rfl)) <| AE rfl (As hg Aa AO (hp k hlt) (fun _ _ h => h)) <| Al <| Ab <| Ah Aa hpk <| AD (Ag 2) <| Au ?_
   refine A7 (Ay (Ay (A7 (Ay ?_))))
   refine Am rfl Bi ?_
   show _ = _
   rw [DV hlt hpk hno]; rfl
  replace hpk : p xs[k] = false := by simpa using hpk
  refine Ak <| Ab <| Ac <| Aq <| AD (Ag 2) <| Ax (Ag 3) fun ds => Ad rfl (A1  AR Aa h.plain Aa rfl (by omega)) <| Ad rfl (Ap AM Aa (h.cell1 (by omega) rfl)) <| AE rfl (As hg Aa AO (hp k hlt) (fun _ _ h => h)) <| Al <| Ab <| Ae Aa hpk <| Ak <| A4 <| Ab <| Aj fun ds => Ad rfl (AJ Aa Aa rfl (by omega) (by omega)) <| Ao (Ag 1) <| Al ?_
  refine Ab ⟨_, m - 1, Off.eq (Ci rfl <| BF rfl <| BQ rfl <| A3), by omega, ?_⟩
  refine ⟨k + 1, by omega, Ba, rfl, fun j hj hjk => ?_⟩
  rcases Nat.lt_succ_iff_lt_or_eq.1 hjk with hjk | rfl
  · exact hno j hj hjk
  exact hpk
 refine AD (Ag 1) <| Ac <| Ae Aa (by first | rfl | exact dF (by omega)) <| AG ?_
 refine A2 <| A2 <| A8 <| Ab <| AD (Ag 1) <| Au <| Am rfl Bi ?_
 show _ = _
 rw [EH fun j hj => hno j hj (by omega)]; rfl
theorem Gt {F : Heap} {v : Value} {xs : List Int} (h : Ints F v xs) (p : _ → Bool) {g : FuncId} {cs : List Value} (hg : Body Tryz.prog g) (hp : ∀ k (hk : k < xs.length), Ok Tryz.prog g ([Value.int .i64 xs[k]] ++ cs).toArray F fun r _ => r = .bool (p xs[k])) : Ok Tryz.prog 98 [v, .func (.func g) #[] cs.toArray].toArray F fun r _ => r = .bool (xs.any p) := by
 refine Ok.intro Tryz.func98 rfl Tryz.ntmps98 rfl fun w0 => AD (Ag 1) <| Ax (Ag 2) fun ds => AE rfl (As bd_130 Aa AO (OZ h p hg hp) (fun _ _ h => h)) <| Aw (Ag 2) <| Au <| Am rfl Bi ?_
 show _ = _
 rw [← E4]; rfl
theorem O7 {F : Heap} {b1 b2 T1 T2 : Nat} {lo hi : Int} (h1 : F b1 = some (bx T1 [.int .i64 lo])) (h2 : F b2 = some (bx T2 [.int .i64 hi])) (z : Int) : Ok Tryz.prog 102 [.int .i64 z, .pointer (some ⟨b1, 0, none⟩), .pointer (some ⟨b2, 0, none⟩)].toArray F fun r _ => r = .bool (!(inB lo hi z)) := by
 refine Ok.intro Tryz.func102 rfl Tryz.ntmps102 rfl fun w0 => ?_
 by_cases hz : z < lo
 ·refine AD (Ag 1) <| Ax (Ag 1) fun ds => Ad rfl (Ap AM Aa (AP h1 rfl)) <| Ao (Ag 2) <| Ar rfl rfl Aa (.inl (congrArg Value.bool (by first | rfl | exact dT (by omega)))) rfl <| Ar rfl rfl Aa (.inl (congrArg Value.bool (by first | rfl | exact dT (by omega)))) rfl <| Ar rfl rfl Aa (.inl (congrArg Value.bool (by first | rfl | exact dT (by omega)))) rfl <| Ad rfl (At Aa (by first | rfl | exact dT (by omega)) Aa) <| Aw (Ag 1) <| Au <| Am rfl Bi ?_
  show _ = _
  have : ¬ lo ≤ z := by omega
  simp [outOf, inB, this]
 refine AD (Ag 1) <| Ax (Ag 1) fun ds => Ad rfl (Ap AM Aa (AP h1 rfl)) <| Ao (Ag 2) <| Ai rfl rfl Aa (by first | rfl | exact dF (by omega)) <| Ao (Ag 1) <| Ai rfl rfl Aa (by first | rfl | exact dF (by omega)) <| Ad rfl (Ap AM Aa (AP h2 rfl)) <| Ai rfl rfl Aa (by first | rfl | exact dF (by omega)) <| Ao (Ag 1) <| Ad rfl (A9 Aa (by first | rfl | exact dF (by omega)) Aa) <| Aw (Ag 1) ?_
 by_cases hz2 : hi < z
 ·refine Au <| Am rfl Bi ?_
  show _ = _
  have : ¬ z ≤ hi := by omega
  simp [outOf, inB, hz2, this]
 refine Au <| Am rfl Bi ?_
 show _ = _
 have e1 : lo ≤ z := by omega
 have e2 : z ≤ hi := by omega
 simp [outOf, inB, hz2, e1, e2]
theorem B2 {F : Heap} {v : Value} {xs : List Int} (lo hi : Int) (h : Ints F v xs) : Ok Tryz.prog 67 [.int .i64 lo, .int .i64 hi, v].toArray F fun r _ => r = .bool (xs.any fun z => !(inB lo hi z)) := by
 refine Ok.intro Tryz.func67 rfl Tryz.ntmps67 rfl fun w0 => Ac <| Aj fun ds => A5 rfl <| AX Aa rfl fun b1 hb1 nb1 => A5 rfl <| AX Aa rfl fun b2 hb2 nb2 => Aw (Ag 1) <| AN (i := 1) rfl hb1 (.next <| .here) fun F3 hF4 hz1 => ?_
 replace h := h.mono hF4
 refine AN (i := 0) rfl hb2 (.here) fun F5 hF6 hz2 => ?_
 replace h := h.mono hF6
 replace hz1 := hF6 _ _ hz1
 refine Ax (Ag 1) fun ds => Ad rfl (Bm AO) <| AE rfl (As bd_98 Aa AO (Gt h (fun z => !(inB lo hi z)) bd_102 fun k hk => O7 hz1 hz2 _) (fun _ _ h => h)) <| Aw (Ag 1) <| Au <| Am rfl Bi ?_
 rfl
end
section
set_option maxRecDepth 100000
open Go.RowKit
theorem Hq : AggT Tryz.prog 79 4 := C2 (by kernel_rfl)
instance : AggI Tryz.prog 79 4 := ⟨Hq⟩
theorem DL : AggT Tryz.prog 56 5 := C2 (by kernel_rfl)
instance : AggI Tryz.prog 56 5 := ⟨DL⟩
theorem Je : AggT Tryz.prog 136 2 := C2 (by kernel_rfl)
instance : AggI Tryz.prog 136 2 := ⟨Je⟩
theorem NK : AggT Tryz.prog 77 2 := C2 (by kernel_rfl)
instance : AggI Tryz.prog 77 2 := ⟨NK⟩
theorem J7 : Body Tryz.prog 117 := AB (by kernel_rfl)
theorem V3 : Body Tryz.prog 118 := AB (by kernel_rfl)
theorem V2 : Body Tryz.prog 119 := AB (by kernel_rfl)
theorem Dq : Body Tryz.prog 67 := AB (by kernel_rfl)
theorem V0 : Body Tryz.prog 120 := AB (by kernel_rfl)
theorem Vz : Body Tryz.prog 121 := AB (by kernel_rfl)
theorem bd_137 : Body Tryz.prog 137 := AB (by kernel_rfl)
theorem bd_138 : Body Tryz.prog 138 := AB (by kernel_rfl)
theorem BR : FieldT Tryz.prog 31 0 0 := AU (by kernel_rfl)
instance : FieldI Tryz.prog 31 0 0 := ⟨BR⟩
theorem HN : FieldT Tryz.prog 31 1 1 := AU (by kernel_rfl)
instance : FieldI Tryz.prog 31 1 1 := ⟨HN⟩
theorem FJ : FieldT Tryz.prog 31 2 2 := AU (by kernel_rfl)
instance : FieldI Tryz.prog 31 2 2 := ⟨FJ⟩
theorem Ec : FieldT Tryz.prog 31 3 3 := AU (by kernel_rfl)
instance : FieldI Tryz.prog 31 3 3 := ⟨Ec⟩
theorem Kw : FieldT Tryz.prog 79 0 0 := AU (by kernel_rfl)
instance : FieldI Tryz.prog 79 0 0 := ⟨Kw⟩
theorem Kv : FieldT Tryz.prog 79 1 1 := AU (by kernel_rfl)
instance : FieldI Tryz.prog 79 1 1 := ⟨Kv⟩
theorem Ku : FieldT Tryz.prog 79 2 2 := AU (by kernel_rfl)
instance : FieldI Tryz.prog 79 2 2 := ⟨Ku⟩
theorem RC : FieldT Tryz.prog 79 3 3 := AU (by kernel_rfl)
instance : FieldI Tryz.prog 79 3 3 := ⟨RC⟩
instance : FieldI Tryz.prog 56 0 0 := ⟨AU (by kernel_rfl)⟩
instance : FieldI Tryz.prog 56 1 1 := ⟨AU (by kernel_rfl)⟩
theorem N7 : FieldT Tryz.prog 56 2 2 := AU (by kernel_rfl)
instance : FieldI Tryz.prog 56 2 2 := ⟨N7⟩
instance : FieldI Tryz.prog 136 0 0 := ⟨AU (by kernel_rfl)⟩
instance : FieldI Tryz.prog 136 1 1 := ⟨AU (by kernel_rfl)⟩
theorem Kx : FieldT Tryz.prog 77 0 0 := AU (by kernel_rfl)
instance : FieldI Tryz.prog 77 0 0 := ⟨Kx⟩
theorem D6 : OneT Tryz.prog 26 := BA (by kernel_rfl)
instance : OneI Tryz.prog 26 := ⟨D6⟩
theorem Jq : OneT Tryz.prog 27 := BA (by kernel_rfl)
instance : OneI Tryz.prog 27 := ⟨Jq⟩
theorem FC : OneT Tryz.prog 28 := BA (by kernel_rfl)
instance : OneI Tryz.prog 28 := ⟨FC⟩
theorem DP : OneT Tryz.prog 29 := BA (by kernel_rfl)
instance : OneI Tryz.prog 29 := ⟨DP⟩
theorem B4 : SliceT Tryz.prog 26 56 5 := BO (by kernel_rfl)
instance : SliceI Tryz.prog 26 := ⟨_, _, B4⟩
theorem CM : SliceT Tryz.prog 27 136 2 := BO (by kernel_rfl)
instance : SliceI Tryz.prog 27 := ⟨_, _, CM⟩
theorem Dt : SliceT Tryz.prog 28 77 2 := BO (by kernel_rfl)
instance : SliceI Tryz.prog 28 := ⟨_, _, Dt⟩
theorem Cw : SliceT Tryz.prog 29 79 4 := BO (by kernel_rfl)
instance : SliceI Tryz.prog 29 := ⟨_, _, Cw⟩
theorem Mm : SizeT Tryz.prog 79 4 := B1 (by kernel_rfl)
theorem JH : SizeT Tryz.prog 56 5 := B1 (by kernel_rfl)
theorem TE : SizeT Tryz.prog 136 2 := B1 (by kernel_rfl)
theorem T9 : SizeT Tryz.prog 77 2 := B1 (by kernel_rfl)
theorem B3 : ZeroT Tryz.prog 3 (.int .i64 0) := Bw (by kernel_rfl)
theorem JC : ZeroT Tryz.prog 79 (.agg #[.int .i64 0, .int .i64 0, .int .i64 0, .int .i64 0]) := Bw (by kernel_rfl)
theorem D8 : ZeroT Tryz.prog 56 (.agg #[.string ⟨#[]⟩, .int .i64 0, .int .i64 0, .int .i64 0, .bool false]) := Bw (by kernel_rfl)
theorem MV : ZeroT Tryz.prog 136 (.agg #[.string ⟨#[]⟩, .int .i64 0]) := Bw (by kernel_rfl)
theorem NO : ZeroT Tryz.prog 77 (.agg #[.int .i64 0, .bool false]) := Bw (by kernel_rfl)
theorem N3 {F : Heap} {v : Value} {xs : List Book} (h : Sl F v 5 Book.enc xs) (p : _ → Bool) {g : FuncId} {cs : List Value} (hg : Body Tryz.prog g) (hp : ∀ k (hk : k < xs.length), Ok Tryz.prog g ([Value.agg (Book.enc xs[k]).toArray] ++ cs).toArray F fun r _ => r = .bool (p xs[k])) : Ok Tryz.prog 137 [v, .func (.func g) #[] cs.toArray].toArray F fun r _ => r = .int .i64 (findI p xs) := by
 refine Ok.intro Tryz.func137 rfl Tryz.ntmps137 rfl fun w0 => ?_
 have hlen := h.plain.lt
 refine AD (Ag 1) <| Ac <| Ax (Ag 1) fun ds => Ad rfl (AA B4 Aa h.plain) <| Aw (Ag 1) <| Aq ?_
 refine AH [4, 5, 8, 9, 10, 11, 12, 13, 14, 15, 16, 17, 18] (fun m e σ => ∃ k : Nat, m + k = xs.length ∧ Fct e 8 (.int .i64 k) ∧ σ = ⟨F, []⟩ ∧ ∀ j (hj : j < xs.length), j < k → p xs[j] = false) (xs.length) ?_ ?_
 · exact ⟨0, by omega, Ba, rfl, fun j hj h => absurd h (by omega)⟩
 rintro m e _ ⟨k, hm, hs8, rfl, hno⟩
 by_cases hlt : k < xs.length
 ·refine AD (Ag 1) <| Ac <| Ah Aa (by first | rfl | exact dT (by omega)) ?_
  by_cases hpk : p xs[k] = true
  ·refine Ak <| Ab <| Ac <| Aq <| AD (Ag 2) <| Ax (Ag 3) fun ds => Ad rfl (A1  B4 Aa h.plain Aa rfl (by omega)) <| Ad rfl (A6 DL Aa rfl rfl (h.whole (by omega))) <| AE rfl (As hg Aa AO (hp k hlt) (fun _ _ h => h)) <| Al <| Ab <| Ah Aa hpk <| AD (Ag 2) <| Au ?_
   refine A7 (Ay (Ay (A7 (Ay ?_))))
   refine Am rfl Bi ?_
   show _ = _
   rw [DV hlt hpk hno]; rfl
  replace hpk : p xs[k] = false := by simpa using hpk
  refine Ak <| Ab <| Ac <| Aq <| AD (Ag 2) <| Ax (Ag 3) fun ds => Ad rfl (A1  B4 Aa h.plain Aa rfl (by omega)) <| Ad rfl (A6 DL Aa rfl rfl (h.whole (by omega))) <| AE rfl (As hg Aa AO (hp k hlt) (fun _ _ h => h)) <| Al <| Ab <| Ae Aa hpk <| Ak <| A4 <| Ab <| Aj fun ds => Ad rfl (AJ Aa Aa rfl (by omega) (by omega)) <| Ao (Ag 1) <| Al ?_
  refine Ab ⟨_, m - 1, Off.eq (Ci rfl <| BF rfl <| BQ rfl <| A3), by omega, ?_⟩
  refine ⟨k + 1, by omega, Ba, rfl, fun j hj hjk => ?_⟩
  rcases Nat.lt_succ_iff_lt_or_eq.1 hjk with hjk | rfl
  · exact hno j hj hjk
  exact hpk
 refine AD (Ag 1) <| Ac <| Ae Aa (by first | rfl | exact dF (by omega)) <| AG ?_
 refine A2 <| A2 <| A8 <| Ab <| AD (Ag 1) <| Au <| Am rfl Bi ?_
 show _ = _
 rw [EH fun j hj => hno j hj (by omega)]; rfl
theorem FT {F : Heap} {v : Value} {xs : List Book} (h : Sl F v 5 Book.enc xs) (p : _ → Bool) {g : FuncId} {cs : List Value} (hg : Body Tryz.prog g) (hp : ∀ k (hk : k < xs.length), Ok Tryz.prog g ([Value.agg (Book.enc xs[k]).toArray] ++ cs).toArray F fun r _ => r = .bool (p xs[k])) : Ok Tryz.prog 118 [v, .func (.func g) #[] cs.toArray].toArray F fun r _ => r = .bool (xs.any p) := by
 refine Ok.intro Tryz.func118 rfl Tryz.ntmps118 rfl fun w0 => AD (Ag 1) <| Ax (Ag 2) fun ds => AE rfl (As bd_137 Aa AO (N3 h p hg hp) (fun _ _ h => h)) <| Aw (Ag 2) <| Au <| Am rfl Bi ?_
 show _ = _
 rw [← E4]; rfl
theorem MN {F : Heap} {c TB : Nat} {b : Book} (hb : F c = some (bx TB b.enc)) (x : Book) : Ok Tryz.prog 119 [.agg x.enc.toArray, .pointer (some ⟨c, 0, none⟩)].toArray F fun r _ => r = .bool (sameS x.name b.name) := by
 refine Ok.intro Tryz.func119 rfl Tryz.ntmps119 rfl fun w0 => Ac <| Aj fun ds => A5 rfl <| AX Aa rfl fun b1 hb1 nb1 => Aw (Ag 1) <| Ax (Ag 3) fun ds => Ad rfl (Ap BU Aa (AP hb rfl)) <| Aw (Ag 2) <| Au <| Am rfl Bi ?_
 rfl
theorem OY {F : Heap} {v : Value} {xs : List Rdr} (h : Sl F v 2 Rdr.enc xs) (p : _ → Bool) {g : FuncId} {cs : List Value} (hg : Body Tryz.prog g) (hp : ∀ k (hk : k < xs.length), Ok Tryz.prog g ([Value.agg (Rdr.enc xs[k]).toArray] ++ cs).toArray F fun r _ => r = .bool (p xs[k])) : Ok Tryz.prog 138 [v, .func (.func g) #[] cs.toArray].toArray F fun r _ => r = .int .i64 (findI p xs) := by
 refine Ok.intro Tryz.func138 rfl Tryz.ntmps138 rfl fun w0 => ?_
 have hlen := h.plain.lt
 refine AD (Ag 1) <| Ac <| Ax (Ag 1) fun ds => Ad rfl (AA CM Aa h.plain) <| Aw (Ag 1) <| Aq ?_
 refine AH [4, 5, 8, 9, 10, 11, 12, 13, 14, 15, 16, 17, 18] (fun m e σ => ∃ k : Nat, m + k = xs.length ∧ Fct e 8 (.int .i64 k) ∧ σ = ⟨F, []⟩ ∧ ∀ j (hj : j < xs.length), j < k → p xs[j] = false) (xs.length) ?_ ?_
 · exact ⟨0, by omega, Ba, rfl, fun j hj h => absurd h (by omega)⟩
 rintro m e _ ⟨k, hm, hs8, rfl, hno⟩
 by_cases hlt : k < xs.length
 ·refine AD (Ag 1) <| Ac <| Ah Aa (by first | rfl | exact dT (by omega)) ?_
  by_cases hpk : p xs[k] = true
  ·refine Ak <| Ab <| Ac <| Aq <| AD (Ag 2) <| Ax (Ag 3) fun ds => Ad rfl (A1  CM Aa h.plain Aa rfl (by omega)) <| Ad rfl (A6 Je Aa rfl rfl (h.whole (by omega))) <| AE rfl (As hg Aa AO (hp k hlt) (fun _ _ h => h)) <| Al <| Ab <| Ah Aa hpk <| AD (Ag 2) <| Au ?_
   refine A7 (Ay (Ay (A7 (Ay ?_))))
   refine Am rfl Bi ?_
   show _ = _
   rw [DV hlt hpk hno]; rfl
  replace hpk : p xs[k] = false := by simpa using hpk
  refine Ak <| Ab <| Ac <| Aq <| AD (Ag 2) <| Ax (Ag 3) fun ds => Ad rfl (A1  CM Aa h.plain Aa rfl (by omega)) <| Ad rfl (A6 Je Aa rfl rfl (h.whole (by omega))) <| AE rfl (As hg Aa AO (hp k hlt) (fun _ _ h => h)) <| Al <| Ab <| Ae Aa hpk <| Ak <| A4 <| Ab <| Aj fun ds => Ad rfl (AJ Aa Aa rfl (by omega) (by omega)) <| Ao (Ag 1) <| Al ?_
  refine Ab ⟨_, m - 1, Off.eq (Ci rfl <| BF rfl <| BQ rfl <| A3), by omega, ?_⟩
  refine ⟨k + 1, by omega, Ba, rfl, fun j hj hjk => ?_⟩
  rcases Nat.lt_succ_iff_lt_or_eq.1 hjk with hjk | rfl
  · exact hno j hj hjk
  exact hpk
 refine AD (Ag 1) <| Ac <| Ae Aa (by first | rfl | exact dF (by omega)) <| AG ?_
 refine A2 <| A2 <| A8 <| Ab <| AD (Ag 1) <| Au <| Am rfl Bi ?_
 show _ = _
 rw [EH fun j hj => hno j hj (by omega)]; rfl
theorem Gs {F : Heap} {v : Value} {xs : List Rdr} (h : Sl F v 2 Rdr.enc xs) (p : _ → Bool) {g : FuncId} {cs : List Value} (hg : Body Tryz.prog g) (hp : ∀ k (hk : k < xs.length), Ok Tryz.prog g ([Value.agg (Rdr.enc xs[k]).toArray] ++ cs).toArray F fun r _ => r = .bool (p xs[k])) : Ok Tryz.prog 120 [v, .func (.func g) #[] cs.toArray].toArray F fun r _ => r = .bool (xs.any p) := by
 refine Ok.intro Tryz.func120 rfl Tryz.ntmps120 rfl fun w0 => AD (Ag 1) <| Ax (Ag 2) fun ds => AE rfl (As bd_138 Aa AO (OY h p hg hp) (fun _ _ h => h)) <| Aw (Ag 2) <| Au <| Am rfl Bi ?_
 show _ = _
 rw [← E4]; rfl
theorem MM {F : Heap} {c TB : Nat} {b : Rdr} (hb : F c = some (bx TB b.enc)) (x : Rdr) : Ok Tryz.prog 121 [.agg x.enc.toArray, .pointer (some ⟨c, 0, none⟩)].toArray F fun r _ => r = .bool (sameS x.name b.name) := by
 refine Ok.intro Tryz.func121 rfl Tryz.ntmps121 rfl fun w0 => Ac <| Aj fun ds => A5 rfl <| AX Aa rfl fun b1 hb1 nb1 => Aw (Ag 1) <| Ax (Ag 3) fun ds => Ad rfl (Ap BU Aa (AP hb rfl)) <| Aw (Ag 2) <| Au <| Am rfl Bi ?_
 rfl
theorem Pt {F : Heap} {vb vr vs vq : Value} {r : Room} (hr : RoomR F vb vr vs vq r) : Ok Tryz.prog 92 [.agg #[vb, vr, vs, vq]].toArray F fun v _ => v = checkV r := by
 refine Ok.intro Tryz.func92 rfl Tryz.ntmps92 rfl fun w0 => ?_
 by_cases h1 : 8 < r.books.length
 ·refine Ac <| Aj fun ds => A5 rfl <| AX Aa rfl fun b1 hb1 nb1 => Aw (Ag 3) <| Ac <| Ax (Ag 2) fun ds => Ad rfl (AA B4 Aa hr.books.plain) <| Aw (Ag 1) <| Ah Aa (by first | rfl | exact dT (by omega)) <| AD (Ag 3) <| Au <| Ay <| Am rfl Bi ?_
  show _ = _
  exact (FL (FV h1)).symm
 refine Ac <| Aj fun ds => A5 rfl <| AX Aa rfl fun b2 hb2 nb2 => Aw (Ag 3) <| Ac <| Ax (Ag 2) fun ds => Ad rfl (AA B4 Aa hr.books.plain) <| Aw (Ag 1) <| Ae Aa (by first | rfl | exact dF (by omega)) <| Ak <| Ab <| Ac <| Ax (Ag 2) fun ds => Ad rfl (AA B4 Aa hr.books.plain) <| Aw (Ag 1) <| Aq ?_
 refine AH [2, 3, 4, 5, 6, 20, 21, 22, 23, 24, 25, 26, 27, 28, 29, 30, 31, 32, 33, 34, 35, 36, 37, 38, 39, 40, 41, 42, 43, 44, 45, 46, 47, 48, 49, 50, 51, 52, 53, 54, 55, 56, 57, 58, 59, 60, 61, 62, 63, 64] (fun m e σ => ∃ G, RoomR G vb vr vs vq r ∧ ∃ k : Nat, m + k = r.books.length ∧ Fct e 20 (.int .i64 k) ∧ σ = ⟨G, [(b2, bx 31 [vb, vr, vs, vq])]⟩ ∧ ∀ j, j < k → bookErr r.books j = 0) (r.books.length) ?_ ?_
 · exact ⟨F, hr, 0, by omega, Ba, rfl, fun j h => absurd h (by omega)⟩
 rintro m e _ ⟨G, hr, k, hm, hs20, rfl, hno⟩
 by_cases hlt : k < r.books.length
 ·refine AD (Ag 1) <| Ac <| Ah Aa (by first | rfl | exact dT (by omega)) ?_
  by_cases hn : nameOk r.books[k].name = true
  ·refine Ak <| Ab <| Ac <| Aq <| Ax (Ag 1) fun ds => Ad rfl (A1  B4 Aa hr.books.plain Aa rfl (by omega)) <| Ad rfl (A6 DL Aa rfl rfl (hr.books.whole (by omega))) <| A5 rfl <| AF D8 rfl fun b4 hb4 nb4 => Ao (Ag 1) <| AZ <| AC JH Aa Aa (i := 0) rfl rfl rfl rfl Book.enc_one (.here) <| Al <| Ab <| Aq <| Ax (Ag 2) fun ds => AE rfl (As J7 Aa AO (Dk _) (fun _ _ h => h)) <| Aw (Ag 2) <| Ae Aa (by first | exact hn | (simp [hn]; done)) <| AN (i := 0) rfl hb4 (.here) fun F5 hF6 hq => ?_
   replace hr := hr.mono hF6
   by_cases ht : (r.books.take k).any (fun y => sameS y.name r.books[k].name) = true
   ·refine Ax (Ag 3) fun ds => Ad rfl (D9 B4 Aa hr.books.plain Aa rfl (Nat.le_of_lt hlt)) <| Ad rfl (Bm AO) <| AE rfl (As V3 Aa AO (FT (hr.books.to (Nat.le_of_lt hlt)) (fun y => sameS y.name r.books[k].name) V2 fun i hi => MN hq _) (fun _ _ h => h)) <| Aw (Ag 1) <| Ah Aa (by first | exact ht | (simp [ht]; done)) <| AD (Ag 4) <| Au ?_
    refine A7 (A7 (Ay (Ay (A7 (Ay ?_)))))
    refine Am rfl Bi ?_
    show _ = _
    exact (FL (Ck h1 hlt hno (by rw [Cz hlt]; simp [hn, ht]) (by decide))).symm
   replace ht : (r.books.take k).any (fun y => sameS y.name r.books[k].name) = false := by simpa using ht
   refine Ax (Ag 3) fun ds => Ad rfl (D9 B4 Aa hr.books.plain Aa rfl (Nat.le_of_lt hlt)) <| Ad rfl (Bm AO) <| AE rfl (As V3 Aa AO (FT (hr.books.to (Nat.le_of_lt hlt)) (fun y => sameS y.name r.books[k].name) V2 fun i hi => MN hq _) (fun _ _ h => h)) <| Aw (Ag 1) <| Ae Aa (by first | exact ht | (simp [ht]; done)) ?_
   by_cases h1c : inB 0 5 r.books[k].cls = true
   ·refine Ax (Ag 1) fun ds => Ad rfl (Ap AM Aa (AP hq rfl)) <| A5 rfl <| AS AR B3 rfl (.cons Aa .nil) rfl rfl (by decide) (by simp [Value.oneCell']) fun b7 hb7 nb7 => AQ (i := 0) rfl hb7 .here fun F8 hF9 hz10 => ?_
    replace hr := hr.mono hF9
    replace hq := hF9 _ _ hq
    have hsl11 := Be hz10
    refine AE rfl (As Dq Aa AO (B2 _ _ hsl11) (fun _ _ h => h)) <| Ao (Ag 1) <| Ai rfl rfl Aa (by first | exact h1c | (simp [h1c]; done)) <| Ao (Ag 1) <| Ai rfl rfl Aa (by first | exact h1c | (simp [h1c]; done)) <| Ao (Ag 1) <| Ai rfl rfl Aa (by first | exact h1c | (simp [h1c]; done)) <| Ad rfl (Ap AM Aa (AP hq rfl)) <| Ai rfl rfl Aa (by first | exact h1c | (simp [h1c]; done)) <| Ao (Ag 1) <| Ai rfl rfl Aa (by first | exact h1c | (simp [h1c]; done)) <| Ao (Ag 1) <| Ai rfl rfl Aa (by first | exact h1c | (simp [h1c]; done)) <| Ad rfl (Ap AM Aa (AP hq rfl)) <| Ai rfl rfl Aa (by first | exact h1c | (simp [h1c]; done)) <| A5 rfl <| AS AR B3 rfl (.cons Aa (.cons Aa .nil)) rfl rfl (by decide) (by simp [Value.oneCell']) fun b12 hb12 nb12 => AQ (i := 0) rfl hb12 .here fun F13 hF14 hz15 => ?_
    replace hr := hr.mono hF14
    replace hq := hF14 _ _ hq
    have hsl16 := C5 hz15
    refine Ai rfl rfl Aa (by first | exact h1c | (simp [h1c]; done)) <| AE rfl (As Dq Aa AO (B2 _ _ hsl16) (fun _ _ h => h)) <| Ad rfl (A9 Aa (by first | exact h1c | (simp [h1c]; done)) Aa) <| Aw (Ag 1) ?_
    by_cases h1l : (inB 0 1000 r.books[k].lo && inB 0 1000 r.books[k].hi) = true
    ·refine Ae Aa (by simpa using h1l) ?_
     by_cases hw : r.books[k].hi < r.books[k].lo
     ·refine Ax (Ag 2) fun ds => Ad rfl (Ap AM Aa (AP hq rfl)) <| Ao (Ag 2) <| Ad rfl (Ap AM Aa (AP hq rfl)) <| Aw (Ag 2) <| Ah Aa (by first | rfl | exact dT (by omega)) <| AD (Ag 4) <| Au ?_
      refine A7 (A7 (Ay (Ay (A7 (Ay ?_)))))
      refine Am rfl Bi ?_
      show _ = _
      exact (FL (Ck h1 hlt hno (by rw [Cz hlt]; simp [hn, ht, h1c, h1l, hw]) (by decide))).symm
     refine Ax (Ag 2) fun ds => Ad rfl (Ap AM Aa (AP hq rfl)) <| Ao (Ag 2) <| Ad rfl (Ap AM Aa (AP hq rfl)) <| Aw (Ag 2) <| Ae Aa (by first | rfl | exact dF (by omega)) <| Ak ?_
     refine A4 (A4 (Ab ?_))
     refine Aj fun ds => Ad rfl (AJ Aa Aa rfl (by omega) (by omega)) <| Ao (Ag 1) <| Al ?_
     refine Ab ⟨_, m - 1, Off.eq (DG rfl <| Ci rfl <| BF rfl <| BQ rfl <| A3), by omega, ?_⟩
     refine ⟨_, hr, k + 1, by omega, Ba, rfl, fun j hjk => ?_⟩
     rcases Nat.lt_succ_iff_lt_or_eq.1 hjk with hjk | rfl
     · exact hno j hjk
     rw [Cz hlt]; simp [hn, ht, h1c, h1l, hw]
    replace h1l : (inB 0 1000 r.books[k].lo && inB 0 1000 r.books[k].hi) = false := by simpa using h1l
    refine Ah Aa (by rcases Bool.and_eq_false_iff.1 h1l with h | h <;> simp [h]) <| AD (Ag 4) <| Au ?_
    refine A7 (A7 (Ay (Ay (A7 (Ay ?_)))))
    refine Am rfl Bi ?_
    show _ = _
    exact (FL (Ck h1 hlt hno (by rw [Cz hlt]; simp [hn, ht, h1c, h1l]) (by decide))).symm
   replace h1c : inB 0 5 r.books[k].cls = false := by simpa using h1c
   refine Ax (Ag 1) fun ds => Ad rfl (Ap AM Aa (AP hq rfl)) <| A5 rfl <| AS AR B3 rfl (.cons Aa .nil) rfl rfl (by decide) (by simp [Value.oneCell']) fun b17 hb17 nb17 => AQ (i := 0) rfl hb17 .here fun F18 hF19 hz20 => ?_
   have hsl21 := Be hz20
   refine AE rfl (As Dq Aa AO (B2 _ _ hsl21) (fun _ _ h => h)) <| Ao (Ag 1) <| Ar rfl rfl Aa (.inl (congrArg Value.bool (by simp [h1c]))) rfl <| Ar rfl rfl Aa (.inl (congrArg Value.bool (by simp [h1c]))) rfl <| Ar rfl rfl Aa (.inl (congrArg Value.bool (by simp [h1c]))) rfl <| Ar rfl rfl Aa (.inl (congrArg Value.bool (by simp [h1c]))) rfl <| Ar rfl rfl Aa (.inl (congrArg Value.bool (by simp [h1c]))) rfl <| Ar rfl rfl Aa (.inl (congrArg Value.bool (by simp [h1c]))) rfl <| Ar rfl rfl Aa (.inl (congrArg Value.bool (by simp [h1c]))) rfl <| Ar rfl rfl Aa (.inl (congrArg Value.bool (by simp [h1c]))) rfl <| Ad rfl (At Aa (by simp [h1c]) Aa) <| Aw (Ag 1) <| Ah Aa (by first | rfl | simp [h1c]) <| AD (Ag 4) <| Au ?_
   refine A7 (A7 (Ay (Ay (A7 (Ay ?_)))))
   refine Am rfl Bi ?_
   show _ = _
   exact (FL (Ck h1 hlt hno (by rw [Cz hlt]; simp [hn, ht, h1c]) (by decide))).symm
  replace hn : nameOk r.books[k].name = false := by simpa using hn
  refine Ak <| Ab <| Ac <| Aq <| Ax (Ag 1) fun ds => Ad rfl (A1  B4 Aa hr.books.plain Aa rfl (by omega)) <| Ad rfl (A6 DL Aa rfl rfl (hr.books.whole (by omega))) <| A5 rfl <| AF D8 rfl fun b22 hb22 nb22 => Ao (Ag 1) <| AZ <| AC JH Aa Aa (i := 0) rfl rfl rfl rfl Book.enc_one (.here) <| Al <| Ab <| Aq <| Ax (Ag 2) fun ds => AE rfl (As J7 Aa AO (Dk _) (fun _ _ h => h)) <| Aw (Ag 2) <| Ah Aa (by first | exact hn | (simp [hn]; done)) <| AD (Ag 4) <| Au ?_
  refine A7 (A7 (Ay (Ay (A7 (Ay ?_)))))
  refine Am rfl Bi ?_
  show _ = _
  exact (FL (Ck h1 hlt hno (by rw [Cz hlt]; simp [hn]) (by decide))).symm
 refine AD (Ag 1) <| Ac <| Ae Aa (by first | rfl | exact dF (by omega)) ?_
 have hB := He h1 fun j hj => hno j (by omega)
 by_cases h2 : 8 < r.readers.length
 ·refine AG ?_
  refine A2 <| A2 <| A8 <| Ab <| Ac <| Ax (Ag 2) fun ds => Ad rfl (AA CM Aa hr.readers.plain) <| Aw (Ag 1) <| Ah Aa (by first | rfl | exact dT (by omega)) <| AD (Ag 3) <| Au <| Ay <| Am rfl Bi ?_
  show _ = _
  exact (HQ hB (Gw h2)).symm
 refine AG ?_
 refine A2 <| A2 <| A8 <| Ab <| Ac <| Ax (Ag 2) fun ds => Ad rfl (AA CM Aa hr.readers.plain) <| Aw (Ag 1) <| Ae Aa (by first | rfl | exact dF (by omega)) <| Ak <| Ab <| Ac <| Ax (Ag 2) fun ds => Ad rfl (AA CM Aa hr.readers.plain) <| Aw (Ag 1) <| Aq ?_
 refine AH [2, 3, 4, 7, 8, 72, 73, 74, 75, 76, 77, 78, 79, 80, 81, 82, 83, 84, 85, 86, 87, 88, 89, 90, 91, 92, 93, 94, 95, 96, 97] (fun m e σ => ∃ G, RoomR G vb vr vs vq r ∧ ∃ k : Nat, m + k = r.readers.length ∧ Fct e 72 (.int .i64 k) ∧ σ = ⟨G, [(b2, bx 31 [vb, vr, vs, vq])]⟩ ∧ ∀ j, j < k → rdrErr r.readers j = 0) (r.readers.length) ?_ ?_
 · exact ⟨G, hr, 0, by omega, Ba, rfl, fun j h => absurd h (by omega)⟩
 rintro m e _ ⟨G, hr, k, hm, hs72, rfl, hno⟩
 by_cases hlt : k < r.readers.length
 ·refine AD (Ag 1) <| Ac <| Ah Aa (by first | rfl | exact dT (by omega)) ?_
  by_cases hn : nameOk r.readers[k].name = true
  ·refine Ak <| Ab <| Ac <| Aq <| Ax (Ag 1) fun ds => Ad rfl (A1  CM Aa hr.readers.plain Aa rfl (by omega)) <| Ad rfl (A6 Je Aa rfl rfl (hr.readers.whole (by omega))) <| A5 rfl <| AF MV rfl fun b24 hb24 nb24 => Ao (Ag 1) <| AZ <| AC TE Aa Aa (i := 0) rfl rfl rfl rfl Rdr.enc_one (.here) <| Al <| Ab <| Aq <| Ax (Ag 2) fun ds => AE rfl (As J7 Aa AO (Dk _) (fun _ _ h => h)) <| Aw (Ag 2) <| Ae Aa (by first | exact hn | (simp [hn]; done)) <| AN (i := 0) rfl hb24 (.here) fun F25 hF26 hq => ?_
   replace hr := hr.mono hF26
   by_cases ht : (r.readers.take k).any (fun y => sameS y.name r.readers[k].name) = true
   ·refine Ax (Ag 3) fun ds => Ad rfl (D9 CM Aa hr.readers.plain Aa rfl (Nat.le_of_lt hlt)) <| Ad rfl (Bm AO) <| AE rfl (As V0 Aa AO (Gs (hr.readers.to (Nat.le_of_lt hlt)) (fun y => sameS y.name r.readers[k].name) Vz fun i hi => MM hq _) (fun _ _ h => h)) <| Aw (Ag 1) <| Ah Aa (by first | exact ht | (simp [ht]; done)) <| AD (Ag 4) <| Au ?_
    refine A7 (A7 (Ay (Ay (A7 (Ay ?_)))))
    refine Am rfl Bi ?_
    show _ = _
    exact (HQ hB (Dy h2 hlt hno (by rw [DO hlt]; simp [hn, ht]) (by decide))).symm
   replace ht : (r.readers.take k).any (fun y => sameS y.name r.readers[k].name) = false := by simpa using ht
   refine Ax (Ag 3) fun ds => Ad rfl (D9 CM Aa hr.readers.plain Aa rfl (Nat.le_of_lt hlt)) <| Ad rfl (Bm AO) <| AE rfl (As V0 Aa AO (Gs (hr.readers.to (Nat.le_of_lt hlt)) (fun y => sameS y.name r.readers[k].name) Vz fun i hi => MM hq _) (fun _ _ h => h)) <| Aw (Ag 1) <| Ae Aa (by first | exact ht | (simp [ht]; done)) ?_
   by_cases h1c : inB 0 5 r.readers[k].permit = true
   ·refine Ax (Ag 1) fun ds => Ad rfl (Ap AM Aa (AP hq rfl)) <| A5 rfl <| AS AR B3 rfl (.cons Aa .nil) rfl rfl (by decide) (by simp [Value.oneCell']) fun b27 hb27 nb27 => AQ (i := 0) rfl hb27 .here fun F28 hF29 hz30 => ?_
    replace hr := hr.mono hF29
    have hsl31 := Be hz30
    refine AE rfl (As Dq Aa AO (B2 _ _ hsl31) (fun _ _ h => h)) <| Aw (Ag 1) <| Ae Aa (by simp [h1c]) <| Ak ?_
    refine A4 (A4 (Ab ?_))
    refine Aj fun ds => Ad rfl (AJ Aa Aa rfl (by omega) (by omega)) <| Ao (Ag 1) <| Al ?_
    refine Ab ⟨_, m - 1, Off.eq (Bx rfl <| Ci rfl <| BQ rfl <| A3), by omega, ?_⟩
    refine ⟨_, hr, k + 1, by omega, Ba, rfl, fun j hjk => ?_⟩
    rcases Nat.lt_succ_iff_lt_or_eq.1 hjk with hjk | rfl
    · exact hno j hjk
    rw [DO hlt]; simp [hn, ht, h1c]
   replace h1c : inB 0 5 r.readers[k].permit = false := by simpa using h1c
   refine Ax (Ag 1) fun ds => Ad rfl (Ap AM Aa (AP hq rfl)) <| A5 rfl <| AS AR B3 rfl (.cons Aa .nil) rfl rfl (by decide) (by simp [Value.oneCell']) fun b32 hb32 nb32 => AQ (i := 0) rfl hb32 .here fun F33 hF34 hz35 => ?_
   have hsl36 := Be hz35
   refine AE rfl (As Dq Aa AO (B2 _ _ hsl36) (fun _ _ h => h)) <| Aw (Ag 1) <| Ah Aa (by simp [h1c]) <| AD (Ag 4) <| Au ?_
   refine A7 (A7 (Ay (Ay (A7 (Ay ?_)))))
   refine Am rfl Bi ?_
   show _ = _
   exact (HQ hB (Dy h2 hlt hno (by rw [DO hlt]; simp [hn, ht, h1c]) (by decide))).symm
  replace hn : nameOk r.readers[k].name = false := by simpa using hn
  refine Ak <| Ab <| Ac <| Aq <| Ax (Ag 1) fun ds => Ad rfl (A1  CM Aa hr.readers.plain Aa rfl (by omega)) <| Ad rfl (A6 Je Aa rfl rfl (hr.readers.whole (by omega))) <| A5 rfl <| AF MV rfl fun b37 hb37 nb37 => Ao (Ag 1) <| AZ <| AC TE Aa Aa (i := 0) rfl rfl rfl rfl Rdr.enc_one (.here) <| Al <| Ab <| Aq <| Ax (Ag 2) fun ds => AE rfl (As J7 Aa AO (Dk _) (fun _ _ h => h)) <| Aw (Ag 2) <| Ah Aa (by first | exact hn | (simp [hn]; done)) <| AD (Ag 4) <| Au ?_
  refine A7 (A7 (Ay (Ay (A7 (Ay ?_)))))
  refine Am rfl Bi ?_
  show _ = _
  exact (HQ hB (Dy h2 hlt hno (by rw [DO hlt]; simp [hn]) (by decide))).symm
 refine AD (Ag 1) <| Ac <| Ae Aa (by first | rfl | exact dF (by omega)) ?_
 have hR := HS h2 fun j hj => hno j (by omega)
 by_cases h3 : 6 < r.seats.length
 ·refine AG ?_
  refine A2 <| A2 <| A8 <| Ab <| Ac <| Ax (Ag 2) fun ds => Ad rfl (AA Dt Aa hr.seats.plain) <| Aw (Ag 1) <| Ah Aa (by first | rfl | exact dT (by omega)) <| AD (Ag 3) <| Au <| Ay <| Am rfl Bi ?_
  show _ = _
  exact (K0 hB hR (FU h3)).symm
 refine AG ?_
 refine A2 <| A2 <| A8 <| Ab <| Ac <| Ax (Ag 2) fun ds => Ad rfl (AA Dt Aa hr.seats.plain) <| Aw (Ag 1) <| Ae Aa (by first | rfl | exact dF (by omega)) <| Ak <| Ab <| Ac <| Ax (Ag 2) fun ds => Ad rfl (AA Dt Aa hr.seats.plain) <| Aw (Ag 1) <| Aq ?_
 refine AH [2, 3, 4, 9, 10, 105, 106, 107, 108, 109, 110, 111, 112, 113, 114, 115] (fun m e σ => ∃ G, RoomR G vb vr vs vq r ∧ ∃ k : Nat, m + k = r.seats.length ∧ Fct e 105 (.int .i64 k) ∧ σ = ⟨G, [(b2, bx 31 [vb, vr, vs, vq])]⟩ ∧ ∀ j, j < k → seatErr r.seats j = 0) (r.seats.length) ?_ ?_
 · exact ⟨G, hr, 0, by omega, Ba, rfl, fun j h => absurd h (by omega)⟩
 rintro m e _ ⟨G, hr, k, hm, hs105, rfl, hno⟩
 by_cases hlt : k < r.seats.length
 ·refine AD (Ag 1) <| Ac <| Ah Aa (by first | rfl | exact dT (by omega)) ?_
  by_cases h1c : inB 0 100 r.seats[k].light = true
  ·refine Ak <| Ab <| Ac <| Aq <| Ax (Ag 1) fun ds => Ad rfl (A1  Dt Aa hr.seats.plain Aa rfl (by omega)) <| Ad rfl (A6 NK Aa rfl rfl (hr.seats.whole (by omega))) <| A5 rfl <| AF NO rfl fun b39 hb39 nb39 => Ao (Ag 1) <| AZ <| AC T9 Aa Aa (i := 0) rfl rfl rfl rfl Seat.enc_one (.here) <| Al <| Ab <| Ax (Ag 2) fun ds => A5 rfl <| AS AR B3 rfl (.cons Aa .nil) rfl rfl (by decide) (by simp [Value.oneCell']) fun b40 hb40 nb40 => AQ (i := 0) rfl hb40 .here fun F41 hF42 hz43 => ?_
   replace hr := hr.mono hF42
   have hsl44 := Be hz43
   refine AE rfl (As Dq Aa AO (B2 _ _ hsl44) (fun _ _ h => h)) <| Al <| Ab <| Ae Aa (by simp [h1c]) <| Ak <| A4 <| Ab <| Bk (fun _ _ h => h.drop (kD <| kK <| .refl _)) <| Aj fun ds => Ad rfl (AJ Aa Aa rfl (by omega) (by omega)) <| Ao (Ag 1) <| Al ?_
   refine Ab ⟨_, m - 1, Off.eq (Ci rfl <| BI rfl <| A3), by omega, ?_⟩
   refine ⟨_, hr, k + 1, by omega, Ba, rfl, fun j hjk => ?_⟩
   rcases Nat.lt_succ_iff_lt_or_eq.1 hjk with hjk | rfl
   · exact hno j hjk
   rw [E8 hlt]; simp [h1c]
  replace h1c : inB 0 100 r.seats[k].light = false := by simpa using h1c
  refine Ak <| Ab <| Ac <| Aq <| Ax (Ag 1) fun ds => Ad rfl (A1  Dt Aa hr.seats.plain Aa rfl (by omega)) <| Ad rfl (A6 NK Aa rfl rfl (hr.seats.whole (by omega))) <| A5 rfl <| AF NO rfl fun b45 hb45 nb45 => Ao (Ag 1) <| AZ <| AC T9 Aa Aa (i := 0) rfl rfl rfl rfl Seat.enc_one (.here) <| Al <| Ab <| Ax (Ag 2) fun ds => A5 rfl <| AS AR B3 rfl (.cons Aa .nil) rfl rfl (by decide) (by simp [Value.oneCell']) fun b46 hb46 nb46 => AQ (i := 0) rfl hb46 .here fun F47 hF48 hz49 => ?_
  have hsl50 := Be hz49
  refine AE rfl (As Dq Aa AO (B2 _ _ hsl50) (fun _ _ h => h)) <| Al <| Ab <| Ah Aa (by simp [h1c]) <| AD (Ag 4) <| Au ?_
  refine A7 (Ay (Ay (A7 (Ay ?_))))
  refine Am rfl Bi ?_
  show _ = _
  exact (K0 hB hR (Gu h3 hlt hno (by rw [E8 hlt]; simp [h1c]) (by decide))).symm
 refine AD (Ag 1) <| Ac <| Ae Aa (by first | rfl | exact dF (by omega)) ?_
 have hS := Hd h3 fun j hj => hno j (by omega)
 by_cases h4 : 8 < r.reqs.length
 ·refine AG ?_
  refine A2 <| A2 <| A8 <| Ab <| Ac <| Ax (Ag 2) fun ds => Ad rfl (AA Cw Aa hr.reqs.plain) <| Aw (Ag 1) <| Ah Aa (by first | rfl | exact dT (by omega)) <| AD (Ag 3) <| Au <| Ay <| Am rfl Bi ?_
  show _ = _
  exact (Ed hB hR hS (Gv h4)).symm
 refine AG ?_
 refine A2 <| A2 <| A8 <| Ab <| Ac <| Ax (Ag 2) fun ds => Ad rfl (AA Cw Aa hr.reqs.plain) <| Aw (Ag 1) <| Ae Aa (by first | rfl | exact dF (by omega)) <| Ak <| Ab <| Ac <| Ax (Ag 2) fun ds => Ad rfl (AA Cw Aa hr.reqs.plain) <| Aw (Ag 1) <| Aq ?_
 refine AH [2, 3, 4, 11, 12, 123, 124, 125, 126, 127, 128, 129, 130, 131, 132, 133, 134, 135, 136, 137, 138, 139, 140, 141, 142, 143, 144, 145, 146, 147, 148, 149, 150, 151, 152, 153, 154, 155, 156, 157, 158, 159, 160] (fun m e σ => ∃ G, RoomR G vb vr vs vq r ∧ ∃ k : Nat, m + k = r.reqs.length ∧ Fct e 123 (.int .i64 k) ∧ σ = ⟨G, [(b2, bx 31 [vb, vr, vs, vq])]⟩ ∧ ∀ j, j < k → reqErr r j = 0) (r.reqs.length) ?_ ?_
 · exact ⟨G, hr, 0, by omega, Ba, rfl, fun j h => absurd h (by omega)⟩
 rintro m e _ ⟨G, hr, k, hm, hs123, rfl, hno⟩
 by_cases hlt : k < r.reqs.length
 ·have hL1 := hr.readers.plain.lt
  have hL2 := hr.books.plain.lt
  refine AD (Ag 1) <| Ac <| Ah Aa (by first | rfl | exact dT (by omega)) ?_
  by_cases h1 : inB 0 (r.readers.length - 1) r.reqs[k].reader = true
  ·refine Ak <| Ab <| Ac <| Aq <| Ax (Ag 1) fun ds => Ad rfl (A1  Cw Aa hr.reqs.plain Aa rfl (by omega)) <| Ad rfl (A6 Hq Aa rfl rfl (hr.reqs.whole (by omega))) <| A5 rfl <| AF JC rfl fun b52 hb52 nb52 => Ao (Ag 1) <| AZ <| AC Mm Aa Aa (i := 0) rfl rfl rfl rfl Req.enc_one (.here) <| Al <| Ab <| Aq <| Ax (Ag 2) fun ds => Ad rfl (AA CM Aa hr.readers.plain) <| Ad rfl (Br Aa Aa rfl (by omega) (by omega)) <| Ao (Ag 2) <| A5 rfl <| AS AR B3 rfl (.cons Aa .nil) rfl rfl (by decide) (by simp [Value.oneCell']) fun b53 hb53 nb53 => AQ (i := 0) rfl hb53 .here fun F54 hF55 hz56 => ?_
   replace hr := hr.mono hF55
   have hsl57 := Be hz56
   refine AE rfl (As Dq Aa AO (B2 _ _ hsl57) (fun _ _ h => h)) <| Ao (Ag 1) <| Ai rfl rfl Aa (by simp [h1]) <| Ao (Ag 1) <| Ai rfl rfl Aa (by simp [h1]) <| Ao (Ag 1) <| Ai rfl rfl Aa (by simp [h1]) <| Ad rfl (AA B4 Aa hr.books.plain) <| Ai rfl rfl Aa (by simp [h1]) <| Ad rfl (Br Aa Aa rfl (by omega) (by omega)) <| Ai rfl rfl Aa (by simp [h1]) <| Ao (Ag 1) <| Ai rfl rfl Aa (by simp [h1]) <| Ao (Ag 1) <| Ai rfl rfl Aa (by simp [h1]) <| A5 rfl <| AS AR B3 rfl (.cons Aa .nil) rfl rfl (by decide) (by simp [Value.oneCell']) fun b58 hb58 nb58 => AQ (i := 0) rfl hb58 .here fun F59 hF60 hz61 => ?_
   replace hr := hr.mono hF60
   have hsl62 := Be hz61
   refine Ai rfl rfl Aa (by simp [h1]) <| AE rfl (As Dq Aa AO (B2 _ _ hsl62) (fun _ _ h => h)) <| Ad rfl (A9 Aa (by simp [h1]) Aa) <| Aw (Ag 1) ?_
   by_cases h2 : inB 0 (r.books.length - 1) r.reqs[k].book = true
   ·refine Ae Aa (by first | rfl | simp [h2]) ?_
    by_cases h3 : inB 1 12 r.reqs[k].hours = true
    ·refine Ax (Ag 2) fun ds => A5 rfl <| AS AR B3 rfl (.cons Aa .nil) rfl rfl (by decide) (by simp [Value.oneCell']) fun b63 hb63 nb63 => AQ (i := 0) rfl hb63 .here fun F64 hF65 hz66 => ?_
     replace hr := hr.mono hF65
     have hsl67 := Be hz66
     refine AE rfl (As Dq Aa AO (B2 _ _ hsl67) (fun _ _ h => h)) <| Ao (Ag 1) <| Ai rfl rfl Aa (by simp [h3]) <| Ao (Ag 1) <| Ai rfl rfl Aa (by simp [h3]) <| Ao (Ag 1) <| Ai rfl rfl Aa (by simp [h3]) <| A5 rfl <| AS AR B3 rfl (.cons Aa .nil) rfl rfl (by decide) (by simp [Value.oneCell']) fun b68 hb68 nb68 => AQ (i := 0) rfl hb68 .here fun F69 hF70 hz71 => ?_
     replace hr := hr.mono hF70
     have hsl72 := Be hz71
     refine Ai rfl rfl Aa (by simp [h3]) <| AE rfl (As Dq Aa AO (B2 _ _ hsl72) (fun _ _ h => h)) <| Ad rfl (A9 Aa (by simp [h3]) Aa) <| Aw (Ag 1) ?_
     by_cases h5 : inB 0 100 r.reqs[k].worth = true
     ·refine Ae Aa (by first | rfl | simp [h5]) <| Ak ?_
      refine A4 (A4 (Ab ?_))
      refine Bk (fun _ _ h => h.drop (kD <| kK <| .refl _)) <| Aj fun ds => Ad rfl (AJ Aa Aa rfl (by omega) (by omega)) <| Ao (Ag 1) <| Al ?_
      refine Ab ⟨_, m - 1, Off.eq (DG rfl <| BI rfl <| BF rfl <| A3), by omega, ?_⟩
      refine ⟨_, hr, k + 1, by omega, Ba, rfl, fun j hjk => ?_⟩
      rcases Nat.lt_succ_iff_lt_or_eq.1 hjk with hjk | rfl
      · exact hno j hjk
      rw [CH hlt]; simp [h1, h2, h3, h5]
     replace h5 : inB 0 100 r.reqs[k].worth = false := by simpa using h5
     refine Ah Aa (by first | rfl | simp [h5]) <| AD (Ag 4) <| Au ?_
     refine A7 (A7 (Ay (Ay (A7 (Ay ?_)))))
     refine Am rfl Bi ?_
     show _ = _
     exact (Ed hB hR hS (Cu h4 hlt hno (by rw [CH hlt]; simp [h1, h2, h3, h5]) (by decide))).symm
    replace h3 : inB 1 12 r.reqs[k].hours = false := by simpa using h3
    refine Ax (Ag 2) fun ds => A5 rfl <| AS AR B3 rfl (.cons Aa .nil) rfl rfl (by decide) (by simp [Value.oneCell']) fun b73 hb73 nb73 => AQ (i := 0) rfl hb73 .here fun F74 hF75 hz76 => ?_
    have hsl77 := Be hz76
    refine AE rfl (As Dq Aa AO (B2 _ _ hsl77) (fun _ _ h => h)) <| Ao (Ag 1) <| Ar rfl rfl Aa (.inl (congrArg Value.bool (by simp [h3]))) rfl <| Ar rfl rfl Aa (.inl (congrArg Value.bool (by simp [h3]))) rfl <| Ar rfl rfl Aa (.inl (congrArg Value.bool (by simp [h3]))) rfl <| Ar rfl rfl Aa (.inl (congrArg Value.bool (by simp [h3]))) rfl <| Ad rfl (At Aa (by simp [h3]) Aa) <| Aw (Ag 1) <| Ah Aa (by first | rfl | simp [h3]) <| AD (Ag 4) <| Au ?_
    refine A7 (A7 (Ay (Ay (A7 (Ay ?_)))))
    refine Am rfl Bi ?_
    show _ = _
    exact (Ed hB hR hS (Cu h4 hlt hno (by rw [CH hlt]; simp [h1, h2, h3]) (by decide))).symm
   replace h2 : inB 0 (r.books.length - 1) r.reqs[k].book = false := by simpa using h2
   refine Ah Aa (by first | rfl | simp [h2]) <| AD (Ag 4) <| Au ?_
   refine A7 (A7 (Ay (Ay (A7 (Ay ?_)))))
   refine Am rfl Bi ?_
   show _ = _
   exact (Ed hB hR hS (Cu h4 hlt hno (by rw [CH hlt]; simp [h1, h2]) (by decide))).symm
  replace h1 : inB 0 (r.readers.length - 1) r.reqs[k].reader = false := by simpa using h1
  refine Ak <| Ab <| Ac <| Aq <| Ax (Ag 1) fun ds => Ad rfl (A1  Cw Aa hr.reqs.plain Aa rfl (by omega)) <| Ad rfl (A6 Hq Aa rfl rfl (hr.reqs.whole (by omega))) <| A5 rfl <| AF JC rfl fun b78 hb78 nb78 => Ao (Ag 1) <| AZ <| AC Mm Aa Aa (i := 0) rfl rfl rfl rfl Req.enc_one (.here) <| Al <| Ab <| Aq <| Ax (Ag 2) fun ds => Ad rfl (AA CM Aa hr.readers.plain) <| Ad rfl (Br Aa Aa rfl (by omega) (by omega)) <| Ao (Ag 2) <| A5 rfl <| AS AR B3 rfl (.cons Aa .nil) rfl rfl (by decide) (by simp [Value.oneCell']) fun b79 hb79 nb79 => AQ (i := 0) rfl hb79 .here fun F80 hF81 hz82 => ?_
  have hsl83 := Be hz82
  refine AE rfl (As Dq Aa AO (B2 _ _ hsl83) (fun _ _ h => h)) <| Ao (Ag 1) <| Ar rfl rfl Aa (.inl (congrArg Value.bool (by simp [h1]))) rfl <| Ar rfl rfl Aa (.inl (congrArg Value.bool (by simp [h1]))) rfl <| Ar rfl rfl Aa (.inl (congrArg Value.bool (by simp [h1]))) rfl <| Ar rfl rfl Aa (.inl (congrArg Value.bool (by simp [h1]))) rfl <| Ar rfl rfl Aa (.inl (congrArg Value.bool (by simp [h1]))) rfl <| Ar rfl rfl Aa (.inl (congrArg Value.bool (by simp [h1]))) rfl <| Ar rfl rfl Aa (.inl (congrArg Value.bool (by simp [h1]))) rfl <| Ar rfl rfl Aa (.inl (congrArg Value.bool (by simp [h1]))) rfl <| Ad rfl (At Aa (by simp [h1]) Aa) <| Aw (Ag 1) <| Ah Aa (by first | rfl | simp [h1]) <| AD (Ag 4) <| Au ?_
  refine A7 (A7 (Ay (Ay (A7 (Ay ?_)))))
  refine Am rfl Bi ?_
  show _ = _
  exact (Ed hB hR hS (Cu h4 hlt hno (by rw [CH hlt]; simp [h1]) (by decide))).symm
 refine AD (Ag 1) <| Ac <| Ae Aa (by first | rfl | exact dF (by omega)) <| AG ?_
 refine A2 <| A2 <| A8 <| Ab <| AD (Ag 3) <| Au <| Am rfl Bi ?_
 show _ = _
 exact (RL hB hR hS (HR h4 fun j hj => hno j (by omega))).symm
end
section
set_option maxRecDepth 100000
open Go.RowKit
theorem BP : AggT Tryz.prog 44 2 := C2 (by kernel_rfl)
instance : AggI Tryz.prog 44 2 := ⟨BP⟩
theorem Hh : Body Tryz.prog 19 := AB (by kernel_rfl)
theorem Kf : Body Tryz.prog 14 := AB (by kernel_rfl)
theorem MS : Body Tryz.prog 57 := AB (by kernel_rfl)
theorem Pq : ElemT Tryz.prog 9 1 16 (.string ⟨#[]⟩) := Dx (by kernel_rfl) rfl (by decide)
theorem NN : ZeroT Tryz.prog 9 (.string ⟨#[]⟩) := Bw (by kernel_rfl)
theorem JN {F : Heap} {v : Value} {bs : List Book} (h : Sl F v 5 Book.enc bs) : Ok Tryz.prog 17 [v].toArray F fun r _ => r = optV (checkBooks bs) := by
 refine Ok.intro Tryz.func17 rfl Tryz.ntmps17 rfl fun w0 => ?_
 have hlen := h.plain.lt
 by_cases h1 : 8 < bs.length
 ·refine AD (Ag 2) <| Ac <| Ax (Ag 1) fun ds => Ad rfl (AA B4 Aa h.plain) <| Aw (Ag 1) <| Ah Aa (by first | rfl | exact dT (by omega)) <| AD (Ag 2) <| Au <| Ay <| Am rfl Bi ?_
  show _ = _
  rw [FV h1]; rfl
 refine AD (Ag 2) <| Ac <| Ax (Ag 1) fun ds => Ad rfl (AA B4 Aa h.plain) <| Aw (Ag 1) <| Ae Aa (by first | rfl | exact dF (by omega)) <| Ak <| Ab <| AD (Ag 1) <| Ac <| AD (Ag 1) <| Aq ?_
 refine AH [2, 3, 4, 5, 6, 10, 11, 12, 13, 14, 15, 16, 17, 18, 19, 20, 21, 22, 23, 24, 25, 26, 27, 28, 29, 30, 31, 32, 33, 34, 35, 36, 37, 38, 39, 40, 41, 42, 43, 44, 45, 46, 47, 48, 49, 50, 51, 52, 53] (fun m e σ => ∃ k : Nat, m + k = bs.length ∧ Fct e 5 (.int .i64 k) ∧ ∃ v R, Fct e 4 v ∧ Own 9 1 v (bnames bs k).length ((bnames bs k).flatMap strE) R ∧ σ = ⟨F, R⟩ ∧ ∀ j, j < k → bookErr bs j = 0) (bs.length) ?_ ?_
 · exact ⟨0, by omega, Ba, _, _, Ba, Own.nil, rfl, fun j h => absurd h (by omega)⟩
 rintro m e _ ⟨k, hm, hs5, v4, R4, hs4, ho, rfl, hno⟩
 by_cases hlt : k < bs.length
 ·have hnl := Md (Nat.le_of_lt hlt)
  refine Ac <| Ax (Ag 2) fun ds => Ad rfl (AA B4 Aa h.plain) <| Aw (Ag 1) <| Ah Aa (by first | rfl | exact dT (by omega)) ?_
  by_cases hf : freshE bs[k].name (bnames bs k) = 0
  ·refine Ak <| Ab <| Ac <| Aq <| Ax (Ag 2) fun ds => Ad rfl (A1  B4 Aa h.plain Aa rfl (by omega)) <| Ao (Ag 1) <| Ad rfl (Ap BU Aa (h.cell (by omega) rfl)) <| Ao (Ag 1) <| AE rfl (ER Kf Aa AO (fun G _ hG => Ej (ho.sl (fun _ => rfl) (fun p hp => hG p (by simpa using hp)) (by omega)) _) (fun _ _ h => h)) <| Aw (Ag 1) <| Ax (Ag 3) fun ds => Ad rfl (A1  B4 Aa h.plain Aa rfl (by omega)) <| Ao (Ag 1) <| Ad rfl (Ap BU Aa (h.cell (by omega) rfl)) <| A5 rfl <| AS Ds NN rfl (.cons Aa .nil) rfl rfl (by decide) (by simp [Value.oneCell']) fun b2 hb2 nb2 => A5 rfl <| Bd Ds Pq Aa ho Aa (Bv (s := 1) 0 rfl rfl (by simp [Value.oneCell'])) (by rw [hnl]; omega) (by rw [hnl]; omega) (.s <| .z) .last fun v3 R4 ho5 => ?_
   have ho2 := ho5.snoc rfl rfl
   rw [← Ka hlt] at ho2
   clear ho5
   refine Aw (Ag 1) <| Ac <| Ax (Ag 3) fun ds => Ai rfl rfl Aa (dT hf) <| Ao (Ag 1) <| Ai rfl rfl Aa (dT hf) <| Ao (Ag 1) <| Ai rfl rfl Aa (dT hf) <| Ad rfl (A1  B4 Aa h.plain Aa rfl (by omega)) <| Ai rfl rfl Aa (dT hf) <| Ao (Ag 1) <| Ai rfl rfl Aa (dT hf) <| Ad rfl (Ap AM Aa (h.cell (by omega) rfl)) <| Ai rfl rfl Aa (dT hf) <| AE rfl (As Hh Aa AO (Eb _ _ _) (fun _ _ h => h)) <| Ai rfl rfl Aa (dT hf) <| Ao (Ag 1) <| Ad rfl (At Aa (dT hf) Aa) <| Al <| Ab ?_
   by_cases hc : inB 0 5 bs[k].cls = true
   ·refine Ae Aa (by simp [hc]) <| Ak <| Ab <| Ac <| AD (Ag 2) <| Ah Aa (by first | rfl | exact dT hf) ?_
    by_cases hg : rangeE bs[k].lo bs[k].hi 0 1000 = 0
    ·refine Aj fun ds => Ao (Ag 2) <| Ad rfl (A1  B4 Aa h.plain Aa rfl (by omega)) <| Ao (Ag 1) <| Ad rfl (A6 (vs := [.int .i64 bs[k].lo, .int .i64 bs[k].hi]) BP Aa rfl rfl (h.part hlt rfl)) <| AE rfl (As MS Aa AO (Fi _ _ _ _) (fun _ _ h => h)) <| Aw (Ag 1) <| AD (Ag 2) <| Ae Aa (by simp [hg]) <| Ak <| A4 <| Ab <| Bk (fun _ _ h => h.drop (kD <| .refl _)) <| Aj fun ds => Ao (Ag 1) <| Ad rfl (AJ Aa Aa rfl (by omega) (by omega)) <| Ao (Ag 1) <| Al ?_
     refine Ab ⟨_, m - 1, Off.eq (DG rfl <| Ci rfl <| BI rfl <| BF rfl <| A3), by omega, ?_⟩
     refine ⟨k + 1, by omega, Ba, _, _, Ba, ho2, rfl, fun j hjk => ?_⟩
     rcases Nat.lt_succ_iff_lt_or_eq.1 hjk with hjk | rfl
     · exact hno j hjk
     rw [FN hlt hf, hc]; simpa using hg
    refine Aj fun ds => Ao (Ag 2) <| Ad rfl (A1  B4 Aa h.plain Aa rfl (by omega)) <| Ao (Ag 1) <| Ad rfl (A6 (vs := [.int .i64 bs[k].lo, .int .i64 bs[k].hi]) BP Aa rfl rfl (h.part hlt rfl)) <| AE rfl (As MS Aa AO (Fi _ _ _ _) (fun _ _ h => h)) <| Aw (Ag 1) <| AD (Ag 2) <| Ah Aa (by simp [hg]) <| AD (Ag 4) <| Au ?_
    refine A7 (Ay (Ay (A7 (Ay ?_))))
    refine Am rfl Bi ?_
    show _ = _
    rw [Ck h1 hlt hno (by rw [FN hlt hf, hc]; first | done | rfl) hg]; rfl
   replace hc : inB 0 5 bs[k].cls = false := by simpa using hc
   refine Ah Aa (by simp [hc]) <| Aj fun ds => Aw (Ag 1) <| Ac <| AD (Ag 2) <| Ae Aa (by first | rfl | decide) <| Ak <| Ab <| AD (Ag 2) <| Ah Aa (by first | rfl | decide) <| AD (Ag 4) <| Au ?_
   refine A7 (Ay (Ay (A7 (Ay ?_))))
   refine Am rfl Bi ?_
   show _ = _
   rw [Ck h1 hlt hno (e := 7) (by rw [FN hlt hf, hc]; first | done | rfl) (by decide)]; rfl
  refine Ak <| Ab <| Ac <| Aq <| Ax (Ag 2) fun ds => Ad rfl (A1  B4 Aa h.plain Aa rfl (by omega)) <| Ao (Ag 1) <| Ad rfl (Ap BU Aa (h.cell (by omega) rfl)) <| Ao (Ag 1) <| AE rfl (ER Kf Aa AO (fun G _ hG => Ej (ho.sl (fun _ => rfl) (fun p hp => hG p (by simpa using hp)) (by omega)) _) (fun _ _ h => h)) <| Aw (Ag 1) <| Ax (Ag 3) fun ds => Ad rfl (A1  B4 Aa h.plain Aa rfl (by omega)) <| Ao (Ag 1) <| Ad rfl (Ap BU Aa (h.cell (by omega) rfl)) <| A5 rfl <| AS Ds NN rfl (.cons Aa .nil) rfl rfl (by decide) (by simp [Value.oneCell']) fun b6 hb6 nb6 => A5 rfl <| Bd Ds Pq Aa ho Aa (Bv (s := 1) 0 rfl rfl (by simp [Value.oneCell'])) (by rw [hnl]; omega) (by rw [hnl]; omega) (.s <| .z) .last fun v7 R8 ho9 => ?_
  have ho2 := ho9.snoc rfl rfl
  rw [← Ka hlt] at ho2
  clear ho9
  refine Aw (Ag 1) <| Ac <| Ax (Ag 3) fun ds => Ar rfl rfl Aa (.inl (congrArg Value.bool (dF hf))) rfl <| Ar rfl rfl Aa (.inl (congrArg Value.bool (dF hf))) rfl <| Ar rfl rfl Aa (.inl (congrArg Value.bool (dF hf))) rfl <| Ar rfl rfl Aa (.inl (congrArg Value.bool (dF hf))) rfl <| Ar rfl rfl Aa (.inl (congrArg Value.bool (dF hf))) rfl <| Ar rfl rfl Aa (.inl (congrArg Value.bool (dF hf))) rfl <| Ar rfl rfl Aa (.inl (congrArg Value.bool (dF hf))) rfl <| Ad rfl (A9 Aa (dF hf) Aa) <| Al <| Ab <| Ae Aa (by simp) <| Ak <| Ab <| Ac <| AD (Ag 2) <| Ae Aa (by simp [hf]) <| Ak <| Ab <| AD (Ag 2) <| Ah Aa (by simp [hf]) <| AD (Ag 4) <| Au ?_
  refine A7 (Ay (Ay (A7 (Ay ?_))))
  refine Am rfl Bi ?_
  show _ = _
  rw [Ck h1 hlt hno (Mc hlt hf) hf]; rfl
 refine Ac <| Ax (Ag 2) fun ds => Ad rfl (AA B4 Aa h.plain) <| Aw (Ag 1) <| Ae Aa (by first | rfl | exact dF (by omega)) <| AG ?_
 refine A2 <| A2 <| A8 <| Ab <| AD (Ag 2) <| Au <| Am rfl Bi ?_
 show _ = _
 rw [He h1 fun j hj => hno j (by omega)]; rfl
theorem GV {F : Heap} {v : Value} {bs : List Rdr} (h : Sl F v 2 Rdr.enc bs) : Ok Tryz.prog 18 [v].toArray F fun r _ => r = optV (checkRdrs bs) := by
 refine Ok.intro Tryz.func18 rfl Tryz.ntmps18 rfl fun w0 => ?_
 have hlen := h.plain.lt
 by_cases h1 : 8 < bs.length
 ·refine AD (Ag 2) <| Ac <| Ax (Ag 1) fun ds => Ad rfl (AA CM Aa h.plain) <| Aw (Ag 1) <| Ah Aa (by first | rfl | exact dT (by omega)) <| AD (Ag 2) <| Au <| Ay <| Am rfl Bi ?_
  show _ = _
  rw [Gw h1]; rfl
 refine AD (Ag 2) <| Ac <| Ax (Ag 1) fun ds => Ad rfl (AA CM Aa h.plain) <| Aw (Ag 1) <| Ae Aa (by first | rfl | exact dF (by omega)) <| Ak <| Ab <| AD (Ag 1) <| Ac <| AD (Ag 1) <| Aq ?_
 refine AH [2, 3, 4, 5, 6, 10, 11, 12, 13, 14, 15, 16, 17, 18, 19, 20, 21, 22, 23, 24, 25, 26, 27, 28, 29, 30, 31, 32, 33, 34, 35, 36, 37, 38, 39, 40, 41, 42, 43, 44, 45] (fun m e σ => ∃ k : Nat, m + k = bs.length ∧ Fct e 5 (.int .i64 k) ∧ ∃ v R, Fct e 4 v ∧ Own 9 1 v (rnames bs k).length ((rnames bs k).flatMap strE) R ∧ σ = ⟨F, R⟩ ∧ ∀ j, j < k → rdrErr bs j = 0) (bs.length) ?_ ?_
 · exact ⟨0, by omega, Ba, _, _, Ba, Own.nil, rfl, fun j h => absurd h (by omega)⟩
 rintro m e _ ⟨k, hm, hs5, v4, R4, hs4, ho, rfl, hno⟩
 by_cases hlt : k < bs.length
 ·have hnl := LY (Nat.le_of_lt hlt)
  refine Ac <| Ax (Ag 2) fun ds => Ad rfl (AA CM Aa h.plain) <| Aw (Ag 1) <| Ah Aa (by first | rfl | exact dT (by omega)) ?_
  by_cases hf : freshE bs[k].name (rnames bs k) = 0
  ·refine Ak <| Ab <| Ac <| Aq <| Ax (Ag 2) fun ds => Ad rfl (A1  CM Aa h.plain Aa rfl (by omega)) <| Ao (Ag 1) <| Ad rfl (Ap BU Aa (h.cell (by omega) rfl)) <| Ao (Ag 1) <| AE rfl (ER Kf Aa AO (fun G _ hG => Ej (ho.sl (fun _ => rfl) (fun p hp => hG p (by simpa using hp)) (by omega)) _) (fun _ _ h => h)) <| Aw (Ag 1) <| Ax (Ag 3) fun ds => Ad rfl (A1  CM Aa h.plain Aa rfl (by omega)) <| Ao (Ag 1) <| Ad rfl (Ap BU Aa (h.cell (by omega) rfl)) <| A5 rfl <| AS Ds NN rfl (.cons Aa .nil) rfl rfl (by decide) (by simp [Value.oneCell']) fun b2 hb2 nb2 => A5 rfl <| Bd Ds Pq Aa ho Aa (Bv (s := 1) 0 rfl rfl (by simp [Value.oneCell'])) (by rw [hnl]; omega) (by rw [hnl]; omega) (.s <| .z) .last fun v3 R4 ho5 => ?_
   have ho2 := ho5.snoc rfl rfl
   rw [← JM hlt] at ho2
   clear ho5
   refine Aw (Ag 1) <| Ac <| Ax (Ag 3) fun ds => Ai rfl rfl Aa (dT hf) <| Ao (Ag 1) <| Ai rfl rfl Aa (dT hf) <| Ao (Ag 1) <| Ai rfl rfl Aa (dT hf) <| Ad rfl (A1  CM Aa h.plain Aa rfl (by omega)) <| Ai rfl rfl Aa (dT hf) <| Ao (Ag 1) <| Ai rfl rfl Aa (dT hf) <| Ad rfl (Ap AM Aa (h.cell (by omega) rfl)) <| Ai rfl rfl Aa (dT hf) <| AE rfl (As Hh Aa AO (Eb _ _ _) (fun _ _ h => h)) <| Ai rfl rfl Aa (dT hf) <| Ao (Ag 1) <| Ad rfl (At Aa (dT hf) Aa) <| Al <| Ab ?_
   by_cases hc : inB 0 5 bs[k].permit = true
   ·refine Ae Aa (by simp [hc]) <| Ak <| Ab <| AD (Ag 2) <| Ae Aa (by simp [hf]) <| Ak <| A4 <| Ab <| Bk (fun _ _ h => h.drop (kD <| .refl _)) <| Aj fun ds => Ao (Ag 1) <| Ad rfl (AJ Aa Aa rfl (by omega) (by omega)) <| Ao (Ag 1) <| Al ?_
    refine Ab ⟨_, m - 1, Off.eq (DG rfl <| BI rfl <| BQ rfl <| A3), by omega, ?_⟩
    refine ⟨k + 1, by omega, Ba, _, _, Ba, ho2, rfl, fun j hjk => ?_⟩
    rcases Nat.lt_succ_iff_lt_or_eq.1 hjk with hjk | rfl
    · exact hno j hjk
    rw [JO hlt hf, hc]; rfl
   replace hc : inB 0 5 bs[k].permit = false := by simpa using hc
   refine Ah Aa (by simp [hc]) <| Aj fun ds => Aw (Ag 1) <| AD (Ag 2) <| Ah Aa (by first | rfl | decide) <| AD (Ag 4) <| Au ?_
   refine A7 (Ay (Ay (A7 (Ay ?_))))
   refine Am rfl Bi ?_
   show _ = _
   rw [Dy h1 hlt hno (e := 7) (by rw [JO hlt hf, hc]; first | done | rfl) (by decide)]; rfl
  refine Ak <| Ab <| Ac <| Aq <| Ax (Ag 2) fun ds => Ad rfl (A1  CM Aa h.plain Aa rfl (by omega)) <| Ao (Ag 1) <| Ad rfl (Ap BU Aa (h.cell (by omega) rfl)) <| Ao (Ag 1) <| AE rfl (ER Kf Aa AO (fun G _ hG => Ej (ho.sl (fun _ => rfl) (fun p hp => hG p (by simpa using hp)) (by omega)) _) (fun _ _ h => h)) <| Aw (Ag 1) <| Ax (Ag 3) fun ds => Ad rfl (A1  CM Aa h.plain Aa rfl (by omega)) <| Ao (Ag 1) <| Ad rfl (Ap BU Aa (h.cell (by omega) rfl)) <| A5 rfl <| AS Ds NN rfl (.cons Aa .nil) rfl rfl (by decide) (by simp [Value.oneCell']) fun b6 hb6 nb6 => A5 rfl <| Bd Ds Pq Aa ho Aa (Bv (s := 1) 0 rfl rfl (by simp [Value.oneCell'])) (by rw [hnl]; omega) (by rw [hnl]; omega) (.s <| .z) .last fun v7 R8 ho9 => ?_
  have ho2 := ho9.snoc rfl rfl
  rw [← JM hlt] at ho2
  clear ho9
  refine Aw (Ag 1) <| Ac <| Ax (Ag 3) fun ds => Ar rfl rfl Aa (.inl (congrArg Value.bool (dF hf))) rfl <| Ar rfl rfl Aa (.inl (congrArg Value.bool (dF hf))) rfl <| Ar rfl rfl Aa (.inl (congrArg Value.bool (dF hf))) rfl <| Ar rfl rfl Aa (.inl (congrArg Value.bool (dF hf))) rfl <| Ar rfl rfl Aa (.inl (congrArg Value.bool (dF hf))) rfl <| Ar rfl rfl Aa (.inl (congrArg Value.bool (dF hf))) rfl <| Ar rfl rfl Aa (.inl (congrArg Value.bool (dF hf))) rfl <| Ad rfl (A9 Aa (dF hf) Aa) <| Al <| Ab <| Ae Aa (by simp) <| Ak <| Ab <| AD (Ag 2) <| Ah Aa (by simp [hf]) <| AD (Ag 4) <| Au ?_
  refine A7 (Ay (Ay (A7 (Ay ?_))))
  refine Am rfl Bi ?_
  show _ = _
  rw [Dy h1 hlt hno (Nh hlt hf) hf]; rfl
 refine Ac <| Ax (Ag 2) fun ds => Ad rfl (AA CM Aa h.plain) <| Aw (Ag 1) <| Ae Aa (by first | rfl | exact dF (by omega)) <| AG ?_
 refine A2 <| A2 <| A8 <| Ab <| AD (Ag 2) <| Au <| Am rfl Bi ?_
 show _ = _
 rw [HS h1 fun j hj => hno j (by omega)]; rfl
end
section
set_option maxRecDepth 100000
open Go.RowKit
theorem bd_17 : Body Tryz.prog 17 := AB (by kernel_rfl)
theorem bd_18 : Body Tryz.prog 18 := AB (by kernel_rfl)
theorem Gg {F : Heap} {vb vr vs vq : Value} {r : Room} (hr : RoomR F vb vr vs vq r) : Ok Tryz.prog 5 [.agg #[vb, vr, vs, vq]].toArray F fun v _ => v = checkV r := by
 refine Ok.intro Tryz.func5 rfl Tryz.ntmps5 rfl fun w0 => ?_
 rcases hB : checkBooks r.books with _ | ⟨i1, e1⟩
 ·refine Ac <| Aj fun ds => A5 rfl (AX (HE rfl) rfl fun b1 hb1 nb1 => ?_)
  refine Ad rfl (AL AV) ?_
  refine Ad rfl (AL AV) ?_
  refine Ad rfl (AL AV) ?_
  refine Al <| Ab <| Ac <| Aj fun ds => Ad rfl (Az BR (CQ rfl <| Ct rfl <| Bn)) ?_
  refine Ad rfl (Ap D6 (Bn) (Cell.own 0 rfl rfl)) ?_
  refine AE rfl (As bd_17 Dz (.cons (Bn) .nil) (JN hr.books) (fun _ _ h => h.trans (by rw [hB]))) ?_
  refine Ad rfl (A0 (Bn)) ?_
  refine Ad rfl (C4 (Bn) rfl) ?_
  refine Ad rfl (C4 (Ct rfl <| Bn) rfl) ?_
  refine Ad rfl (AL (Ct rfl <| Bn)) ?_
  refine Ad rfl (AL (Ct rfl <| Bn)) ?_
  refine Al <| Ab <| Ac <| Ac <| Aj fun ds => Ad rfl (A0 (Bn)) ?_
  refine Ad rfl (H7 (Bn) AV) ?_
  refine Al <| Ab <| Ae (Bn) (by simp) ?_
  rcases hR : checkRdrs r.readers with _ | ⟨i2, e2⟩
  ·refine Ak <| Ab <| Ac <| Aj fun ds => Ad rfl (Az HN (ES rfl <| DD rfl <| Ct rfl <| Bn)) ?_
   refine Ad rfl (Ap Jq (Bn) (Cell.own 0 rfl rfl)) ?_
   refine AE rfl (As bd_18 Dz (.cons (Bn) .nil) (GV hr.readers) (fun _ _ h => h.trans (by rw [hR]))) ?_
   refine Ad rfl (A0 (Bn)) ?_
   refine Ad rfl (C4 (Bn) rfl) ?_
   refine Ad rfl (C4 (Ct rfl <| Bn) rfl) ?_
   refine Ad rfl (AL (Ct rfl <| Bn)) ?_
   refine Ad rfl (AL (Ct rfl <| Bn)) ?_
   refine Al <| Ab <| Ac <| Ac <| Aj fun ds => Ad rfl (A0 (Bn)) ?_
   refine Ad rfl (H7 (Bn) AV) ?_
   refine Al <| Ab <| Ae (Bn) (by simp) ?_
   by_cases h3 : 6 < r.seats.length
   ·refine Ak <| Ab <| Ac <| Ac <| Aj fun ds => Ad rfl (Az FJ (Df rfl <| DD rfl <| CQ rfl <| Ct rfl <| Bn)) ?_
    refine Ad rfl (Ap FC (Bn) (Cell.own 0 rfl rfl)) ?_
    refine Ad rfl (AA Dt (Bn) hr.seats.plain) ?_
    refine Ad rfl (Ot (Bn) AV) ?_
    refine Al <| Ab <| Ah (Bn) (by first | rfl | exact dT (by omega)) ?_
    refine Ac <| Aj fun ds => Ad rfl (AL AV) ?_
    refine Ad rfl (AL AV) ?_
    refine Ad rfl (AL AV) ?_
    refine Al <| Ab <| Au <| Ay ?_
    refine Am rfl (.tmp (CQ rfl <| Bn) (.tmp (Ct rfl <| Bn) (.tmp (Bn) .nil))) ?_
    show _ = _
    exact (K0 hB hR (FU h3)).symm
   refine Ak <| Ab <| Ac <| Ac <| Aj fun ds => Ad rfl (Az FJ (Df rfl <| DD rfl <| CQ rfl <| Ct rfl <| Bn)) ?_
   refine Ad rfl (Ap FC (Bn) (Cell.own 0 rfl rfl)) ?_
   refine Ad rfl (AA Dt (Bn) hr.seats.plain) ?_
   refine Ad rfl (Ot (Bn) AV) ?_
   refine Al <| Ab <| Ae (Bn) (by first | rfl | exact dF (by omega)) ?_
   refine Ak <| Ab <| Ac <| Ac <| Aj fun ds => Ad rfl (AL AV) ?_
   refine Al <| Ab <| Aq <| AH [2, 3, 4, 7, 34, 35, 36, 37, 38, 39, 40, 41, 42, 43, 44, 45, 46, 47, 48, 49] (fun m e σ => ∃ k : Nat, m + k = r.seats.length ∧ e 7 = .int .i64 k ∧ σ = ⟨F, [(b1, bx 31 [vb, vr, vs, vq])]⟩ ∧ ∀ j, j < k → seatErr r.seats j = 0) (r.seats.length) ?_ ?_
   · exact ⟨0, by omega, (Bn), rfl, fun j h => absurd h (by omega)⟩
   rintro m e _ ⟨k, hm, hs7, rfl, hno⟩
   by_cases hlt : k < r.seats.length
   ·refine Ac <| Ac <| Aj fun ds => Ad rfl (A0 (Er rfl hs7)) ?_
    refine Ad rfl (Az FJ (Ct rfl <| CD rfl <| Df rfl <| ES rfl <| DD rfl <| Bn)) ?_
    refine Ad rfl (Ap FC (Bn) (Cell.own 0 rfl rfl)) ?_
    refine Ad rfl (AA Dt (Bn) hr.seats.plain) ?_
    refine Ad rfl (Oq (CQ rfl <| Ct rfl <| Bn) (Bn)) ?_
    refine Al <| Ab <| Ah (Bn) (by first | rfl | exact dT (by omega)) ?_
    by_cases h1c : inB 0 100 r.seats[k].light = true
    ·refine Ak <| Ab <| Ac <| Aq <| Ac <| Aj fun ds => Ad rfl (Az FJ (DD rfl <| Ct rfl <| CD rfl <| Df rfl <| ES rfl <| DD rfl <| Bn)) ?_
     refine Ad rfl (Ap FC (Bn) (Cell.own 0 rfl rfl)) ?_
     refine Ad rfl (A0 (DD rfl <| CQ rfl <| Ct rfl <| Er rfl hs7)) ?_
     refine Ad rfl (A1  Dt (Ct rfl <| Bn) hr.seats.plain (Bn) rfl (by omega)) ?_
     refine Ad rfl (Bs Kx (Bn)) ?_
     refine Ad rfl (Ap AM (Bn) (hr.seats.cell (by omega) rfl)) ?_
     refine AE rfl (As Hh Dz (.cons (Bn) (.cons AV (.cons AV .nil))) (Eb _ _ _) (fun _ _ h => h)) ?_
     refine Ad rfl (EQ (Bn)) ?_
     refine Al <| Ab <| Ae (Bn) (by first | rfl | (simp [h1c]; done)) ?_
     refine Ak <| A4 <| Ab <| Aj fun ds => Ad rfl (A0 (ES rfl <| DD rfl <| Ct rfl <| Er rfl hs7)) ?_
     refine Ad rfl (AJ (Bn) AV rfl (by omega) (by omega)) ?_
     refine Ad rfl (AL (Bn)) ?_
     refine Al <| Ab ⟨_, m - 1, Off.eq (Bx rfl <| A3), by omega, ?_⟩
     refine ⟨k + 1, by omega, (Bn), rfl, fun j hjk => ?_⟩
     rcases Nat.lt_succ_iff_lt_or_eq.1 hjk with hjk | rfl
     · exact hno j hjk
     rw [E8 hlt]; simp [h1c]
    replace h1c : inB 0 100 r.seats[k].light = false := by simpa using h1c
    refine Ak <| Ab <| Ac <| Aq <| Ac <| Aj fun ds => Ad rfl (Az FJ (DD rfl <| Ct rfl <| CD rfl <| Df rfl <| ES rfl <| DD rfl <| Bn)) ?_
    refine Ad rfl (Ap FC (Bn) (Cell.own 0 rfl rfl)) ?_
    refine Ad rfl (A0 (DD rfl <| CQ rfl <| Ct rfl <| Er rfl hs7)) ?_
    refine Ad rfl (A1  Dt (Ct rfl <| Bn) hr.seats.plain (Bn) rfl (by omega)) ?_
    refine Ad rfl (Bs Kx (Bn)) ?_
    refine Ad rfl (Ap AM (Bn) (hr.seats.cell (by omega) rfl)) ?_
    refine AE rfl (As Hh Dz (.cons (Bn) (.cons AV (.cons AV .nil))) (Eb _ _ _) (fun _ _ h => h)) ?_
    refine Ad rfl (EQ (Bn)) ?_
    refine Al <| Ab <| Ah (Bn) (by first | rfl | (simp [h1c]; done)) ?_
    refine Ac <| Aj fun ds => Ad rfl (A0 (ES rfl <| DD rfl <| Ct rfl <| Er rfl hs7)) ?_
    refine Ad rfl (AL AV) ?_
    refine Ad rfl (AL (Ct rfl <| Bn)) ?_
    refine Ad rfl (AL AV) ?_
    refine Al <| Ab <| Au <| A7 (Ay (Ay (A7 (Ay ?_))))
    refine Am rfl (.tmp (CQ rfl <| Bn) (.tmp (Ct rfl <| Bn) (.tmp (Bn) .nil))) ?_
    show _ = _
    exact (K0 hB hR (Gu h3 hlt hno (by rw [E8 hlt]; simp [h1c]) (by decide))).symm
   refine Ac <| Ac <| Aj fun ds => Ad rfl (A0 (Er rfl hs7)) ?_
   refine Ad rfl (Az FJ (Ct rfl <| CD rfl <| Df rfl <| ES rfl <| DD rfl <| Bn)) ?_
   refine Ad rfl (Ap FC (Bn) (Cell.own 0 rfl rfl)) ?_
   refine Ad rfl (AA Dt (Bn) hr.seats.plain) ?_
   refine Ad rfl (Oq (CQ rfl <| Ct rfl <| Bn) (Bn)) ?_
   refine Al <| Ab <| Ae (Bn) (by first | rfl | exact dF (by omega)) ?_
   have hS := Hd h3 fun j hj => hno j (by omega)
   by_cases h4 : 8 < r.reqs.length
   ·refine AG ?_
    refine A2 <| A2 <| A8 <| Ab <| Ac <| Ac <| Aj fun ds => Ad rfl (Az Ec (DD rfl <| Ct rfl <| CD rfl <| Df rfl <| ES rfl <| DD rfl <| Bn)) ?_
    refine Ad rfl (Ap DP (Bn) (Cell.own 0 rfl rfl)) ?_
    refine Ad rfl (AA Cw (Bn) hr.reqs.plain) ?_
    refine Ad rfl (Ot (Bn) AV) ?_
    refine Al <| Ab <| Ah (Bn) (by first | rfl | exact dT (by omega)) ?_
    refine Ac <| Aj fun ds => Ad rfl (AL AV) ?_
    refine Ad rfl (AL AV) ?_
    refine Ad rfl (AL AV) ?_
    refine Al <| Ab <| Au <| Ay ?_
    refine Am rfl (.tmp (CQ rfl <| Bn) (.tmp (Ct rfl <| Bn) (.tmp (Bn) .nil))) ?_
    show _ = _
    exact (Ed hB hR hS (Gv h4)).symm
   refine AG ?_
   refine A2 <| A2 <| A8 <| Ab <| Ac <| Ac <| Aj fun ds => Ad rfl (Az Ec (DD rfl <| Ct rfl <| CD rfl <| Df rfl <| ES rfl <| DD rfl <| Bn)) ?_
   refine Ad rfl (Ap DP (Bn) (Cell.own 0 rfl rfl)) ?_
   refine Ad rfl (AA Cw (Bn) hr.reqs.plain) ?_
   refine Ad rfl (Ot (Bn) AV) ?_
   refine Al <| Ab <| Ae (Bn) (by first | rfl | exact dF (by omega)) ?_
   refine Ak <| Ab <| Ac <| Ac <| Aj fun ds => Ad rfl (AL AV) ?_
   refine Al <| Ab <| Aq <| AH [2, 3, 4, 8, 9, 54, 55, 56, 57, 58, 59, 60, 61, 62, 63, 64, 65, 66, 67, 68, 69, 70, 71, 72, 73, 74, 75, 76, 77, 78, 79, 80, 81, 82, 83, 84, 85, 86, 87, 88, 89, 90, 91, 92, 93, 94, 95] (fun m e σ => ∃ k : Nat, m + k = r.reqs.length ∧ e 8 = .int .i64 k ∧ σ = ⟨F, [(b1, bx 31 [vb, vr, vs, vq])]⟩ ∧ ∀ j, j < k → reqErr r j = 0) (r.reqs.length) ?_ ?_
   · exact ⟨0, by omega, (Bn), rfl, fun j h => absurd h (by omega)⟩
   rintro m e _ ⟨k, hm, hs8, rfl, hno⟩
   by_cases hlt : k < r.reqs.length
   ·have hL1 := hr.readers.plain.lt
    have hL2 := hr.books.plain.lt
    refine Ac <| Ac <| Aj fun ds => Ad rfl (A0 (Er rfl hs8)) ?_
    refine Ad rfl (Az Ec (Ct rfl <| CD rfl <| ES rfl <| CQ rfl <| CD rfl <| Df rfl <| ES rfl <| DD rfl <| Bn)) ?_
    refine Ad rfl (Ap DP (Bn) (Cell.own 0 rfl rfl)) ?_
    refine Ad rfl (AA Cw (Bn) hr.reqs.plain) ?_
    refine Ad rfl (Oq (CQ rfl <| Ct rfl <| Bn) (Bn)) ?_
    refine Al <| Ab <| Ah (Bn) (by first | rfl | exact dT (by omega)) ?_
    by_cases h1 : inB 0 (r.readers.length - 1) r.reqs[k].reader = true
    ·refine Ak <| Ab <| Ac <| Aq <| Ac <| Aj fun ds => Ad rfl (Az Ec (DD rfl <| Ct rfl <| CD rfl <| ES rfl <| CQ rfl <| CD rfl <| Df rfl <| ES rfl <| DD rfl <| Bn)) ?_
     refine Ad rfl (Ap DP (Bn) (Cell.own 0 rfl rfl)) ?_
     refine Ad rfl (A0 (DD rfl <| CQ rfl <| Ct rfl <| Er rfl hs8)) ?_
     refine Ad rfl (A1  Cw (Ct rfl <| Bn) hr.reqs.plain (Bn) rfl (by omega)) ?_
     refine Ad rfl (A6 Hq (Bn) rfl rfl (hr.reqs.whole (by omega))) ?_
     refine A5 rfl (AF JC rfl fun b4 hb4 nb4 => ?_)
     refine AZ (AC Mm (Bn) (Ct rfl <| Bn) (i := 0) rfl rfl rfl rfl Req.enc_one (.here) ?_)
     refine Al <| Ab <| Ac <| Ac <| Aj fun ds => Ad rfl (Az Kw (Bn)) ?_
     refine Ad rfl (Ap AM (Bn) (Cell.own 0 rfl rfl)) ?_
     refine Ad rfl (Az HN (ES rfl <| DD rfl <| Ct rfl <| CD rfl <| ES rfl <| CQ rfl <| CD rfl <| Df rfl <| ES rfl <| DD rfl <| Bn)) ?_
     refine Ad rfl (Ap Jq (Bn) (Cell.own 1 rfl rfl)) ?_
     refine Ad rfl (AA CM (Bn) hr.readers.plain) ?_
     refine Ad rfl (Br (Bn) AV rfl (by omega) (by omega)) ?_
     refine AE rfl (As Hh Dz (.cons (DD rfl <| Bn) (.cons AV (.cons (Bn) .nil))) (Eb _ _ _) (fun _ _ h => h)) ?_
     refine Ad rfl (EQ (Bn)) ?_
     refine Ad rfl (A0 (Bn)) ?_
     refine Ai rfl rfl (Bn) (by first | rfl | (simp [h1]; done)) ?_
     refine Ad rfl (Az Kv (ES rfl <| Ct rfl <| Bn)) ?_
     refine Ai rfl rfl (Ct rfl <| Bn) (by first | rfl | (simp [h1]; done)) ?_
     refine Ad rfl (Ap AM (Bn) (Cell.own 0 rfl rfl)) ?_
     refine Ai rfl rfl (CQ rfl <| Bn) (by first | rfl | (simp [h1]; done)) ?_
     refine Ad rfl (Az BR (Df rfl <| DD rfl <| CQ rfl <| CD rfl <| ES rfl <| CQ rfl <| CD rfl <| Df rfl <| ES rfl <| DD rfl <| Bn)) ?_
     refine Ai rfl rfl (CQ rfl <| Ct rfl <| Bn) (by first | rfl | (simp [h1]; done)) ?_
     refine Ad rfl (Ap D6 (Bn) (Cell.own 1 rfl rfl)) ?_
     refine Ai rfl rfl (DD rfl <| Bn) (by first | rfl | (simp [h1]; done)) ?_
     refine Ad rfl (AA B4 (Bn) hr.books.plain) ?_
     refine Ai rfl rfl (DD rfl <| Ct rfl <| Bn) (by first | rfl | (simp [h1]; done)) ?_
     refine Ad rfl (Br (Bn) AV rfl (by omega) (by omega)) ?_
     refine Ai rfl rfl (DD rfl <| CQ rfl <| Bn) (by first | rfl | (simp [h1]; done)) ?_
     refine AE rfl (As Hh Dz (.cons (DD rfl <| Bn) (.cons AV (.cons (Bn) .nil))) (Eb _ _ _) (fun _ _ h => h)) ?_
     refine Ai rfl rfl (DD rfl <| CQ rfl <| Ct rfl <| Bn) (by first | rfl | (simp [h1]; done)) ?_
     refine Ad rfl (EQ (Bn)) ?_
     refine Ad rfl (A9 (ES rfl <| Bn) (by first | rfl | (simp [h1]; done)) (Bn)) ?_
     refine Al <| Ab ?_
     by_cases h2 : inB 0 (r.books.length - 1) r.reqs[k].book = true
     ·refine Ae (Bn) (by first | rfl | (simp [h2]; done)) ?_
      by_cases h3 : inB 1 12 r.reqs[k].hours = true
      ·refine Ak <| Ab <| Ac <| Aj fun ds => Ad rfl (Az Ku (Df rfl <| CQ rfl <| Bn)) ?_
       refine Ad rfl (Ap AM (Bn) (Cell.own 0 rfl rfl)) ?_
       refine AE rfl (As Hh Dz (.cons (Bn) (.cons AV (.cons AV .nil))) (Eb _ _ _) (fun _ _ h => h)) ?_
       refine Ad rfl (EQ (Bn)) ?_
       refine Ad rfl (A0 (Bn)) ?_
       refine Ai rfl rfl (Bn) (by first | rfl | (simp [h3]; done)) ?_
       refine Ad rfl (Az RC (Df rfl <| DD rfl <| CQ rfl <| Ct rfl <| Bn)) ?_
       refine Ai rfl rfl (Ct rfl <| Bn) (by first | rfl | (simp [h3]; done)) ?_
       refine Ad rfl (Ap AM (Bn) (Cell.own 0 rfl rfl)) ?_
       refine Ai rfl rfl (CQ rfl <| Bn) (by first | rfl | (simp [h3]; done)) ?_
       refine AE rfl (As Hh Dz (.cons (Bn) (.cons AV (.cons AV .nil))) (Eb _ _ _) (fun _ _ h => h)) ?_
       refine Ai rfl rfl (CQ rfl <| Ct rfl <| Bn) (by first | rfl | (simp [h3]; done)) ?_
       refine Ad rfl (EQ (Bn)) ?_
       refine Ad rfl (A9 (DD rfl <| Bn) (by first | rfl | (simp [h3]; done)) (Bn)) ?_
       refine Al <| Ab ?_
       by_cases h5 : inB 0 100 r.reqs[k].worth = true
       ·refine Ae (Bn) (by first | rfl | (simp [h5]; done)) ?_
        refine Ak <| A4 <| Ab <| Bk (fun _ _ h => h.drop (kD <| kK <| .refl _)) ?_
        refine Aj fun ds => Ad rfl (A0 (De rfl <| DD rfl <| CQ rfl <| Ct rfl <| Er rfl hs8)) ?_
        refine Ad rfl (AJ (Bn) AV rfl (by omega) (by omega)) ?_
        refine Ad rfl (AL (Bn)) ?_
        refine Al <| Ab ⟨_, m - 1, Off.eq (DG rfl <| Ci rfl <| BF rfl <| A3), by omega, ?_⟩
        refine ⟨k + 1, by omega, (Bn), rfl, fun j hjk => ?_⟩
        rcases Nat.lt_succ_iff_lt_or_eq.1 hjk with hjk | rfl
        · exact hno j hjk
        rw [CH hlt]; simp [h1, h2, h3, h5]
       replace h5 : inB 0 100 r.reqs[k].worth = false := by simpa using h5
       refine Ah (Bn) (by first | rfl | (simp [h5]; done)) ?_
       refine Ac <| Aj fun ds => Ad rfl (A0 (De rfl <| DD rfl <| CQ rfl <| Ct rfl <| Er rfl hs8)) ?_
       refine Ad rfl (AL AV) ?_
       refine Ad rfl (AL (Ct rfl <| Bn)) ?_
       refine Ad rfl (AL AV) ?_
       refine Al <| Ab <| Au <| A7 (Ay (Ay (A7 (Ay ?_))))
       refine Am rfl (.tmp (CQ rfl <| Bn) (.tmp (Ct rfl <| Bn) (.tmp (Bn) .nil))) ?_
       show _ = _
       exact (Ed hB hR hS (Cu h4 hlt hno (by rw [CH hlt]; simp [h1, h2, h3, h5]) (by decide))).symm
      replace h3 : inB 1 12 r.reqs[k].hours = false := by simpa using h3
      refine Ak <| Ab <| Ac <| Aj fun ds => Ad rfl (Az Ku (Df rfl <| CQ rfl <| Bn)) ?_
      refine Ad rfl (Ap AM (Bn) (Cell.own 0 rfl rfl)) ?_
      refine AE rfl (As Hh Dz (.cons (Bn) (.cons AV (.cons AV .nil))) (Eb _ _ _) (fun _ _ h => h)) ?_
      refine Ad rfl (EQ (Bn)) ?_
      refine Ad rfl (A0 (Bn)) ?_
      refine Ar rfl rfl (Bn) (.inl (congrArg Value.bool (by first | rfl | (simp [h3]; done)))) rfl ?_
      refine Ar rfl rfl (Ct rfl <| Bn) (.inl (congrArg Value.bool (by first | rfl | (simp [h3]; done)))) rfl ?_
      refine Ar rfl rfl (CQ rfl <| Bn) (.inl (congrArg Value.bool (by first | rfl | (simp [h3]; done)))) rfl ?_
      refine Ar rfl rfl (CQ rfl <| Ct rfl <| Bn) (.inl (congrArg Value.bool (by first | rfl | (simp [h3]; done)))) rfl ?_
      refine Ad rfl (At (DD rfl <| Bn) (by first | rfl | (simp [h3]; done)) AV) ?_
      refine Al <| Ab <| Ah (Bn) (by first | rfl | (simp [h3]; done)) ?_
      refine Ac <| Aj fun ds => Ad rfl (A0 (De rfl <| DD rfl <| CQ rfl <| Ct rfl <| Er rfl hs8)) ?_
      refine Ad rfl (AL AV) ?_
      refine Ad rfl (AL (Ct rfl <| Bn)) ?_
      refine Ad rfl (AL AV) ?_
      refine Al <| Ab <| Au <| A7 (Ay (Ay (A7 (Ay ?_))))
      refine Am rfl (.tmp (CQ rfl <| Bn) (.tmp (Ct rfl <| Bn) (.tmp (Bn) .nil))) ?_
      show _ = _
      exact (Ed hB hR hS (Cu h4 hlt hno (by rw [CH hlt]; simp [h1, h2, h3]) (by decide))).symm
     replace h2 : inB 0 (r.books.length - 1) r.reqs[k].book = false := by simpa using h2
     refine Ah (Bn) (by first | rfl | (simp [h2]; done)) ?_
     refine Ac <| Aj fun ds => Ad rfl (A0 (Df rfl <| ES rfl <| DD rfl <| Ct rfl <| Er rfl hs8)) ?_
     refine Ad rfl (AL AV) ?_
     refine Ad rfl (AL (Ct rfl <| Bn)) ?_
     refine Ad rfl (AL AV) ?_
     refine Al <| Ab <| Au <| Ay (A7 (Ay (Ay (A7 (Ay ?_)))))
     refine Am rfl (.tmp (CQ rfl <| Bn) (.tmp (Ct rfl <| Bn) (.tmp (Bn) .nil))) ?_
     show _ = _
     exact (Ed hB hR hS (Cu h4 hlt hno (by rw [CH hlt]; simp [h1, h2]) (by decide))).symm
    replace h1 : inB 0 (r.readers.length - 1) r.reqs[k].reader = false := by simpa using h1
    refine Ak <| Ab <| Ac <| Aq <| Ac <| Aj fun ds => Ad rfl (Az Ec (DD rfl <| Ct rfl <| CD rfl <| ES rfl <| CQ rfl <| CD rfl <| Df rfl <| ES rfl <| DD rfl <| Bn)) ?_
    refine Ad rfl (Ap DP (Bn) (Cell.own 0 rfl rfl)) ?_
    refine Ad rfl (A0 (DD rfl <| CQ rfl <| Ct rfl <| Er rfl hs8)) ?_
    refine Ad rfl (A1  Cw (Ct rfl <| Bn) hr.reqs.plain (Bn) rfl (by omega)) ?_
    refine Ad rfl (A6 Hq (Bn) rfl rfl (hr.reqs.whole (by omega))) ?_
    refine A5 rfl (AF JC rfl fun b5 hb5 nb5 => ?_)
    refine AZ (AC Mm (Bn) (Ct rfl <| Bn) (i := 0) rfl rfl rfl rfl Req.enc_one (.here) ?_)
    refine Al <| Ab <| Ac <| Ac <| Aj fun ds => Ad rfl (Az Kw (Bn)) ?_
    refine Ad rfl (Ap AM (Bn) (Cell.own 0 rfl rfl)) ?_
    refine Ad rfl (Az HN (ES rfl <| DD rfl <| Ct rfl <| CD rfl <| ES rfl <| CQ rfl <| CD rfl <| Df rfl <| ES rfl <| DD rfl <| Bn)) ?_
    refine Ad rfl (Ap Jq (Bn) (Cell.own 1 rfl rfl)) ?_
    refine Ad rfl (AA CM (Bn) hr.readers.plain) ?_
    refine Ad rfl (Br (Bn) AV rfl (by omega) (by omega)) ?_
    refine AE rfl (As Hh Dz (.cons (DD rfl <| Bn) (.cons AV (.cons (Bn) .nil))) (Eb _ _ _) (fun _ _ h => h)) ?_
    refine Ad rfl (EQ (Bn)) ?_
    refine Ad rfl (A0 (Bn)) ?_
    refine Ar rfl rfl (Bn) (.inl (congrArg Value.bool (by first | rfl | (simp [h1]; done)))) rfl ?_
    refine Ar rfl rfl (Ct rfl <| Bn) (.inl (congrArg Value.bool (by first | rfl | (simp [h1]; done)))) rfl ?_
    refine Ar rfl rfl (CQ rfl <| Bn) (.inl (congrArg Value.bool (by first | rfl | (simp [h1]; done)))) rfl ?_
    refine Ar rfl rfl (CQ rfl <| Ct rfl <| Bn) (.inl (congrArg Value.bool (by first | rfl | (simp [h1]; done)))) rfl ?_
    refine Ar rfl rfl (DD rfl <| Bn) (.inl (congrArg Value.bool (by first | rfl | (simp [h1]; done)))) rfl ?_
    refine Ar rfl rfl (DD rfl <| Ct rfl <| Bn) (.inl (congrArg Value.bool (by first | rfl | (simp [h1]; done)))) rfl ?_
    refine Ar rfl rfl (DD rfl <| CQ rfl <| Bn) (.inl (congrArg Value.bool (by first | rfl | (simp [h1]; done)))) rfl ?_
    refine Ar rfl rfl (DD rfl <| CQ rfl <| Ct rfl <| Bn) (.inl (congrArg Value.bool (by first | rfl | (simp [h1]; done)))) rfl ?_
    refine Ad rfl (At (ES rfl <| Bn) (by first | rfl | (simp [h1]; done)) AV) ?_
    refine Al <| Ab <| Ah (Bn) (by first | rfl | (simp [h1]; done)) ?_
    refine Ac <| Aj fun ds => Ad rfl (A0 (Df rfl <| ES rfl <| DD rfl <| Ct rfl <| Er rfl hs8)) ?_
    refine Ad rfl (AL AV) ?_
    refine Ad rfl (AL (Ct rfl <| Bn)) ?_
    refine Ad rfl (AL AV) ?_
    refine Al <| Ab <| Au <| Ay (A7 (Ay (Ay (A7 (Ay ?_)))))
    refine Am rfl (.tmp (CQ rfl <| Bn) (.tmp (Ct rfl <| Bn) (.tmp (Bn) .nil))) ?_
    show _ = _
    exact (Ed hB hR hS (Cu h4 hlt hno (by rw [CH hlt]; simp [h1]) (by decide))).symm
   refine Ac <| Ac <| Aj fun ds => Ad rfl (A0 (Er rfl hs8)) ?_
   refine Ad rfl (Az Ec (Ct rfl <| CD rfl <| ES rfl <| CQ rfl <| CD rfl <| Df rfl <| ES rfl <| DD rfl <| Bn)) ?_
   refine Ad rfl (Ap DP (Bn) (Cell.own 0 rfl rfl)) ?_
   refine Ad rfl (AA Cw (Bn) hr.reqs.plain) ?_
   refine Ad rfl (Oq (CQ rfl <| Ct rfl <| Bn) (Bn)) ?_
   refine Al <| Ab <| Ae (Bn) (by first | rfl | exact dF (by omega)) ?_
   refine AG ?_
   refine A2 <| A2 <| A8 <| Ab <| Ac <| Aj fun ds => Ad rfl (AL AV) ?_
   refine Ad rfl (AL AV) ?_
   refine Ad rfl (AL AV) ?_
   refine Al <| Ab <| Au <| Am rfl (.tmp (CQ rfl <| Bn) (.tmp (Ct rfl <| Bn) (.tmp (Bn) .nil))) ?_
   show _ = _
   exact (RL hB hR hS (HR h4 fun j hj => hno j (by omega))).symm
  refine Ak <| Ab <| Ac <| Aj fun ds => Ad rfl (Az HN (ES rfl <| DD rfl <| Ct rfl <| Bn)) ?_
  refine Ad rfl (Ap Jq (Bn) (Cell.own 0 rfl rfl)) ?_
  refine AE rfl (As bd_18 Dz (.cons (Bn) .nil) (GV hr.readers) (fun _ _ h => h.trans (by rw [hR]))) ?_
  refine Ad rfl (A0 (Bn)) ?_
  refine Ad rfl (C4 (Bn) rfl) ?_
  refine Ad rfl (C4 (Ct rfl <| Bn) rfl) ?_
  refine Ad rfl (AL (Ct rfl <| Bn)) ?_
  refine Ad rfl (AL (Ct rfl <| Bn)) ?_
  refine Al <| Ab <| Ac <| Ac <| Aj fun ds => Ad rfl (A0 (Bn)) ?_
  refine Ad rfl (H7 (Bn) AV) ?_
  refine Al <| Ab <| Ah (Bn) (by simpa using JZ hR) ?_
  refine Ac <| Aj fun ds => Ad rfl (A0 (CQ rfl <| Ct rfl <| Bn)) ?_
  refine Ad rfl (A0 (CQ rfl <| Ct rfl <| Bn)) ?_
  refine Ad rfl (AL AV) ?_
  refine Ad rfl (AL (CQ rfl <| Bn)) ?_
  refine Ad rfl (AL (CQ rfl <| Bn)) ?_
  refine Al <| Ab <| Au <| Ay ?_
  refine Am rfl (.tmp (CQ rfl <| Bn) (.tmp (Ct rfl <| Bn) (.tmp (Bn) .nil))) ?_
  show _ = _
  exact (HQ hB hR).symm
 refine Ac <| Aj fun ds => A5 rfl (AX (HE rfl) rfl fun b6 hb6 nb6 => ?_)
 refine Ad rfl (AL AV) ?_
 refine Ad rfl (AL AV) ?_
 refine Ad rfl (AL AV) ?_
 refine Al <| Ab <| Ac <| Aj fun ds => Ad rfl (Az BR (CQ rfl <| Ct rfl <| Bn)) ?_
 refine Ad rfl (Ap D6 (Bn) (Cell.own 0 rfl rfl)) ?_
 refine AE rfl (As bd_17 Dz (.cons (Bn) .nil) (JN hr.books) (fun _ _ h => h.trans (by rw [hB]))) ?_
 refine Ad rfl (A0 (Bn)) ?_
 refine Ad rfl (C4 (Bn) rfl) ?_
 refine Ad rfl (C4 (Ct rfl <| Bn) rfl) ?_
 refine Ad rfl (AL (Ct rfl <| Bn)) ?_
 refine Ad rfl (AL (Ct rfl <| Bn)) ?_
 refine Al <| Ab <| Ac <| Ac <| Aj fun ds => Ad rfl (A0 (Bn)) ?_
 refine Ad rfl (H7 (Bn) AV) ?_
 refine Al <| Ab <| Ah (Bn) (by simpa using HU hB) ?_
 refine Ac <| Aj fun ds => Ad rfl (A0 (CQ rfl <| Ct rfl <| Bn)) ?_
 refine Ad rfl (A0 (CQ rfl <| Ct rfl <| Bn)) ?_
 refine Ad rfl (AL AV) ?_
 refine Ad rfl (AL (CQ rfl <| Bn)) ?_
 refine Ad rfl (AL (CQ rfl <| Bn)) ?_
 refine Al <| Ab <| Au <| Ay ?_
 refine Am rfl (.tmp (CQ rfl <| Bn) (.tmp (Ct rfl <| Bn) (.tmp (Bn) .nil))) ?_
 show _ = _
 exact (FL hB).symm
end
section
open Go.RowKit
theorem G5 : AggT Tryz.prog 31 4 := C2 (by kernel_rfl)
instance : AggI Tryz.prog 31 4 := ⟨G5⟩
instance : FieldI Tryz.prog 77 1 1 := ⟨AU (by kernel_rfl)⟩
theorem GX : OneT Tryz.prog 4 := BA (by kernel_rfl)
instance : OneI Tryz.prog 4 := ⟨GX⟩
end
section
set_option maxRecDepth 100000
open Go.RowKit
theorem FQ : AggT Tryz.prog 190 2 := C2 (by kernel_rfl)
instance : AggI Tryz.prog 190 2 := ⟨FQ⟩
theorem LR : ArrT Tryz.prog 153 6 3 1 := K3 (by kernel_rfl)
theorem LQ : ArrT Tryz.prog 154 8 153 6 := K3 (by kernel_rfl)
theorem NH : Body Tryz.prog 108 := AB (by kernel_rfl)
theorem V8 : Body Tryz.prog 109 := AB (by kernel_rfl)
theorem V7 : Body Tryz.prog 110 := AB (by kernel_rfl)
theorem V6 : Body Tryz.prog 111 := AB (by kernel_rfl)
theorem Gq : FieldT Tryz.prog 157 1 4 := AU (by kernel_rfl)
instance : FieldI Tryz.prog 157 1 4 := ⟨Gq⟩
instance : FieldI Tryz.prog 157 2 52 := ⟨AU (by kernel_rfl)⟩
instance : FieldI Tryz.prog 190 0 0 := ⟨AU (by kernel_rfl)⟩
instance : FieldI Tryz.prog 190 1 1 := ⟨AU (by kernel_rfl)⟩
theorem Rk : OneT Tryz.prog 155 := BA (by kernel_rfl)
instance : OneI Tryz.prog 155 := ⟨Rk⟩
instance : OneI Tryz.prog 147 := ⟨BA (by kernel_rfl)⟩
theorem HC : OneT Tryz.prog 196 := BA (by kernel_rfl)
instance : OneI Tryz.prog 196 := ⟨HC⟩
theorem Ea : OneT Tryz.prog 126 := BA (by kernel_rfl)
instance : OneI Tryz.prog 126 := ⟨Ea⟩
theorem pt_44_0 : PartT Tryz.prog 44 0 0 3 := H9 (by kernel_rfl)
theorem pt_56_1 : PartT Tryz.prog 56 1 1 3 := H9 (by kernel_rfl)
theorem pt_56_2 : PartT Tryz.prog 56 2 2 44 := H9 (by kernel_rfl)
theorem Rg : PartT Tryz.prog 56 3 4 4 := H9 (by kernel_rfl)
theorem Fw : SliceT Tryz.prog 155 190 2 := BO (by kernel_rfl)
instance : SliceI Tryz.prog 155 := ⟨_, _, Fw⟩
theorem Jl : SizeT Tryz.prog 190 2 := B1 (by kernel_rfl)
theorem Ga : ZeroT Tryz.prog 190 (.agg #[.int .i64 0, .nilFunc]) := Bw (by kernel_rfl)
def num : Num := ⟨157, 31, 190, 196, 126, 108, 109, 110, 111⟩
theorem HD {F : Heap} {b c1 c8 c3 : Nat} {vb vr vs vq vl : Value} {r : Room} (hX : RoomX num F b c1 c8 c3 vb vr vs vq vl r) (hv : Valid r) {i : Nat} (hi : i < r.reqs.length) : Ok Tryz.prog 108 [.int .i64 i, .pointer (some ⟨c1, 0, none⟩)].toArray F fun v _ => v = .agg (Book.enc (r.bk (r.book i))).toArray := by
 refine Ok.intro Tryz.func108 rfl Tryz.ntmps108 rfl fun w0 => ?_
 obtain ⟨eB, lB⟩ := hv.book hi
 refine Ac <| Aj fun ds => A5 rfl <| AF D8 rfl fun b1 hb1 nb1 => Al <| Ab <| Ac <| Bf (.inl rfl) (fun _ _ h => h) (kK <| .refl _) [10] (by kernel_rfl) fun ds => Af 0 rfl (by kernel_rfl) (by kernel_rfl) (by kernel_rfl) (by kernel_rfl) rfl rfl (fun _ h => h.drop (kK <| .refl _)) (fun _ _ _ h => h) (Az BR Aa) <| Af 1 rfl (by kernel_rfl) (by kernel_rfl) (by kernel_rfl) (by kernel_rfl) rfl rfl (fun _ h => h.drop (kK <| .refl _)) (fun _ _ _ h => h) (Ap D6 Aa (AP hX.box rfl)) <| Af 2 rfl (by kernel_rfl) (by kernel_rfl) (by kernel_rfl) (by kernel_rfl) rfl rfl (fun _ h => h.drop (kK <| .refl _)) (fun _ _ _ h => h) (Az Ec Aa) <| Af 3 rfl (by kernel_rfl) (by kernel_rfl) (by kernel_rfl) (by kernel_rfl) rfl rfl (fun _ h => h.drop (kK <| .refl _)) (fun _ _ _ h => h) (Ap DP Aa (AP hX.box rfl)) <| Af 4 rfl (by kernel_rfl) (by kernel_rfl) (by kernel_rfl) (by kernel_rfl) rfl rfl (fun _ h => h.drop (kK <| .refl _)) (fun _ _ _ h => h) (A0 Aa) <| Af 5 rfl (by kernel_rfl) (by kernel_rfl) (by kernel_rfl) (by kernel_rfl) rfl rfl (fun _ h => h.drop (kK <| .refl _)) (fun _ _ _ h => h) (A1  Cw Aa hX.room.reqs.plain Aa rfl hi) <| Af 6 rfl (by kernel_rfl) (by kernel_rfl) (by kernel_rfl) (by kernel_rfl) rfl rfl (fun _ h => h.drop (kK <| .refl _)) (fun _ _ _ h => h) (Bs Kv Aa) <| Af 7 rfl (by kernel_rfl) (by kernel_rfl) (by kernel_rfl) (by kernel_rfl) rfl rfl (fun _ h => h.drop (kK <| .refl _)) (fun _ _ _ h => h) (Ap AM Aa (hX.room.reqs.cell hi rfl)) ?_
 refine Af 8 rfl (by kernel_rfl) (by kernel_rfl) (by kernel_rfl) (by kernel_rfl) rfl rfl (fun _ h => h.drop (kK <| .refl _)) (fun _ _ _ h => h) (A1  B4 Aa hX.room.books.plain Aa eB lB) <| Af 9 rfl (by kernel_rfl) (by kernel_rfl) (by kernel_rfl) (by kernel_rfl) rfl rfl (fun _ h => h.drop (kK <| .refl _)) (fun _ _ _ h => h) (A6 DL Aa rfl rfl (hX.room.books.whole lB)) ?_
 refine Bt 10 rfl (by kernel_rfl) (AC JH Aa Aa (i := 0) rfl rfl rfl rfl Book.enc_one .here ⟨(fun h => nomatch h), ?_⟩)
 refine AY (by kernel_rfl) ?_ _
 refine Ab <| Au <| Am rfl (.agg DL Aa rfl rfl (Bj 0 rfl) .nil) ?_
 show _ = _
 rw [← MP lB]; rfl
theorem OP {F : Heap} {b c1 c8 c3 : Nat} {vb vr vs vq vl : Value} {r : Room} (hX : RoomX num F b c1 c8 c3 vb vr vs vq vl r) (hv : Valid r) {i : Nat} (hi : i < r.reqs.length) {s : Nat} (_hs : s < r.seats.length) : Ok Tryz.prog 109 [.int .i64 i, .int .i64 s, .pointer (some ⟨c8, 0, none⟩), .pointer (some ⟨c1, 0, none⟩)].toArray F fun v _ => v = .bool (decide ((r.rd (r.reader i)).permit < (r.bk (r.book i)).cls)) := by
 refine Ok.intro Tryz.func109 rfl Tryz.ntmps109 rfl fun w0 => ?_
 obtain ⟨eR, lR⟩ := hv.reader hi
 refine AD (Ag 1) <| Ac <| B9 (.inl rfl) (fun _ _ h => h) (by kernel_rfl) (by kernel_rfl) fun ds => Bh rfl (Ap HC Aa (AP hX.bk rfl)) <| Bu (Ag 1) <| E2 rfl (As NH Aa AO (HD hX hv hi) (fun _ _ h => h)) <| Bh rfl (H8 pt_56_1 AM Aa rfl) <| Bu (Ag 1) <| Bh rfl (Ap Jq Aa (AP hX.box rfl)) <| Bu (Ag 1) <| Bh rfl (Ap DP Aa (AP hX.box rfl)) <| Bu (Ag 1) <| Bh rfl (A1  Cw Aa hX.room.reqs.plain Aa rfl hi) <| Bu (Ag 1) <| Bh rfl (Ap AM Aa (hX.room.reqs.cell hi rfl)) <| Bh rfl (A1  CM Aa hX.room.readers.plain Aa eR lR) <| Bu (Ag 1) <| Bh rfl (Ap AM Aa (hX.room.readers.cell lR rfl)) <| Bu (Ag 2) <| BS <| Ab <| Au <| Am rfl Bi ?_
 show _ = _
 rw [← rd_at lR]; rfl
theorem OO {F : Heap} {b c1 c8 c3 : Nat} {vb vr vs vq vl : Value} {r : Room} (hX : RoomX num F b c1 c8 c3 vb vr vs vq vl r) (hv : Valid r) {i : Nat} (hi : i < r.reqs.length) {s : Nat} (hs : s < r.seats.length) : Ok Tryz.prog 110 [.int .i64 i, .int .i64 s, .pointer (some ⟨c8, 0, none⟩), .pointer (some ⟨c1, 0, none⟩)].toArray F fun v _ => v = .bool ((r.bk (r.book i)).large && (r.seat s).small) := by
 refine Ok.intro Tryz.func110 rfl Tryz.ntmps110 rfl fun w0 => ?_
 by_cases hl : (r.bk (r.book i)).large = true
 ·refine AD (Ag 1) <| Ac <| Aj fun ds => Ad rfl (Ap HC Aa (AP hX.bk rfl)) <| Ao (Ag 1) <| AE rfl (As NH Aa AO (HD hX hv hi) (fun _ _ h => h)) <| Ad rfl (H8 Rg GX Aa rfl) <| Ao (Ag 1) <| Ai rfl rfl Aa hl <| Ao (Ag 1) <| Ai rfl rfl Aa hl <| Ad rfl (Ap FC Aa (AP hX.box rfl)) <| Ai rfl rfl Aa hl <| Ao (Ag 1) <| Ai rfl rfl Aa hl <| Ad rfl (A1  Dt Aa hX.room.seats.plain Aa rfl hs) <| Ai rfl rfl Aa hl <| Ao (Ag 1) <| Ai rfl rfl Aa hl <| Ad rfl (Ap GX Aa (hX.room.seats.cell hs rfl)) <| Ad rfl (At Aa hl Aa) <| Aw (Ag 1) <| Au <| Am rfl Bi ?_
  show _ = _
  rw [hl, ← Nc hs]; rfl
 replace hl : (r.bk (r.book i)).large = false := by simpa using hl
 refine AD (Ag 1) <| Ac <| Aj fun ds => Ad rfl (Ap HC Aa (AP hX.bk rfl)) <| Ao (Ag 1) <| AE rfl (As NH Aa AO (HD hX hv hi) (fun _ _ h => h)) <| Ad rfl (H8 Rg GX Aa rfl) <| Ao (Ag 1) <| Ar rfl rfl Aa (.inl (congrArg Value.bool hl)) rfl <| Ar rfl rfl Aa (.inl (congrArg Value.bool hl)) rfl <| Ar rfl rfl Aa (.inl (congrArg Value.bool hl)) rfl <| Ar rfl rfl Aa (.inl (congrArg Value.bool hl)) rfl <| Ar rfl rfl Aa (.inl (congrArg Value.bool hl)) rfl <| Ar rfl rfl Aa (.inl (congrArg Value.bool hl)) rfl <| Ad rfl (A9 Aa hl AV) <| Aw (Ag 1) <| Au <| Am rfl Bi ?_
 show _ = _
 rw [hl]; rfl
theorem ON {F : Heap} {b c1 c8 c3 : Nat} {vb vr vs vq vl : Value} {r : Room} (hX : RoomX num F b c1 c8 c3 vb vr vs vq vl r) (hv : Valid r) {i : Nat} (hi : i < r.reqs.length) {s : Nat} (hs : s < r.seats.length) : Ok Tryz.prog 111 [.int .i64 i, .int .i64 s, .pointer (some ⟨c3, 0, none⟩), .pointer (some ⟨c8, 0, none⟩)].toArray F fun v _ => v = .bool (decide ((r.bk (r.book i)).lo < light r i s)) := by
 refine Ok.intro Tryz.func111 rfl Tryz.ntmps111 rfl fun w0 => ?_
 have h8 := hv.nq
 have h6 := hv.ns
 refine AD (Ag 1) <| Ac <| B9 (.inl rfl) (fun _ _ h => h) (by kernel_rfl) (by kernel_rfl) fun ds => Bh rfl (Ap Ea Aa (AP hX.me rfl)) <| Bu (Ag 2) <| Bh rfl (BL Aa) <| Bu (Ag 1) <| Bh rfl (Bc  LQ Aa Aa rfl (by omega)) <| Bh rfl (Bc  LR Aa Aa rfl (by omega)) <| Bh rfl (Ap AM Aa (hX.light_cell (by omega : i < 8) (by omega : s < 6)).cell) <| Bh rfl (Ap HC Aa (AP hX.bk rfl)) <| Bu (Ag 1) <| E2 rfl (As NH Aa AO (HD hX hv hi) (fun _ _ h => h)) <| Bh rfl (TU pt_56_2 BP Aa rfl) <| Bh rfl (H8 pt_44_0 AM Aa rfl) <| Bu (Ag 2) <| BS <| Ab <| Au <| Am rfl Bi ?_
 rfl
theorem MX {F : Heap} {b c1 c8 c3 : Nat} {vb vr vs vq vl : Value} {r : Room} (hX : RoomX num F b c1 c8 c3 vb vr vs vq vl r) (hv : Valid r) {i : Nat} (hi : i < r.reqs.length) {s : Nat} (hs : s < r.seats.length) : Ok Tryz.prog 68 [.pointer (some ⟨b, 0, none⟩), .int .i64 i, .int .i64 s].toArray F fun v _ => v = .int .i64 (reason r i s) := by
 refine Ok.intro Tryz.func68 rfl Tryz.ntmps68 rfl fun w0 => ?_
 have hrl := hX.rules.plain.lt
 refine AD (Ag 1) <| Ac <| Ax (Ag 1) fun ds => Ad rfl (BL Aa) <| Ao (Ag 1) <| Ad rfl (Ap Rk Aa hX.rule_cell.cell) <| Ad rfl (AA Fw Aa hX.rules.plain) <| Aw (Ag 1) <| Aq ?_
 refine AH [6, 8, 14, 15, 16, 17, 18, 19, 20, 21, 22, 23, 24, 25] (fun m e σ => ∃ k : Nat, m + k = 3 ∧ Fct e 14 (.int .i64 k) ∧ σ = ⟨F, []⟩ ∧ (0 < k → ¬ (r.rd (r.reader i)).permit < (r.bk (r.book i)).cls) ∧ (1 < k → ¬ ((r.bk (r.book i)).large = true ∧ (r.seat s).small = true)) ∧ (2 < k → ¬ (r.bk (r.book i)).lo < light r i s)) (3) ?_ ?_
 · exact ⟨0, by omega, Ba, rfl, fun h => absurd h (by omega), fun h => absurd h (by omega), fun h => absurd h (by omega)⟩
 rintro m e _ ⟨k, hm, hs14, rfl, hA, hB, hC⟩
 rcases (show k = 0 ∨ k = 1 ∨ k = 2 ∨ k = 3 by omega) with hk | hk | hk | hk
 ·subst hk
  refine AD (Ag 1) <| Ac <| Ah Aa (by first | rfl | exact dT (by omega)) ?_
  by_cases h0 : (r.rd (r.reader i)).permit < (r.bk (r.book i)).cls
  ·refine Ak <| Ab <| Ac <| Aq <| Ac <| Aj fun ds => Ad rfl (A1  Fw Aa hX.rules.plain Aa rfl (by show _ < 3; omega)) <| Ad rfl (A6 FQ Aa rfl rfl (hX.rules.whole (by show _ < 3; omega))) <| A5 rfl <| AF Ga rfl fun b2 hb2 nb2 => AZ <| AC Jl Aa Aa (i := 0) rfl rfl rfl rfl (E3 rfl) (.here) <| Al <| Ab <| Ax (Ag 4) fun ds => AE rfl (As V8 Aa AO (OP hX hv hi hs) (fun _ _ h => h)) <| Al <| Ab <| Ah Aa (dT h0) <| AD (Ag 3) <| Au ?_
   refine A7 (Ay (Ay (A7 (Ay ?_))))
   refine Am rfl Bi ?_
   show _ = _
   unfold reason; rw [if_pos h0]; rfl
  refine Ak <| Ab <| Ac <| Aq <| Ac <| Aj fun ds => Ad rfl (A1  Fw Aa hX.rules.plain Aa rfl (by show _ < 3; omega)) <| Ad rfl (A6 FQ Aa rfl rfl (hX.rules.whole (by show _ < 3; omega))) <| A5 rfl <| AF Ga rfl fun b3 hb3 nb3 => AZ <| AC Jl Aa Aa (i := 0) rfl rfl rfl rfl (E3 rfl) (.here) <| Al <| Ab <| Ax (Ag 4) fun ds => AE rfl (As V8 Aa AO (OP hX hv hi hs) (fun _ _ h => h)) <| Al <| Ab <| Ae Aa (dF h0) <| Ak <| A4 <| Ab <| Bk (fun _ _ h => h.drop (kD <| .refl _)) <| Aj fun ds => Ad rfl (AJ Aa Aa rfl (by omega) (by omega)) <| Ao (Ag 1) <| Al ?_
  refine Ab ⟨_, m - 1, Off.eq (Ci rfl <| BF rfl <| BQ rfl <| A3), by omega, ?_⟩
  refine ⟨1, by omega, Ba, rfl, fun _ => h0, fun h => absurd h (by omega), fun h => absurd h (by omega)⟩
 ·subst hk
  refine AD (Ag 1) <| Ac <| Ah Aa (by first | rfl | exact dT (by omega)) ?_
  by_cases h0 : ((r.bk (r.book i)).large = true ∧ (r.seat s).small = true)
  ·refine Ak <| Ab <| Ac <| Aq <| Ac <| Aj fun ds => Ad rfl (A1  Fw Aa hX.rules.plain Aa rfl (by show _ < 3; omega)) <| Ad rfl (A6 FQ Aa rfl rfl (hX.rules.whole (by show _ < 3; omega))) <| A5 rfl <| AF Ga rfl fun b4 hb4 nb4 => AZ <| AC Jl Aa Aa (i := 0) rfl rfl rfl rfl (E3 rfl) (.here) <| Al <| Ab <| Ax (Ag 4) fun ds => AE rfl (As V7 Aa AO (OO hX hv hi hs) (fun _ _ h => h)) <| Al <| Ab <| Ah Aa (by simp [h0]) <| AD (Ag 3) <| Au ?_
   refine A7 (Ay (Ay (A7 (Ay ?_))))
   refine Am rfl Bi ?_
   show _ = _
   unfold reason; rw [if_neg (hA (by omega)), if_pos h0]; rfl
  refine Ak <| Ab <| Ac <| Aq <| Ac <| Aj fun ds => Ad rfl (A1  Fw Aa hX.rules.plain Aa rfl (by show _ < 3; omega)) <| Ad rfl (A6 FQ Aa rfl rfl (hX.rules.whole (by show _ < 3; omega))) <| A5 rfl <| AF Ga rfl fun b5 hb5 nb5 => AZ <| AC Jl Aa Aa (i := 0) rfl rfl rfl rfl (E3 rfl) (.here) <| Al <| Ab <| Ax (Ag 4) fun ds => AE rfl (As V7 Aa AO (OO hX hv hi hs) (fun _ _ h => h)) <| Al <| Ab <| Ae Aa (by simp only [Bool.and_eq_false_iff]; rcases Decidable.not_and_iff_or_not.1 h0 with h | h; (exact .inl (by simpa using h)); (exact .inr (by simpa using h))) <| Ak <| A4 <| Ab <| Bk (fun _ _ h => h.drop (kD <| .refl _)) <| Aj fun ds => Ad rfl (AJ Aa Aa rfl (by omega) (by omega)) <| Ao (Ag 1) <| Al ?_
  refine Ab ⟨_, m - 1, Off.eq (Ci rfl <| BF rfl <| BQ rfl <| A3), by omega, ?_⟩
  refine ⟨2, by omega, Ba, rfl, fun _ => hA (by omega), fun _ => h0, fun h => absurd h (by omega)⟩
 ·subst hk
  refine AD (Ag 1) <| Ac <| Ah Aa (by first | rfl | exact dT (by omega)) ?_
  by_cases h0 : (r.bk (r.book i)).lo < light r i s
  ·refine Ak <| Ab <| Ac <| Aq <| Ac <| Aj fun ds => Ad rfl (A1  Fw Aa hX.rules.plain Aa rfl (by show _ < 3; omega)) <| Ad rfl (A6 FQ Aa rfl rfl (hX.rules.whole (by show _ < 3; omega))) <| A5 rfl <| AF Ga rfl fun b6 hb6 nb6 => AZ <| AC Jl Aa Aa (i := 0) rfl rfl rfl rfl (E3 rfl) (.here) <| Al <| Ab <| Ax (Ag 4) fun ds => AE rfl (As V6 Aa AO (ON hX hv hi hs) (fun _ _ h => h)) <| Al <| Ab <| Ah Aa (dT h0) <| AD (Ag 3) <| Au ?_
   refine A7 (Ay (Ay (A7 (Ay ?_))))
   refine Am rfl Bi ?_
   show _ = _
   unfold reason; rw [if_neg (hA (by omega)), if_neg (hB (by omega)), if_pos h0]; rfl
  refine Ak <| Ab <| Ac <| Aq <| Ac <| Aj fun ds => Ad rfl (A1  Fw Aa hX.rules.plain Aa rfl (by show _ < 3; omega)) <| Ad rfl (A6 FQ Aa rfl rfl (hX.rules.whole (by show _ < 3; omega))) <| A5 rfl <| AF Ga rfl fun b7 hb7 nb7 => AZ <| AC Jl Aa Aa (i := 0) rfl rfl rfl rfl (E3 rfl) (.here) <| Al <| Ab <| Ax (Ag 4) fun ds => AE rfl (As V6 Aa AO (ON hX hv hi hs) (fun _ _ h => h)) <| Al <| Ab <| Ae Aa (dF h0) <| Ak <| A4 <| Ab <| Bk (fun _ _ h => h.drop (kD <| .refl _)) <| Aj fun ds => Ad rfl (AJ Aa Aa rfl (by omega) (by omega)) <| Ao (Ag 1) <| Al ?_
  refine Ab ⟨_, m - 1, Off.eq (Ci rfl <| BF rfl <| BQ rfl <| A3), by omega, ?_⟩
  refine ⟨3, by omega, Ba, rfl, fun _ => hA (by omega), fun _ => hB (by omega), fun _ => h0⟩
 subst hk
 refine AD (Ag 1) <| Ac <| Ae Aa (by first | rfl | exact dF (by omega)) <| AG ?_
 refine A2 <| A2 <| A8 <| Ab <| AD (Ag 1) <| Au <| Am rfl Bi ?_
 show _ = _
 unfold reason; rw [if_neg (hA (by omega)), if_neg (hB (by omega)), if_neg (hC (by omega))]; rfl
end
section
set_option maxRecDepth 100000
open Go.RowKit
theorem sz_155 : SizeT Tryz.prog 155 1 := B1 (by kernel_rfl)
theorem sz_196 : SizeT Tryz.prog 196 1 := B1 (by kernel_rfl)
theorem Dr : SizeT Tryz.prog 3 1 := B1 (by kernel_rfl)
theorem sz_126 : SizeT Tryz.prog 126 1 := B1 (by kernel_rfl)
theorem zr_157 : ZeroT Tryz.prog 157 (.agg #[.slice none 0 0, .slice none 0 0, .slice none 0 0, .slice none 0 0, .int .i64 0, .int .i64 0, .int .i64 0, .int .i64 0, .int .i64 0, .int .i64 0, .int .i64 0, .int .i64 0, .int .i64 0, .int .i64 0, .int .i64 0, .int .i64 0, .int .i64 0, .int .i64 0, .int .i64 0, .int .i64 0, .int .i64 0, .int .i64 0, .int .i64 0, .int .i64 0, .int .i64 0, .int .i64 0, .int .i64 0, .int .i64 0, .int .i64 0, .int .i64 0, .int .i64 0, .int .i64 0, .int .i64 0, .int .i64 0, .int .i64 0, .int .i64 0, .int .i64 0, .int .i64 0, .int .i64 0, .int .i64 0, .int .i64 0, .int .i64 0, .int .i64 0, .int .i64 0, .int .i64 0, .int .i64 0, .int .i64 0, .int .i64 0, .int .i64 0, .int .i64 0, .int .i64 0, .int .i64 0, .slice none 0 0]) := Bw (by kernel_rfl)
theorem zr_196 : ZeroT Tryz.prog 196 (.nilFunc) := Bw (by kernel_rfl)
theorem zr_126 : ZeroT Tryz.prog 126 (.pointer none) := Bw (by kernel_rfl)
theorem bt_157 : BuildT Tryz.prog 157 [.slice none 0 0, .slice none 0 0, .slice none 0 0, .slice none 0 0, .int .i64 0, .int .i64 0, .int .i64 0, .int .i64 0, .int .i64 0, .int .i64 0, .int .i64 0, .int .i64 0, .int .i64 0, .int .i64 0, .int .i64 0, .int .i64 0, .int .i64 0, .int .i64 0, .int .i64 0, .int .i64 0, .int .i64 0, .int .i64 0, .int .i64 0, .int .i64 0, .int .i64 0, .int .i64 0, .int .i64 0, .int .i64 0, .int .i64 0, .int .i64 0, .int .i64 0, .int .i64 0, .int .i64 0, .int .i64 0, .int .i64 0, .int .i64 0, .int .i64 0, .int .i64 0, .int .i64 0, .int .i64 0, .int .i64 0, .int .i64 0, .int .i64 0, .int .i64 0, .int .i64 0, .int .i64 0, .int .i64 0, .int .i64 0, .int .i64 0, .int .i64 0, .int .i64 0, .int .i64 0, .slice none 0 0] [(0, 4), (4, 48), (52, 1)] := BG zr_157 (by kernel_rfl) (by decide)
theorem QH : BuildT Tryz.prog 190 [.int .i64 0, .nilFunc] [(0, 1), (1, 1)] := BG Ga (by kernel_rfl) (by decide)
theorem Ru {F : Heap} {vb vr vs vq : Value} {r : Room} (hr : RoomR F vb vr vs vq r) (hv : Valid r) : Ok Tryz.prog 80 [.agg #[vb, vr, vs, vq]].toArray F fun v F' => Looked num F' v r := by
 refine Ok.intro Tryz.func80 rfl Tryz.ntmps80 rfl fun w0 => ?_
 have h8 := hv.nq
 have h6 := hv.ns
 have hL1 := hr.reqs.plain.lt
 have hL2 := hr.seats.plain.lt
 refine Ac <| Aj fun ds => A5 rfl <| AX Aa rfl fun b1 hb1 nb1 => Aw (Ag 1) <| Ax (Ag 1) fun ds => Ad rfl (Bg bt_157 (.cons Aa rfl .nil) (.cons rfl rfl (Nat.le_of_ble_eq_true rfl) (.cons (.here) (.cons (.next <| .here) (.cons (.next <| .next <| .here) (.cons (.next <| .next <| .next <| .here) .nil)))) .nil)) <| A5 rfl <| AX Aa rfl fun b2 hb2 nb2 => A5 rfl <| AF zr_126 rfl fun b3 hb3 nb3 => AZ <| AW sz_126 Aa Aa (i := 0) rfl (.here) rfl (.here) <| Al <| Ab <| Ac <| Ax (Ag 2) fun ds => Ad rfl (AA Cw Aa hr.reqs.plain) <| Aw (Ag 1) <| Aq ?_
 refine AH [4, 5, 6, 7, 15, 16, 17, 18, 19, 20, 21, 22, 23, 24, 25, 26, 27, 28, 29, 30, 31, 32, 33, 34, 35, 36, 37, 38, 39, 40, 41] (fun m e σ => ∃ k : Nat, m + k = r.reqs.length ∧ Fct e 15 (.int .i64 k) ∧ σ = ⟨F, [(b3, bx 126 [ptr b2]), (b2, bx 157 (roomCells vb vr vs vq (lightsAt r k 0) (.slice none 0 0))), (b1, bx 31 [vb, vr, vs, vq])]⟩) (r.reqs.length) ?_ ?_
 · (refine ⟨0, by omega, Ba, ?_⟩; rw [LZ]; rfl)
 rintro m e _ ⟨k, hm, hs15, rfl⟩
 by_cases hk : k < r.reqs.length
 ·refine AD (Ag 1) <| Ac <| Ah Aa (by first | rfl | exact dT (by omega)) <| Ak <| Ab <| Ac <| Aq <| Ax (Ag 1) fun ds => Ad rfl (A1  Cw Aa hr.reqs.plain Aa rfl hk) <| Ad rfl (A6 Hq Aa rfl rfl (hr.reqs.whole hk)) <| A5 rfl <| AF JC rfl fun b5 hb5 nb5 => Ao (Ag 1) <| AZ <| AC Mm Aa Aa (i := 0) rfl rfl rfl rfl Req.enc_one (.here) <| Al <| Ab <| Ax (Ag 2) fun ds => Ad rfl (AA Dt Aa hr.seats.plain) <| Aw (Ag 1) <| Aq ?_
  refine AH [6, 7, 23, 24, 25, 26, 27, 28, 29, 30, 31, 32, 33, 34, 35, 36, 37, 38, 39, 40] (fun m e σ => ∃ j : Nat, m + j = r.seats.length ∧ Fct e 23 (.int .i64 j) ∧ σ = ⟨F, [(b5, bx 79 (Req.enc r.reqs[k])), (b3, bx 126 [ptr b2]), (b2, bx 157 (roomCells vb vr vs vq (lightsAt r k j) (.slice none 0 0))), (b1, bx 31 [vb, vr, vs, vq])]⟩) (r.seats.length) ?_ ?_
  · exact ⟨0, by omega, Ba, rfl⟩
  rintro m2 e2 _ ⟨j, hm2, ht23, rfl⟩
  by_cases hj : j < r.seats.length
  ·have hlb := Ei hv hk hj
   refine AD (Ag 1) <| Ac <| Ah Aa (by first | rfl | exact dT (by omega)) <| Ak <| Ab <| Ac <| Aq <| Ax (Ag 1) fun ds => Ad rfl (A1  Dt Aa hr.seats.plain Aa rfl hj) <| Ad rfl (A6 NK Aa rfl rfl (hr.seats.whole hj)) <| A5 rfl <| AF NO rfl fun b7 hb7 nb7 => Ao (Ag 1) <| AZ <| AC T9 Aa Aa (i := 0) rfl rfl rfl rfl Seat.enc_one (.here) <| Al <| Ab <| Bf (.inl rfl) (fun _ _ h => h) (kK <| kK <| kK <| kK <| kK <| .refl _) [12] (by kernel_rfl) fun ds => Af 0 rfl (by kernel_rfl) (by kernel_rfl) (by kernel_rfl) (by kernel_rfl) rfl rfl (fun _ h => h.drop (kK <| kK <| kK <| kK <| kK <| .refl _)) (fun _ _ _ h => h) (Ap Ea Aa (Cell.own 2 rfl rfl)) <| Af 1 rfl (by kernel_rfl) (by kernel_rfl) (by kernel_rfl) (by kernel_rfl) rfl rfl (fun _ h => h.drop (kK <| kK <| kK <| kK <| kK <| .refl _)) (fun _ _ _ h => h) (A0 Aa) <| Af 2 rfl (by kernel_rfl) (by kernel_rfl) (by kernel_rfl) (by kernel_rfl) rfl rfl (fun _ h => h.drop (kK <| kK <| kK <| kK <| kK <| .refl _)) (fun _ _ _ h => h) (A0 Aa) <| Af 3 rfl (by kernel_rfl) (by kernel_rfl) (by kernel_rfl) (by kernel_rfl) rfl rfl (fun _ h => h.drop (kK <| kK <| kK <| kK <| kK <| .refl _)) (fun _ _ _ h => h) (Az Ku Aa) ?_
   refine Af 4 rfl (by kernel_rfl) (by kernel_rfl) (by kernel_rfl) (by kernel_rfl) rfl rfl (fun _ h => h.drop (kK <| kK <| kK <| kK <| kK <| .refl _)) (fun _ _ _ h => h) (Ap AM Aa (Cell.own 1 rfl rfl)) <| Af 5 rfl (by kernel_rfl) (by kernel_rfl) (by kernel_rfl) (by kernel_rfl) rfl rfl (fun _ h => h.drop (kK <| kK <| kK <| kK <| kK <| .refl _)) (fun _ _ _ h => h) (Az Kx Aa) <| Af 6 rfl (by kernel_rfl) (by kernel_rfl) (by kernel_rfl) (by kernel_rfl) rfl rfl (fun _ h => h.drop (kK <| kK <| kK <| kK <| kK <| .refl _)) (fun _ _ _ h => h) (Ap AM Aa (Cell.own 0 rfl rfl)) <| Af 7 rfl (by kernel_rfl) (by kernel_rfl) (by kernel_rfl) (by kernel_rfl) rfl rfl (fun _ h => h.drop (kK <| kK <| kK <| kK <| kK <| .refl _)) (fun _ _ _ h => h) (BM Aa Aa (show r.reqs[k].hours * r.seats[j].light = light r k j by rw [KQ, Nc]; first | done | rfl) (by omega) (by omega)) <| Af 8 rfl (by kernel_rfl) (by kernel_rfl) (by kernel_rfl) (by kernel_rfl) rfl rfl (fun _ h => h.drop (kK <| kK <| kK <| kK <| kK <| .refl _)) (fun _ _ _ h => h) (BL Aa) <| Af 9 rfl (by kernel_rfl) (by kernel_rfl) (by kernel_rfl) (by kernel_rfl) rfl rfl (fun _ h => h.drop (kK <| kK <| kK <| kK <| kK <| .refl _)) (fun _ _ _ h => h) (Az Gq Aa) ?_
   refine Af 10 rfl (by kernel_rfl) (by kernel_rfl) (by kernel_rfl) (by kernel_rfl) rfl rfl (fun _ h => h.drop (kK <| kK <| kK <| kK <| kK <| .refl _)) (fun _ _ _ h => h) (Bc  LQ Aa Aa rfl (by omega)) <| Af 11 rfl (by kernel_rfl) (by kernel_rfl) (by kernel_rfl) (by kernel_rfl) rfl rfl (fun _ h => h.drop (kK <| kK <| kK <| kK <| kK <| .refl _)) (fun _ _ _ h => h) (Bc  LR Aa Aa rfl (by omega)) ?_
   refine Bt 12 rfl (by kernel_rfl) (Ef Dr Aa rfl Aa (i := 3) rfl (by rw [Fh FS]; omega) rfl (.next <| .next <| .next <| .here) ⟨(fun h => nomatch h), ?_⟩)
   refine AY (by kernel_rfl) ?_ _
   refine A4 <| Ab <| Bk (fun _ _ h => h.drop (kD <| kK <| kK <| kK <| kK <| .refl _)) <| Aj fun ds => Ad rfl (AJ Aa Aa rfl (by omega) (by omega)) <| Ao (Ag 1) <| Al ?_
   refine Ab ⟨_, m2 - 1, Off.eq (Bx rfl <| BI rfl <| A3), by omega, ?_⟩
   refine ⟨j + 1, by omega, Ba, ?_⟩
   rw [← LW (by omega) (by omega)]
  refine AD (Ag 1) <| Ac <| Ae Aa (by first | rfl | exact dF (by omega)) <| AG ?_
  refine A2 <| A2 <| A8 <| A4 <| Ab <| Bk (fun _ _ h => h.drop (kD <| kK <| kK <| kK <| .refl _)) <| Aj fun ds => Ad rfl (AJ Aa Aa rfl (by omega) (by omega)) <| Ao (Ag 1) <| Al ?_
  refine Ab ⟨_, m - 1, Off.eq (BF rfl <| BQ rfl <| B7 rfl <| Ci rfl <| BF rfl <| A3), by omega, ?_⟩
  refine ⟨k + 1, by omega, Ba, ?_⟩
  rw [Nw (show r.seats.length ≤ j by omega)]
 refine AD (Ag 1) <| Ac <| Ae Aa (by first | rfl | exact dF (by omega)) ?_
 rw [Nx (show r.reqs.length ≤ k by omega)]
 refine AG ?_
 refine A2 <| A2 <| A8 <| Ab <| Ac <| Aj fun ds => Ad rfl (Bm AO) <| A5 rfl <| AF zr_196 rfl fun b8 hb8 nb8 => AZ <| AW sz_196 Aa Aa (i := 0) rfl (.here) rfl (.here) <| Al <| Ab <| Ax (Ag 1) fun ds => Ad rfl (Bm AO) <| Ad rfl (Bg QH (.cons Aa rfl (.cons Aa rfl .nil)) (.cons rfl rfl (Nat.le_of_ble_eq_true rfl) (.cons (.here) .nil) (.cons rfl rfl (Nat.le_of_ble_eq_true rfl) (.cons (.next <| .here) .nil) .nil))) <| Ad rfl (Bm AO) <| Ad rfl (Bg QH (.cons Aa rfl (.cons Aa rfl .nil)) (.cons rfl rfl (Nat.le_of_ble_eq_true rfl) (.cons (.here) .nil) (.cons rfl rfl (Nat.le_of_ble_eq_true rfl) (.cons (.next <| .here) .nil) .nil))) <| Ad rfl (Bm AO) <| Ad rfl (Bg QH (.cons Aa rfl (.cons Aa rfl .nil)) (.cons rfl rfl (Nat.le_of_ble_eq_true rfl) (.cons (.here) .nil) (.cons rfl rfl (Nat.le_of_ble_eq_true rfl) (.cons (.next <| .here) .nil) .nil))) <| A5 rfl <| B0 (offs := [(0, 2), (2, 2), (4, 2)]) (zl := [.int .i64 0, .nilFunc, .int .i64 0, .nilFunc, .int .i64 0, .nilFunc]) Fw Ga rfl (.cons Aa rfl (.cons Aa rfl (.cons Aa rfl .nil))) (by intro i p h; rcases i with _ | _ | _ | i <;> simp at h <;> subst h <;> rfl) (.cons rfl rfl (Nat.le_of_ble_eq_true rfl) (.cons (.here) (.cons (.next <| .here) .nil)) (.cons rfl rfl (Nat.le_of_ble_eq_true rfl) (.cons (.next <| .next <| .here) (.cons (.next <| .next <| .next <| .here) .nil)) (.cons rfl rfl (Nat.le_of_ble_eq_true rfl) (.cons (.next <| .next <| .next <| .next <| .here) (.cons (.next <| .next <| .next <| .next <| .next <| .here) .nil)) .nil))) (by decide) (by decide) fun b9 hb9 nb9 => ?_
 refine Ad rfl (BL Aa) <| Ao (Ag 1) <| AZ <| Ef sz_155 Aa rfl Aa (i := 3) rfl (by rw [Fh CV]; omega) rfl (.next <| .next <| .next <| .here) <| Al <| Ab <| Ac ?_
 rw [LX]
 refine AN (i := 0) rfl hb9 (.here) fun F10 hF11 hz50 => ?_
 replace hr := hr.mono hF11
 refine AN (i := 0) rfl hb8 (.here) fun F12 hF13 hz8 => ?_
 replace hr := hr.mono hF13
 replace hz50 := hF13 _ _ hz50
 refine AN (i := 0) rfl hb3 (.here) fun F14 hF15 hz3 => ?_
 replace hr := hr.mono hF15
 replace hz50 := hF15 _ _ hz50
 replace hz8 := hF15 _ _ hz8
 refine AN (i := 0) rfl hb2 (.here) fun F16 hF17 hz11 => ?_
 replace hr := hr.mono hF17
 replace hz50 := hF17 _ _ hz50
 replace hz8 := hF17 _ _ hz8
 replace hz3 := hF17 _ _ hz3
 refine AN (i := 0) rfl hb1 (.here) fun F18 hF19 hz1 => ?_
 replace hr := hr.mono hF19
 replace hz50 := hF19 _ _ hz50
 replace hz8 := hF19 _ _ hz8
 replace hz3 := hF19 _ _ hz3
 replace hz11 := hF19 _ _ hz11
 refine Aj fun ds => Ad rfl (Ap Ea Aa (AP hz3 rfl)) <| Aw (Ag 1) <| Au <| Am rfl Bi ?_
 exact ⟨_, _, _, _, _, _, _, _, _, rfl, hr, hz11, hz1, hz8, hz3, Sx hz50⟩
end
section
set_option maxRecDepth 100000
open Go.RowKit
theorem bd_92 : Body Tryz.prog 92 := AB (by kernel_rfl)
theorem Es : Body Tryz.prog 52 := AB (by kernel_rfl)
theorem Sa : Body Tryz.prog 68 := AB (by kernel_rfl)
theorem bd_80 : Body Tryz.prog 80 := AB (by kernel_rfl)
theorem Pp {F : Heap} {vb vr vs vq : Value} {r : Room} (hr : RoomR F vb vr vs vq r) {v : Value} {xs : List Int} (hx : Ints F v xs) : Ok Tryz.prog 52 [.agg #[vb, vr, vs, vq], v].toArray F fun u F' => (someErr r xs = 0 → ∃ p, u = .tuple #[p, .int .i64 0] ∧ Looked num F' p r) ∧ (someErr r xs ≠ 0 → u = .tuple #[.pointer none, .int .i64 (someErr r xs)]) := by
 refine Ok.intro Tryz.func52 rfl Tryz.ntmps52 rfl fun w0 => ?_
 have hL1 := hr.reqs.plain.lt
 have hlen := hx.plain.lt
 by_cases h0 : (check r).2.2 = 0
 ·refine Ac <| Aj fun ds => A5 rfl <| AX Aa rfl fun b1 hb1 nb1 => Aw (Ag 2) <| Ac <| Ax (Ag 1) fun ds => AE rfl (As bd_92 Aa AO (Pt hr) (fun _ _ h => h)) <| Aw (Ag 7) <| AD (Ag 2) <| Ae Aa (by simpa using h0) ?_
  by_cases hany : (xs.any fun z => !(inB 0 (r.reqs.length - 1) z)) = true
  ·refine Ak <| Ab <| Ac <| Ax (Ag 2) fun ds => Ad rfl (AA Cw Aa hr.reqs.plain) <| Ad rfl (Br Aa Aa rfl (by omega) (by omega)) <| Ao (Ag 1) <| AE rfl (As Dq Aa AO (B2 _ _ hx) (fun _ _ h => h)) <| Al <| Ab <| Ah Aa hany ?_
   have herr := Oa h0 hany
   refine AD (Ag 2) <| Au <| Ay <| Am rfl Bi ?_
   refine ⟨fun h => absurd h (by rw [herr]; decide), fun _ => ?_⟩
   rw [herr]; rfl
  replace hany : (xs.any fun z => !(inB 0 (r.reqs.length - 1) z)) = false := by simpa using hany
  refine Ak <| Ab <| Ac <| Ax (Ag 2) fun ds => Ad rfl (AA Cw Aa hr.reqs.plain) <| Ad rfl (Br Aa Aa rfl (by omega) (by omega)) <| Ao (Ag 1) <| AE rfl (As Dq Aa AO (B2 _ _ hx) (fun _ _ h => h)) <| Al <| Ab <| Ae Aa hany <| Ak <| Ab <| Ac <| AD (Ag 1) <| Aq ?_
  refine AH [4, 5, 9, 25, 26, 27, 28, 29, 30, 31, 32, 33, 34, 35, 36, 37, 38, 39, 40] (fun m e σ => ∃ k : Nat, 0 < k ∧ m + k = xs.length + 1 ∧ Fct e 9 (.int .i64 k) ∧ σ = ⟨F, [(b1, bx 31 [vb, vr, vs, vq])]⟩ ∧ (∀ j (hj : j < xs.length), 0 < j → j < k → ¬ xs[j] ≤ xs[j - 1])) (xs.length) ?_ ?_
  · exact ⟨1, by omega, by omega, Ba, rfl, fun j hj h1 h2 => absurd h2 (by omega)⟩
  rintro m e _ ⟨k, hk0, hm, hs9, rfl, hno⟩
  by_cases hlt : k < xs.length
  ·refine Ac <| Ax (Ag 2) fun ds => Ad rfl (AA AR Aa hx.plain) <| Aw (Ag 1) <| Ah Aa (by first | rfl | exact dT (by omega)) ?_
   by_cases hle : xs[k] ≤ xs[k - 1]
   ·refine Ak <| Ab <| Ac <| Aq <| Ac <| B9 (.inl rfl) (fun _ _ h => h) (by kernel_rfl) (by kernel_rfl) fun ds => Bu (Ag 2) <| Bh rfl (A1  AR Aa hx.plain Aa rfl hlt) <| Bh rfl (Ap AM Aa (hx.cell1 hlt rfl)) <| Bu (Ag 2) <| Bh rfl (Br Aa Aa rfl (by omega) (by omega)) <| Bh rfl (A1 (k := k - 1) AR Aa hx.plain Aa (by omega) (by omega)) <| Bh rfl (Ap AM Aa (hx.cell1 (by omega) rfl)) <| Bu (Ag 1) <| BS <| Ab <| Ah Aa (by first | rfl | exact dT (by omega)) ?_
    have herr := NZ h0 hany hk0 hlt hle
    refine AD (Ag 2) <| Au ?_
    refine A7 (Ay (Ay (A7 (Ay ?_))))
    refine Am rfl Bi ?_
    refine ⟨fun h => absurd h (by rw [herr]; decide), fun _ => ?_⟩
    rw [herr]; rfl
   refine Ak <| Ab <| Ac <| Aq <| Ac <| B9 (.inl rfl) (fun _ _ h => h) (by kernel_rfl) (by kernel_rfl) fun ds => Bu (Ag 2) <| Bh rfl (A1  AR Aa hx.plain Aa rfl hlt) <| Bh rfl (Ap AM Aa (hx.cell1 hlt rfl)) <| Bu (Ag 2) <| Bh rfl (Br Aa Aa rfl (by omega) (by omega)) <| Bh rfl (A1 (k := k - 1) AR Aa hx.plain Aa (by omega) (by omega)) <| Bh rfl (Ap AM Aa (hx.cell1 (by omega) rfl)) <| Bu (Ag 1) <| BS <| Ab <| Ae Aa (by first | rfl | exact dF (by omega)) <| Ak <| A4 <| Ab <| Aj fun ds => Ao (Ag 1) <| Ad rfl (AJ Aa Aa rfl (by omega) (by omega)) <| Ao (Ag 1) <| Al ?_
   refine Ab ⟨_, m - 1, Off.eq (Bx rfl <| BQ rfl <| A3), by omega, ?_⟩
   refine ⟨k + 1, by omega, by omega, Ba, rfl, fun j hj hj0 hjk => ?_⟩
   rcases Nat.lt_succ_iff_lt_or_eq.1 hjk with hjk | rfl
   · exact hno j hj hj0 hjk
   exact hle
  refine Ac <| Ax (Ag 2) fun ds => Ad rfl (AA AR Aa hx.plain) <| Aw (Ag 1) <| Ae Aa (by first | rfl | exact dF (by omega)) ?_
  have herr := PN h0 hany fun j hj hj0 => hno j hj hj0 (by omega)
  refine AG ?_
  refine A2 <| A2 <| A8 <| Ab <| Ax (Ag 1) fun ds => A5 rfl <| Bb bd_80 Aa AO (Ru hr (DE h0)) fun v3 F4 hr5 hF6 => ?_
  have hlk := hr5
  refine Aw (Ag 2) <| Au <| Am rfl Bi ?_
  exact ⟨fun _ => ⟨_, rfl, hlk⟩, fun h => absurd herr h⟩
 refine Ac <| Aj fun ds => A5 rfl <| AX Aa rfl fun b7 hb7 nb7 => Aw (Ag 2) <| Ac <| Ax (Ag 1) fun ds => AE rfl (As bd_92 Aa AO (Pt hr) (fun _ _ h => h)) <| Aw (Ag 7) <| AD (Ag 2) <| Ah Aa (by simpa using h0) ?_
 have herr := NY (xs := xs) h0
 refine AD (Ag 3) <| Au <| Ay <| Am rfl Bi ?_
 refine ⟨fun h => absurd (herr.symm.trans h) h0, fun _ => ?_⟩
 rw [herr]; rfl
theorem Dg {F : Heap} {vb vr vs vq : Value} {r : Room} (hr : RoomR F vb vr vs vq r) {v : Value} {xs : List Int} (hx : Ints F v xs) (h0 : someErr r xs = 0) : Ok Tryz.prog 52 [.agg #[vb, vr, vs, vq], v].toArray F fun u F' => ∃ p, u = .tuple #[p, .int .i64 0] ∧ Looked num F' p r := (Pp hr hx).mono fun _u _F' _ h => h.1 h0
theorem DB {F : Heap} {vb vr vs vq : Value} {r : Room} (hr : RoomR F vb vr vs vq r) {v : Value} {xs : List Int} (hx : Ints F v xs) (h0 : someErr r xs ≠ 0) : Ok Tryz.prog 52 [.agg #[vb, vr, vs, vq], v].toArray F fun u _ => u = .tuple #[.pointer none, .int .i64 (someErr r xs)] := (Pp hr hx).mono fun _u _F' _ h => h.2 h0
theorem KA {F : Heap} {vb vr vs vq : Value} {r : Room} (hr : RoomR F vb vr vs vq r) (ax sx : Int) : Ok Tryz.prog 35 [.agg #[vb, vr, vs, vq], .int .i64 ax, .int .i64 sx].toArray F fun v _ => v = pairV (whyE r ax sx) := by
 refine Ok.intro Tryz.func35 rfl Tryz.ntmps35 rfl fun w0 => ?_
 have hL1 := hr.reqs.plain.lt
 have hL2 := hr.seats.plain.lt
 by_cases h0 : (check r).2.2 = 0
 ·refine Ac <| Aj fun ds => A5 rfl <| AX Aa rfl fun b1 hb1 nb1 => Aw (Ag 2) <| Ax (Ag 1) fun ds => A5 rfl <| AS AR B3 rfl .nil rfl rfl (by decide) (by simp [Value.oneCell']) fun b2 hb2 nb2 => AQ (i := 0) rfl hb2 .here fun F3 hF4 hz5 => ?_
  replace hr := hr.mono hF4
  have hsl6 := M7 hz5
  refine A5 rfl <| Bb Es Aa AO (Dg hr hsl6 (BB.trans h0)) fun v7 F8 hr9 hF10 => ?_
  replace hr := hr.mono hF10
  obtain ⟨p, rfl, hlk⟩ := hr9
  obtain ⟨b, c1, c8, c3, wb, wr, ws, wq, wl, rfl, hX⟩ := hlk
  refine Aw (Ag 5) <| Ac <| Aq <| AD (Ag 3) <| Ae Aa (by decide) ?_
  by_cases h1 : inB 0 (r.reqs.length - 1) ax = true
  ·refine Ax (Ag 2) fun ds => Ad rfl (AA Cw Aa hr.reqs.plain) <| Ad rfl (Br Aa Aa rfl (by omega) (by omega)) <| Ao (Ag 1) <| A5 rfl <| AS AR B3 rfl (.cons Aa .nil) rfl rfl (by decide) (by simp [Value.oneCell']) fun b11 hb11 nb11 => AQ (i := 0) rfl hb11 .here fun F12 hF13 hz14 => ?_
   replace hr := hr.mono hF13
   replace hX := hX.mono hF13
   have hsl15 := Be hz14
   refine AE rfl (As Dq Aa AO (B2 _ _ hsl15) (fun _ _ h => h)) <| Ao (Ag 1) <| Ai rfl rfl Aa (by simp [h1]) <| Ao (Ag 1) <| Ai rfl rfl Aa (by simp [h1]) <| Ao (Ag 1) <| Ai rfl rfl Aa (by simp [h1]) <| Ad rfl (AA Dt Aa hr.seats.plain) <| Ai rfl rfl Aa (by simp [h1]) <| Ad rfl (Br Aa Aa rfl (by omega) (by omega)) <| Ai rfl rfl Aa (by simp [h1]) <| Ao (Ag 1) <| Ai rfl rfl Aa (by simp [h1]) <| A5 rfl <| AS AR B3 rfl (.cons Aa .nil) rfl rfl (by decide) (by simp [Value.oneCell']) fun b16 hb16 nb16 => AQ (i := 0) rfl hb16 .here fun F17 hF18 hz19 => ?_
   replace hX := hX.mono hF18
   have hsl20 := Be hz19
   refine Ai rfl rfl Aa (by simp [h1]) <| AE rfl (As Dq Aa AO (B2 _ _ hsl20) (fun _ _ h => h)) <| Ad rfl (A9 Aa (by simp [h1]) Aa) <| Aw (Ag 1) ?_
   by_cases h2 : inB 0 (r.seats.length - 1) sx = true
   ·refine Ae Aa (by simp [h2]) ?_
    obtain ⟨i, rfl, hi⟩ := GJ h1
    obtain ⟨s, rfl, hs⟩ := GJ h2
    refine Ak <| A4 <| Ab <| Ax (Ag 3) fun ds => AE rfl (As Sa Aa AO (MX hX (DE h0) hi hs) (fun _ _ h => h)) <| Aw (Ag 2) <| Au <| Am rfl Bi ?_
    show _ = pairV (whyE r _ _)
    unfold whyE; rw [if_neg (by simpa using h0), h1, h2]; rfl
   replace h2 : inB 0 (r.seats.length - 1) sx = false := by simpa using h2
   refine Ah Aa (by simp [h2]) <| AD (Ag 2) <| Au <| A7 <| Ay <| Am rfl Bi ?_
   show _ = pairV (whyE r _ _)
   unfold whyE; rw [if_neg (by simpa using h0), h1, h2]; rfl
  replace h1 : inB 0 (r.reqs.length - 1) ax = false := by simpa using h1
  refine Ax (Ag 2) fun ds => Ad rfl (AA Cw Aa hr.reqs.plain) <| Ad rfl (Br Aa Aa rfl (by omega) (by omega)) <| Ao (Ag 1) <| A5 rfl <| AS AR B3 rfl (.cons Aa .nil) rfl rfl (by decide) (by simp [Value.oneCell']) fun b21 hb21 nb21 => AQ (i := 0) rfl hb21 .here fun F22 hF23 hz24 => ?_
  have hsl25 := Be hz24
  refine AE rfl (As Dq Aa AO (B2 _ _ hsl25) (fun _ _ h => h)) <| Ao (Ag 1) <| Ar rfl rfl Aa (.inl (congrArg Value.bool (by simp [h1]))) rfl <| Ar rfl rfl Aa (.inl (congrArg Value.bool (by simp [h1]))) rfl <| Ar rfl rfl Aa (.inl (congrArg Value.bool (by simp [h1]))) rfl <| Ar rfl rfl Aa (.inl (congrArg Value.bool (by simp [h1]))) rfl <| Ar rfl rfl Aa (.inl (congrArg Value.bool (by simp [h1]))) rfl <| Ar rfl rfl Aa (.inl (congrArg Value.bool (by simp [h1]))) rfl <| Ar rfl rfl Aa (.inl (congrArg Value.bool (by simp [h1]))) rfl <| Ad rfl (At Aa (by simp [h1]) Aa) <| Aw (Ag 1) <| Ah Aa (by first | rfl | simp [h1]) <| AD (Ag 2) <| Au <| A7 <| Ay <| Am rfl Bi ?_
  show _ = pairV (whyE r _ _)
  unfold whyE; rw [if_neg (by simpa using h0), h1]; rfl
 refine Ac <| Aj fun ds => A5 rfl <| AX Aa rfl fun b26 hb26 nb26 => Aw (Ag 2) <| Ax (Ag 1) fun ds => A5 rfl <| AS AR B3 rfl .nil rfl rfl (by decide) (by simp [Value.oneCell']) fun b27 hb27 nb27 => AQ (i := 0) rfl hb27 .here fun F28 hF29 hz30 => ?_
 replace hr := hr.mono hF29
 have hsl31 := M7 hz30
 refine AE rfl (As Es Aa AO (DB hr hsl31 (fun h => h0 (BB.symm.trans h))) (fun _ _ h => h)) <| Aw (Ag 5) <| Ac <| Aq <| AD (Ag 3) <| Ah Aa (by simpa [BB] using h0) <| AD (Ag 3) <| Au <| A7 <| Ay <| Am rfl Bi ?_
 show _ = pairV (whyE r _ _)
 unfold whyE; rw [if_pos h0, ← BB]; rfl
end
section
open Go.RowKit
theorem GR : ElemT Tryz.prog 3 1 8 (.int .i64 0) := Dx (by kernel_rfl) rfl (by decide)
theorem CJ : OneT Tryz.prog 59 := BA (by kernel_rfl)
instance : OneI Tryz.prog 59 := ⟨CJ⟩
end
section
open Go.RowKit
abbrev cl (b : Bool) (z : Int) : Value := .agg #[.bool b, .int .i64 z]
abbrev one : Value := .int .i64 1
def ents (r : Room) (l : List Nat) : List (Value × Value) := l.flatMap fun i => [(cl false (r.reader i), one), (cl true (r.book i), one)]
theorem Jy {r : Room} {l : List Nat} {i : Nat} : ents r (l ++ [i]) = ents r l ++ [(cl false (r.reader i), one)] ++ [(cl true (r.book i), one)] := by simp [ents]
theorem Po {r : Room} {l : List Nat} {p : Value × Value} (h : p ∈ ents r l) : p.2 = one ∧ ∃ i ∈ l, p.1 = cl false (r.reader i) ∨ p.1 = cl true (r.book i) := by
 obtain ⟨i, hi, hp⟩ := List.mem_flatMap.1 h
 simp only [List.mem_cons, List.not_mem_nil, or_false] at hp
 rcases hp with rfl | rfl
 · exact ⟨rfl, i, hi, .inl rfl⟩
 exact ⟨rfl, i, hi, .inr rfl⟩
theorem Pn {r : Room} {l : List Nat} {i : Nat} (hi : i ∈ l) : (cl false (r.reader i), one) ∈ ents r l := List.mem_flatMap.2 ⟨i, hi, by simp⟩
theorem Tf {r : Room} {l : List Nat} {i : Nat} (hi : i ∈ l) : (cl true (r.book i), one) ∈ ents r l := List.mem_flatMap.2 ⟨i, hi, by simp⟩
theorem L6 {b c : Bool} {x y : Nat} (h : cl b x = cl c y) : b = c ∧ x = y := by
 simp only [cl, Value.agg.injEq, Array.mk.injEq, List.cons.injEq, Value.bool.injEq, Value.int.injEq, and_true, true_and] at h
 exact ⟨h.1, by omega⟩
theorem Qh {r : Room} {l : List Nat} {i : Nat} (h : ∀ p ∈ ents r l, p.1 ≠ cl false (r.reader i)) : ∀ j ∈ l, r.reader j ≠ r.reader i := fun j hj e => h _ (Pn hj) (by rw [e])
theorem Qe {r : Room} {l : List Nat} {i j : Nat} {u : Value} (h : (ents r l)[j]? = some (cl false (r.reader i), u)) : u = one ∧ ∃ q ∈ l, r.reader q = r.reader i := by
 obtain ⟨h1, q, hq, hc⟩ := Po (List.mem_of_getElem? h)
 refine ⟨h1, q, hq, ?_⟩
 rcases hc with hc | hc
 · exact (L6 hc).2.symm
 exact absurd (L6 hc).1 (by decide)
theorem Um {r : Room} {l : List Nat} {i : Nat} (h : ∀ p ∈ ents r l ++ [(cl false (r.reader i), one)], p.1 ≠ cl true (r.book i)) : ∀ j ∈ l, r.book j ≠ r.book i := fun j hj e => h _ (List.mem_append_left _ (Tf hj)) (by rw [e])
theorem Uj {r : Room} {l : List Nat} {i j : Nat} {u : Value} (h : (ents r l ++ [(cl false (r.reader i), one)])[j]? = some (cl true (r.book i), u)) : u = one ∧ ∃ q ∈ l, r.book q = r.book i := by
 rcases List.mem_append.1 (List.mem_of_getElem? h) with h | h
 · obtain ⟨h1, q, hq, hc⟩ := Po h
   refine ⟨h1, q, hq, ?_⟩
   rcases hc with hc | hc
   · exact absurd (L6 hc).1 (by decide)
   exact (L6 hc).2.symm
 simp only [List.mem_singleton, Prod.mk.injEq] at h
 exact absurd (L6 h.1).1 (by decide)
theorem QQ {r : Room} {l : List Nat} {k : Nat} (hk : k < l.length) (h : Apart r (l.take k)) (hn : ∀ j ∈ l.take k, Two r j l[k]) : Apart r (l.take (k + 1)) := by
 unfold Apart at h ⊢
 rw [List.take_succ_eq_append_getElem hk, List.pairwise_append]
 exact ⟨h, by simp, fun a ha b hb => by simp at hb; subst hb; exact hn a ha⟩
theorem Gi {r : Room} {l : List Nat} {k j : Nat} (hk : k < l.length) (hj : j ∈ l.take k) (hn : ¬ Two r j l[k]) : ¬ Apart r l := fun h => by
 obtain ⟨i, hi, rfl⟩ := List.mem_iff_getElem.1 hj
 simp only [List.length_take] at hi
 have := Ts.1 h k i hk (by omega)
 simp only [List.getElem_take] at hn
 exact hn this.symm
end
section
set_option maxRecDepth 100000
open Go.RowKit
theorem Jc : AggT Tryz.prog 194 2 := C2 (by kernel_rfl)
instance : AggI Tryz.prog 194 2 := ⟨Jc⟩
theorem Lz : FieldT Tryz.prog 157 0 0 := AU (by kernel_rfl)
instance : FieldI Tryz.prog 157 0 0 := ⟨Lz⟩
theorem MY : SizeT Tryz.prog 194 2 := B1 (by kernel_rfl)
theorem K6 : ZeroT Tryz.prog 194 (.agg #[.bool false, .int .i64 0]) := Bw (by kernel_rfl)
theorem Vf : BuildT Tryz.prog 194 [.bool false, .int .i64 0] [(0, 1), (1, 1)] := BG K6 (by kernel_rfl) (by decide)
theorem laid : laidOutB Tryz.prog = true := by kernel_rfl
theorem Fk : MapT Tryz.prog 192 194 3 (.int .i64 0) := ⟨Tryz.underlying192, Bw (by kernel_rfl), Go.Maps.Keyed.of_law (deep_law_laid laid (m := 3) (by omega) (Nat.le_of_ble_eq_true (by kernel_rfl)) (by kernel_rfl) (by kernel_rfl))⟩
theorem isK (b : Bool) {z : Int} (h1 : -9223372036854775808 ≤ z) (h2 : z ≤ 9223372036854775807) : IsK Tryz.prog 194 (cl b z) :=
 OX Tryz.underlying194 (by kernel_rfl) (by kernel_rfl) (by kernel_rfl) (by kernel_rfl) (d := (Tryz.prog.types.size - 1) + 1) (by kernel_rfl) rfl rfl (by decide) (by decide) (SD Tryz.underlying4 b) (HF Tryz.underlying3 (wf64 h1 h2))
theorem stood : Tryz.prog.stoodInHeld 194 = false := by kernel_rfl
theorem U0 : Tryz.prog.eqGuardType Tryz.prog.depth 194 = false := by kernel_rfl
theorem Ui : OneT Tryz.prog 4 := BA (by kernel_rfl)
instance : OneI Tryz.prog 4 := ⟨Ui⟩
theorem Ug : OneT Tryz.prog 3 := BA (by kernel_rfl)
instance : OneI Tryz.prog 3 := ⟨Ug⟩
theorem Ja {F : Heap} {b c1 c8 c3 : Nat} {vb vr vs vq vl : Value} {r : Room} (hX : RoomX num F b c1 c8 c3 vb vr vs vq vl r) (hv : Valid r) {v : Value} {l : List Nat} (hl : Nats F v l) (hlt2 : ∀ i ∈ l, i < r.reqs.length) : Ok Tryz.prog 70 [.pointer (some ⟨b, 0, none⟩), v].toArray F fun u _ => u = .bool (decide (Apart r l)) := by
 refine Ok.intro Tryz.func70 rfl Tryz.ntmps70 rfl fun w0 => ?_
 have hlen := hl.plain.lt
 refine AD (Ag 1) <| Ac <| Aj fun ds => A5 rfl <| Mf fun b1 hb1 nb1 => Aw (Ag 1) <| Ac <| Ax (Ag 1) fun ds => Ad rfl (AA AR Aa hl.plain) <| Aw (Ag 1) <| Aq ?_
 refine AH [4, 7, 8, 9, 13, 14, 15, 16, 17, 18, 19, 20, 21, 22, 23, 24, 25, 26, 27, 28, 29, 30, 31, 32, 33, 34, 35, 36, 37, 38, 39, 40, 41, 42, 43, 44, 45, 46, 47, 48, 49, 50, 51, 52, 53, 54, 55, 56, 57, 58, 59, 60, 61, 62] (fun m e σ => ∃ k : Nat, m + k = l.length ∧ Fct e 13 (.int .i64 k) ∧ Apart r (l.take k) ∧ (∀ p ∈ (ents r (l.take k)), IsK Tryz.prog 194 p.1) ∧ ((ents r (l.take k)).map (·.1)).Nodup ∧ σ = ⟨F, [(b1, mapO (ents r (l.take k)))]⟩) (l.length) ?_ ?_
 · exact ⟨0, by omega, Ba, List.Pairwise.nil, (fun p hp => nomatch hp), List.nodup_nil, rfl⟩
 rintro m e _ ⟨k, hm, hs13, hap, hall, hnd, rfl⟩
 by_cases hlt : k < l.length
 ·refine AD (Ag 1) <| Ac <| Ah Aa (by first | rfl | exact dT (by omega)) ?_
  have hlk := hlt2 _ (List.getElem_mem hlt)
  obtain ⟨ek, lr⟩ := hv.reader hlk
  obtain ⟨bk, lb⟩ := hv.book hlk
  have h8 := hv.nb
  have h9 := hv.nr
  have isA := isK false (z := (r.reader l[k] : Int)) (by omega) (by omega)
  have isB := isK true (z := (r.book l[k] : Int)) (by omega) (by omega)
  refine Ak <| Ab <| Ac <| Aq <| Ac <| Aj fun ds => Ad rfl (A1  AR Aa hl.plain Aa rfl hlt) <| Ad rfl (Ap AM Aa (hl.cell1 hlt rfl)) <| Aw (Ag 1) <| Ac ?_
  refine BH [8, 9, 17, 18, 19, 20, 21, 22, 23, 24, 25, 26, 27, 28, 29, 30, 31, 32, 33, 34, 35, 36] (fun s σ => ∃ p8 p9, Fct s 8 (ptr p8) ∧ Fct s 9 (ptr p9) ∧ σ = ⟨F, [(p8, bx 194 [.bool false, .int .i64 (r.reader l[k])]), (p9, bx 194 [.bool true, .int .i64 (r.book l[k])]), (b1, mapO (ents r (l.take k)))]⟩) ?_ ?_
  ·refine Bf (.inl rfl) (fun _ _ h => h) (kK <| .refl _) [23] (by kernel_rfl) fun ds => Af 0 rfl (by kernel_rfl) (by kernel_rfl) (by kernel_rfl) (by kernel_rfl) rfl rfl (fun _ h => h.drop (kK <| .refl _)) (fun _ _ _ h => h) (A0 Aa) <| Af 1 rfl (by kernel_rfl) (by kernel_rfl) (by kernel_rfl) (by kernel_rfl) rfl rfl (fun _ h => h.drop (kK <| .refl _)) (fun _ _ _ h => h) (BL Aa) <| Af 2 rfl (by kernel_rfl) (by kernel_rfl) (by kernel_rfl) (by kernel_rfl) rfl rfl (fun _ h => h.drop (kK <| .refl _)) (fun _ _ _ h => h) (Az Lz Aa) <| Af 3 rfl (by kernel_rfl) (by kernel_rfl) (by kernel_rfl) (by kernel_rfl) rfl rfl (fun _ h => h.drop (kK <| .refl _)) (fun _ _ _ h => h) (Az Ec Aa) <| Af 4 rfl (by kernel_rfl) (by kernel_rfl) (by kernel_rfl) (by kernel_rfl) rfl rfl (fun _ h => h.drop (kK <| .refl _)) (fun _ _ _ h => h) (Ap DP Aa (AP hX.blk rfl)) <| Af 5 rfl (by kernel_rfl) (by kernel_rfl) (by kernel_rfl) (by kernel_rfl) rfl rfl (fun _ h => h.drop (kK <| .refl _)) (fun _ _ _ h => h) (A0 Aa) <| Af 6 rfl (by kernel_rfl) (by kernel_rfl) (by kernel_rfl) (by kernel_rfl) rfl rfl (fun _ h => h.drop (kK <| .refl _)) (fun _ _ _ h => h) (A1  Cw Aa hX.room.reqs.plain Aa rfl hlk) <| Af 7 rfl (by kernel_rfl) (by kernel_rfl) (by kernel_rfl) (by kernel_rfl) rfl rfl (fun _ h => h.drop (kK <| .refl _)) (fun _ _ _ h => h) (Bs Kw Aa) ?_
   refine Af 8 rfl (by kernel_rfl) (by kernel_rfl) (by kernel_rfl) (by kernel_rfl) rfl rfl (fun _ h => h.drop (kK <| .refl _)) (fun _ _ _ h => h) (Ap AM Aa (hX.room.reqs.cell hlk rfl)) <| Af 9 rfl (by kernel_rfl) (by kernel_rfl) (by kernel_rfl) (by kernel_rfl) rfl rfl (fun _ h => h.drop (kK <| .refl _)) (fun _ _ _ h => h) (Bg Vf (.cons Aa rfl .nil) (.cons rfl rfl (Nat.le_of_ble_eq_true rfl) (.cons (.next <| .here) .nil) .nil)) <| Af 10 rfl (by kernel_rfl) (by kernel_rfl) (by kernel_rfl) (by kernel_rfl) rfl rfl (fun _ h => h.drop (kK <| .refl _)) (fun _ _ _ h => h) (A0 Aa) <| Af 11 rfl (by kernel_rfl) (by kernel_rfl) (by kernel_rfl) (by kernel_rfl) rfl rfl (fun _ h => h.drop (kK <| .refl _)) (fun _ _ _ h => h) (BL Aa) <| Af 12 rfl (by kernel_rfl) (by kernel_rfl) (by kernel_rfl) (by kernel_rfl) rfl rfl (fun _ h => h.drop (kK <| .refl _)) (fun _ _ _ h => h) (Az Lz Aa) <| Af 13 rfl (by kernel_rfl) (by kernel_rfl) (by kernel_rfl) (by kernel_rfl) rfl rfl (fun _ h => h.drop (kK <| .refl _)) (fun _ _ _ h => h) (Az Ec Aa) <| Af 14 rfl (by kernel_rfl) (by kernel_rfl) (by kernel_rfl) (by kernel_rfl) rfl rfl (fun _ h => h.drop (kK <| .refl _)) (fun _ _ _ h => h) (Ap DP Aa (AP hX.blk rfl)) <| Af 15 rfl (by kernel_rfl) (by kernel_rfl) (by kernel_rfl) (by kernel_rfl) rfl rfl (fun _ h => h.drop (kK <| .refl _)) (fun _ _ _ h => h) (A0 Aa) ?_
   refine Af 16 rfl (by kernel_rfl) (by kernel_rfl) (by kernel_rfl) (by kernel_rfl) rfl rfl (fun _ h => h.drop (kK <| .refl _)) (fun _ _ _ h => h) (A1  Cw Aa hX.room.reqs.plain Aa rfl hlk) <| Af 17 rfl (by kernel_rfl) (by kernel_rfl) (by kernel_rfl) (by kernel_rfl) rfl rfl (fun _ h => h.drop (kK <| .refl _)) (fun _ _ _ h => h) (Bs Kv Aa) <| Af 18 rfl (by kernel_rfl) (by kernel_rfl) (by kernel_rfl) (by kernel_rfl) rfl rfl (fun _ h => h.drop (kK <| .refl _)) (fun _ _ _ h => h) (Ap AM Aa (hX.room.reqs.cell hlk rfl)) <| Af 19 rfl (by kernel_rfl) (by kernel_rfl) (by kernel_rfl) (by kernel_rfl) rfl rfl (fun _ h => h.drop (kK <| .refl _)) (fun _ _ _ h => h) (Bg Vf (.cons Aa rfl (.cons Aa rfl .nil)) (.cons rfl rfl (Nat.le_of_ble_eq_true rfl) (.cons (.here) .nil) (.cons rfl rfl (Nat.le_of_ble_eq_true rfl) (.cons (.next <| .here) .nil) .nil))) ?_
   refine BX [20, 21] (by kernel_rfl) (by decide) (Li ?_ ?_)
   ·refine By rfl rfl (AF K6 rfl fun b3 hb3 nb3 => ⟨fun _ _ => (fun _ h => h.drop (kD <| kK <| .refl _)), ?_⟩)
    refine Bl 21 rfl (by kernel_rfl) rfl (AF K6 rfl fun b4 hb4 nb4 => ⟨fun _ _ => (fun _ h => h.drop (kD <| kD <| kK <| .refl _)), ?_⟩)
    refine Bt 22 rfl (by kernel_rfl) (AC MY Aa Aa (i := 1) rfl rfl rfl rfl (by simp [Value.oneCell']) (.next <| .here) ⟨fun _ _ => (fun _ h => h.drop (kD <| kD <| kK <| .refl _)), ?_⟩)
    refine Bt 23 rfl (by kernel_rfl) (AC MY Aa Aa (i := 0) rfl rfl rfl rfl (by simp [Value.oneCell']) (.here) ⟨(fun h => nomatch h), ?_⟩)
    refine CB (.cons (.next <| .here) <| .cons (.here) <| .cons (.here) <| .nil) ?_
    refine AY (by kernel_rfl) ?_ _
    refine Ab ⟨_, Off.eq (Bx rfl <| BI rfl <| BF rfl <| AT), ?_⟩
    exact ⟨_, _, Ba, Ba, by rw [ek, bk]⟩
   refine By rfl rfl (AF K6 rfl fun b5 hb5 nb5 => ⟨fun _ _ => (fun _ h => h.drop (kD <| kK <| .refl _)), ?_⟩)
   refine Bl 20 rfl (by kernel_rfl) rfl (AF K6 rfl fun b6 hb6 nb6 => ⟨fun _ _ => (fun _ h => h.drop (kD <| kD <| kK <| .refl _)), ?_⟩)
   refine Bt 22 rfl (by kernel_rfl) (AC MY Aa Aa (i := 0) rfl rfl rfl rfl (by simp [Value.oneCell']) (.here) ⟨fun _ _ => (fun _ h => h.drop (kD <| kD <| kK <| .refl _)), ?_⟩)
   refine Bt 23 rfl (by kernel_rfl) (AC MY Aa Aa (i := 1) rfl rfl rfl rfl (by simp [Value.oneCell']) (.next <| .here) ⟨(fun h => nomatch h), ?_⟩)
   refine CB (.cons (.here) <| .cons (.here) <| .cons (.here) <| .nil) ?_
   refine AY (by kernel_rfl) ?_ _
   refine Ab ⟨_, Off.eq (Bx rfl <| BI rfl <| BF rfl <| AT), ?_⟩
   exact ⟨_, _, Ba, Ba, by rw [ek, bk]⟩
  rintro e3 _ ⟨p8, p9, hc8, hc9, rfl⟩
  refine Ac <| Ac ?_
  rcases R0 (es := (ents r (l.take k))) (cl false (r.reader l[k])) with hno | ⟨j, u, hj⟩
  ·refine BH [37, 38, 39, 40, 41, 42] (fun s σ => σ = ⟨F, [(p8, bx 194 [.bool false, .int .i64 (r.reader l[k])]), (p9, bx 194 [.bool true, .int .i64 (r.book l[k])]), (b1, mapO ((ents r (l.take k)) ++ [((cl false (r.reader l[k])), one)]))]⟩) ?_ ?_
   ·refine Bf (.inl rfl) (fun _ _ h => h) (kK <| kK <| kD <| .refl _) [6] (by kernel_rfl) fun ds => Af 0 rfl (by kernel_rfl) (by kernel_rfl) (by kernel_rfl) (by kernel_rfl) rfl rfl (fun _ h => h.drop (kK <| kK <| kD <| .refl _)) (fun _ _ _ h => h) (A0 Aa) <| Af 1 rfl (by kernel_rfl) (by kernel_rfl) (by kernel_rfl) (by kernel_rfl) rfl rfl (fun _ h => h.drop (kK <| kK <| kD <| .refl _)) (fun _ _ _ h => h) (A6 Jc Aa rfl rfl (Bj 0 rfl)) ?_
    refine BX [2, 4] (by kernel_rfl) (by decide) (Li ?_ ?_)
    ·refine By rfl rfl (AI (Ms Fk Aa Aa (i := 2) rfl isA hall hno).quiet ⟨fun _ _ => (fun _ h => h.drop (kK <| kK <| kD <| .refl _)), ?_⟩)
     refine Af 3 rfl (by kernel_rfl) (by kernel_rfl) (by kernel_rfl) (by kernel_rfl) rfl rfl (fun _ h => h.drop (kK <| kK <| kD <| .refl _)) (fun _ _ _ h => h) (AJ Aa Aa rfl (by omega) (by omega)) ?_
     refine Bl 4 rfl (by kernel_rfl) rfl (Hv Fk Aa Aa (i := 2) rfl isA hall hno (.next <| .next <| .here) ⟨fun _ _ => (fun _ h => h.drop (kK <| kK <| kD <| .refl _)), ?_⟩)
     refine Af 5 rfl (by kernel_rfl) (by kernel_rfl) (by kernel_rfl) (by kernel_rfl) rfl rfl (fun _ h => h.drop (kK <| kK <| kD <| .refl _)) (fun _ _ _ h => h) (BY Aa) ?_
     refine Bt 6 rfl (by kernel_rfl) (C7 Aa Aa Aa (i := 2) rfl (congrArg (Option.map (·.1)) EO) (.next <| .next <| .here) ⟨(fun h => nomatch h), ?_⟩)
     refine AY (by kernel_rfl) ?_ _
     refine Ab ⟨_, Off.eq (BI rfl <| BF rfl <| AT), ?_⟩
     rw [Hz]; rfl
    refine By rfl rfl (Hv Fk Aa Aa (i := 2) rfl isA hall hno (.next <| .next <| .here) ⟨fun _ _ => (fun _ h => h.drop (kK <| kK <| kD <| .refl _)), ?_⟩)
    refine Af 5 rfl (by kernel_rfl) (by kernel_rfl) (by kernel_rfl) (by kernel_rfl) rfl rfl (fun _ h => h.drop (kK <| kK <| kD <| .refl _)) (fun _ _ _ h => h) (BY Aa) ?_
    refine Bl 2 rfl (by kernel_rfl) rfl (AI (CU Fk Aa Aa (i := 2) rfl isA (Cs hall isA) (Da hnd hno) EO).quiet ⟨fun _ _ => (fun _ h => h.drop (kK <| kK <| kD <| .refl _)), ?_⟩)
    refine Af 3 rfl (by kernel_rfl) (by kernel_rfl) (by kernel_rfl) (by kernel_rfl) rfl rfl (fun _ h => h.drop (kK <| kK <| kD <| .refl _)) (fun _ _ _ h => h) (AJ Aa Aa rfl (by omega) (by omega)) ?_
    refine Bt 6 rfl (by kernel_rfl) (C7 Aa Aa Aa (i := 2) rfl (congrArg (Option.map (·.1)) EO) (.next <| .next <| .here) ⟨(fun h => nomatch h), ?_⟩)
    refine AY (by kernel_rfl) ?_ _
    refine Ab ⟨_, Off.eq (BI rfl <| BF rfl <| AT), ?_⟩
    rw [Hz]; rfl
   rintro e16 _ rfl
   refine Ax (Ag 2) fun ds => Ad rfl (TV Tryz.underlying194 stood U0 (by decide) (by decide) rfl rfl Tryz.underlying4 Tryz.underlying3 Ui Ug (d0 := 0) (d1 := 0) rfl rfl Aa Aa) <| Ao (Ag 1) <| Ai rfl rfl Aa rfl <| Ao (Ag 1) <| Ai rfl rfl Aa rfl <| Ao (Ag 1) <| Ai rfl rfl Aa rfl <| Ad rfl (CU Fk Aa Aa (i := 2) rfl isA (Cs hall isA) (Da hnd hno) EO) <| Ai rfl rfl Aa rfl <| Ao (Ag 1) <| Ad rfl (A9 Aa rfl Aa) <| Al <| Ab <| Ae Aa (by decide) <| Ak <| Ab <| Ac ?_
   rcases R0 (es := ((ents r (l.take k)) ++ [((cl false (r.reader l[k])), one)])) (cl true (r.book l[k])) with hno2 | ⟨j2, u2, hj2⟩
   ·refine BH [52, 53, 54, 55, 56, 57] (fun s σ => σ = ⟨F, [(p8, bx 194 [.bool false, .int .i64 (r.reader l[k])]), (p9, bx 194 [.bool true, .int .i64 (r.book l[k])]), (b1, mapO (((ents r (l.take k)) ++ [((cl false (r.reader l[k])), one)]) ++ [((cl true (r.book l[k])), one)]))]⟩) ?_ ?_
    ·refine Bf (.inl rfl) (fun _ _ h => h) (kK <| kK <| kD <| .refl _) [6] (by kernel_rfl) fun ds => Af 0 rfl (by kernel_rfl) (by kernel_rfl) (by kernel_rfl) (by kernel_rfl) rfl rfl (fun _ h => h.drop (kK <| kK <| kD <| .refl _)) (fun _ _ _ h => h) (A0 Aa) <| Af 1 rfl (by kernel_rfl) (by kernel_rfl) (by kernel_rfl) (by kernel_rfl) rfl rfl (fun _ h => h.drop (kK <| kK <| kD <| .refl _)) (fun _ _ _ h => h) (A6 Jc Aa rfl rfl (Bj 1 rfl)) ?_
     refine BX [2, 4] (by kernel_rfl) (by decide) (Li ?_ ?_)
     ·refine By rfl rfl (AI (Ms Fk Aa Aa (i := 2) rfl isB (Cs hall isA) hno2).quiet ⟨fun _ _ => (fun _ h => h.drop (kK <| kK <| kD <| .refl _)), ?_⟩)
      refine Af 3 rfl (by kernel_rfl) (by kernel_rfl) (by kernel_rfl) (by kernel_rfl) rfl rfl (fun _ h => h.drop (kK <| kK <| kD <| .refl _)) (fun _ _ _ h => h) (AJ Aa Aa rfl (by omega) (by omega)) ?_
      refine Bl 4 rfl (by kernel_rfl) rfl (Hv Fk Aa Aa (i := 2) rfl isB (Cs hall isA) hno2 (.next <| .next <| .here) ⟨fun _ _ => (fun _ h => h.drop (kK <| kK <| kD <| .refl _)), ?_⟩)
      refine Af 5 rfl (by kernel_rfl) (by kernel_rfl) (by kernel_rfl) (by kernel_rfl) rfl rfl (fun _ h => h.drop (kK <| kK <| kD <| .refl _)) (fun _ _ _ h => h) (BY Aa) ?_
      refine Bt 6 rfl (by kernel_rfl) (C7 Aa Aa Aa (i := 2) rfl (congrArg (Option.map (·.1)) EO) (.next <| .next <| .here) ⟨(fun h => nomatch h), ?_⟩)
      refine AY (by kernel_rfl) ?_ _
      refine Ab ⟨_, Off.eq (BI rfl <| BF rfl <| AT), ?_⟩
      rw [Hz]; rfl
     refine By rfl rfl (Hv Fk Aa Aa (i := 2) rfl isB (Cs hall isA) hno2 (.next <| .next <| .here) ⟨fun _ _ => (fun _ h => h.drop (kK <| kK <| kD <| .refl _)), ?_⟩)
     refine Af 5 rfl (by kernel_rfl) (by kernel_rfl) (by kernel_rfl) (by kernel_rfl) rfl rfl (fun _ h => h.drop (kK <| kK <| kD <| .refl _)) (fun _ _ _ h => h) (BY Aa) ?_
     refine Bl 2 rfl (by kernel_rfl) rfl (AI (CU Fk Aa Aa (i := 2) rfl isB (Cs (Cs hall isA) isB) (Da (Da hnd hno) hno2) EO).quiet ⟨fun _ _ => (fun _ h => h.drop (kK <| kK <| kD <| .refl _)), ?_⟩)
     refine Af 3 rfl (by kernel_rfl) (by kernel_rfl) (by kernel_rfl) (by kernel_rfl) rfl rfl (fun _ h => h.drop (kK <| kK <| kD <| .refl _)) (fun _ _ _ h => h) (AJ Aa Aa rfl (by omega) (by omega)) ?_
     refine Bt 6 rfl (by kernel_rfl) (C7 Aa Aa Aa (i := 2) rfl (congrArg (Option.map (·.1)) EO) (.next <| .next <| .here) ⟨(fun h => nomatch h), ?_⟩)
     refine AY (by kernel_rfl) ?_ _
     refine Ab ⟨_, Off.eq (BI rfl <| BF rfl <| AT), ?_⟩
     rw [Hz]; rfl
    rintro e19 _ rfl
    refine Ax (Ag 2) fun ds => Ad rfl (CU Fk Aa Aa (i := 2) rfl isB (Cs (Cs hall isA) isB) (Da (Da hnd hno) hno2) EO) <| Aw (Ag 1) <| Ae Aa (by decide) <| Ak <| A4 <| Ab <| Bk (fun _ _ h => h.drop (kD <| kD <| kK <| .refl _)) <| Aj fun ds => Ad rfl (AJ Aa Aa rfl (by omega) (by omega)) <| Ao (Ag 1) <| Al ?_
    refine Ab ⟨_, m - 1, Off.eq (BI rfl <| BF rfl <| B7 rfl <| Ci rfl <| BQ rfl <| B7 rfl <| B7 rfl <| BI rfl <| A3), by omega, ?_⟩
    have htake : l.take (k + 1) = l.take k ++ [l[k]] := List.take_succ_eq_append_getElem hlt
    refine ⟨k + 1, by omega, Ba, QQ hlt hap fun j hj => ⟨Qh hno j hj, Um hno2 j hj⟩, ?_, ?_, ?_⟩
    · rw [htake, Jy]; exact (Cs (Cs hall isA) isB)
    · rw [htake, Jy]; exact (Da (Da hnd hno) hno2)
    rw [htake, Jy]
   obtain ⟨rfl, q, hq, hqb⟩ := Uj hj2
   have hna : ¬ Apart r l := Gi hlt hq (fun h => h.2 hqb)
   refine BH [52, 53, 54, 55, 56, 57] (fun s σ => σ = ⟨F, [(p8, bx 194 [.bool false, .int .i64 (r.reader l[k])]), (p9, bx 194 [.bool true, .int .i64 (r.book l[k])]), (b1, mapO (((ents r (l.take k)) ++ [((cl false (r.reader l[k])), one)]).set j2 ((cl true (r.book l[k])), .int .i64 2)))]⟩) ?_ ?_
   ·refine Bf (.inl rfl) (fun _ _ h => h) (kK <| kK <| kD <| .refl _) [6] (by kernel_rfl) fun ds => Af 0 rfl (by kernel_rfl) (by kernel_rfl) (by kernel_rfl) (by kernel_rfl) rfl rfl (fun _ h => h.drop (kK <| kK <| kD <| .refl _)) (fun _ _ _ h => h) (A0 Aa) <| Af 1 rfl (by kernel_rfl) (by kernel_rfl) (by kernel_rfl) (by kernel_rfl) rfl rfl (fun _ h => h.drop (kK <| kK <| kD <| .refl _)) (fun _ _ _ h => h) (A6 Jc Aa rfl rfl (Bj 1 rfl)) ?_
    refine BX [2, 4] (by kernel_rfl) (by decide) (Li ?_ ?_)
    ·refine By rfl rfl (AI (CU Fk Aa Aa (i := 2) rfl isB (Cs hall isA) (Da hnd hno) hj2).quiet ⟨fun _ _ => (fun _ h => h.drop (kK <| kK <| kD <| .refl _)), ?_⟩)
     refine Af 3 rfl (by kernel_rfl) (by kernel_rfl) (by kernel_rfl) (by kernel_rfl) rfl rfl (fun _ h => h.drop (kK <| kK <| kD <| .refl _)) (fun _ _ _ h => h) (AJ Aa Aa rfl (by omega) (by omega)) ?_
     refine Bl 4 rfl (by kernel_rfl) rfl (Hu Fk Aa Aa (i := 2) rfl isB (Cs hall isA) (Da hnd hno) hj2 ⟨fun _ _ => (fun _ h => h.drop (kK <| kK <| kD <| .refl _)), ?_⟩)
     refine Af 5 rfl (by kernel_rfl) (by kernel_rfl) (by kernel_rfl) (by kernel_rfl) rfl rfl (fun _ h => h.drop (kK <| kK <| kD <| .refl _)) (fun _ _ _ h => h) (BY Aa) ?_
     refine Bt 6 rfl (by kernel_rfl) (C7 Aa Aa Aa (i := 2) rfl (congrArg (Option.map (·.1)) hj2) (.next <| .next <| .here) ⟨(fun h => nomatch h), ?_⟩)
     refine AY (by kernel_rfl) ?_ _
     refine Ab ⟨_, Off.eq (BI rfl <| BF rfl <| AT), ?_⟩
     rfl
    refine By rfl rfl (Hu Fk Aa Aa (i := 2) rfl isB (Cs hall isA) (Da hnd hno) hj2 ⟨fun _ _ => (fun _ h => h.drop (kK <| kK <| kD <| .refl _)), ?_⟩)
    refine Af 5 rfl (by kernel_rfl) (by kernel_rfl) (by kernel_rfl) (by kernel_rfl) rfl rfl (fun _ h => h.drop (kK <| kK <| kD <| .refl _)) (fun _ _ _ h => h) (BY Aa) ?_
    refine Bl 2 rfl (by kernel_rfl) rfl (AI (CU Fk Aa Aa (i := 2) rfl isB (Cs hall isA) (Da hnd hno) hj2).quiet ⟨fun _ _ => (fun _ h => h.drop (kK <| kK <| kD <| .refl _)), ?_⟩)
    refine Af 3 rfl (by kernel_rfl) (by kernel_rfl) (by kernel_rfl) (by kernel_rfl) rfl rfl (fun _ h => h.drop (kK <| kK <| kD <| .refl _)) (fun _ _ _ h => h) (AJ Aa Aa rfl (by omega) (by omega)) ?_
    refine Bt 6 rfl (by kernel_rfl) (C7 Aa Aa Aa (i := 2) rfl (congrArg (Option.map (·.1)) hj2) (.next <| .next <| .here) ⟨(fun h => nomatch h), ?_⟩)
    refine AY (by kernel_rfl) ?_ _
    refine Ab ⟨_, Off.eq (BI rfl <| BF rfl <| AT), ?_⟩
    rfl
   rintro e19 _ rfl
   refine Ax (Ag 2) fun ds => Ad rfl (CU Fk Aa Aa (i := 2) rfl isB (Si (Cs hall isA) hj2) (Un (Da hnd hno) hj2) (TJ hj2)) <| Aw (Ag 1) <| Ah Aa (by decide) <| AD (Ag 1) <| Au ?_
   refine A7 (Ay (Ay (A7 (Ay ?_))))
   refine Am rfl Bi ?_
   show _ = _
   rw [dF hna]; rfl
  obtain ⟨rfl, q, hq, hqr⟩ := Qe hj
  have hna : ¬ Apart r l := Gi hlt hq (fun h => h.1 hqr)
  refine BH [37, 38, 39, 40, 41, 42] (fun s σ => σ = ⟨F, [(p8, bx 194 [.bool false, .int .i64 (r.reader l[k])]), (p9, bx 194 [.bool true, .int .i64 (r.book l[k])]), (b1, mapO ((ents r (l.take k)).set j ((cl false (r.reader l[k])), .int .i64 2)))]⟩) ?_ ?_
  ·refine Bf (.inl rfl) (fun _ _ h => h) (kK <| kK <| kD <| .refl _) [6] (by kernel_rfl) fun ds => Af 0 rfl (by kernel_rfl) (by kernel_rfl) (by kernel_rfl) (by kernel_rfl) rfl rfl (fun _ h => h.drop (kK <| kK <| kD <| .refl _)) (fun _ _ _ h => h) (A0 Aa) <| Af 1 rfl (by kernel_rfl) (by kernel_rfl) (by kernel_rfl) (by kernel_rfl) rfl rfl (fun _ h => h.drop (kK <| kK <| kD <| .refl _)) (fun _ _ _ h => h) (A6 Jc Aa rfl rfl (Bj 0 rfl)) ?_
   refine BX [2, 4] (by kernel_rfl) (by decide) (Li ?_ ?_)
   ·refine By rfl rfl (AI (CU Fk Aa Aa (i := 2) rfl isA hall hnd hj).quiet ⟨fun _ _ => (fun _ h => h.drop (kK <| kK <| kD <| .refl _)), ?_⟩)
    refine Af 3 rfl (by kernel_rfl) (by kernel_rfl) (by kernel_rfl) (by kernel_rfl) rfl rfl (fun _ h => h.drop (kK <| kK <| kD <| .refl _)) (fun _ _ _ h => h) (AJ Aa Aa rfl (by omega) (by omega)) ?_
    refine Bl 4 rfl (by kernel_rfl) rfl (Hu Fk Aa Aa (i := 2) rfl isA hall hnd hj ⟨fun _ _ => (fun _ h => h.drop (kK <| kK <| kD <| .refl _)), ?_⟩)
    refine Af 5 rfl (by kernel_rfl) (by kernel_rfl) (by kernel_rfl) (by kernel_rfl) rfl rfl (fun _ h => h.drop (kK <| kK <| kD <| .refl _)) (fun _ _ _ h => h) (BY Aa) ?_
    refine Bt 6 rfl (by kernel_rfl) (C7 Aa Aa Aa (i := 2) rfl (congrArg (Option.map (·.1)) hj) (.next <| .next <| .here) ⟨(fun h => nomatch h), ?_⟩)
    refine AY (by kernel_rfl) ?_ _
    refine Ab ⟨_, Off.eq (BI rfl <| BF rfl <| AT), ?_⟩
    rfl
   refine By rfl rfl (Hu Fk Aa Aa (i := 2) rfl isA hall hnd hj ⟨fun _ _ => (fun _ h => h.drop (kK <| kK <| kD <| .refl _)), ?_⟩)
   refine Af 5 rfl (by kernel_rfl) (by kernel_rfl) (by kernel_rfl) (by kernel_rfl) rfl rfl (fun _ h => h.drop (kK <| kK <| kD <| .refl _)) (fun _ _ _ h => h) (BY Aa) ?_
   refine Bl 2 rfl (by kernel_rfl) rfl (AI (CU Fk Aa Aa (i := 2) rfl isA hall hnd hj).quiet ⟨fun _ _ => (fun _ h => h.drop (kK <| kK <| kD <| .refl _)), ?_⟩)
   refine Af 3 rfl (by kernel_rfl) (by kernel_rfl) (by kernel_rfl) (by kernel_rfl) rfl rfl (fun _ h => h.drop (kK <| kK <| kD <| .refl _)) (fun _ _ _ h => h) (AJ Aa Aa rfl (by omega) (by omega)) ?_
   refine Bt 6 rfl (by kernel_rfl) (C7 Aa Aa Aa (i := 2) rfl (congrArg (Option.map (·.1)) hj) (.next <| .next <| .here) ⟨(fun h => nomatch h), ?_⟩)
   refine AY (by kernel_rfl) ?_ _
   refine Ab ⟨_, Off.eq (BI rfl <| BF rfl <| AT), ?_⟩
   rfl
  rintro e16 _ rfl
  refine Ax (Ag 2) fun ds => Ad rfl (TV Tryz.underlying194 stood U0 (by decide) (by decide) rfl rfl Tryz.underlying4 Tryz.underlying3 Ui Ug (d0 := 0) (d1 := 0) rfl rfl Aa Aa) <| Ao (Ag 1) <| Ai rfl rfl Aa rfl <| Ao (Ag 1) <| Ai rfl rfl Aa rfl <| Ao (Ag 1) <| Ai rfl rfl Aa rfl <| Ad rfl (CU Fk Aa Aa (i := 2) rfl isA (Si hall hj) (Un hnd hj) (TJ hj)) <| Ai rfl rfl Aa rfl <| Ao (Ag 1) <| Ad rfl (A9 Aa rfl Aa) <| Al <| Ab <| Ah Aa (by decide) <| AD (Ag 1) <| Au ?_
  refine Ay (A7 (Ay (Ay (A7 (Ay ?_)))))
  refine Am rfl Bi ?_
  show _ = _
  rw [dF hna]; rfl
 refine AD (Ag 1) <| Ac <| Ae Aa (by first | rfl | exact dF (by omega)) ?_
 have hk : l.take k = l := List.take_of_length_le (by omega)
 refine AG ?_
 refine A2 <| A2 <| A8 <| Ab <| AD (Ag 1) <| Au <| Am rfl Bi ?_
 show _ = _
 rw [dT (hk ▸ hap)]; rfl
end
section
set_option maxRecDepth 100000
open Go.RowKit
theorem VC : Body Tryz.prog 103 := AB (by kernel_rfl)
theorem Nq : OneT Tryz.prog 191 := BA (by kernel_rfl)
instance : OneI Tryz.prog 191 := ⟨Nq⟩
theorem KI : SizeT Tryz.prog 59 1 := B1 (by kernel_rfl)
theorem Ul {F : Heap} {b c1 c8 c3 : Nat} {vb vr vs vq vl : Value} {r : Room} {v : Value} {l : List Nat} {bl bb bo co d2 d3 d7 n : Nat} (hN : NextX num 59 191 103 F b c1 c8 c3 vb vr vs vq vl r v l bl bb bo co d2 d3 d7 n) (_hv : Valid r) (_hlt2 : ∀ i ∈ l, i < r.reqs.length) (hn8 : n ≤ 8) {i : Nat} {pre : List Nat} {own : List Value} {ub : Value} {L sum : Int} {mask : Nat} {best : Option (List Nat × Int)} (hp : pre.length = i) (ho : own.length = n) (ht : own.take i = pre.flatMap natE) (hB : BestC F best ub L) (_hm : ∀ s, mask.testBit s = decide (s ∈ pre)) (_hm6 : mask < 64) (hs0 : 0 ≤ sum) (_hs1 : sum ≤ 1200 * i) (hi : i = n) : OkM Tryz.prog 103 [.int .i64 i, .int .i64 mask, .int .i64 sum, .pointer (some ⟨bl, 0, none⟩), .pointer (some ⟨co, 0, none⟩), .pointer (some ⟨bb, 0, none⟩), .pointer (some ⟨d2, 0, none⟩), .pointer (some ⟨d3, 0, none⟩), .pointer (some ⟨d7, 0, none⟩)].toArray F [(bl, bx 3 [.int .i64 L]), (bb, bx 59 [ub]), (bo, bx 3 own)] fun _ F' H' => ∃ ub' own' L', H' = [(bl, bx 3 [.int .i64 L']), (bb, bx 59 [ub']), (bo, bx 3 own')] ∧ own'.length = n ∧ own'.take i = pre.flatMap natE ∧ BestC F' (search r (l.drop i) pre sum best) ub' L' := by
 refine OkM.intro Tryz.func103 rfl Tryz.ntmps103 rfl fun w0 => ?_
 have hown : own = pre.flatMap natE := by rw [← ht]; exact (List.take_of_length_le (by omega)).symm
 refine Ac <| Ac ?_
 refine BH [13, 14, 15, 16, 17, 18, 19] (fun s σ => Fct s 19 (.bool (decide (0 ≤ L ∧ L ≤ sum))) ∧ σ = ⟨F, [(bl, bx 3 [.int .i64 L]), (bb, bx 59 [ub]), (bo, bx 3 own)]⟩) ?_ ?_
 ·by_cases h0L : 0 ≤ L
  ·refine Aj fun ds => Ao (Ag 3) <| Ai rfl rfl Aa (dT h0L) <| Ao (Ag 1) <| Ai rfl rfl Aa (dT h0L) <| Ao (Ag 1) <| Ai rfl rfl Aa (dT h0L) <| Ao (Ag 1) <| Ad rfl (At Aa (dT h0L) Aa) <| Al ?_
   refine Ab ⟨_, Off.eq (BI rfl <| BF rfl <| BQ rfl <| AT), ?_⟩
   exact ⟨BC (by simp [h0L]), rfl⟩
  refine Aj fun ds => Ao (Ag 3) <| Ar rfl rfl Aa (.inl (congrArg Value.bool (dF h0L))) rfl <| Ar rfl rfl Aa (.inl (congrArg Value.bool (dF h0L))) rfl <| Ar rfl rfl Aa (.inl (congrArg Value.bool (dF h0L))) rfl <| Ad rfl (A9 Aa (dF h0L) Aa) <| Al ?_
  refine Ab ⟨_, Off.eq (BI rfl <| BF rfl <| BQ rfl <| AT), ?_⟩
  exact ⟨BC (by simp [h0L]), rfl⟩
 rintro e1 _ ⟨hc19, rfl⟩
 by_cases hc : 0 ≤ L ∧ L ≤ sum
 ·refine Ah Aa (dT hc) <| Au <| Ay <| GD rfl .nil (.cons (.here) <| .cons (.here) <| .cons (.here) <| .nil) rfl ?_
  exact ⟨_, _, _, rfl, ho, ht, by rw [KO (hB.cut.2 hc)]; exact hB⟩
 refine Ae Aa (dF hc) <| Ak <| Ab <| Ac <| Ax (Ag 1) fun ds => Ad rfl (Ap CJ Aa (AP hN.own rfl)) <| Aw (Ag 2) <| Ah Aa (dT (by omega)) <| Ac <| Aj fun ds => Ad rfl (Ap CJ Aa (AP hN.own rfl)) <| Ao (Ag 1) <| A5 rfl <| Tz (k := n) AR GR rfl rfl Aa Aa rfl (by omega) (by omega) fun b1 hb1 nb1 => AZ <| AW KI Aa Aa (i := 2) rfl (.here) rfl (.next <| .next <| .here) <| Al <| Ab <| Ax (Ag 1) fun ds => Ad rfl (Ap CJ Aa (AP hN.own rfl)) <| A5 rfl <| x_copy (s := 1) rfl AR Aa Aa (i := 0) rfl (by simp) (Bv (s := 1) 3 rfl (by omega) (by rw [hown]; exact S7)) (.here) <| Al <| Ab <| Ac <| AN (i := 0) rfl hb1 (.here) fun F2 hF3 hz26 => ?_
 replace hN := hN.mono hF3
 replace hB := hB.mono hF3
 refine Aj fun ds => Ao (Ag 1) <| AZ <| AW Dr Aa Aa (i := 0) rfl (.here) rfl (.here) <| Al <| Ab <| Au <| Ay <| GD rfl .nil (.cons (.here) <| .cons (.here) <| .cons (.here) <| .nil) rfl ?_
 refine ⟨_, _, _, rfl, ho, ht, ?_⟩
 rw [show l.drop i = [] from List.drop_of_length_le (by have := hN.len; omega), PS (fun h => hc (hB.cut.1 h))]
 exact BestC.mk' (Uo (l := pre) (by rw [← hown]; exact hz26) (by omega) (by omega)) hs0
def NextOk (r : Room) (b c1 c8 c3 : Nat) (vb vr vs vq vl v : Value) (l : List Nat) (bl bb bo co d2 d3 d7 n i : Nat) : Prop :=
 ∀ {F : Heap} {pre : List Nat} {own : List Value} {ub : Value} {L sum : Int} {mask : Nat} {best : Option (List Nat × Int)}, NextX num 59 191 103 F b c1 c8 c3 vb vr vs vq vl r v l bl bb bo co d2 d3 d7 n → pre.length = i → own.length = n → own.take i = pre.flatMap natE → BestC F best ub L → (∀ s, mask.testBit s = decide (s ∈ pre)) → mask < 64 → 0 ≤ sum → sum ≤ 1200 * i →
   OkM Tryz.prog 103 [.int .i64 i, .int .i64 mask, .int .i64 sum, .pointer (some ⟨bl, 0, none⟩), .pointer (some ⟨co, 0, none⟩), .pointer (some ⟨bb, 0, none⟩), .pointer (some ⟨d2, 0, none⟩), .pointer (some ⟨d3, 0, none⟩), .pointer (some ⟨d7, 0, none⟩)].toArray F [(bl, bx 3 [.int .i64 L]), (bb, bx 59 [ub]), (bo, bx 3 own)] (fun _ F' H' => ∃ ub' own' L', H' = [(bl, bx 3 [.int .i64 L']), (bb, bx 59 [ub']), (bo, bx 3 own')] ∧ own'.length = n ∧ own'.take i = pre.flatMap natE ∧ BestC F' (search r (l.drop i) pre sum best) ub' L')
theorem S6 {F : Heap} {b c1 c8 c3 : Nat} {vb vr vs vq vl : Value} {r : Room} {v : Value} {l : List Nat} {bl bb bo co d2 d3 d7 n : Nat} (hN : NextX num 59 191 103 F b c1 c8 c3 vb vr vs vq vl r v l bl bb bo co d2 d3 d7 n) (hv : Valid r) (hlt2 : ∀ i ∈ l, i < r.reqs.length) (hn8 : n ≤ 8) {i : Nat} {pre : List Nat} {own : List Value} {ub : Value} {L sum : Int} {mask : Nat} {best : Option (List Nat × Int)} (hp : pre.length = i) (ho : own.length = n) (ht : own.take i = pre.flatMap natE) (hB : BestC F best ub L) (hm : ∀ s, mask.testBit s = decide (s ∈ pre)) (hm6 : mask < 64) (hs0 : 0 ≤ sum) (hs1 : sum ≤ 1200 * i) (hi : i < n) (ih : NextOk r b c1 c8 c3 vb vr vs vq vl v l bl bb bo co d2 d3 d7 n (i + 1)) : OkM Tryz.prog 103 [.int .i64 i, .int .i64 mask, .int .i64 sum, .pointer (some ⟨bl, 0, none⟩), .pointer (some ⟨co, 0, none⟩), .pointer (some ⟨bb, 0, none⟩), .pointer (some ⟨d2, 0, none⟩), .pointer (some ⟨d3, 0, none⟩), .pointer (some ⟨d7, 0, none⟩)].toArray F [(bl, bx 3 [.int .i64 L]), (bb, bx 59 [ub]), (bo, bx 3 own)] fun _ F' H' => ∃ ub' own' L', H' = [(bl, bx 3 [.int .i64 L']), (bb, bx 59 [ub']), (bo, bx 3 own')] ∧ own'.length = n ∧ own'.take i = pre.flatMap natE ∧ BestC F' (search r (l.drop i) pre sum best) ub' L' := by
 refine OkM.intro Tryz.func103 rfl Tryz.ntmps103 rfl fun w0 => ?_
 have hin : i < l.length := by have := hN.len; omega
 obtain ⟨q, hqe⟩ : ∃ q, l[i] = q := ⟨_, rfl⟩
 have hq : q < r.reqs.length := by rw [← hqe]; exact hlt2 _ (List.getElem_mem hin)
 have hq8 : q < 8 := by have := hv.nq; omega
 have hdrop : l.drop i = q :: l.drop (i + 1) := by rw [List.drop_eq_getElem_cons hin, hqe]
 have hL1 := hN.room.room.seats.plain.lt
 refine Ac <| Ac ?_
 refine BH [13, 14, 15, 16, 17, 18, 19] (fun s σ => Fct s 19 (.bool (decide (0 ≤ L ∧ L ≤ sum))) ∧ σ = ⟨F, [(bl, bx 3 [.int .i64 L]), (bb, bx 59 [ub]), (bo, bx 3 own)]⟩) ?_ ?_
 ·by_cases h0L : 0 ≤ L
  ·refine Aj fun ds => Ao (Ag 3) <| Ai rfl rfl Aa (dT h0L) <| Ao (Ag 1) <| Ai rfl rfl Aa (dT h0L) <| Ao (Ag 1) <| Ai rfl rfl Aa (dT h0L) <| Ao (Ag 1) <| Ad rfl (At Aa (dT h0L) Aa) <| Al ?_
   refine Ab ⟨_, Off.eq (BI rfl <| BF rfl <| BQ rfl <| AT), ?_⟩
   exact ⟨BC (by simp [h0L]), rfl⟩
  refine Aj fun ds => Ao (Ag 3) <| Ar rfl rfl Aa (.inl (congrArg Value.bool (dF h0L))) rfl <| Ar rfl rfl Aa (.inl (congrArg Value.bool (dF h0L))) rfl <| Ar rfl rfl Aa (.inl (congrArg Value.bool (dF h0L))) rfl <| Ad rfl (A9 Aa (dF h0L) Aa) <| Al ?_
  refine Ab ⟨_, Off.eq (BI rfl <| BF rfl <| BQ rfl <| AT), ?_⟩
  exact ⟨BC (by simp [h0L]), rfl⟩
 rintro e1 _ ⟨hc19, rfl⟩
 by_cases hc : 0 ≤ L ∧ L ≤ sum
 ·refine Ah Aa (dT hc) <| Au <| Ay <| GD rfl .nil (.cons (.here) <| .cons (.here) <| .cons (.here) <| .nil) rfl ?_
  exact ⟨_, _, _, rfl, ho, ht, by rw [KO (hB.cut.2 hc)]; exact hB⟩
 refine Ae Aa (dF hc) <| Ak <| Ab <| Ac <| Ax (Ag 1) fun ds => Ad rfl (Ap CJ Aa (AP hN.own rfl)) <| Aw (Ag 2) <| Ae Aa (dF (by omega)) <| Ak <| Ab <| Ac <| Aj fun ds => Ad rfl (Ap Ea Aa (AP hN.rm rfl)) <| Ad rfl (BL Aa) <| Ao (Ag 2) <| Ad rfl (Ap FC Aa (AP hN.room.blk rfl)) <| Ad rfl (AA Dt Aa hN.room.room.seats.plain) <| Aw (Ag 1) <| Aq ?_
 refine AH [12, 37, 38, 39, 40, 41, 42, 43, 44, 45, 46, 47, 48, 49, 50, 51, 52, 53, 54, 55, 56, 57, 58, 59, 60, 61, 62, 63, 64, 65, 66, 67, 68, 69, 70, 71, 72, 73, 74, 75, 76, 77, 78, 79, 80] (fun m e σ => ∃ G, NextX num 59 191 103 G b c1 c8 c3 vb vr vs vq vl r v l bl bb bo co d2 d3 d7 n ∧ ∃ k : Nat, m + k = r.seats.length ∧ Fct e 37 (.int .i64 k) ∧ ∃ ub1 own1 L1, own1.length = n ∧ own1.take i = pre.flatMap natE ∧ BestC G ((List.range k).foldl (tryS r q pre sum (search r (l.drop (i + 1)))) best) ub1 L1 ∧ σ = ⟨G, [(bl, bx 3 [.int .i64 L1]), (bb, bx 59 [ub1]), (bo, bx 3 own1)]⟩) (r.seats.length) ?_ ?_
 · exact ⟨_, hN, 0, by omega, Ba, _, _, _, ho, ht, hB, rfl⟩
 rintro m e _ ⟨G, hN, k, hm1, hs37, ub1, own1, L1, ho1, ht1, hB1, rfl⟩
 by_cases hk : k < r.seats.length
 ·refine AD (Ag 1) <| Ac <| Ah Aa (by first | rfl | exact dT (by omega)) ?_
  have hk6 : k < 6 := by have := hv.ns; omega
  have hpk := PZ hk6
  by_cases hmk : k ∈ pre
  ·refine Ak <| Ab <| Ac <| Aq <| AD (Ag 2) <| Ac <| Ac <| B9 (.inl rfl) (fun _ _ h => h) (by kernel_rfl) (by kernel_rfl) fun ds => Bu (Ag 2) <| Bh rfl (FR Aa Aa rfl (by show k < 64; omega) EP) <| Bh rfl (GW Aa Aa (m := mask / 2 ^ k) (k := 1) rfl rfl (by have := Nat.div_le_self mask (2 ^ k); omega) (by omega) rfl) <| Bu (Ag 2) <| BN rfl rfl Aa (.inl (congrArg Value.bool (by rw [C0, hm]; exact dT hmk))) rfl <| BN rfl rfl Aa (.inl (congrArg Value.bool (by rw [C0, hm]; exact dT hmk))) rfl <| BN rfl rfl Aa (.inl (congrArg Value.bool (by rw [C0, hm]; exact dT hmk))) rfl <| BN rfl rfl Aa (.inl (congrArg Value.bool (by rw [C0, hm]; exact dT hmk))) rfl <| BN rfl rfl Aa (.inl (congrArg Value.bool (by rw [C0, hm]; exact dT hmk))) rfl <| BN rfl rfl Aa (.inl (congrArg Value.bool (by rw [C0, hm]; exact dT hmk))) rfl <| BN rfl rfl Aa (.inl (congrArg Value.bool (by rw [C0, hm]; exact dT hmk))) rfl <| BN rfl rfl Aa (.inl (congrArg Value.bool (by rw [C0, hm]; exact dT hmk))) rfl <| Bh rfl (At Aa (by rw [C0, hm]; exact dT hmk) Aa) <| BS <| Ab <| Ah Aa (by first | rfl | (rw [C0, hm]; exact dT hmk)) <| AG <| A2 <| A8 <| Ab <| Aj fun ds => Ad rfl (AJ Aa Aa rfl (by omega) (by omega)) <| Ao (Ag 1) ?_
   refine Al <| Ab ⟨_, m - 1, Off.eq (Bx rfl <| BI rfl <| A3), by omega, ?_⟩
   refine ⟨_, hN, k + 1, by omega, Ba, _, _, _, ho1, ht1, ?_, rfl⟩
   rw [Dn, Mj (.inl hmk)]; exact hB1
  refine Ak <| Ab <| Ac <| Aq <| AD (Ag 2) <| Ac <| Ac <| B9 (.inl rfl) (fun _ _ h => h) (by kernel_rfl) (by kernel_rfl) fun ds => Bu (Ag 2) <| Bh rfl (FR Aa Aa rfl (by show k < 64; omega) EP) <| Bh rfl (GW Aa Aa (m := mask / 2 ^ k) (k := 1) rfl rfl (by have := Nat.div_le_self mask (2 ^ k); omega) (by omega) rfl) <| Bu (Ag 2) <| B5 rfl rfl Aa (by rw [C0, hm]; exact dF hmk) <| Bh rfl (Ap Ea Aa (AP hN.rm rfl)) <| B5 rfl rfl Aa (by rw [C0, hm]; exact dF hmk) <| Bh rfl (Ap CJ Aa (AP hN.rq rfl)) <| B5 rfl rfl Aa (by rw [C0, hm]; exact dF hmk) <| Bu (Ag 1) <| B5 rfl rfl Aa (by rw [C0, hm]; exact dF hmk) <| Bh rfl (A1 (k := i) AR Aa hN.idx.plain Aa rfl hin) <| B5 rfl rfl Aa (by rw [C0, hm]; exact dF hmk) <| Bh rfl (Ap AM Aa (hN.idx.cell1 hin rfl)) <| B5 rfl rfl Aa (by rw [C0, hm]; exact dF hmk) <| Bu (Ag 1) <| B5 rfl rfl Aa (by rw [C0, hm]; exact dF hmk) <| E2 rfl (As Sa Aa AO (MX (i := l[i]) hN.room hv (hlt2 _ (List.getElem_mem hin)) hk) (fun _ _ h => h.trans (by rw [hqe]))) <| B5 rfl rfl Aa (by rw [C0, hm]; exact dF hmk) <| Bu (Ag 1) <| Bh rfl (A9 Aa (by rw [C0, hm]; exact dF hmk) Aa) <| BS <| Ab ?_
  by_cases hrs : reason r q k ≠ 0
  ·refine Ah Aa (dT hrs) <| AG <| A2 <| A8 <| Ab <| Aj fun ds => Ad rfl (AJ Aa Aa rfl (by omega) (by omega)) <| Ao (Ag 1) <| Al ?_
   refine Ab ⟨_, m - 1, Off.eq (Bx rfl <| BI rfl <| A3), by omega, ?_⟩
   refine ⟨_, hN, k + 1, by omega, Ba, _, _, _, ho1, ht1, ?_, rfl⟩
   rw [Dn, Mj (.inr hrs)]; exact hB1
  refine Ae Aa (dF hrs) ?_
  have hlb := Ei hv hq hk
  refine Ak <| Ab <| Ac <| Aj fun ds => Ad rfl (Ap CJ Aa (AP hN.own rfl)) <| Ao (Ag 2) <| Ad rfl (A1 (k := i) AR Aa (S1 (Nat.le_refl n) (by omega)) Aa rfl hi) <| AZ <| Ef (k := i) Dr Aa (by simp [addc, base]) Aa (i := 2) rfl (by rw [ho1]; exact hi) rfl (.next <| .next <| .here) <| Al <| Ab <| Bf (.inl rfl) (fun _ _ h => h) (kK <| kK <| kK <| .refl _) [20] (by kernel_rfl) fun ds => Af 0 rfl (by kernel_rfl) (by kernel_rfl) (by kernel_rfl) (by kernel_rfl) rfl rfl (fun _ h => h.drop (kK <| kK <| kK <| .refl _)) (fun _ _ _ h => h) (Ap Nq Aa (AP hN.nx rfl)) <| Af 1 rfl (by kernel_rfl) (by kernel_rfl) (by kernel_rfl) (by kernel_rfl) rfl rfl (fun _ h => h.drop (kK <| kK <| kK <| .refl _)) (fun _ _ _ h => h) (A0 Aa) <| Af 2 rfl (by kernel_rfl) (by kernel_rfl) (by kernel_rfl) (by kernel_rfl) rfl rfl (fun _ h => h.drop (kK <| kK <| kK <| .refl _)) (fun _ _ _ h => h) (AJ Aa Aa rfl (by omega) (by omega)) <| Af 3 rfl (by kernel_rfl) (by kernel_rfl) (by kernel_rfl) (by kernel_rfl) rfl rfl (fun _ h => h.drop (kK <| kK <| kK <| .refl _)) (fun _ _ _ h => h) (A0 Aa) <| Af 4 rfl (by kernel_rfl) (by kernel_rfl) (by kernel_rfl) (by kernel_rfl) rfl rfl (fun _ h => h.drop (kK <| kK <| kK <| .refl _)) (fun _ _ _ h => h) (A0 Aa) ?_
  refine Af 5 rfl (by kernel_rfl) (by kernel_rfl) (by kernel_rfl) (by kernel_rfl) rfl rfl (fun _ h => h.drop (kK <| kK <| kK <| .refl _)) (fun _ _ _ h => h) (Mr Aa Aa (k := k) rfl (by omega) (show (1 : Int) * 2 ^ k = ((2 ^ k : Nat) : Int) by simp) (Int.le_trans (by decide) (Int.natCast_nonneg (2 ^ k))) (by omega)) <| Af 6 rfl (by kernel_rfl) (by kernel_rfl) (by kernel_rfl) (by kernel_rfl) rfl rfl (fun _ h => h.drop (kK <| kK <| kK <| .refl _)) (fun _ _ _ h => h) (DC Aa Aa (m := mask) (k := 2 ^ k) rfl (by simp) (by omega) (by omega) rfl) <| Af 7 rfl (by kernel_rfl) (by kernel_rfl) (by kernel_rfl) (by kernel_rfl) rfl rfl (fun _ h => h.drop (kK <| kK <| kK <| .refl _)) (fun _ _ _ h => h) (A0 Aa) <| Af 8 rfl (by kernel_rfl) (by kernel_rfl) (by kernel_rfl) (by kernel_rfl) rfl rfl (fun _ h => h.drop (kK <| kK <| kK <| .refl _)) (fun _ _ _ h => h) (Ap Ea Aa (AP hN.rm rfl)) <| Af 9 rfl (by kernel_rfl) (by kernel_rfl) (by kernel_rfl) (by kernel_rfl) rfl rfl (fun _ h => h.drop (kK <| kK <| kK <| .refl _)) (fun _ _ _ h => h) (Ap CJ Aa (AP hN.rq rfl)) <| Af 10 rfl (by kernel_rfl) (by kernel_rfl) (by kernel_rfl) (by kernel_rfl) rfl rfl (fun _ h => h.drop (kK <| kK <| kK <| .refl _)) (fun _ _ _ h => h) (A0 Aa) <| Af 11 rfl (by kernel_rfl) (by kernel_rfl) (by kernel_rfl) (by kernel_rfl) rfl rfl (fun _ h => h.drop (kK <| kK <| kK <| .refl _)) (fun _ _ _ h => h) (A1 (k := i) AR Aa hN.idx.plain Aa rfl hin) ?_
  refine Af 12 rfl (by kernel_rfl) (by kernel_rfl) (by kernel_rfl) (by kernel_rfl) rfl rfl (fun _ h => h.drop (kK <| kK <| kK <| .refl _)) (fun _ _ _ h => h) (Ap AM Aa (hN.idx.cell1 hin rfl)) <| Af 13 rfl (by kernel_rfl) (by kernel_rfl) (by kernel_rfl) (by kernel_rfl) rfl rfl (fun _ h => h.drop (kK <| kK <| kK <| .refl _)) (fun _ _ _ h => h) (A0 Aa) <| Af 14 rfl (by kernel_rfl) (by kernel_rfl) (by kernel_rfl) (by kernel_rfl) rfl rfl (fun _ h => h.drop (kK <| kK <| kK <| .refl _)) (fun _ _ _ h => h) (BL Aa) <| Af 15 rfl (by kernel_rfl) (by kernel_rfl) (by kernel_rfl) (by kernel_rfl) rfl rfl (fun _ h => h.drop (kK <| kK <| kK <| .refl _)) (fun _ _ _ h => h) (Az Gq Aa) <| Af 16 rfl (by kernel_rfl) (by kernel_rfl) (by kernel_rfl) (by kernel_rfl) rfl rfl (fun _ h => h.drop (kK <| kK <| kK <| .refl _)) (fun _ _ _ h => h) (Bc (k := q) LQ Aa Aa (by rw [← hqe]) hq8) <| Af 17 rfl (by kernel_rfl) (by kernel_rfl) (by kernel_rfl) (by kernel_rfl) rfl rfl (fun _ h => h.drop (kK <| kK <| kK <| .refl _)) (fun _ _ _ h => h) (Bc  LR Aa Aa rfl hk6) <| Af 18 rfl (by kernel_rfl) (by kernel_rfl) (by kernel_rfl) (by kernel_rfl) rfl rfl (fun _ h => h.drop (kK <| kK <| kK <| .refl _)) (fun _ _ _ h => h) (Ap AM Aa (hN.room.light_cell hq8 hk6).cell) ?_
  refine Af 19 rfl (by kernel_rfl) (by kernel_rfl) (by kernel_rfl) (by kernel_rfl) rfl rfl (fun _ h => h.drop (kK <| kK <| kK <| .refl _)) (fun _ _ _ h => h) (AJ Aa Aa rfl (by omega) (by omega)) ?_
  refine Bl 20 rfl (by kernel_rfl) rfl (QV VC Aa AO rfl (ih hN (pre := pre ++ [k]) (by simp [hp]) (by rw [List.length_set]; exact ho1) (T7 (by omega) hp ht1) hB1 (mask_or hm) (Rs hm6 hk6) (by omega) (by omega)) fun v2 F3 H6 hr4 hF5 => ⟨(fun h => nomatch h), ?_⟩)
  replace hN := hN.mono hF5
  obtain ⟨ub2, own2, L2, rfl, hl2, ht2, hB2⟩ := hr4
  refine AY (by kernel_rfl) ?_ _
  refine A4 <| Ab <| Aj fun ds => Ad rfl (AJ Aa Aa rfl (by omega) (by omega)) <| Ao (Ag 1) <| Al ?_
  refine Ab ⟨_, m - 1, Off.eq (DG rfl <| Ci rfl <| BI rfl <| BQ rfl <| A3), by omega, ?_⟩
  refine ⟨_, hN, k + 1, by omega, Ba, _, _, _, hl2, T8 hp ht2, ?_, rfl⟩
  rw [Dn, tryS_do hmk hrs]; exact hB2
 refine AD (Ag 1) <| Ac <| Ae Aa (by first | rfl | exact dF (by omega)) ?_
 obtain rfl : k = r.seats.length := by omega
 refine AG ?_
 refine A2 <| A2 <| A8 <| Mu rfl .nil (.cons (.here) <| .cons (.here) <| .cons (.here) <| .nil) rfl ?_
 refine ⟨_, _, _, rfl, ho1, ht1, ?_⟩
 rw [hdrop, Oh (fun h => hc (hB.cut.1 h))]; exact hB1
end
section
set_option maxRecDepth 100000
open Go.RowKit
theorem RZ : Body Tryz.prog 70 := AB (by kernel_rfl)
theorem sz_191 : SizeT Tryz.prog 191 1 := B1 (by kernel_rfl)
theorem zr_191 : ZeroT Tryz.prog 191 (.nilFunc) := Bw (by kernel_rfl)
theorem QU : ZeroT Tryz.prog 59 (.slice none 0 0) := Bw (by kernel_rfl)
theorem O8 {b c1 c8 c3 : Nat} {vb vr vs vq vl : Value} {r : Room} {v : Value} {l : List Nat} {bl bb bo co d2 d3 d7 n : Nat} (hv : Valid r) (hlt2 : ∀ i ∈ l, i < r.reqs.length) (hn8 : n ≤ 8) : ∀ d i, i + d = n → NextOk r b c1 c8 c3 vb vr vs vq vl v l bl bb bo co d2 d3 d7 n i
 | 0, i, hi => fun hN hp ho ht hB hm hm6 hs0 hs1 => Ul hN hv hlt2 hn8 hp ho ht hB hm hm6 hs0 hs1 (by omega)
 | d + 1, i, hi => fun hN hp ho ht hB hm hm6 hs0 hs1 => S6 hN hv hlt2 hn8 hp ho ht hB hm hm6 hs0 hs1 (by omega) (O8 hv hlt2 hn8 d (i + 1) (by omega))
theorem N5 {F : Heap} {b c1 c8 c3 : Nat} {vb vr vs vq vl : Value} {r : Room} (hX : RoomX num F b c1 c8 c3 vb vr vs vq vl r) (hv : Valid r) {v : Value} {l : List Nat} (hl : Nats F v l) (hlt2 : ∀ i ∈ l, i < r.reqs.length) (hn8 : l.length ≤ 8) : Ok Tryz.prog 69 [.pointer (some ⟨b, 0, none⟩), v].toArray F fun u F' => ∃ ws L, u = .tuple #[ws, .int .i64 L] ∧ BestC F' (allR r l) ws L := by
 refine Ok.intro Tryz.func69 rfl Tryz.ntmps69 rfl fun w0 => ?_
 by_cases ha : Apart r l
 ·refine Ac <| Aj fun ds => A5 rfl <| AX Aa rfl fun b1 hb1 nb1 => A5 rfl <| AX Aa (Cb hl.plain.one) fun b2 hb2 nb2 => A5 rfl <| AF QU rfl fun b3 hb3 nb3 => A5 rfl <| AF B3 rfl fun b4 hb4 nb4 => Al <| Ab <| Ac <| Aj fun ds => AZ <| AW Dr Aa Aa (i := 0) rfl (.here) rfl (.here) <| Al <| Ab <| Ac <| Ax (Ag 2) fun ds => AE rfl (As RZ Aa AO (Ja hX hv hl hlt2) (fun _ _ h => h)) <| Aw (Ag 1) <| Ae Aa (by rw [dT ha]; first | done | rfl) <| Ak <| Ab <| Ax (Ag 1) fun ds => Ad rfl (AA AR Aa hl.plain) <| A5 rfl <| Tz (k := l.length) AR GR rfl rfl Aa Aa rfl (by omega) (by omega) fun b5 hb5 nb5 => A5 rfl <| AF QU rfl fun b6 hb6 nb6 => AZ <| AW KI Aa Aa (i := 0) rfl (.here) rfl (.here) <| Al <| Ab <| Ac <| Aj fun ds => A5 rfl <| AF zr_191 rfl fun b7 hb7 nb7 => Al <| Ab <| Ac <| Aj fun ds => Ad rfl (Bm AO) <| AZ <| AW sz_191 Aa Aa (i := 0) rfl (.here) rfl (.here) <| Al <| Ab <| Ac <| AN (i := 1) rfl hb6 (.next <| .here) fun F8 hF9 hz6 => ?_
  replace hX := hX.mono hF9
  replace hl := hl.mono hF9
  refine AN (i := 5) rfl hb1 (.next <| .next <| .next <| .next <| .next <| .here) fun F10 hF11 hz2 => ?_
  replace hX := hX.mono hF11
  replace hl := hl.mono hF11
  replace hz6 := hF11 _ _ hz6
  refine AN (i := 4) rfl hb2 (.next <| .next <| .next <| .next <| .here) fun F12 hF13 hz3 => ?_
  replace hX := hX.mono hF13
  replace hl := hl.mono hF13
  replace hz6 := hF13 _ _ hz6
  replace hz2 := hF13 _ _ hz2
  refine AN (i := 0) rfl hb7 (.here) fun F14 hF15 hz7 => ?_
  replace hX := hX.mono hF15
  replace hl := hl.mono hF15
  replace hz6 := hF15 _ _ hz6
  replace hz2 := hF15 _ _ hz2
  replace hz3 := hF15 _ _ hz3
  refine Sk (.cons (.next <| .here) <| .cons (.next <| .here) <| .cons (.here) <| .nil) ?_
  have hN : NextX num 59 191 103 F14 b c1 c8 c3 vb vr vs vq vl r v l b4 b3 b5 b6 b1 b2 b7 l.length := ⟨hX, hl, hz6, hz2, hz3, hz7, rfl⟩
  refine Aj fun ds => Ad rfl (Ap Nq Aa (AP hz7 rfl)) <| A5 rfl <| QV VC Aa AO rfl (O8 hv hlt2 hn8 l.length 0 (by omega) hN (pre := []) (best := none) (mask := 0) (sum := 0) rfl (by simp) rfl ⟨fun _ => ⟨rfl, rfl⟩, (fun _ _ h => nomatch h)⟩ (fun s => by simp) (by omega) (by omega) (by omega)) fun v20 F21 H24 hr22 hF23 => ?_
  obtain ⟨ub2, own2, L2, rfl, hl2, ht2, hB2⟩ := hr22
  rw [List.drop_zero] at hB2
  have hub := hB2.one
  refine Al <| Ab <| Ac <| Bf (.inl rfl) (fun _ _ h => h) (kK <| kD <| kK <| .refl _) [3] (by kernel_rfl) fun ds => Af 1 rfl (by kernel_rfl) (by kernel_rfl) (by kernel_rfl) (by kernel_rfl) rfl rfl (fun _ h => h.drop (kK <| kD <| kK <| .refl _)) (fun _ _ _ h => h) (Ap AM Aa (Cell.own 0 rfl rfl)) ?_
  refine Bl 0 rfl (by kernel_rfl) rfl (AI (Ap CJ Aa (Cell.own 1 rfl rfl)).quiet ⟨fun _ _ => (fun _ h => h.drop (kK <| kD <| kK <| .refl _)), ?_⟩)
  refine Bt 2 rfl (by kernel_rfl) (AW KI Aa Aa (i := 1) rfl (.here) (by first | rfl | exact hub) (.next <| .here) ⟨fun _ _ => (fun _ h => h.drop (kK <| kD <| kK <| .refl _)), ?_⟩)
  refine Bt 3 rfl (by kernel_rfl) (AW Dr Aa Aa (i := 0) rfl (.here) (by first | rfl | exact hub) (.here) ⟨(fun h => nomatch h), ?_⟩)
  refine AY (by kernel_rfl) ?_ _
  refine Ab <| Au <| Am rfl (.one CJ Aa (Cell.own 1 rfl rfl) (.one AM Aa (Cell.own 0 rfl rfl) .nil)) ?_
  refine ⟨_, _, rfl, ?_⟩
  unfold allR
  rw [if_pos ha, ← Og hv hlt2]
  exact hB2
 refine Ac <| Aj fun ds => A5 rfl <| AX Aa rfl fun b25 hb25 nb25 => A5 rfl <| AX Aa (Cb hl.plain.one) fun b26 hb26 nb26 => A5 rfl <| AF QU rfl fun b27 hb27 nb27 => A5 rfl <| AF B3 rfl fun b28 hb28 nb28 => Al <| Ab <| Ac <| Aj fun ds => AZ <| AW Dr Aa Aa (i := 0) rfl (.here) rfl (.here) <| Al <| Ab <| Ac <| Ax (Ag 2) fun ds => AE rfl (As RZ Aa AO (Ja hX hv hl hlt2) (fun _ _ h => h)) <| Aw (Ag 1) <| Ah Aa (by rw [dF ha]; first | done | rfl) <| Ac <| Bf (.inl rfl) (fun _ _ h => h) (kK <| kD <| kK <| kK <| .refl _) [2] (by kernel_rfl) fun ds => Af 0 rfl (by kernel_rfl) (by kernel_rfl) (by kernel_rfl) (by kernel_rfl) rfl rfl (fun _ h => h.drop (kK <| kD <| kK <| kK <| .refl _)) (fun _ _ _ h => h) (Ap AM Aa (Cell.own 0 rfl rfl)) ?_
 refine Bt 1 rfl (by kernel_rfl) (AW KI Aa Aa (i := 1) rfl (.here) rfl (.next <| .here) ⟨fun _ _ => (fun _ h => h.drop (kK <| kD <| kK <| kK <| .refl _)), ?_⟩)
 refine Bt 2 rfl (by kernel_rfl) (AW Dr Aa Aa (i := 0) rfl (.here) rfl (.here) ⟨(fun h => nomatch h), ?_⟩)
 refine AY (by kernel_rfl) ?_ _
 refine Ab <| Au <| Ay <| Am rfl (.one CJ Aa (Cell.own 1 rfl rfl) (.one AM Aa (Cell.own 0 rfl rfl) .nil)) ?_
 refine ⟨_, _, rfl, ?_⟩
 unfold allR
 rw [if_neg ha]
 exact ⟨fun _ => ⟨rfl, rfl⟩, (fun _ _ h => nomatch h)⟩
end
section
set_option maxRecDepth 100000
open Go.RowKit
theorem Ke : Body Tryz.prog 53 := AB (by kernel_rfl)
theorem Vm : Body Tryz.prog 69 := AB (by kernel_rfl)
theorem Gx {F : Heap} {b c1 c8 c3 : Nat} {vb vr vs vq vl : Value} {r : Room} (hX : RoomX num F b c1 c8 c3 vb vr vs vq vl r) (hv : Valid r) {v : Value} {l : List Nat} (hl : Nats F v l) (hlt2 : ∀ i ∈ l, i < r.reqs.length) (hn8 : l.length ≤ 8) : Ok Tryz.prog 53 [.pointer (some ⟨b, 0, none⟩), v].toArray F fun u _ => u = .bool (allR r l).isSome := by
 refine Ok.intro Tryz.func53 rfl Tryz.ntmps53 rfl fun w0 => AD (Ag 1) <| Ax (Ag 2) fun ds => A5 rfl <| Bb Vm Aa AO (N5 hX hv hl hlt2 hn8) fun v1 F2 hr3 hF4 => ?_
 obtain ⟨ws, L, rfl, hB⟩ := hr3
 refine Aw (Ag 5) <| AD (Ag 3) <| Au <| Am rfl Bi ?_
 show _ = _
 rw [← hB.is]; rfl
theorem GH {F : Heap} {v : Value} {l : List Nat} (h : Ints F v (l.map fun (n : Nat) => (n : Int))) : Nats F v l := by
 have := h.nats (by simp)
 rwa [List.map_map, show (Int.toNat ∘ fun (n : Nat) => (n : Int)) = id from rfl, List.map_id] at this
theorem FM {F : Heap} {vb vr vs vq : Value} {r : Room} (hr : RoomR F vb vr vs vq r) {v : Value} {xs : List Int} (hx : Ints F v xs) : Ok Tryz.prog 11 [.agg #[vb, vr, vs, vq], v].toArray F fun u _ => u = canV r xs := by
 refine Ok.intro Tryz.func11 rfl Tryz.ntmps11 rfl fun w0 => ?_
 by_cases h0 : someErr r xs = 0
 ·obtain ⟨l, rfl, hlt2, hasc⟩ := N4 h0
  have hv := DY h0
  have hl := GH hx
  have hn8 := FO hv hlt2 hasc
  refine Ac <| Aj fun ds => A5 rfl <| AX Aa rfl fun b1 hb1 nb1 => Aw (Ag 2) <| Ax (Ag 2) fun ds => A5 rfl <| Bb Es Aa AO (Dg hr hx h0) fun v2 F3 hr4 hF5 => ?_
  replace hl := hl.mono hF5
  obtain ⟨p, rfl, hlk⟩ := hr4
  obtain ⟨b, c1, c8, c3, wb, wr, ws, wq, wl, rfl, hX⟩ := hlk
  refine Aw (Ag 5) <| Ac <| AD (Ag 2) <| Ae Aa (by decide) <| Ak <| Ab <| Ax (Ag 2) fun ds => AE rfl (As Ke Aa AO (Gx hX hv hl hlt2 hn8) (fun _ _ h => h)) <| Aw (Ag 2) <| Au <| Am rfl Bi ?_
  show _ = canV r _
  rw [RT h0]; rfl
 refine Ac <| Aj fun ds => A5 rfl <| AX Aa rfl fun b6 hb6 nb6 => Aw (Ag 2) <| Ax (Ag 2) fun ds => AE rfl (As Es Aa AO (DB hr hx h0) (fun _ _ h => h)) <| Aw (Ag 5) <| Ac <| AD (Ag 2) <| Ah Aa (dT h0) <| AD (Ag 3) <| Au <| Ay <| Am rfl Bi ?_
 show _ = canV r _
 rw [Vb h0]; rfl
theorem Nb {F : Heap} {vb vr vs vq : Value} {r : Room} (hr : RoomR F vb vr vs vq r) {v : Value} {xs : List Int} (hx : Ints F v xs) : Ok Tryz.prog 36 [.agg #[vb, vr, vs, vq], v].toArray F fun u F' => ∃ ws, u = .tuple #[ws, .int .i64 (seatsE r xs).2.1, .int .i64 (seatsE r xs).2.2] ∧ Nats F' ws (seatsE r xs).1 := by
 refine Ok.intro Tryz.func36 rfl Tryz.ntmps36 rfl fun w0 => ?_
 by_cases h0 : someErr r xs = 0
 ·obtain ⟨l, rfl, hlt2, hasc⟩ := N4 h0
  have hv := DY h0
  have hl := GH hx
  have hn8 := FO hv hlt2 hasc
  refine Ac <| Aj fun ds => A5 rfl <| AX Aa rfl fun b1 hb1 nb1 => Aw (Ag 3) <| Ax (Ag 2) fun ds => A5 rfl <| Bb Es Aa AO (Dg hr hx h0) fun v2 F3 hr4 hF5 => ?_
  replace hl := hl.mono hF5
  obtain ⟨p, rfl, hlk⟩ := hr4
  obtain ⟨b, c1, c8, c3, wb, wr, ws, wq, wl, rfl, hX⟩ := hlk
  refine Aw (Ag 5) <| Ac <| AD (Ag 2) <| Ae Aa (by decide) ?_
  rcases hA : allR r l with _ | ⟨s, m⟩
  ·refine Ak <| Ab <| Ac <| Ax (Ag 2) fun ds => A5 rfl <| Bb Vm Aa AO (N5 hX hv hl hlt2 hn8) fun v6 F7 hr8 hF9 => ?_
   obtain ⟨ws, L2, rfl, hB⟩ := hr8
   rw [hA] at hB
   obtain ⟨rfl, rfl⟩ := hB.no rfl
   refine Aw (Ag 5) <| AD (Ag 2) <| Ah Aa (by decide) <| AD (Ag 3) <| Au <| Ay <| Am rfl Bi ?_
   rw [Oe h0 hA]
   exact ⟨_, rfl, Sl.nil⟩
  refine Ak <| Ab <| Ac <| Ax (Ag 2) fun ds => A5 rfl <| Bb Vm Aa AO (N5 hX hv hl hlt2 hn8) fun v10 F11 hr12 hF13 => ?_
  obtain ⟨ws, L2, rfl, hB⟩ := hr12
  rw [hA] at hB
  obtain ⟨rfl, hws, hm0⟩ := hB.so _ _ rfl
  refine Aw (Ag 5) <| AD (Ag 2) <| Ae Aa (dF (by omega)) <| Ak <| Ab <| AD (Ag 5) <| Au <| Am rfl Bi ?_
  rw [Od h0 hA]
  exact ⟨_, rfl, hws⟩
 refine Ac <| Aj fun ds => A5 rfl <| AX Aa rfl fun b14 hb14 nb14 => Aw (Ag 3) <| Ax (Ag 2) fun ds => AE rfl (As Es Aa AO (DB hr hx h0) (fun _ _ h => h)) <| Aw (Ag 5) <| Ac <| AD (Ag 2) <| Ah Aa (dT h0) <| AD (Ag 4) <| Au <| Ay <| Am rfl Bi ?_
 rw [PR h0]
 exact ⟨_, rfl, Sl.nil⟩
end
section
set_option maxRecDepth 100000
open Go.RowKit
theorem VD : Body Tryz.prog 101 := AB (by kernel_rfl)
theorem Vs : Body Tryz.prog 135 := AB (by kernel_rfl)
theorem Vt : Body Tryz.prog 134 := AB (by kernel_rfl)
theorem bd_104 : Body Tryz.prog 104 := AB (by kernel_rfl)
theorem V9 : Body Tryz.prog 107 := AB (by kernel_rfl)
theorem EW : SliceT Tryz.prog 103 44 2 := BO (by kernel_rfl)
instance : SliceI Tryz.prog 103 := ⟨_, _, EW⟩
theorem stoodSp : Tryz.prog.stoodInHeld 44 = false := by kernel_rfl
theorem guardSp : Tryz.prog.eqGuardType Tryz.prog.depth 44 = false := by kernel_rfl
theorem Uh : OneT Tryz.prog 3 := BA (by kernel_rfl)
instance : OneI Tryz.prog 3 := ⟨Uh⟩
theorem Cy {F : Heap} {v u : Value} {xs ys : List Int} (hx : Sl F v 1 intE xs) (hy : Sl F u 1 intE ys) : Ok Tryz.prog 32 [v, u].toArray F fun r _ => r = .bool (decide (xs = ys)) := by
 refine Ok.intro Tryz.func32 rfl Tryz.ntmps32 rfl fun w0 => ?_
 have hlen := hx.plain.lt
 have hlen2 := hy.plain.lt
 refine AD (Ag 1) <| Ax (Ag 1) fun ds => Ad rfl (AA AR Aa hx.plain) <| Ao (Ag 1) <| Ad rfl (AA AR Aa hy.plain) <| Aw (Ag 2) <| Ac <| AD (Ag 1) <| Aq ?_
 refine AH [5, 6, 12, 13, 14, 15, 16, 17, 18, 19, 20, 21, 22, 23, 24, 25, 26, 27, 28, 29] (fun m e σ => ∃ (k : Nat) (ok : Bool), m + k = xs.length + 1 ∧ Fct e 6 (.int .i64 k) ∧ Fct e 5 (.bool ok) ∧ σ = ⟨F, []⟩ ∧ (ok = true → k ≤ xs.length ∧ xs.length = ys.length ∧ xs.take k = ys.take k) ∧ (ok = false → xs ≠ ys)) (xs.length + 1) ?_ ?_
 · refine ⟨0, _, by omega, Ba, Ba, rfl, fun h => ⟨by omega, by have := of_decide_eq_true h; omega, rfl⟩, fun h he => ?_⟩; subst he; exact absurd rfl (of_decide_eq_false h)
 rintro m e _ ⟨k, ok, hm, hs6, hs5, rfl, hT, hF⟩
 cases ok
 ·refine Ac <| Ax (Ag 2) fun ds => Ar rfl rfl Aa (.inl (congrArg Value.bool rfl)) rfl <| Ar rfl rfl Aa (.inl (congrArg Value.bool rfl)) rfl <| Ar rfl rfl Aa (.inl (congrArg Value.bool rfl)) rfl <| Ar rfl rfl Aa (.inl (congrArg Value.bool rfl)) rfl <| Ad rfl (A9 Aa rfl AV) <| Al <| Ab <| Ae Aa rfl <| AG ?_
  refine A2 <| A2 <| A8 <| Ab <| AD (Ag 2) <| Au <| Am rfl Bi ?_
  show _ = _
  rw [dF (hF rfl)]; rfl
 obtain ⟨hk, hll, htk⟩ := hT rfl
 refine Ac <| Ax (Ag 2) fun ds => Ai rfl rfl Aa rfl <| Ao (Ag 1) <| Ai rfl rfl Aa rfl <| Ao (Ag 1) <| Ai rfl rfl Aa rfl <| Ad rfl (AA AR Aa hx.plain) <| Ai rfl rfl Aa rfl <| Ao (Ag 1) <| Ad rfl (At Aa rfl Aa) <| Al <| Ab ?_
 by_cases hlt : k < xs.length
 ·refine Ah Aa (by first | rfl | exact dT (by omega)) <| Ak <| Ab <| Ac <| Aq <| B9 (.inl rfl) (fun _ _ h => h) (by kernel_rfl) (by kernel_rfl) fun ds => Bu (Ag 2) <| Bh rfl (A1  AR Aa hx.plain Aa rfl hlt) <| Bh rfl (Ap AM Aa (hx.cell1 hlt rfl)) <| Bu (Ag 2) <| Bh rfl (A1  AR Aa hy.plain Aa rfl (by omega)) <| Bh rfl (Ap AM Aa (hy.cell1 (by omega) rfl)) <| Bu (Ag 2) <| BS <| A4 <| Ab <| Aj fun ds => Ao (Ag 1) <| Ad rfl (AJ Aa Aa rfl (by omega) (by omega)) <| Ao (Ag 1) <| Al ?_
  refine Ab ⟨_, m - 1, Off.eq (Bx rfl <| BI rfl <| A3), by omega, ?_⟩
  have hlt2 : k < ys.length := by omega
  refine ⟨k + 1, _, by omega, Ba, Ba, rfl, fun h => ⟨by omega, hll, DF hlt hlt2 htk (of_decide_eq_true h)⟩, fun h => Ro hlt hlt2 (of_decide_eq_false h)⟩
 refine Ae Aa (by first | rfl | exact dF (by omega)) <| AG ?_
 refine A2 <| A2 <| A8 <| Ab <| AD (Ag 2) <| Au <| Am rfl Bi ?_
 show _ = _
 obtain rfl : k = xs.length := by omega
 rw [dT (FK hll htk)]; rfl
theorem Ol {F : Heap} {v u : Value} {xs ys : List (Int × Int)} (hx : Sl F v 2 spanE xs) (hy : Sl F u 2 spanE ys) : Ok Tryz.prog 41 [v, u].toArray F fun r _ => r = .bool (decide (xs = ys)) := by
 refine Ok.intro Tryz.func41 rfl Tryz.ntmps41 rfl fun w0 => ?_
 have hlen := hx.plain.lt
 have hlen2 := hy.plain.lt
 refine AD (Ag 1) <| Ax (Ag 1) fun ds => Ad rfl (AA EW Aa hx.plain) <| Ao (Ag 1) <| Ad rfl (AA EW Aa hy.plain) <| Aw (Ag 2) <| Ac <| AD (Ag 1) <| Aq ?_
 refine AH [5, 6, 12, 13, 14, 15, 16, 17, 18, 19, 20, 21, 22, 23, 24, 25, 26, 27, 28, 29] (fun m e σ => ∃ (k : Nat) (ok : Bool), m + k = xs.length + 1 ∧ Fct e 6 (.int .i64 k) ∧ Fct e 5 (.bool ok) ∧ σ = ⟨F, []⟩ ∧ (ok = true → k ≤ xs.length ∧ xs.length = ys.length ∧ xs.take k = ys.take k) ∧ (ok = false → xs ≠ ys)) (xs.length + 1) ?_ ?_
 · refine ⟨0, _, by omega, Ba, Ba, rfl, fun h => ⟨by omega, by have := of_decide_eq_true h; omega, rfl⟩, fun h he => ?_⟩; subst he; exact absurd rfl (of_decide_eq_false h)
 rintro m e _ ⟨k, ok, hm, hs6, hs5, rfl, hT, hF⟩
 cases ok
 ·refine Ac <| Ax (Ag 2) fun ds => Ar rfl rfl Aa (.inl (congrArg Value.bool rfl)) rfl <| Ar rfl rfl Aa (.inl (congrArg Value.bool rfl)) rfl <| Ar rfl rfl Aa (.inl (congrArg Value.bool rfl)) rfl <| Ar rfl rfl Aa (.inl (congrArg Value.bool rfl)) rfl <| Ad rfl (A9 Aa rfl AV) <| Al <| Ab <| Ae Aa rfl <| AG ?_
  refine A2 <| A2 <| A8 <| Ab <| AD (Ag 2) <| Au <| Am rfl Bi ?_
  show _ = _
  rw [dF (hF rfl)]; rfl
 obtain ⟨hk, hll, htk⟩ := hT rfl
 refine Ac <| Ax (Ag 2) fun ds => Ai rfl rfl Aa rfl <| Ao (Ag 1) <| Ai rfl rfl Aa rfl <| Ao (Ag 1) <| Ai rfl rfl Aa rfl <| Ad rfl (AA EW Aa hx.plain) <| Ai rfl rfl Aa rfl <| Ao (Ag 1) <| Ad rfl (At Aa rfl Aa) <| Al <| Ab ?_
 by_cases hlt : k < xs.length
 ·refine Ah Aa (by first | rfl | exact dT (by omega)) <| Ak <| Ab <| Ac <| Aq <| B9 (.inl rfl) (fun _ _ h => h) (by kernel_rfl) (by kernel_rfl) fun ds => Bu (Ag 2) <| Bh rfl (A1  EW Aa hx.plain Aa rfl hlt) <| Bh rfl (A6 BP Aa rfl rfl (hx.whole hlt)) <| Bu (Ag 2) <| Bh rfl (A1  EW Aa hy.plain Aa rfl (by omega)) <| Bh rfl (A6 BP Aa rfl rfl (hy.whole (by omega))) <| Bh rfl (q_eqlZ2 Tryz.underlying44 stoodSp guardSp (by decide) (by decide) rfl rfl Tryz.underlying3 Tryz.underlying3 Uh Uh Aa Aa) <| Bu (Ag 1) <| BS <| A4 <| Ab <| Aj fun ds => Ao (Ag 1) <| Ad rfl (AJ Aa Aa rfl (by omega) (by omega)) <| Ao (Ag 1) <| Al ?_
  refine Ab ⟨_, m - 1, Off.eq (Bx rfl <| BI rfl <| A3), by omega, ?_⟩
  have hlt2 : k < ys.length := by omega
  refine ⟨k + 1, _, by omega, Ba, Ba, rfl, fun h => ⟨by omega, hll, DF hlt hlt2 htk (by simp only [Bool.and_eq_true, beq_iff_eq] at h; exact Prod.ext h.1 h.2)⟩, fun h => Ro hlt hlt2 (by intro he; rw [he] at h; simp at h)⟩
 refine Ae Aa (by first | rfl | exact dF (by omega)) <| AG ?_
 refine A2 <| A2 <| A8 <| Ab <| AD (Ag 2) <| Au <| Am rfl Bi ?_
 show _ = _
 obtain rfl : k = xs.length := by omega
 rw [dT (FK hll htk)]; rfl
theorem mem_any {l : List Nat} {z : Nat} : decide (z ∈ l) = l.any (fun x => decide ((z : Int) = (x : Nat))) := by
 rw [Bool.eq_iff_iff, decide_eq_true_iff, List.any_eq_true]
 constructor
 · exact fun h => ⟨z, h, dT rfl⟩
 rintro ⟨x, hx, he⟩
 have := of_decide_eq_true he
 have : z = x := by omega
 subst this
 exact hx
theorem SM {F : Heap} {v : Value} {l : List Nat} (hl : Nats F v l) (z : Nat) : Ok Tryz.prog 104 [v, .int .i64 (z : Int)].toArray F fun r _ => r = .int .i64 (findI (fun x => decide ((z : Int) = (x : Nat))) l) := by
 refine Ok.intro Tryz.func104 rfl Tryz.ntmps104 rfl fun w0 => ?_
 have hlen := hl.plain.lt
 refine AD (Ag 1) <| Ac <| Ax (Ag 1) fun ds => Ad rfl (AA AR Aa hl.plain) <| Aw (Ag 1) <| Aq ?_
 refine AH [4, 5, 8, 9, 10, 11, 12, 13, 14, 15, 16, 17, 18] (fun m e σ => ∃ k : Nat, m + k = l.length ∧ Fct e 8 (.int .i64 k) ∧ σ = ⟨F, []⟩ ∧ ∀ j (hj : j < l.length), j < k → (fun x => decide ((z : Int) = (x : Nat))) l[j] = false) (l.length) ?_ ?_
 · exact ⟨0, by omega, Ba, rfl, fun j hj h => absurd h (by omega)⟩
 rintro m e _ ⟨k, hm, hs8, rfl, hno⟩
 by_cases hlt : k < l.length
 ·refine AD (Ag 1) <| Ac <| Ah Aa (by first | rfl | exact dT (by omega)) ?_
  by_cases he : (z : Int) = l[k]
  ·refine Ak <| Ab <| Ac <| Aq <| AD (Ag 2) <| Ax (Ag 3) fun ds => Ad rfl (A1  AR Aa hl.plain Aa rfl hlt) <| Ad rfl (Ap AM Aa (hl.cell1 hlt rfl)) <| Aw (Ag 1) <| Ah Aa (dT he) <| AD (Ag 2) <| Au ?_
   refine A7 (Ay (Ay (A7 (Ay ?_))))
   refine Am rfl Bi ?_
   show _ = _
   rw [DV (p := (fun x => decide ((z : Int) = (x : Nat)))) hlt (dT he) hno]; rfl
  refine Ak <| Ab <| Ac <| Aq <| AD (Ag 2) <| Ax (Ag 3) fun ds => Ad rfl (A1  AR Aa hl.plain Aa rfl hlt) <| Ad rfl (Ap AM Aa (hl.cell1 hlt rfl)) <| Aw (Ag 1) <| Ae Aa (dF he) <| Ak <| A4 <| Ab <| Aj fun ds => Ad rfl (AJ Aa Aa rfl (by omega) (by omega)) <| Ao (Ag 1) <| Al ?_
  refine Ab ⟨_, m - 1, Off.eq (Ci rfl <| BF rfl <| BQ rfl <| A3), by omega, ?_⟩
  refine ⟨k + 1, by omega, Ba, rfl, fun j hj hjk => ?_⟩
  rcases Nat.lt_succ_iff_lt_or_eq.1 hjk with hjk | rfl
  · exact hno j hj hjk
  exact dF he
 refine AD (Ag 1) <| Ac <| Ae Aa (by first | rfl | exact dF (by omega)) <| AG ?_
 refine A2 <| A2 <| A8 <| Ab <| AD (Ag 1) <| Au <| Am rfl Bi ?_
 show _ = _
 rw [EH (p := (fun x => decide ((z : Int) = (x : Nat)))) (fun j hj => hno j hj (by omega))]; rfl
theorem E1 {F : Heap} {v : Value} {l : List Nat} (hl : Nats F v l) (z : Nat) : Ok Tryz.prog 72 [v, .int .i64 (z : Int)].toArray F fun r _ => r = .bool (decide (z ∈ l)) := by
 refine Ok.intro Tryz.func72 rfl Tryz.ntmps72 rfl fun w0 => AD (Ag 1) <| Ax (Ag 2) fun ds => AE rfl (As bd_104 Aa AO (SM hl z) (fun _ _ h => h)) <| Aw (Ag 2) <| Au <| Am rfl Bi ?_
 show _ = _
 rw [mem_any, ← E4]; rfl
theorem OV {F : Heap} (z : Int) : Ok Tryz.prog 135 [.int .i64 z].toArray F fun r _ => r = .bool false := by
 refine Ok.intro Tryz.func135 rfl Tryz.ntmps135 rfl fun w0 => AD (Ag 1) <| AD (Ag 4) <| Au <| Am rfl Bi ?_
 show _ = _
 simp [outOf]
theorem UX {F : Heap} (a b : Int) : Ok Tryz.prog 107 [.int .i64 a, .int .i64 b].toArray F fun r _ => r = .int .i64 (cmpZ a b) := by
 refine Ok.intro Tryz.func107 rfl Tryz.ntmps107 rfl fun w0 => AD (Ag 1) <| Ax (Ag 1) fun ds => AE rfl (As Vs Aa AO (OV _) (fun _ _ h => h)) <| Aw (Ag 1) <| Ax (Ag 1) fun ds => AE rfl (As Vs Aa AO (OV _) (fun _ _ h => h)) <| Aw (Ag 1) <| Ac <| AD (Ag 1) <| Ae Aa rfl <| Ak <| Ab <| Ac <| AD (Ag 1) <| Ae Aa rfl ?_
 by_cases h1 : a < b
 ·refine Ak <| Ab <| Ac <| AD (Ag 3) <| Ah Aa (by first | rfl | exact dT (by omega)) <| AD (Ag 1) <| Au <| Ay <| Am rfl Bi ?_
  show _ = _
  unfold cmpZ; rw [if_pos h1]; rfl
 refine Ak <| Ab <| Ac <| AD (Ag 3) <| Ae Aa (by first | rfl | exact dF (by omega)) ?_
 by_cases h2 : b < a
 ·refine Ak <| Ab <| Ac <| AD (Ag 3) <| Ah Aa (by first | rfl | exact dT (by omega)) <| AD (Ag 1) <| Au <| Ay <| Am rfl Bi ?_
  show _ = _
  unfold cmpZ; rw [if_neg h1, if_pos h2]; rfl
 refine Ak <| Ab <| Ac <| AD (Ag 3) <| Ae Aa (by first | rfl | exact dF (by omega)) <| Ak <| Ab <| AD (Ag 1) <| Au <| Am rfl Bi ?_
 show _ = _
 unfold cmpZ; rw [if_neg h1, if_neg h2]; rfl
theorem Dh {F : Heap} {v u : Value} {xs ys : List Nat} (hx : Nats F v xs) (hy : Nats F u ys) : Ok Tryz.prog 77 [v, u].toArray F fun r _ => r = .int .i64 (cmpL xs ys) := by
 refine Ok.intro Tryz.func77 rfl Tryz.ntmps77 rfl fun w0 => ?_
 have hlen := hx.plain.lt
 have hlen2 := hy.plain.lt
 refine AD (Ag 1) <| Ac <| Ax (Ag 1) fun ds => Ad rfl (AA AR Aa hx.plain) <| Aw (Ag 1) <| Aq ?_
 refine AH [4, 5, 6, 7, 8, 11, 12, 13, 14, 15, 16, 17, 18, 19, 20, 21, 22, 23, 24, 25, 26, 27, 28, 29, 30] (fun m e σ => ∃ k : Nat, m + k = xs.length ∧ k ≤ ys.length ∧ Fct e 11 (.int .i64 k) ∧ σ = ⟨F, []⟩ ∧ xs.take k = ys.take k) (xs.length) ?_ ?_
 · exact ⟨0, by omega, by omega, Ba, rfl, rfl⟩
 rintro m e _ ⟨k, hm, hk, hs11, rfl, htk⟩
 by_cases hlt : k < xs.length
 ·refine AD (Ag 1) <| Ac <| Ah Aa (by first | rfl | exact dT (by omega)) ?_
  by_cases hlt2 : k < ys.length
  ·refine Ak <| Ab <| Ac <| Aq <| Ax (Ag 1) fun ds => Ad rfl (A1  AR Aa hx.plain Aa rfl hlt) <| Ad rfl (Ap AM Aa (hx.cell1 hlt rfl)) <| Aw (Ag 2) <| Ac <| Ax (Ag 2) fun ds => Ad rfl (AA AR Aa hy.plain) <| Aw (Ag 1) <| Ae Aa (by first | rfl | exact dF (by omega)) ?_
   by_cases hc : cmpZ xs[k] ys[k] = 0
   ·refine Ak <| Ab <| Ax (Ag 2) fun ds => Ad rfl (A1  AR Aa hy.plain Aa rfl hlt2) <| Ad rfl (Ap AM Aa (hy.cell1 hlt2 rfl)) <| Aw (Ag 1) <| Ax (Ag 2) fun ds => AE rfl (As V9 Aa AO (UX _ _) (fun _ _ h => h)) <| Aw (Ag 1) <| AD (Ag 2) <| Ae Aa (dF (by simpa using hc)) <| Ak <| A4 <| Ab <| Aj fun ds => Ad rfl (AJ Aa Aa rfl (by omega) (by omega)) <| Ao (Ag 1) <| Al ?_
    refine Ab ⟨_, m - 1, Off.eq (Bx rfl <| BI rfl <| BF rfl <| BQ rfl <| A3), by omega, ?_⟩
    exact ⟨k + 1, by omega, by omega, Ba, rfl, DF hlt hlt2 htk (by have := Tg hc; omega)⟩
   refine Ak <| Ab <| Ax (Ag 2) fun ds => Ad rfl (A1  AR Aa hy.plain Aa rfl hlt2) <| Ad rfl (Ap AM Aa (hy.cell1 hlt2 rfl)) <| Aw (Ag 1) <| Ax (Ag 2) fun ds => AE rfl (As V9 Aa AO (UX _ _) (fun _ _ h => h)) <| Aw (Ag 1) <| AD (Ag 2) <| Ah Aa (dT hc) <| AD (Ag 2) <| Au ?_
   refine A7 (Ay (Ay (A7 (Ay ?_))))
   refine Am rfl Bi ?_
   show _ = _
   rw [cmpL_at hlt hlt2 htk hc]; rfl
  refine Ak <| Ab <| Ac <| Aq <| Ax (Ag 1) fun ds => Ad rfl (A1  AR Aa hx.plain Aa rfl hlt) <| Ad rfl (Ap AM Aa (hx.cell1 hlt rfl)) <| Aw (Ag 2) <| Ac <| Ax (Ag 2) fun ds => Ad rfl (AA AR Aa hy.plain) <| Aw (Ag 1) <| Ah Aa (by first | rfl | exact dT (by omega)) <| AD (Ag 1) <| Au ?_
  refine Ay (A7 (Ay (Ay (A7 (Ay ?_)))))
  refine Am rfl Bi ?_
  show _ = _
  rw [Th hlt (by omega) htk]; rfl
 refine AD (Ag 1) <| Ac <| Ae Aa (by first | rfl | exact dF (by omega)) ?_
 obtain rfl : k = xs.length := by omega
 by_cases h2 : xs.length < ys.length
 ·refine AG ?_
  refine A2 <| A2 <| A8 <| Ab <| Ac <| Ax (Ag 1) fun ds => Ad rfl (AA AR Aa hx.plain) <| Ao (Ag 1) <| Ad rfl (AA AR Aa hy.plain) <| Aw (Ag 1) <| Ah Aa (by first | rfl | exact dT (by omega)) <| AD (Ag 1) <| Au <| Ay <| Am rfl Bi ?_
  show _ = _
  rw [MK hk htk, if_pos h2]; rfl
 refine AG ?_
 refine A2 <| A2 <| A8 <| Ab <| Ac <| Ax (Ag 1) fun ds => Ad rfl (AA AR Aa hx.plain) <| Ao (Ag 1) <| Ad rfl (AA AR Aa hy.plain) <| Aw (Ag 1) <| Ae Aa (by first | rfl | exact dF (by omega)) <| Ak <| Ab <| AD (Ag 1) <| Au <| Am rfl Bi ?_
 show _ = _
 rw [MK hk htk, if_neg h2]; rfl
theorem clip_ok {F : Heap} {v : Value} {l : List Nat} (hl : Nats F v l) : Ok Tryz.prog 71 [v].toArray F fun r _ => r = clipV v := by
 refine Ok.intro Tryz.func71 rfl Tryz.ntmps71 rfl fun w0 => AD (Ag 1) <| Ax (Ag 2) fun ds => Ad rfl (AA AR Aa hl.plain) <| Ao (Ag 1) <| Ad rfl (AA AR Aa hl.plain) <| Ad rfl (TQ AR Aa hl.plain Aa rfl Aa rfl) <| Aw (Ag 1) <| Au <| Am rfl Bi ?_
 rfl
theorem T3 {F : Heap} {b c1 c8 c3 : Nat} {vb vr vs vq vl : Value} {r : Room} (hX : RoomX num F b c1 c8 c3 vb vr vs vq vl r) (hv : Valid r) {v : Value} {l : List Nat} (hl : Nats F v l) (hlt2 : ∀ i ∈ l, i < r.reqs.length) : Ok Tryz.prog 93 [.pointer (some ⟨b, 0, none⟩), v].toArray F fun u _ => u = .int .i64 (worthL r l) := by
 refine Ok.intro Tryz.func93 rfl Tryz.ntmps93 rfl fun w0 => ?_
 have hlen := hl.plain.lt
 refine AD (Ag 1) <| Ac <| Ax (Ag 1) fun ds => Ad rfl (AA AR Aa hl.plain) <| Aw (Ag 1) <| Aq ?_
 refine AH [4, 6, 9, 10, 11, 12, 13, 14, 15, 16, 17, 18, 19, 20, 21, 22, 23, 24] (fun m e σ => ∃ k : Nat, m + k = l.length ∧ Fct e 9 (.int .i64 k) ∧ Fct e 4 (.int .i64 (worthL r (l.take k))) ∧ σ = ⟨F, []⟩) (l.length) ?_ ?_
 · exact ⟨0, by omega, Ba, Ba, rfl⟩
 rintro m e _ ⟨k, hm, hs9, hs4, rfl⟩
 by_cases hlt : k < l.length
 ·refine AD (Ag 1) <| Ac <| Ah Aa (by first | rfl | exact dT (by omega)) ?_
  have hlk := hlt2 _ (List.getElem_mem hlt)
  have hwb := Et hv (l := l.take (k + 1)) (fun i hi => hlt2 i (List.mem_of_mem_take hi))
  rw [List.length_take] at hwb
  refine Ak <| Ab <| Ac <| Aq <| Ac <| Aj fun ds => Ad rfl (A1  AR Aa hl.plain Aa rfl hlt) <| Ad rfl (Ap AM Aa (hl.cell1 hlt rfl)) <| Aw (Ag 1) <| Aj fun ds => Ao (Ag 2) <| Ad rfl (BL Aa) <| Ao (Ag 2) <| Ad rfl (Ap DP Aa (AP hX.blk rfl)) <| Ao (Ag 1) <| Ad rfl (A1  Cw Aa hX.room.reqs.plain Aa rfl hlk) <| Ao (Ag 1) <| Ad rfl (Ap AM Aa (hX.room.reqs.cell hlk rfl)) <| Ad rfl (AJ Aa Aa (show worthL r (l.take k) + r.reqs[l[k]].worth = worthL r (l.take (k + 1)) by rw [NS hlt, KQ hlk]) (by omega) (by omega)) <| Ao (Ag 1) <| Al <| A4 <| Ab <| Aj fun ds => Ad rfl (AJ Aa Aa rfl (by omega) (by omega)) <| Ao (Ag 1) <| Al ?_
  refine Ab ⟨_, m - 1, Off.eq (Bx rfl <| BF rfl <| A3), by omega, ?_⟩
  exact ⟨k + 1, by omega, Ba, Ba, rfl⟩
 refine AD (Ag 1) <| Ac <| Ae Aa (by first | rfl | exact dF (by omega)) <| AG ?_
 refine A2 <| A2 <| A8 <| Ab <| AD (Ag 2) <| Au <| Am rfl Bi ?_
 show _ = _
 rw [show l.take k = l from List.take_of_length_le (by omega)]; rfl
def lenTab : ByteArray := ⟨#[0, 1, 2, 2, 3, 3, 3, 3, 4, 4, 4, 4, 4, 4, 4, 4, 5, 5, 5, 5, 5, 5, 5, 5, 5, 5, 5, 5, 5, 5, 5, 5, 6, 6, 6, 6, 6, 6, 6, 6, 6, 6, 6, 6, 6, 6, 6, 6, 6, 6, 6, 6, 6, 6, 6, 6, 6, 6, 6, 6, 6, 6, 6, 6, 7, 7, 7, 7, 7, 7, 7, 7, 7, 7, 7, 7, 7, 7, 7, 7, 7, 7, 7, 7, 7, 7, 7, 7, 7, 7, 7, 7, 7, 7, 7, 7, 7, 7, 7, 7, 7, 7, 7, 7, 7, 7, 7, 7, 7, 7, 7, 7, 7, 7, 7, 7, 7, 7, 7, 7, 7, 7, 7, 7, 7, 7, 7, 7, 8, 8, 8, 8, 8, 8, 8, 8, 8, 8, 8, 8, 8, 8, 8, 8, 8, 8, 8, 8, 8, 8, 8, 8, 8, 8, 8, 8, 8, 8, 8, 8, 8, 8, 8, 8, 8, 8, 8, 8, 8, 8, 8, 8, 8, 8, 8, 8, 8, 8, 8, 8, 8, 8, 8, 8, 8, 8, 8, 8, 8, 8, 8, 8, 8, 8, 8, 8, 8, 8, 8, 8, 8, 8, 8, 8, 8, 8, 8, 8, 8, 8, 8, 8, 8, 8, 8, 8, 8, 8, 8, 8, 8, 8, 8, 8, 8, 8, 8, 8, 8, 8, 8, 8, 8, 8, 8, 8, 8, 8, 8, 8, 8, 8, 8, 8, 8, 8, 8, 8, 8, 8, 8, 8, 8, 8, 8, 8]⟩
theorem Qq : (List.range 256).all (fun n => decide (n < 2 ^ (lenTab.data.getD n 0).toNat) && decide ((lenTab.data.getD n 0).toNat ≤ 8)) = true := by kernel_rfl
theorem SE {n : Nat} (hn : n < 256) : ∃ h : n < lenTab.size, n < 2 ^ (lenTab[n]'h).toNat ∧ (lenTab[n]'h).toNat ≤ 8 := by
 have hs : lenTab.size = 256 := by kernel_rfl
 refine ⟨by omega, ?_⟩
 have := List.all_eq_true.1 Qq n (by simpa using hn)
 simp only [Bool.and_eq_true, decide_eq_true_eq] at this
 have e : lenTab.data.getD n 0 = lenTab[n]'(by omega) := by
   have : n < lenTab.data.size := by have : lenTab.data.size = 256 := hs; omega
   simp only [Array.getD, this, dif_pos]; rfl
 rw [e] at this
 exact this
theorem Uw {F : Heap} {n : Nat} (hn : n < 256) : Ok Tryz.prog 134 [.int .u64 (n : Int)].toArray F fun r _ => ∃ q : Nat, r = .int .i64 q ∧ n < 2 ^ q ∧ q ≤ 8 := by
 refine Ok.intro Tryz.func134 rfl Tryz.ntmps134 rfl fun w0 => ?_
 obtain ⟨hs, hq1, hq2⟩ := SE hn
 refine AD (Ag 1) <| Ac <| AD (Ag 2) <| Ae Aa (by first | rfl | exact dF (by omega)) <| Ak <| Ab <| Ac <| AD (Ag 2) <| Ae Aa (by first | rfl | exact dF (by omega)) <| Ak <| Ab <| Ac <| AD (Ag 2) <| Ae Aa (by first | rfl | exact dF (by omega)) <| Ak <| Ab <| Ax (Ag 2) fun ds => Ad rfl (Cl ⟨_, Tryz.underlying222⟩ Tryz.underlying5 Aa (IntWalk.u8_in _ ⟨by omega, by omega⟩)) <| Ad rfl (BJ (s := lenTab) Tryz.underlying9 Aa Aa rfl hs) <| Ad rfl (q_convB ⟨_, Tryz.underlying5⟩ Tryz.underlying3 Aa) <| Ad rfl (q_addB Aa Aa (by decide) (by decide)) <| Aw (Ag 1) <| Au <| Am rfl Bi ?_
 exact ⟨_, congrArg (Value.int .i64) (Int.zero_add _), hq1, hq2⟩
theorem len_ok {F : Heap} {n : Nat} (hn : n < 256) : Ok Tryz.prog 101 [.int .u64 (n : Int)].toArray F fun r _ => ∃ q : Nat, r = .int .i64 q ∧ n < 2 ^ q ∧ q ≤ 8 := by
 refine Ok.intro Tryz.func101 rfl Tryz.ntmps101 rfl fun w0 => AD (Ag 1) <| Ac <| Ae Aa rfl <| Ak <| Ab <| Ax (Ag 1) fun ds => A5 rfl <| Bb Vt Aa AO (Uw hn) fun v1 F2 hr3 hF4 => ?_
 obtain ⟨q, rfl, hq1, hq2⟩ := hr3
 refine Aw (Ag 1) <| Au <| Am rfl Bi ?_
 exact ⟨q, rfl, hq1, hq2⟩
theorem Ry {F : Heap} {n : Nat} (hn : n < 256) : Ok Tryz.prog 106 [.int .i64 (n : Int)].toArray F fun u F' => Nats F' u (bitsL n) := by
 refine Ok.intro Tryz.func106 rfl Tryz.ntmps106 rfl fun w0 => AD (Ag 1) <| Ac <| Ax (Ag 1) fun ds => Ad rfl (Cl ⟨_, Tryz.underlying3⟩ Tryz.underlying188 Aa (IntWalk.u64_in _ ⟨by omega, by omega⟩)) <| A5 rfl <| Bb VD Aa AO (len_ok hn) fun v1 F2 hr3 hF4 => ?_
 obtain ⟨q, rfl, hq1, hq2⟩ := hr3
 refine Aw (Ag 1) <| Aq ?_
 refine AH [2, 3, 7, 8, 9, 10, 11, 12, 13, 14, 15, 16, 17, 18, 19] (fun m e σ => ∃ k : Nat, m + k = q ∧ Fct e 7 (.int .i64 k) ∧ ∃ v R, Fct e 2 v ∧ Own 3 1 v (bitsTo n k).length ((bitsTo n k).flatMap natE) R ∧ σ = ⟨F2, R⟩) (q) ?_ ?_
 · exact ⟨0, by omega, Ba, _, _, Ba, Own.nil, rfl⟩
 rintro m e _ ⟨k, hm, hs7, v2, R2, hs2, ho, rfl⟩; have hbl := Fa (set := n) (k := k)
 by_cases hlt : k < q
 ·refine AD (Ag 1) <| Ac <| Ah Aa (by first | rfl | exact dT (by omega)) ?_
  by_cases hb : n.testBit k = true
  ·refine Ak <| Ab <| Ac <| Aq <| AD (Ag 2) <| Ax (Ag 2) fun ds => Ad rfl (FR Aa Aa rfl (by show k < 64; omega) EP) <| Ad rfl (GW Aa Aa (m := n / 2 ^ k) (k := 1) rfl rfl (by have := Nat.div_le_self n (2 ^ k); omega) (by omega) rfl) <| Aw (Ag 1) <| Ah Aa (by rw [C0]; exact hb) <| Aj fun ds => Ao (Ag 2) <| A5 rfl <| AS AR B3 rfl (.cons Aa .nil) rfl rfl (by decide) (by simp [Value.oneCell']) fun b6 hb6 nb6 => A5 rfl <| Bd AR GR Aa ho Aa (Bv (s := 1) 0 rfl rfl (by simp [Value.oneCell'])) (by omega) (by omega) (.s <| .z) .last fun v7 R8 ho9 => ?_
   have ho2 := ho9.snoc (x := k) rfl rfl
   refine Ao (Ag 1) <| Al <| A4 <| Ab <| Bk (fun _ _ h => h.drop (kD <| .refl _)) <| Aj fun ds => Ad rfl (AJ Aa Aa rfl (by omega) (by omega)) <| Ao (Ag 1) <| Al ?_
   refine Ab ⟨_, m - 1, Off.eq (Ci rfl <| BI rfl <| BF rfl <| BQ rfl <| A3), by omega, ?_⟩
   refine ⟨k + 1, by omega, Ba, _, _, Ba, by rw [Em, if_pos hb]; exact ho2, rfl⟩
  refine Ak <| Ab <| Ac <| Aq <| AD (Ag 2) <| Ax (Ag 2) fun ds => Ad rfl (FR Aa Aa rfl (by show k < 64; omega) EP) <| Ad rfl (GW Aa Aa (m := n / 2 ^ k) (k := 1) rfl rfl (by have := Nat.div_le_self n (2 ^ k); omega) (by omega) rfl) <| Aw (Ag 1) <| Ae Aa (by rw [C0]; simpa using hb) <| Ak <| A4 <| Ab <| Aj fun ds => Ad rfl (AJ Aa Aa rfl (by omega) (by omega)) <| Ao (Ag 1) <| Al ?_
  refine Ab ⟨_, m - 1, Off.eq (Ci rfl <| BF rfl <| A3), by omega, ?_⟩
  exact ⟨k + 1, by omega, Ba, _, _, Ba, by rw [Em, if_neg hb]; exact ho, rfl⟩
 refine AD (Ag 1) <| Ac <| Ae Aa (by first | rfl | exact dF (by omega)) ?_
 obtain rfl : k = q := by omega
 refine Bo (σ := ⟨_, _⟩) (by rfl) ho (.z) .last fun F10 hF11 hz12 => ?_
 have hn2 := ho.sl (fun _ => rfl) hz12 (by have := Fa (set := n) (k := k); omega)
 refine AG ?_
 refine A2 <| A2 <| A8 <| Ab <| AD (Ag 2) <| Au <| Am rfl Bi ?_
 show Nats _ _ _
 rw [← QL hq2 hq1]; exact hn2
end
end Go.Proofs.YtkjfmibiinfhfaaGreat
