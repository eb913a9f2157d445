/-
  A part of a proof: TopDated returns true of any case of paper, any stem and any past, and leaves what it is handed as it was. No conditions.
-/
import Derived.Test.YtkjfmibiinfhfabGreatPad
import Derived.KernelRfl
import Derived.RangeFuncNested
namespace Go.Proofs.YtkjfmibiinfhfabGreat
set_option synthInstance.maxSize 4000
set_option synthInstance.maxHeartbeats 1000000
section
set_option maxHeartbeats 2000000
set_option maxRecDepth 100000
open Go.RowKit
theorem Np : ElemT Tryz.prog 44 1 24 (.slice none 0 0) := EA (by kernel_rfl) rfl (by decide)
instance : FieldI Tryz.prog 36 0 0 := ⟨Bd (by kernel_rfl)⟩
theorem Oi : FieldT Tryz.prog 36 1 1 := Bd (by kernel_rfl)
instance : FieldI Tryz.prog 36 1 1 := ⟨Oi⟩
instance : FieldI Tryz.prog 36 2 2 := ⟨Bd (by kernel_rfl)⟩
theorem Oh : FieldT Tryz.prog 36 3 3 := Bd (by kernel_rfl)
instance : FieldI Tryz.prog 36 3 3 := ⟨Oh⟩
theorem Lz : OneT Tryz.prog 34 := BI (by kernel_rfl)
instance : OneI Tryz.prog 34 := ⟨Lz⟩
theorem Bt : SliceT Tryz.prog 45 44 1 := Co (by kernel_rfl)
instance : SliceI Tryz.prog 45 := ⟨_, _, Bt⟩
theorem told_ok {F : Heap} {vp ve : Value} {ps : List (Value × Edn)} {s : Stm} (hr : StmR F vp ve ps s) (hv : ValidT s) {v0 v1 v2 v3 : Value} {xa xb xc xd : List Nat} (h0s : Sl F v0 1 u8E xa) (h0b : ∀ x ∈ xa, x < 256) (h1s : Sl F v1 1 u8E xb) (h1b : ∀ x ∈ xb, x < 256) (h2s : Sl F v2 1 u8E xc) (h2b : ∀ x ∈ xc, x < 256) (h3s : Sl F v3 1 u8E xd) (h3b : ∀ x ∈ xd, x < 256) : Ok Tryz.prog 9 [.agg #[vp, ve], .agg #[v0, v1, v2, v3]].toArray F fun u F' => ∃ l Y R c vl ve' ps' vy, u = .tuple #[.agg #[vp, ve'], vl, .int .i64 c, vy] ∧ Ints F' vl l ∧ l.length = ps.length ∧ IsTree l ∧ ToldI s l Y R c ∧ StmR F' vp ve' ps' (toldS s xd Y R) ∧ Ints F' vy (iL Y ps.length) := by
 have hle0 : F.le F := Heap.le_refl _
 refine Ok.intro Tryz.func9 rfl Tryz.ntmps9 rfl fun w0 => ?_
 have hnp := hv.np
 have hne := hv.ne
 have hlen := hr.len
 have hL1 := hr.eds.plain.lt
 have hL2 := hr.places.plain.lt
 refine Ac <| Al fun ds => A3 rfl <| Bc Aa rfl fun b1 hb1 nb1 => A3 rfl <| Bc Aa rfl fun b2 hb2 nb2 => A3 rfl <| AN MA rfl fun b3 hb3 nb3 => As (Ae 3) <| Aw (Ae 2) fun ds => Af rfl (A6 Bl Aa hr.eds.plain) <| As (Ae 1) <| Aw (Ae 3) fun ds => A3 rfl <| Be bd_45 Aa AY (UC h0s h0b (many := ps.length) (by omega) (by omega)) fun v4 F5 hr6 hF7 => ?_
 replace hr := hr.mono hF7
 replace h1s := h1s.mono hF7
 replace h2s := h2s.mono hF7
 replace h3s := h3s.mono hF7
 replace hle0 := Heap.le_trans hle0 hF7
 obtain ⟨l, hl, hll0, ht⟩ := hr6
 have hll : l.length = s.editions.length := by omega
 obtain ⟨v9, hv9⟩ : ∃ y, y = v4 := ⟨_, rfl⟩
 subst hv9
 refine As (Ae 1) <| Ac <| Al fun ds => A3 rfl <| FW Bl fun b8 hb8 nb8 => Ao (Ae 2) <| A3 rfl <| Bi Bl VN Aa (CR rfl) Aa (NG hr.eds hr.one) (by omega) (by omega) (.z) .box fun v9 R10 ho11 => ?_
 have ho10 : Own 59 4 v9 ps.length (ps.flatMap edE) R10 := by simpa using ho11
 obtain ⟨v10, hv10⟩ : ∃ y, y = v9 := ⟨_, rfl⟩
 subst hv10
 refine As (Ae 1) <| Aw (Ae 1) fun ds => A3 rfl <| NA (k := ps.length) A7 D5 rfl rfl Aa Aa rfl (by omega) (by omega) fun b12 hb12 nb12 => As (Ae 1) <| Aw (Ae 1) fun ds => A3 rfl <| NA (k := ps.length) Bt Np rfl rfl Aa Aa rfl (by omega) (by omega) fun b13 hb13 nb13 => As (Ae 1) <| AI (Ae 1) <| Ac <| Ac ?_
 obtain ⟨ρ, hρn, hρs⟩ := QE ht
 refine Cl (.one (.here) <| .one (.here) <| .one (.skip <| .here) <| .one (.skip <| .here) <| .one (.lastS) <| .lastb (.last)) <| Al fun ds => As (Ae 1) <| Ak ?_
 refine AJ [13, 14, 15, 16, 17, 18, 19, 37, 38, 39, 40, 41, 42, 43, 44, 45, 46, 47, 48, 49, 50, 51, 52, 53, 54, 55, 56, 57, 58, 59, 60, 61, 62, 63, 64, 65, 66, 67, 68, 69, 70, 71, 72, 73, 74, 75, 76, 77, 78, 79, 80, 81, 82, 83, 84, 85, 86, 87, 88, 89, 90, 91, 92, 93, 94, 95, 96, 97, 98, 99, 100, 101, 102, 103, 104, 105, 106, 107, 108, 109, 110, 111, 112, 113, 114, 115, 116, 117, 118, 119, 120, 121, 122, 123, 124, 125, 126, 127, 128, 129, 130, 131, 132, 133, 134, 135, 136, 137, 138, 139, 140, 141, 142, 143, 144, 145, 146, 147, 148, 149, 150, 151, 152, 153, 154, 155, 156, 157, 158, 159, 160, 161, 162, 163, 164, 165, 166, 167, 168] (fun m e σ => ∃ rn : Nat, m + rn = ps.length ∧ Fct e 14 (.int .i64 (rn : Int)) ∧ ∃ c D Y R W G, F.le G ∧ StmR G vp ve ps s ∧ Ints G v9 l ∧ Sl G v1 1 u8E xb ∧ Sl G v2 1 u8E xc ∧ Sl G v3 1 u8E xd ∧ TellR G ps.length W D R ∧ Fct e 13 (.int .i64 c) ∧ TellI s l ρ D Y R c ∧ (∀ i, i < l.length → ρ i < rn → D i = true) ∧ σ = ⟨G, (b13, bx 44 ((vL W ps.length).flatMap valE)) :: (b12, bx 3 ((iL Y ps.length).flatMap intE)) :: (b3, bx 30 [.slice none 0 0, .slice none 0 0]) :: (b2, bx 36 [v0, v1, v2, v3]) :: (b1, bx 30 [vp, ve]) :: R10⟩) (ps.length) ?_ ?_
 · exact ⟨0, by omega, Bb, 0, fun _ => false, fun _ => 0, fun _ => [], fun _ => .slice none 0 0, _, hle0, hr, hl, h1s, h2s, h3s, TellR.start, Bb, TellI.start, fun i hi h => absurd h (by omega), by rw [← vL_zero, ← S1]⟩
 rintro m e _ ⟨rn, hm, hs14, c, D, Y, R, W, G1, hle0, hr, hl, h1s, h2s, h3s, hT, hs13, hI, hcov, rfl⟩; have hcb := hI.bound (by omega) (by omega)
 by_cases hlt : rn < ps.length
 ·refine Ac <| AI (Ae 3) <| Ag Aa (by first | rfl | exact dT (by omega)) <| Aj <| Ab <| Ac <| Ak <| AI (Ae 1) <| Ak ?_
  refine AJ [13, 15, 16, 17, 18, 19, 42, 43, 44, 45, 46, 47, 48, 49, 50, 51, 52, 53, 54, 55, 56, 57, 58, 59, 60, 61, 62, 63, 64, 65, 66, 67, 68, 69, 70, 71, 72, 73, 74, 75, 76, 77, 78, 79, 80, 81, 82, 83, 84, 85, 86, 87, 88, 89, 90, 91, 92, 93, 94, 95, 96, 97, 98, 99, 100, 101, 102, 103, 104, 105, 106, 107, 108, 109, 110, 111, 112, 113, 114, 115, 116, 117, 118, 119, 120, 121, 122, 123, 124, 125, 126, 127, 128, 129, 130, 131, 132, 133, 134, 135, 136, 137, 138, 139, 140, 141, 142, 143, 144, 145, 146, 147, 148, 149, 150, 151, 152, 153, 154, 155, 156, 157, 158, 159, 160, 161, 162, 163, 164, 165, 166, 167, 168] (fun m e σ => ∃ j : Nat, m + j = ps.length ∧ Fct e 15 (.int .i64 (j : Int)) ∧ ∃ c D Y R W G, F.le G ∧ StmR G vp ve ps s ∧ Ints G v9 l ∧ Sl G v1 1 u8E xb ∧ Sl G v2 1 u8E xc ∧ Sl G v3 1 u8E xd ∧ TellR G ps.length W D R ∧ Fct e 13 (.int .i64 c) ∧ TellI s l ρ D Y R c ∧ (∀ i, i < l.length → (ρ i < rn ∨ (ρ i = rn ∧ i < j)) → D i = true) ∧ σ = ⟨G, (b13, bx 44 ((vL W ps.length).flatMap valE)) :: (b12, bx 3 ((iL Y ps.length).flatMap intE)) :: (b3, bx 30 [.slice none 0 0, .slice none 0 0]) :: (b2, bx 36 [v0, v1, v2, v3]) :: (b1, bx 30 [vp, ve]) :: R10⟩) (ps.length) ?_ ?_
  · exact ⟨0, by omega, Bb, c, D, Y, R, W, _, hle0, hr, hl, h1s, h2s, h3s, hT, Bb, hI, fun i hi h => hcov i hi (by omega), rfl⟩
  rintro m2 e2 _ ⟨j, hm2, ht15, c, D, Y, R, W, G2, hle0, hr, hl, h1s, h2s, h3s, hT, ht13, hI, hcov, rfl⟩; have hcb := hI.bound (by omega) (by omega)
  by_cases hlt2 : j < ps.length
  ·have hjn := hlt2
   have hjl : j < l.length := by omega
   have hyj : (iL Y ps.length)[j]'(by rw [Bp]; exact hjn) = Y j := LD _
   refine Ac <| AI (Ae 3) <| Ag Aa (by first | rfl | exact dT (by omega)) ?_
   by_cases hDj : D j = true
   ·have hyb := hI.lo j hjl hDj
    refine Aj <| Ab <| Ac <| Ak <| Ac <| Aw (Ae 2) fun ds => Af rfl (Ax (k := j) A7 Aa (BH (Nat.le_refl _) (by omega)) Aa rfl hjn) <| Af rfl (Ah AA Aa (C9 1 rfl (LC hjn))) <| Ao (Ae 2) <| Ar rfl rfl Aa (.inl (congrArg Value.bool (dT (by omega)))) rfl <| Ar rfl rfl Aa (.inl (congrArg Value.bool (dT (by omega)))) rfl <| Ar rfl rfl Aa (.inl (congrArg Value.bool (dT (by omega)))) rfl <| Ar rfl rfl Aa (.inl (congrArg Value.bool (dT (by omega)))) rfl <| Ar rfl rfl Aa (.inl (congrArg Value.bool (dT (by omega)))) rfl <| Ar rfl rfl Aa (.inl (congrArg Value.bool (dT (by omega)))) rfl <| Ar rfl rfl Aa (.inr rfl) rfl <| Ar rfl rfl Aa (.inr rfl) rfl <| Ar rfl rfl Aa (.inr rfl) rfl <| Ar rfl rfl Aa (.inr rfl) rfl <| Ar rfl rfl Aa (.inr rfl) rfl <| Ar rfl rfl Aa (.inr rfl) rfl <| Ar rfl rfl Aa (.inr rfl) rfl <| Ar rfl rfl Aa (.inr rfl) rfl <| Ar rfl rfl Aa (.inl (congrArg Value.bool (dT (by omega)))) rfl <| Af rfl (Au Aa (dT (by omega)) Aa) <| Am <| Ab <| Ag Aa rfl <| AC <| A0 <| A4 <| Ab <| Al fun ds => Ao (Ae 1) <| Af rfl (AE Aa Aa rfl (by omega) (by omega)) <| Ao (Ae 1) <| Am ?_
    refine Ab ⟨_, m2 - 1, Off.eq (B3 rfl <| BT rfl <| Ci rfl <| A2), by omega, ?_⟩
    exact ⟨j + 1, by omega, Bb, c, D, Y, R, W, _, hle0, hr, hl, h1s, h2s, h3s, hT, Bb, hI, fun i hi h => by by_cases e : i = j; subst e; exact hDj; exact hcov i hi (by omega), rfl⟩
   replace hDj : D j = false := by simpa using hDj
   have hyz := hI.no j hjl hDj
   refine Aj <| Ab <| Ac <| Ak <| Ac <| Aw (Ae 2) fun ds => Af rfl (Ax (k := j) A7 Aa (BH (Nat.le_refl _) (by omega)) Aa rfl hjn) <| Af rfl (Ah AA Aa (C9 1 rfl (LC hjn))) <| Ao (Ae 2) <| Ap rfl rfl Aa (dF (by omega)) <| Ao (Ae 1) <| Ap rfl rfl Aa (dF (by omega)) <| Ao (Ae 1) <| Ap rfl rfl Aa (dF (by omega)) <| Af rfl (Ax (k := j) A7 Aa hl.plain Aa rfl hjl) <| Ap rfl rfl Aa (dF (by omega)) <| Af rfl (Ah AA Aa (hl.cell1 hjl rfl)) <| Ap rfl rfl Aa (dF (by omega)) <| Ao (Ae 1) <| Ap rfl rfl Aa (dF (by omega)) <| Ao (Ae 1) ?_
   by_cases hu0 : upN l j = -1
   ·refine Ar rfl rfl Aa (.inl (congrArg Value.bool (by rw [BR hjl]; exact dF (fun h => h hu0)))) rfl <| Ar rfl rfl Aa (.inl (congrArg Value.bool (by rw [BR hjl]; exact dF (fun h => h hu0)))) rfl <| Ar rfl rfl Aa (.inl (congrArg Value.bool (by rw [BR hjl]; exact dF (fun h => h hu0)))) rfl <| Ar rfl rfl Aa (.inl (congrArg Value.bool (by rw [BR hjl]; exact dF (fun h => h hu0)))) rfl <| Ar rfl rfl Aa (.inl (congrArg Value.bool (by rw [BR hjl]; exact dF (fun h => h hu0)))) rfl <| Ar rfl rfl Aa (.inl (congrArg Value.bool (by rw [BR hjl]; exact dF (fun h => h hu0)))) rfl <| Ar rfl rfl Aa (.inl (congrArg Value.bool (by rw [BR hjl]; exact dF (fun h => h hu0)))) rfl <| Ar rfl rfl Aa (.inl (congrArg Value.bool (by rw [BR hjl]; exact dF (fun h => h hu0)))) rfl <| Ap rfl rfl Aa (dF (by omega)) <| Af rfl (A5 Aa (by rw [BR hjl]; exact dF (fun h => h hu0)) Aa) <| Af rfl (A5 Aa (dF (by omega)) Aa) <| Am <| Ab <| Ad Aa rfl ?_
    have hup : ∀ k : Nat, upN l j = (k : Int) → D k = true ∧ ρ k < ρ j ∧ k ≠ j := fun k hk => absurd (hu0.symm.trans hk) (by omega)
    have htb : turnN xb j < 256 := D0 h1b
    refine Aj <| Ab <| Aw (Ae 5) fun ds => AS rfl (Ay FT Aa AY (Dh h1s h1b (n := j) rfl) (fun _ _ h => h)) <| Af rfl (CE Aa Aa (Int.natCast_nonneg _) (by decide)) <| Af rfl (AE Aa Aa rfl (by omega) (by omega)) <| Af rfl (Ax (k := j) A7 Aa (BH (Nat.le_refl _) (by omega)) Aa rfl hjn) <| AV <| Ct Cc Aa (DC (c := j)) Aa (i := 1) rfl (by rw [GH]; omega) rfl (.next <| .here) <| Am <| Ab <| Ac <| Ac ?_
    rw [K6 hjn]
    refine Al fun ds => Ao (Ae 2) <| Af rfl (Ax (k := j) A7 Aa hl.plain Aa rfl hjl) <| Af rfl (Ah AA Aa (hl.cell1 hjl rfl)) <| As (Ae 1) ?_
    refine O3 [83, 84, 85, 86, 87, 88, 89, 90, 91, 92, 93, 94, 95, 96, 97, 98, 99] (fun st σ => ∃ y : Int, (upN l j = -1 → 1450 ≤ y ∧ y ≤ 1499) ∧ (∀ k : Nat, upN l j = (k : Int) → Y k < y ∧ y ≤ Y k + 50) ∧ σ = ⟨G2, (b13, bx 44 ((vL W ps.length).flatMap valE)) :: (b12, bx 3 ((iL (updA Y j y) ps.length).flatMap intE)) :: (b3, bx 30 [.slice none 0 0, .slice none 0 0]) :: (b2, bx 36 [v0, v1, v2, v3]) :: (b1, bx 30 [vp, ve]) :: R10⟩) ?_ ?_
    ·by_cases hu : decide (upN l j = -1) = true
     ·have hu := of_decide_eq_true hu
      refine Ad Aa (by rw [BR hjl]; exact dF (fun h => h hu)) <| Aj ?_
      refine Ab ⟨_, Off.eq (BV), ?_⟩
      exact ⟨_, fun _ => by omega, fun k hk => absurd (hu.symm.trans hk) (by omega), rfl⟩
     replace hu : decide (upN l j = -1) = false := by simpa using hu
     have hu := of_decide_eq_false hu
     obtain ⟨k, hku, hkl⟩ := ht.in_.nat hjl hu
     have hkn : k < ps.length := by omega
     have hlk : l[j] = (k : Int) := by rw [BR hjl, hku]
     have hDk := (hup k hku).1
     have hyb := hI.lo k hkl hDk
     have hrkb := hρn k hkl
     have hkj : k ≠ j := (hup k hku).2.2
     have hYk : updA Y j (1450 + ((turnN xb j : Nat) : Int) % 50) k = Y k := B7 hkj
     refine Ag Aa (by rw [BR hjl]; exact dT hu) ?_
     have hleS := hle0
     refine Bn (.inl rfl) (fun _ _ h => h) (kK <| kK <| kK <| kK <| kK <| .refl _) [17] (by kernel_rfl) fun ds => Ai 0 rfl (by kernel_rfl) (by kernel_rfl) (by kernel_rfl) (by kernel_rfl) rfl rfl (fun _ h => h.drop (kK <| kK <| kK <| kK <| kK <| .refl _)) (fun _ _ _ h => h) (A9 Aa) <| Ai 1 rfl (by kernel_rfl) (by kernel_rfl) (by kernel_rfl) (by kernel_rfl) rfl rfl (fun _ h => h.drop (kK <| kK <| kK <| kK <| kK <| .refl _)) (fun _ _ _ h => h) (A9 Aa) <| Ai 2 rfl (by kernel_rfl) (by kernel_rfl) (by kernel_rfl) (by kernel_rfl) rfl rfl (fun _ h => h.drop (kK <| kK <| kK <| kK <| kK <| .refl _)) (fun _ _ _ h => h) (A9 Aa) <| Ai 3 rfl (by kernel_rfl) (by kernel_rfl) (by kernel_rfl) (by kernel_rfl) rfl rfl (fun _ h => h.drop (kK <| kK <| kK <| kK <| kK <| .refl _)) (fun _ _ _ h => h) (A9 Aa) <| Ai 4 rfl (by kernel_rfl) (by kernel_rfl) (by kernel_rfl) (by kernel_rfl) rfl rfl (fun _ h => h.drop (kK <| kK <| kK <| kK <| kK <| .refl _)) (fun _ _ _ h => h) (A9 Aa) <| Ai 5 rfl (by kernel_rfl) (by kernel_rfl) (by kernel_rfl) (by kernel_rfl) rfl rfl (fun _ h => h.drop (kK <| kK <| kK <| kK <| kK <| .refl _)) (fun _ _ _ h => h) (Ax (k := j) A7 Aa hl.plain Aa rfl hjl) ?_
     refine Ai 6 rfl (by kernel_rfl) (by kernel_rfl) (by kernel_rfl) (by kernel_rfl) rfl rfl (fun _ h => h.drop (kK <| kK <| kK <| kK <| kK <| .refl _)) (fun _ _ _ h => h) (Ah AA Aa (hl.cell1 hjl rfl)) <| Ai 7 rfl (by kernel_rfl) (by kernel_rfl) (by kernel_rfl) (by kernel_rfl) rfl rfl (fun _ h => h.drop (kK <| kK <| kK <| kK <| kK <| .refl _)) (fun _ _ _ h => h) (Ax (k := k) A7 Aa (BH (Nat.le_refl _) (by omega)) Aa hlk hkn) <| Ai 8 rfl (by kernel_rfl) (by kernel_rfl) (by kernel_rfl) (by kernel_rfl) rfl rfl (fun _ h => h.drop (kK <| kK <| kK <| kK <| kK <| .refl _)) (fun _ _ _ h => h) (Ah AA Aa (C9 1 rfl (LC hkn))) <| Ai 9 rfl (by kernel_rfl) (by kernel_rfl) (by kernel_rfl) (by kernel_rfl) rfl rfl (fun _ h => h.drop (kK <| kK <| kK <| kK <| kK <| .refl _)) (fun _ _ _ h => h) (AE Aa Aa rfl (by omega) (by omega)) <| Ai 10 rfl (by kernel_rfl) (by kernel_rfl) (by kernel_rfl) (by kernel_rfl) rfl rfl (fun _ h => h.drop (kK <| kK <| kK <| kK <| kK <| .refl _)) (fun _ _ _ h => h) (AD Oi Aa) <| Ai 11 rfl (by kernel_rfl) (by kernel_rfl) (by kernel_rfl) (by kernel_rfl) rfl rfl (fun _ h => h.drop (kK <| kK <| kK <| kK <| kK <| .refl _)) (fun _ _ _ h => h) (Ah Lz Aa (Cell.own 3 rfl rfl)) ?_
     refine Ai 12 rfl (by kernel_rfl) (by kernel_rfl) (by kernel_rfl) (by kernel_rfl) rfl rfl (fun _ h => h.drop (kK <| kK <| kK <| kK <| kK <| .refl _)) (fun _ _ _ h => h) (A9 Aa) ?_
     refine CK 13 rfl (by kernel_rfl) rfl (AP (Ay FT Aa AY (Dh h1s h1b (n := j) rfl) (fun _ _ h => h)) ⟨fun _ _ => (fun _ h => h.drop (kK <| kK <| kK <| kK <| kK <| .refl _)), ?_⟩)
     refine Ai 14 rfl (by kernel_rfl) (by kernel_rfl) (by kernel_rfl) (by kernel_rfl) rfl rfl (fun _ h => h.drop (kK <| kK <| kK <| kK <| kK <| .refl _)) (fun _ _ _ h => h) (CE Aa Aa (Int.natCast_nonneg _) (by decide)) <| Ai 15 rfl (by kernel_rfl) (by kernel_rfl) (by kernel_rfl) (by kernel_rfl) rfl rfl (fun _ h => h.drop (kK <| kK <| kK <| kK <| kK <| .refl _)) (fun _ _ _ h => h) (AE Aa Aa rfl (by omega) (by omega)) <| Ai 16 rfl (by kernel_rfl) (by kernel_rfl) (by kernel_rfl) (by kernel_rfl) rfl rfl (fun _ h => h.drop (kK <| kK <| kK <| kK <| kK <| .refl _)) (fun _ _ _ h => h) (Ax (k := j) A7 Aa (BH (Nat.le_refl _) (by omega)) Aa rfl hjn) ?_
     refine BG 17 rfl (by kernel_rfl) (Ct Cc Aa (DC (c := j)) Aa (i := 1) rfl (by rw [GH]; omega) rfl (.next <| .here) ⟨(fun h => nomatch h), ?_⟩)
     refine Bo (by kernel_rfl) ?_ _
     refine Ab ⟨_, Off.eq (B3 rfl <| BY rfl <| BV), ?_⟩
     rw [K6 hjn, GB]
     exact ⟨_, fun h => absurd h hu, fun k2 hk2 => by obtain rfl : k2 = k := (by omega); exact ⟨by omega, by omega⟩, rfl⟩
    rintro e15 _ ⟨y, hy0, hyk, rfl⟩
    refine AI (Ae 1) <| Ak ?_
    refine AJ [13, 16, 17, 18, 19, 100, 101, 102, 103, 104, 105, 106, 107, 108, 109, 110, 111, 112, 113, 114, 115, 116, 117, 118, 119, 120, 121, 122, 123, 124, 125, 126, 127, 128, 129, 130, 131, 132, 133, 134, 135, 136, 137, 138, 139, 140, 141, 142, 143, 144, 145, 146, 147, 148, 149, 150, 151, 152, 153, 154, 155, 156, 157, 158, 159, 160, 161, 162, 163, 164, 165, 166, 167, 168] (fun m e σ => ∃ p : Nat, m + p = s.places.length ∧ Fct e 16 (.int .i64 (p : Int)) ∧ ∃ (xs : List Int) (w12 : Value) (R12 : List (Nat × Obj)), Fct e 13 (.int .i64 (c + sumN p (fun q => chgX l R j q (xs[q]?.getD 0)))) ∧ xs.length = p ∧ (∀ x ∈ xs, 1 ≤ x ∧ x ≤ 3) ∧ (∀ k : Nat, upN l j = (k : Int) → ∀ q, q < p → stepOk (freeP s q) (rdL R q k) (xs[q]?.getD 0)) ∧ Own 3 1 w12 xs.length (xs.flatMap intE) R12 ∧ σ = ⟨G2, (b13, bx 44 ((vL (updA W j w12) ps.length).flatMap valE)) :: (b12, bx 3 ((iL (updA Y j y) ps.length).flatMap intE)) :: (b3, bx 30 [.slice none 0 0, .slice none 0 0]) :: (b2, bx 36 [v0, v1, v2, v3]) :: (b1, bx 30 [vp, ve]) :: (R10 ++ R12)⟩) (s.places.length) ?_ ?_
    · exact ⟨0, by omega, Bb, [], _, [], BN (congrArg (Value.int .i64) (by simp [sumN])), rfl, (fun x h => nomatch h), fun k hk q hq => absurd hq (by omega), Own.nil, by rw [MF (hT.no j hjn hDj), List.append_nil]⟩
    rintro m3 e3 _ ⟨p, hm3, hu16, xs, w12, R12, hu13, hxl, hxv, hxk, ho12, rfl⟩
    by_cases hlt : p < s.places.length
    ·have ht2 : (turnN xc (j * s.places.length + p)) < 256 := D0 h2b
     have hmul : (j : Int) * (s.places.length : Int) = ((j * s.places.length : Nat) : Int) := by push_cast; rfl
     have hmb : j * s.places.length ≤ 24 := Nat.le_trans (Nat.mul_le_mul (show j ≤ 4 by omega) (show s.places.length ≤ 6 by omega)) (by decide)
     have hsb : 0 ≤ sumN p (fun q => chgX l R j q (xs[q]?.getD 0)) ∧ sumN p (fun q => chgX l R j q (xs[q]?.getD 0)) ≤ p * 1 := ⟨CC fun q _ => FL.1, E1 fun q _ => FL.2⟩
     refine Ac <| Aw (Ae 3) fun ds => Af rfl (A6 BO Aa hr.places.plain) <| As (Ae 1) <| Ag Aa (by first | rfl | exact dT (by omega)) <| Aj <| Ab <| Ac <| Ak <| Aw (Ae 5) fun ds => Af rfl (A6 BO Aa hr.places.plain) <| Af rfl (D9 Aa Aa rfl (by omega) (by omega)) <| Ao (Ae 1) <| Af rfl (AE Aa Aa rfl (by omega) (by omega)) <| AS rfl (Ay FT Aa AY (Dh h2s h2b (n := j * s.places.length + p) (by push_cast; rfl)) (fun _ _ h => h)) <| As (Ae 1) <| Aw (Ae 1) fun ds => Af rfl (Se Aa Aa (Int.natCast_nonneg _) (by omega) (by decide)) <| Af rfl (CE Aa Aa (by omega) (by decide)) <| Af rfl (AE Aa Aa rfl (by omega) (by omega)) <| As (Ae 1) <| Ac <| Aw (Ae 2) fun ds => Af rfl (Ax (k := j) A7 Aa hl.plain Aa rfl hjl) <| Af rfl (Ah AA Aa (hl.cell1 hjl rfl)) <| As (Ae 1) ?_
     refine O3 [13, 18, 19, 126, 127, 128, 129, 130, 131, 132, 133, 134, 135, 136, 137, 138, 139, 140, 141, 142, 143, 144, 145, 146, 147, 148, 149, 150, 151, 152, 153, 154, 155, 156, 157, 158] (fun st σ => ∃ r : Int, 1 ≤ r ∧ r ≤ 3 ∧ (∀ k : Nat, upN l j = (k : Int) → stepOk (freeP s p) (rdL R p k) r) ∧ Fct st 18 (.int .i64 r) ∧ Fct st 13 (.int .i64 (c + sumN p (fun q => chgX l R j q (xs[q]?.getD 0)) + chgX l R j p r)) ∧ σ = ⟨G2, (b13, bx 44 ((vL (updA W j w12) ps.length).flatMap valE)) :: (b12, bx 3 ((iL (updA Y j y) ps.length).flatMap intE)) :: (b3, bx 30 [.slice none 0 0, .slice none 0 0]) :: (b2, bx 36 [v0, v1, v2, v3]) :: (b1, bx 30 [vp, ve]) :: (R10 ++ R12)⟩) ?_ ?_
     ·by_cases hu : decide (upN l j = -1) = true
      ·have hu := of_decide_eq_true hu
       refine Ad Aa (by rw [BR hjl]; exact dF (fun h => h hu)) <| Aj ?_
       refine Ab ⟨_, Off.eq (BV), ?_⟩
       exact ⟨(1 + (((turnN xc (j * s.places.length + p)) : Nat) : Int) / 3 % 3), by omega, by omega, fun k hk => absurd (hu.symm.trans hk) (by omega), Bb, BN (congrArg (Value.int .i64) (by unfold chgX; rw [if_pos hu]; omega)), rfl⟩
      replace hu : decide (upN l j = -1) = false := by simpa using hu
      have hu := of_decide_eq_false hu
      obtain ⟨k, hku, hkl⟩ := ht.in_.nat hjl hu
      have hkn : k < ps.length := by omega
      have hlk : l[j] = (k : Int) := by rw [BR hjl, hku]
      have hDk := (hup k hku).1
      have hkR := hT.rd k hkn hDk
      have hlR := hI.len k hkl hDk
      have hpR : p < (R k).length := by omega
      have hkj : k ≠ j := (hup k hku).2.2
      have hfr : (R k)[p] = rdL R p k := by unfold rdL; rw [List.getElem?_eq_getElem hpR]; rfl
      have hv9 := hI.val k hkl hDk _ (List.getElem_mem hpR)
      have hkd := hv.kind p hlt
      have hck : ∀ r, chgX l R j p r = if (R k)[p] = r then 0 else 1 := fun r => by unfold chgX; rw [if_neg hu, hku, Int.toNat_natCast, ← hfr]
      refine Ag Aa (by rw [BR hjl]; exact dT hu) ?_
      by_cases h3 : decide (0 < (((turnN xc (j * s.places.length + p)) : Nat) : Int) % 3) = true
      ·refine Aw (Ae 3) fun ds => Af rfl (Ax (k := j) A7 Aa hl.plain Aa rfl hjl) <| Af rfl (Ah AA Aa (hl.cell1 hjl rfl)) <| Af rfl (Ax (k := k) Bt Aa (BH (Nat.le_refl _) (by omega)) Aa hlk hkn) <| Af rfl (Ah Br Aa (C9 0 rfl ((Jy hkn).trans (congrArg some (B7 hkj))))) <| Ao (Ae 1) <| Af rfl (Ax (k := p) A7 Aa hkR.plain Aa rfl hpR) <| Af rfl (Ah AA Aa (hkR.cell1 hpR rfl)) <| As (Ae 1) <| Ac <| Aw (Ae 1) fun ds => Af rfl (CE Aa Aa (Int.natCast_nonneg _) (by decide)) <| Ao (Ae 2) <| Ar rfl rfl Aa (.inl (congrArg Value.bool h3)) rfl <| Ar rfl rfl Aa (.inl (congrArg Value.bool h3)) rfl <| Ar rfl rfl Aa (.inl (congrArg Value.bool h3)) rfl <| Ar rfl rfl Aa (.inl (congrArg Value.bool h3)) rfl <| Ar rfl rfl Aa (.inl (congrArg Value.bool h3)) rfl <| Ar rfl rfl Aa (.inl (congrArg Value.bool h3)) rfl <| Ar rfl rfl Aa (.inl (congrArg Value.bool h3)) rfl <| Ar rfl rfl Aa (.inl (congrArg Value.bool h3)) rfl <| Ar rfl rfl Aa (.inr rfl) rfl <| Ar rfl rfl Aa (.inr rfl) rfl <| Ar rfl rfl Aa (.inr rfl) rfl <| Ar rfl rfl Aa (.inl (congrArg Value.bool h3)) rfl <| Af rfl (Au Aa h3 BF) <| Am <| Ab <| Ag Aa rfl <| Al fun ds => As (Ae 2) <| AI (Ae 3) <| Ad Aa (dF (fun h => h rfl)) <| Aj ?_
       refine Ab ⟨_, Off.eq (Cv rfl <| BY rfl <| BV), ?_⟩
       exact ⟨(R k)[p], by omega, by omega, fun k2 hk2 => by obtain rfl : k2 = k := (by omega); rw [← hfr]; exact .inl rfl, Bb, BN (congrArg (Value.int .i64) (by rw [hck, if_pos rfl]; omega)), rfl⟩
      replace h3 : decide (0 < (((turnN xc (j * s.places.length + p)) : Nat) : Int) % 3) = false := by simpa using h3
      refine Aw (Ae 3) fun ds => Af rfl (Ax (k := j) A7 Aa hl.plain Aa rfl hjl) <| Af rfl (Ah AA Aa (hl.cell1 hjl rfl)) <| Af rfl (Ax (k := k) Bt Aa (BH (Nat.le_refl _) (by omega)) Aa hlk hkn) <| Af rfl (Ah Br Aa (C9 0 rfl ((Jy hkn).trans (congrArg some (B7 hkj))))) <| Ao (Ae 1) <| Af rfl (Ax (k := p) A7 Aa hkR.plain Aa rfl hpR) <| Af rfl (Ah AA Aa (hkR.cell1 hpR rfl)) <| As (Ae 1) <| Ac <| Aw (Ae 1) fun ds => Af rfl (CE Aa Aa (Int.natCast_nonneg _) (by decide)) <| Ao (Ae 2) <| Ap rfl rfl Aa h3 <| Ao (Ae 1) <| Ap rfl rfl Aa h3 <| Ao (Ae 1) <| Ap rfl rfl Aa h3 <| Ao (Ae 1) <| Ap rfl rfl Aa h3 <| Af rfl (Ax (k := p) BO Aa hr.places.plain Aa rfl hlt) <| Ap rfl rfl Aa h3 <| Ao (Ae 1) <| Ap rfl rfl Aa h3 <| Af rfl (Ah AA Aa (hr.places.cell hlt rfl)) <| Ap rfl rfl Aa h3 <| Ao (Ae 1) <| Ap rfl rfl Aa h3 <| Ao (Ae 1) ?_
      by_cases hk1 : (s.pl p).kind = 1
      ·refine Ap rfl rfl Aa (by rw [DA hlt]; exact dT hk1) <| Ao (Ae 1) <| Ap rfl rfl Aa (by rw [DA hlt]; exact dT hk1) <| Ao (Ae 1) <| Ap rfl rfl Aa (by rw [DA hlt]; exact dT hk1) <| Ao (Ae 1) <| Ap rfl rfl Aa h3 <| Af rfl (Au Aa (by rw [DA hlt]; exact dT hk1) Aa) <| Af rfl (A5 Aa h3 Aa) <| Am <| Ab ?_
       by_cases hlf : (1 + (((turnN xc (j * s.places.length + p)) : Nat) : Int) / 3 % 3) < (R k)[p]
       ·refine Ag Aa (dT hlf) <| Al fun ds => As (Ae 2) <| AI (Ae 3) <| Ad Aa (dF (fun h => h rfl)) <| Aj ?_
        refine Ab ⟨_, Off.eq (Cv rfl <| BY rfl <| BV), ?_⟩
        exact ⟨(R k)[p], by omega, by omega, fun k2 hk2 => by obtain rfl : k2 = k := (by omega); rw [← hfr]; exact .inl rfl, Bb, BN (congrArg (Value.int .i64) (by rw [hck, if_pos rfl]; omega)), rfl⟩
       refine Ad Aa (dF hlf) ?_
       by_cases hne : (1 + (((turnN xc (j * s.places.length + p)) : Nat) : Int) / 3 % 3) = (R k)[p]
       ·refine Aj <| Ab <| AI (Ae 3) <| Ad Aa (dF (fun h => h hne)) <| Aj ?_
        refine Ab ⟨_, Off.eq (B3 rfl <| BT rfl <| Ci rfl <| Cw rfl <| BY rfl <| BV), ?_⟩
        exact ⟨(1 + (((turnN xc (j * s.places.length + p)) : Nat) : Int) / 3 % 3), by omega, by omega, fun k2 hk2 => by obtain rfl : k2 = k := (by omega); rw [← hfr]; exact (show stepOk _ _ _ from by by_cases e : (R k2)[p] = (1 + (((turnN xc (j * s.places.length + p)) : Nat) : Int) / 3 % 3); exact .inl e; exact .inr (.inl (by omega))), Bb, BN (congrArg (Value.int .i64) (by rw [hck, if_pos hne.symm]; omega)), rfl⟩
       refine Aj <| Ab <| AI (Ae 3) <| Ag Aa (dT hne) <| Al fun ds => Ao (Ae 1) <| Af rfl (AE Aa Aa rfl (by omega) (by omega)) <| Ao (Ae 1) <| Am ?_
       refine Ab ⟨_, Off.eq (Cv rfl <| Cw rfl <| BV), ?_⟩
       exact ⟨(1 + (((turnN xc (j * s.places.length + p)) : Nat) : Int) / 3 % 3), by omega, by omega, fun k2 hk2 => by obtain rfl : k2 = k := (by omega); rw [← hfr]; exact (show stepOk _ _ _ from by by_cases e : (R k2)[p] = (1 + (((turnN xc (j * s.places.length + p)) : Nat) : Int) / 3 % 3); exact .inl e; exact .inr (.inl (by omega))), Bb, BN (congrArg (Value.int .i64) (by rw [hck, if_neg (fun h => hne h.symm)])), rfl⟩
      refine Ar rfl rfl Aa (.inl (congrArg Value.bool (by rw [DA hlt]; exact dF hk1))) rfl <| Ar rfl rfl Aa (.inl (congrArg Value.bool (by rw [DA hlt]; exact dF hk1))) rfl <| Ar rfl rfl Aa (.inl (congrArg Value.bool (by rw [DA hlt]; exact dF hk1))) rfl <| Ap rfl rfl Aa h3 <| Af rfl (A5 Aa (by rw [DA hlt]; exact dF hk1) Aa) <| Af rfl (A5 Aa h3 Aa) <| Am <| Ab <| Ad Aa rfl ?_
      by_cases hne : (1 + (((turnN xc (j * s.places.length + p)) : Nat) : Int) / 3 % 3) = (R k)[p]
      ·refine Aj <| Ab <| AI (Ae 3) <| Ad Aa (dF (fun h => h hne)) <| Aj ?_
       refine Ab ⟨_, Off.eq (B3 rfl <| BT rfl <| Ci rfl <| Cw rfl <| BY rfl <| BV), ?_⟩
       exact ⟨(1 + (((turnN xc (j * s.places.length + p)) : Nat) : Int) / 3 % 3), by omega, by omega, fun k2 hk2 => by obtain rfl : k2 = k := (by omega); rw [← hfr]; exact .inr (.inr (dT (by omega))), Bb, BN (congrArg (Value.int .i64) (by rw [hck, if_pos hne.symm]; omega)), rfl⟩
      refine Aj <| Ab <| AI (Ae 3) <| Ag Aa (dT hne) <| Al fun ds => Ao (Ae 1) <| Af rfl (AE Aa Aa rfl (by omega) (by omega)) <| Ao (Ae 1) <| Am ?_
      refine Ab ⟨_, Off.eq (Cv rfl <| Cw rfl <| BV), ?_⟩
      exact ⟨(1 + (((turnN xc (j * s.places.length + p)) : Nat) : Int) / 3 % 3), by omega, by omega, fun k2 hk2 => by obtain rfl : k2 = k := (by omega); rw [← hfr]; exact .inr (.inr (dT (by omega))), Bb, BN (congrArg (Value.int .i64) (by rw [hck, if_neg (fun h => hne h.symm)])), rfl⟩
     rintro e22 _ ⟨r, hr1, hr3, hrk, hc18, hc13, rfl⟩
     refine Al fun ds => Ao (Ae 4) <| Af rfl (Ax (k := j) Bt Aa (BH (Nat.le_refl _) (by omega)) Aa rfl hjn) <| Af rfl (Ah Br Aa (C9 0 rfl ((Jy hjn).trans (congrArg some C0)))) <| Ao (Ae 1) <| A3 rfl <| AU A7 B1 rfl (.cons Aa .nil) rfl rfl (by decide) (by simp [Value.oneCell']) fun b17 hb17 nb17 => A3 rfl <| Bi A7 D5 Aa ho12 Aa (BA (s := 1) 0 rfl rfl (by simp [Value.oneCell'])) (by omega) (by omega) (.s <| .s <| .s <| .s <| .s <| .s <| .k <| .z) .last fun v18 R19 ho20 => ?_
     have ho19 := ho20.snoc (x := r) rfl rfl
     refine Af rfl (Ax (k := j) Bt Aa (BH (Nat.le_refl _) (by omega)) Aa rfl hjn) <| AV <| Ct E0 Aa (DC (c := j)) Aa (i := 1) rfl (by rw [RT]; omega) ho19.one (.next <| .here) <| Am <| Az <| Ab ?_
     rw [U8 hjn, GB]
     refine By (fun _ _ h => h.drop (kD <| kK <| kK <| kK <| kK <| kK <| .refl _)) <| Al fun ds => Ao (Ae 1) <| Af rfl (AE Aa Aa rfl (by omega) (by omega)) <| Ao (Ae 1) <| Am ?_
     refine Ab ⟨_, m3 - 1, Off.eq (BT rfl <| Ci rfl <| BY rfl <| BJ rfl <| B3 rfl <| BT rfl <| Cw rfl <| A2), by omega, ?_⟩
     exact ⟨p + 1, by omega, Bb, xs ++ [r], _, _, BN (congrArg (Value.int .i64) (MJ hxl)), by simp [hxl], ON hxv ⟨hr1, hr3⟩, MI hxl hxk hrk, ho19, rfl⟩
    refine Ac <| Aw (Ae 3) fun ds => Af rfl (A6 BO Aa hr.places.plain) <| As (Ae 1) <| Ad Aa (by first | rfl | exact dF (by omega)) ?_
    obtain rfl : p = s.places.length := by omega
    refine Bm (σ := ⟨_, _⟩) (by rfl) ho12 (.s <| .s <| .s <| .s <| .s <| .k <| .z) .last fun F21 hF22 hz23 => ?_
    replace hr := hr.mono hF22
    replace hl := hl.mono hF22
    replace h1s := h1s.mono hF22
    replace h2s := h2s.mono hF22
    replace h3s := h3s.mono hF22
    replace hT := hT.mono hF22
    replace hle0 := Heap.le_trans hle0 hF22
    refine Cl (.one (.here) <| .one (.here) <| .one (.here) <| .one (.here) <| .one (.here) <| .lastb (.here)) ?_
    have hw12 := ho12.sl (fun _ => rfl) hz23 (by omega)
    have hI2 := hI.step ht hjl hDj (y := y) hxl hxv hy0 (fun k hk => (hup k hk).2.1) (fun k hk => ⟨(hup k hk).1, (hyk k hk).1, (hyk k hk).2, hxk k hk⟩)
    have hT2 := hT.step (i := j) hw12
    refine AC ?_
    refine A0 <| A0 <| A4 <| Az <| Ab <| Al fun ds => Ao (Ae 1) <| Af rfl (AE Aa Aa rfl (by omega) (by omega)) <| Ao (Ae 1) <| Am ?_
    refine Ab ⟨_, m2 - 1, Off.eq (BT rfl <| BJ rfl <| BY rfl <| BJ rfl <| Cv rfl <| Ci rfl <| Cw rfl <| BY rfl <| A2), by omega, ?_⟩
    exact ⟨j + 1, by omega, Bb, _, _, _, _, _, _, hle0, hr, hl, h1s, h2s, h3s, hT2, Bb, hI2, fun i hi h => by by_cases e : i = j; subst e; exact C0; rw [B7 e]; exact hcov i hi (by omega), rfl⟩
   obtain ⟨k0, hku0, hkl0⟩ := ht.in_.nat hjl hu0
   have hkn0 : k0 < ps.length := by omega
   have hlk0 : l[j] = (k0 : Int) := by rw [BR hjl, hku0]
   have hρk := hρs j hjl k0 hku0
   refine Ap rfl rfl Aa (by rw [BR hjl]; exact dT hu0) <| Ao (Ae 1) <| Ap rfl rfl Aa (by rw [BR hjl]; exact dT hu0) <| Ao (Ae 1) <| Ap rfl rfl Aa (by rw [BR hjl]; exact dT hu0) <| Ao (Ae 1) <| Ap rfl rfl Aa (by rw [BR hjl]; exact dT hu0) <| Af rfl (Ax (k := j) A7 Aa hl.plain Aa rfl hjl) <| Ap rfl rfl Aa (by rw [BR hjl]; exact dT hu0) <| Af rfl (Ah AA Aa (hl.cell1 hjl rfl)) <| Ap rfl rfl Aa (by rw [BR hjl]; exact dT hu0) <| Af rfl (Ax (k := k0) A7 Aa (BH (Nat.le_refl _) (by omega)) Aa hlk0 hkn0) <| Ap rfl rfl Aa (by rw [BR hjl]; exact dT hu0) <| Af rfl (Ah AA Aa (C9 1 rfl (LC hkn0))) <| Ap rfl rfl Aa (by rw [BR hjl]; exact dT hu0) <| Ao (Ae 1) <| Ap rfl rfl Aa (dF (by omega)) <| Af rfl (Au Aa (by rw [BR hjl]; exact dT hu0) Aa) <| Af rfl (A5 Aa (dF (by omega)) Aa) <| Am <| Ab ?_
   by_cases hDk0 : D k0 = true
   ·have hyb0 := hI.lo k0 hkl0 hDk0
    have hup : ∀ k : Nat, upN l j = (k : Int) → D k = true ∧ ρ k < ρ j ∧ k ≠ j := fun k hk => by obtain rfl : k = k0 := (by omega); exact ⟨hDk0, hρk, fun e => by subst e; rw [hDj] at hDk0; cases hDk0⟩
    refine Ad Aa (dF (by omega)) ?_
    have htb : turnN xb j < 256 := D0 h1b
    refine Aj <| Ab <| Aw (Ae 5) fun ds => AS rfl (Ay FT Aa AY (Dh h1s h1b (n := j) rfl) (fun _ _ h => h)) <| Af rfl (CE Aa Aa (Int.natCast_nonneg _) (by decide)) <| Af rfl (AE Aa Aa rfl (by omega) (by omega)) <| Af rfl (Ax (k := j) A7 Aa (BH (Nat.le_refl _) (by omega)) Aa rfl hjn) <| AV <| Ct Cc Aa (DC (c := j)) Aa (i := 1) rfl (by rw [GH]; omega) rfl (.next <| .here) <| Am <| Ab <| Ac <| Ac ?_
    rw [K6 hjn]
    refine Al fun ds => Ao (Ae 2) <| Af rfl (Ax (k := j) A7 Aa hl.plain Aa rfl hjl) <| Af rfl (Ah AA Aa (hl.cell1 hjl rfl)) <| As (Ae 1) ?_
    refine O3 [83, 84, 85, 86, 87, 88, 89, 90, 91, 92, 93, 94, 95, 96, 97, 98, 99] (fun st σ => ∃ y : Int, (upN l j = -1 → 1450 ≤ y ∧ y ≤ 1499) ∧ (∀ k : Nat, upN l j = (k : Int) → Y k < y ∧ y ≤ Y k + 50) ∧ σ = ⟨G2, (b13, bx 44 ((vL W ps.length).flatMap valE)) :: (b12, bx 3 ((iL (updA Y j y) ps.length).flatMap intE)) :: (b3, bx 30 [.slice none 0 0, .slice none 0 0]) :: (b2, bx 36 [v0, v1, v2, v3]) :: (b1, bx 30 [vp, ve]) :: R10⟩) ?_ ?_
    ·by_cases hu : decide (upN l j = -1) = true
     ·have hu := of_decide_eq_true hu
      refine Ad Aa (by rw [BR hjl]; exact dF (fun h => h hu)) <| Aj ?_
      refine Ab ⟨_, Off.eq (BV), ?_⟩
      exact ⟨_, fun _ => by omega, fun k hk => absurd (hu.symm.trans hk) (by omega), rfl⟩
     replace hu : decide (upN l j = -1) = false := by simpa using hu
     have hu := of_decide_eq_false hu
     obtain ⟨k, hku, hkl⟩ := ht.in_.nat hjl hu
     have hkn : k < ps.length := by omega
     have hlk : l[j] = (k : Int) := by rw [BR hjl, hku]
     have hDk := (hup k hku).1
     have hyb := hI.lo k hkl hDk
     have hrkb := hρn k hkl
     have hkj : k ≠ j := (hup k hku).2.2
     have hYk : updA Y j (1450 + ((turnN xb j : Nat) : Int) % 50) k = Y k := B7 hkj
     refine Ag Aa (by rw [BR hjl]; exact dT hu) ?_
     have hleS := hle0
     refine Bn (.inl rfl) (fun _ _ h => h) (kK <| kK <| kK <| kK <| kK <| .refl _) [17] (by kernel_rfl) fun ds => Ai 0 rfl (by kernel_rfl) (by kernel_rfl) (by kernel_rfl) (by kernel_rfl) rfl rfl (fun _ h => h.drop (kK <| kK <| kK <| kK <| kK <| .refl _)) (fun _ _ _ h => h) (A9 Aa) <| Ai 1 rfl (by kernel_rfl) (by kernel_rfl) (by kernel_rfl) (by kernel_rfl) rfl rfl (fun _ h => h.drop (kK <| kK <| kK <| kK <| kK <| .refl _)) (fun _ _ _ h => h) (A9 Aa) <| Ai 2 rfl (by kernel_rfl) (by kernel_rfl) (by kernel_rfl) (by kernel_rfl) rfl rfl (fun _ h => h.drop (kK <| kK <| kK <| kK <| kK <| .refl _)) (fun _ _ _ h => h) (A9 Aa) <| Ai 3 rfl (by kernel_rfl) (by kernel_rfl) (by kernel_rfl) (by kernel_rfl) rfl rfl (fun _ h => h.drop (kK <| kK <| kK <| kK <| kK <| .refl _)) (fun _ _ _ h => h) (A9 Aa) <| Ai 4 rfl (by kernel_rfl) (by kernel_rfl) (by kernel_rfl) (by kernel_rfl) rfl rfl (fun _ h => h.drop (kK <| kK <| kK <| kK <| kK <| .refl _)) (fun _ _ _ h => h) (A9 Aa) <| Ai 5 rfl (by kernel_rfl) (by kernel_rfl) (by kernel_rfl) (by kernel_rfl) rfl rfl (fun _ h => h.drop (kK <| kK <| kK <| kK <| kK <| .refl _)) (fun _ _ _ h => h) (Ax (k := j) A7 Aa hl.plain Aa rfl hjl) ?_
     refine Ai 6 rfl (by kernel_rfl) (by kernel_rfl) (by kernel_rfl) (by kernel_rfl) rfl rfl (fun _ h => h.drop (kK <| kK <| kK <| kK <| kK <| .refl _)) (fun _ _ _ h => h) (Ah AA Aa (hl.cell1 hjl rfl)) <| Ai 7 rfl (by kernel_rfl) (by kernel_rfl) (by kernel_rfl) (by kernel_rfl) rfl rfl (fun _ h => h.drop (kK <| kK <| kK <| kK <| kK <| .refl _)) (fun _ _ _ h => h) (Ax (k := k) A7 Aa (BH (Nat.le_refl _) (by omega)) Aa hlk hkn) <| Ai 8 rfl (by kernel_rfl) (by kernel_rfl) (by kernel_rfl) (by kernel_rfl) rfl rfl (fun _ h => h.drop (kK <| kK <| kK <| kK <| kK <| .refl _)) (fun _ _ _ h => h) (Ah AA Aa (C9 1 rfl (LC hkn))) <| Ai 9 rfl (by kernel_rfl) (by kernel_rfl) (by kernel_rfl) (by kernel_rfl) rfl rfl (fun _ h => h.drop (kK <| kK <| kK <| kK <| kK <| .refl _)) (fun _ _ _ h => h) (AE Aa Aa rfl (by omega) (by omega)) <| Ai 10 rfl (by kernel_rfl) (by kernel_rfl) (by kernel_rfl) (by kernel_rfl) rfl rfl (fun _ h => h.drop (kK <| kK <| kK <| kK <| kK <| .refl _)) (fun _ _ _ h => h) (AD Oi Aa) <| Ai 11 rfl (by kernel_rfl) (by kernel_rfl) (by kernel_rfl) (by kernel_rfl) rfl rfl (fun _ h => h.drop (kK <| kK <| kK <| kK <| kK <| .refl _)) (fun _ _ _ h => h) (Ah Lz Aa (Cell.own 3 rfl rfl)) ?_
     refine Ai 12 rfl (by kernel_rfl) (by kernel_rfl) (by kernel_rfl) (by kernel_rfl) rfl rfl (fun _ h => h.drop (kK <| kK <| kK <| kK <| kK <| .refl _)) (fun _ _ _ h => h) (A9 Aa) ?_
     refine CK 13 rfl (by kernel_rfl) rfl (AP (Ay FT Aa AY (Dh h1s h1b (n := j) rfl) (fun _ _ h => h)) ⟨fun _ _ => (fun _ h => h.drop (kK <| kK <| kK <| kK <| kK <| .refl _)), ?_⟩)
     refine Ai 14 rfl (by kernel_rfl) (by kernel_rfl) (by kernel_rfl) (by kernel_rfl) rfl rfl (fun _ h => h.drop (kK <| kK <| kK <| kK <| kK <| .refl _)) (fun _ _ _ h => h) (CE Aa Aa (Int.natCast_nonneg _) (by decide)) <| Ai 15 rfl (by kernel_rfl) (by kernel_rfl) (by kernel_rfl) (by kernel_rfl) rfl rfl (fun _ h => h.drop (kK <| kK <| kK <| kK <| kK <| .refl _)) (fun _ _ _ h => h) (AE Aa Aa rfl (by omega) (by omega)) <| Ai 16 rfl (by kernel_rfl) (by kernel_rfl) (by kernel_rfl) (by kernel_rfl) rfl rfl (fun _ h => h.drop (kK <| kK <| kK <| kK <| kK <| .refl _)) (fun _ _ _ h => h) (Ax (k := j) A7 Aa (BH (Nat.le_refl _) (by omega)) Aa rfl hjn) ?_
     refine BG 17 rfl (by kernel_rfl) (Ct Cc Aa (DC (c := j)) Aa (i := 1) rfl (by rw [GH]; omega) rfl (.next <| .here) ⟨(fun h => nomatch h), ?_⟩)
     refine Bo (by kernel_rfl) ?_ _
     refine Ab ⟨_, Off.eq (B3 rfl <| BY rfl <| BV), ?_⟩
     rw [K6 hjn, GB]
     exact ⟨_, fun h => absurd h hu, fun k2 hk2 => by obtain rfl : k2 = k := (by omega); exact ⟨by omega, by omega⟩, rfl⟩
    rintro e15 _ ⟨y, hy0, hyk, rfl⟩
    refine AI (Ae 1) <| Ak ?_
    refine AJ [13, 16, 17, 18, 19, 100, 101, 102, 103, 104, 105, 106, 107, 108, 109, 110, 111, 112, 113, 114, 115, 116, 117, 118, 119, 120, 121, 122, 123, 124, 125, 126, 127, 128, 129, 130, 131, 132, 133, 134, 135, 136, 137, 138, 139, 140, 141, 142, 143, 144, 145, 146, 147, 148, 149, 150, 151, 152, 153, 154, 155, 156, 157, 158, 159, 160, 161, 162, 163, 164, 165, 166, 167, 168] (fun m e σ => ∃ p : Nat, m + p = s.places.length ∧ Fct e 16 (.int .i64 (p : Int)) ∧ ∃ (xs : List Int) (w12 : Value) (R12 : List (Nat × Obj)), Fct e 13 (.int .i64 (c + sumN p (fun q => chgX l R j q (xs[q]?.getD 0)))) ∧ xs.length = p ∧ (∀ x ∈ xs, 1 ≤ x ∧ x ≤ 3) ∧ (∀ k : Nat, upN l j = (k : Int) → ∀ q, q < p → stepOk (freeP s q) (rdL R q k) (xs[q]?.getD 0)) ∧ Own 3 1 w12 xs.length (xs.flatMap intE) R12 ∧ σ = ⟨G2, (b13, bx 44 ((vL (updA W j w12) ps.length).flatMap valE)) :: (b12, bx 3 ((iL (updA Y j y) ps.length).flatMap intE)) :: (b3, bx 30 [.slice none 0 0, .slice none 0 0]) :: (b2, bx 36 [v0, v1, v2, v3]) :: (b1, bx 30 [vp, ve]) :: (R10 ++ R12)⟩) (s.places.length) ?_ ?_
    · exact ⟨0, by omega, Bb, [], _, [], BN (congrArg (Value.int .i64) (by simp [sumN])), rfl, (fun x h => nomatch h), fun k hk q hq => absurd hq (by omega), Own.nil, by rw [MF (hT.no j hjn hDj), List.append_nil]⟩
    rintro m3 e3 _ ⟨p, hm3, hu16, xs, w12, R12, hu13, hxl, hxv, hxk, ho12, rfl⟩
    by_cases hlt : p < s.places.length
    ·have ht2 : (turnN xc (j * s.places.length + p)) < 256 := D0 h2b
     have hmul : (j : Int) * (s.places.length : Int) = ((j * s.places.length : Nat) : Int) := by push_cast; rfl
     have hmb : j * s.places.length ≤ 24 := Nat.le_trans (Nat.mul_le_mul (show j ≤ 4 by omega) (show s.places.length ≤ 6 by omega)) (by decide)
     have hsb : 0 ≤ sumN p (fun q => chgX l R j q (xs[q]?.getD 0)) ∧ sumN p (fun q => chgX l R j q (xs[q]?.getD 0)) ≤ p * 1 := ⟨CC fun q _ => FL.1, E1 fun q _ => FL.2⟩
     refine Ac <| Aw (Ae 3) fun ds => Af rfl (A6 BO Aa hr.places.plain) <| As (Ae 1) <| Ag Aa (by first | rfl | exact dT (by omega)) <| Aj <| Ab <| Ac <| Ak <| Aw (Ae 5) fun ds => Af rfl (A6 BO Aa hr.places.plain) <| Af rfl (D9 Aa Aa rfl (by omega) (by omega)) <| Ao (Ae 1) <| Af rfl (AE Aa Aa rfl (by omega) (by omega)) <| AS rfl (Ay FT Aa AY (Dh h2s h2b (n := j * s.places.length + p) (by push_cast; rfl)) (fun _ _ h => h)) <| As (Ae 1) <| Aw (Ae 1) fun ds => Af rfl (Se Aa Aa (Int.natCast_nonneg _) (by omega) (by decide)) <| Af rfl (CE Aa Aa (by omega) (by decide)) <| Af rfl (AE Aa Aa rfl (by omega) (by omega)) <| As (Ae 1) <| Ac <| Aw (Ae 2) fun ds => Af rfl (Ax (k := j) A7 Aa hl.plain Aa rfl hjl) <| Af rfl (Ah AA Aa (hl.cell1 hjl rfl)) <| As (Ae 1) ?_
     refine O3 [13, 18, 19, 126, 127, 128, 129, 130, 131, 132, 133, 134, 135, 136, 137, 138, 139, 140, 141, 142, 143, 144, 145, 146, 147, 148, 149, 150, 151, 152, 153, 154, 155, 156, 157, 158] (fun st σ => ∃ r : Int, 1 ≤ r ∧ r ≤ 3 ∧ (∀ k : Nat, upN l j = (k : Int) → stepOk (freeP s p) (rdL R p k) r) ∧ Fct st 18 (.int .i64 r) ∧ Fct st 13 (.int .i64 (c + sumN p (fun q => chgX l R j q (xs[q]?.getD 0)) + chgX l R j p r)) ∧ σ = ⟨G2, (b13, bx 44 ((vL (updA W j w12) ps.length).flatMap valE)) :: (b12, bx 3 ((iL (updA Y j y) ps.length).flatMap intE)) :: (b3, bx 30 [.slice none 0 0, .slice none 0 0]) :: (b2, bx 36 [v0, v1, v2, v3]) :: (b1, bx 30 [vp, ve]) :: (R10 ++ R12)⟩) ?_ ?_
     ·by_cases hu : decide (upN l j = -1) = true
      ·have hu := of_decide_eq_true hu
       refine Ad Aa (by rw [BR hjl]; exact dF (fun h => h hu)) <| Aj ?_
       refine Ab ⟨_, Off.eq (BV), ?_⟩
       exact ⟨(1 + (((turnN xc (j * s.places.length + p)) : Nat) : Int) / 3 % 3), by omega, by omega, fun k hk => absurd (hu.symm.trans hk) (by omega), Bb, BN (congrArg (Value.int .i64) (by unfold chgX; rw [if_pos hu]; omega)), rfl⟩
      replace hu : decide (upN l j = -1) = false := by simpa using hu
      have hu := of_decide_eq_false hu
      obtain ⟨k, hku, hkl⟩ := ht.in_.nat hjl hu
      have hkn : k < ps.length := by omega
      have hlk : l[j] = (k : Int) := by rw [BR hjl, hku]
      have hDk := (hup k hku).1
      have hkR := hT.rd k hkn hDk
      have hlR := hI.len k hkl hDk
      have hpR : p < (R k).length := by omega
      have hkj : k ≠ j := (hup k hku).2.2
      have hfr : (R k)[p] = rdL R p k := by unfold rdL; rw [List.getElem?_eq_getElem hpR]; rfl
      have hv9 := hI.val k hkl hDk _ (List.getElem_mem hpR)
      have hkd := hv.kind p hlt
      have hck : ∀ r, chgX l R j p r = if (R k)[p] = r then 0 else 1 := fun r => by unfold chgX; rw [if_neg hu, hku, Int.toNat_natCast, ← hfr]
      refine Ag Aa (by rw [BR hjl]; exact dT hu) ?_
      by_cases h3 : decide (0 < (((turnN xc (j * s.places.length + p)) : Nat) : Int) % 3) = true
      ·refine Aw (Ae 3) fun ds => Af rfl (Ax (k := j) A7 Aa hl.plain Aa rfl hjl) <| Af rfl (Ah AA Aa (hl.cell1 hjl rfl)) <| Af rfl (Ax (k := k) Bt Aa (BH (Nat.le_refl _) (by omega)) Aa hlk hkn) <| Af rfl (Ah Br Aa (C9 0 rfl ((Jy hkn).trans (congrArg some (B7 hkj))))) <| Ao (Ae 1) <| Af rfl (Ax (k := p) A7 Aa hkR.plain Aa rfl hpR) <| Af rfl (Ah AA Aa (hkR.cell1 hpR rfl)) <| As (Ae 1) <| Ac <| Aw (Ae 1) fun ds => Af rfl (CE Aa Aa (Int.natCast_nonneg _) (by decide)) <| Ao (Ae 2) <| Ar rfl rfl Aa (.inl (congrArg Value.bool h3)) rfl <| Ar rfl rfl Aa (.inl (congrArg Value.bool h3)) rfl <| Ar rfl rfl Aa (.inl (congrArg Value.bool h3)) rfl <| Ar rfl rfl Aa (.inl (congrArg Value.bool h3)) rfl <| Ar rfl rfl Aa (.inl (congrArg Value.bool h3)) rfl <| Ar rfl rfl Aa (.inl (congrArg Value.bool h3)) rfl <| Ar rfl rfl Aa (.inl (congrArg Value.bool h3)) rfl <| Ar rfl rfl Aa (.inl (congrArg Value.bool h3)) rfl <| Ar rfl rfl Aa (.inr rfl) rfl <| Ar rfl rfl Aa (.inr rfl) rfl <| Ar rfl rfl Aa (.inr rfl) rfl <| Ar rfl rfl Aa (.inl (congrArg Value.bool h3)) rfl <| Af rfl (Au Aa h3 BF) <| Am <| Ab <| Ag Aa rfl <| Al fun ds => As (Ae 2) <| AI (Ae 3) <| Ad Aa (dF (fun h => h rfl)) <| Aj ?_
       refine Ab ⟨_, Off.eq (Cv rfl <| BY rfl <| BV), ?_⟩
       exact ⟨(R k)[p], by omega, by omega, fun k2 hk2 => by obtain rfl : k2 = k := (by omega); rw [← hfr]; exact .inl rfl, Bb, BN (congrArg (Value.int .i64) (by rw [hck, if_pos rfl]; omega)), rfl⟩
      replace h3 : decide (0 < (((turnN xc (j * s.places.length + p)) : Nat) : Int) % 3) = false := by simpa using h3
      refine Aw (Ae 3) fun ds => Af rfl (Ax (k := j) A7 Aa hl.plain Aa rfl hjl) <| Af rfl (Ah AA Aa (hl.cell1 hjl rfl)) <| Af rfl (Ax (k := k) Bt Aa (BH (Nat.le_refl _) (by omega)) Aa hlk hkn) <| Af rfl (Ah Br Aa (C9 0 rfl ((Jy hkn).trans (congrArg some (B7 hkj))))) <| Ao (Ae 1) <| Af rfl (Ax (k := p) A7 Aa hkR.plain Aa rfl hpR) <| Af rfl (Ah AA Aa (hkR.cell1 hpR rfl)) <| As (Ae 1) <| Ac <| Aw (Ae 1) fun ds => Af rfl (CE Aa Aa (Int.natCast_nonneg _) (by decide)) <| Ao (Ae 2) <| Ap rfl rfl Aa h3 <| Ao (Ae 1) <| Ap rfl rfl Aa h3 <| Ao (Ae 1) <| Ap rfl rfl Aa h3 <| Ao (Ae 1) <| Ap rfl rfl Aa h3 <| Af rfl (Ax (k := p) BO Aa hr.places.plain Aa rfl hlt) <| Ap rfl rfl Aa h3 <| Ao (Ae 1) <| Ap rfl rfl Aa h3 <| Af rfl (Ah AA Aa (hr.places.cell hlt rfl)) <| Ap rfl rfl Aa h3 <| Ao (Ae 1) <| Ap rfl rfl Aa h3 <| Ao (Ae 1) ?_
      by_cases hk1 : (s.pl p).kind = 1
      ·refine Ap rfl rfl Aa (by rw [DA hlt]; exact dT hk1) <| Ao (Ae 1) <| Ap rfl rfl Aa (by rw [DA hlt]; exact dT hk1) <| Ao (Ae 1) <| Ap rfl rfl Aa (by rw [DA hlt]; exact dT hk1) <| Ao (Ae 1) <| Ap rfl rfl Aa h3 <| Af rfl (Au Aa (by rw [DA hlt]; exact dT hk1) Aa) <| Af rfl (A5 Aa h3 Aa) <| Am <| Ab ?_
       by_cases hlf : (1 + (((turnN xc (j * s.places.length + p)) : Nat) : Int) / 3 % 3) < (R k)[p]
       ·refine Ag Aa (dT hlf) <| Al fun ds => As (Ae 2) <| AI (Ae 3) <| Ad Aa (dF (fun h => h rfl)) <| Aj ?_
        refine Ab ⟨_, Off.eq (Cv rfl <| BY rfl <| BV), ?_⟩
        exact ⟨(R k)[p], by omega, by omega, fun k2 hk2 => by obtain rfl : k2 = k := (by omega); rw [← hfr]; exact .inl rfl, Bb, BN (congrArg (Value.int .i64) (by rw [hck, if_pos rfl]; omega)), rfl⟩
       refine Ad Aa (dF hlf) ?_
       by_cases hne : (1 + (((turnN xc (j * s.places.length + p)) : Nat) : Int) / 3 % 3) = (R k)[p]
       ·refine Aj <| Ab <| AI (Ae 3) <| Ad Aa (dF (fun h => h hne)) <| Aj ?_
        refine Ab ⟨_, Off.eq (B3 rfl <| BT rfl <| Ci rfl <| Cw rfl <| BY rfl <| BV), ?_⟩
        exact ⟨(1 + (((turnN xc (j * s.places.length + p)) : Nat) : Int) / 3 % 3), by omega, by omega, fun k2 hk2 => by obtain rfl : k2 = k := (by omega); rw [← hfr]; exact (show stepOk _ _ _ from by by_cases e : (R k2)[p] = (1 + (((turnN xc (j * s.places.length + p)) : Nat) : Int) / 3 % 3); exact .inl e; exact .inr (.inl (by omega))), Bb, BN (congrArg (Value.int .i64) (by rw [hck, if_pos hne.symm]; omega)), rfl⟩
       refine Aj <| Ab <| AI (Ae 3) <| Ag Aa (dT hne) <| Al fun ds => Ao (Ae 1) <| Af rfl (AE Aa Aa rfl (by omega) (by omega)) <| Ao (Ae 1) <| Am ?_
       refine Ab ⟨_, Off.eq (Cv rfl <| Cw rfl <| BV), ?_⟩
       exact ⟨(1 + (((turnN xc (j * s.places.length + p)) : Nat) : Int) / 3 % 3), by omega, by omega, fun k2 hk2 => by obtain rfl : k2 = k := (by omega); rw [← hfr]; exact (show stepOk _ _ _ from by by_cases e : (R k2)[p] = (1 + (((turnN xc (j * s.places.length + p)) : Nat) : Int) / 3 % 3); exact .inl e; exact .inr (.inl (by omega))), Bb, BN (congrArg (Value.int .i64) (by rw [hck, if_neg (fun h => hne h.symm)])), rfl⟩
      refine Ar rfl rfl Aa (.inl (congrArg Value.bool (by rw [DA hlt]; exact dF hk1))) rfl <| Ar rfl rfl Aa (.inl (congrArg Value.bool (by rw [DA hlt]; exact dF hk1))) rfl <| Ar rfl rfl Aa (.inl (congrArg Value.bool (by rw [DA hlt]; exact dF hk1))) rfl <| Ap rfl rfl Aa h3 <| Af rfl (A5 Aa (by rw [DA hlt]; exact dF hk1) Aa) <| Af rfl (A5 Aa h3 Aa) <| Am <| Ab <| Ad Aa rfl ?_
      by_cases hne : (1 + (((turnN xc (j * s.places.length + p)) : Nat) : Int) / 3 % 3) = (R k)[p]
      ·refine Aj <| Ab <| AI (Ae 3) <| Ad Aa (dF (fun h => h hne)) <| Aj ?_
       refine Ab ⟨_, Off.eq (B3 rfl <| BT rfl <| Ci rfl <| Cw rfl <| BY rfl <| BV), ?_⟩
       exact ⟨(1 + (((turnN xc (j * s.places.length + p)) : Nat) : Int) / 3 % 3), by omega, by omega, fun k2 hk2 => by obtain rfl : k2 = k := (by omega); rw [← hfr]; exact .inr (.inr (dT (by omega))), Bb, BN (congrArg (Value.int .i64) (by rw [hck, if_pos hne.symm]; omega)), rfl⟩
      refine Aj <| Ab <| AI (Ae 3) <| Ag Aa (dT hne) <| Al fun ds => Ao (Ae 1) <| Af rfl (AE Aa Aa rfl (by omega) (by omega)) <| Ao (Ae 1) <| Am ?_
      refine Ab ⟨_, Off.eq (Cv rfl <| Cw rfl <| BV), ?_⟩
      exact ⟨(1 + (((turnN xc (j * s.places.length + p)) : Nat) : Int) / 3 % 3), by omega, by omega, fun k2 hk2 => by obtain rfl : k2 = k := (by omega); rw [← hfr]; exact .inr (.inr (dT (by omega))), Bb, BN (congrArg (Value.int .i64) (by rw [hck, if_neg (fun h => hne h.symm)])), rfl⟩
     rintro e22 _ ⟨r, hr1, hr3, hrk, hc18, hc13, rfl⟩
     refine Al fun ds => Ao (Ae 4) <| Af rfl (Ax (k := j) Bt Aa (BH (Nat.le_refl _) (by omega)) Aa rfl hjn) <| Af rfl (Ah Br Aa (C9 0 rfl ((Jy hjn).trans (congrArg some C0)))) <| Ao (Ae 1) <| A3 rfl <| AU A7 B1 rfl (.cons Aa .nil) rfl rfl (by decide) (by simp [Value.oneCell']) fun b25 hb25 nb25 => A3 rfl <| Bi A7 D5 Aa ho12 Aa (BA (s := 1) 0 rfl rfl (by simp [Value.oneCell'])) (by omega) (by omega) (.s <| .s <| .s <| .s <| .s <| .s <| .k <| .z) .last fun v26 R27 ho28 => ?_
     have ho19 := ho28.snoc (x := r) rfl rfl
     refine Af rfl (Ax (k := j) Bt Aa (BH (Nat.le_refl _) (by omega)) Aa rfl hjn) <| AV <| Ct E0 Aa (DC (c := j)) Aa (i := 1) rfl (by rw [RT]; omega) ho19.one (.next <| .here) <| Am <| Az <| Ab ?_
     rw [U8 hjn, GB]
     refine By (fun _ _ h => h.drop (kD <| kK <| kK <| kK <| kK <| kK <| .refl _)) <| Al fun ds => Ao (Ae 1) <| Af rfl (AE Aa Aa rfl (by omega) (by omega)) <| Ao (Ae 1) <| Am ?_
     refine Ab ⟨_, m3 - 1, Off.eq (BT rfl <| Ci rfl <| BY rfl <| BJ rfl <| B3 rfl <| BT rfl <| Cw rfl <| A2), by omega, ?_⟩
     exact ⟨p + 1, by omega, Bb, xs ++ [r], _, _, BN (congrArg (Value.int .i64) (MJ hxl)), by simp [hxl], ON hxv ⟨hr1, hr3⟩, MI hxl hxk hrk, ho19, rfl⟩
    refine Ac <| Aw (Ae 3) fun ds => Af rfl (A6 BO Aa hr.places.plain) <| As (Ae 1) <| Ad Aa (by first | rfl | exact dF (by omega)) ?_
    obtain rfl : p = s.places.length := by omega
    refine Bm (σ := ⟨_, _⟩) (by rfl) ho12 (.s <| .s <| .s <| .s <| .s <| .k <| .z) .last fun F29 hF30 hz31 => ?_
    replace hr := hr.mono hF30
    replace hl := hl.mono hF30
    replace h1s := h1s.mono hF30
    replace h2s := h2s.mono hF30
    replace h3s := h3s.mono hF30
    replace hT := hT.mono hF30
    replace hle0 := Heap.le_trans hle0 hF30
    refine Cl (.one (.here) <| .one (.here) <| .one (.here) <| .one (.here) <| .one (.here) <| .lastb (.here)) ?_
    have hw12 := ho12.sl (fun _ => rfl) hz31 (by omega)
    have hI2 := hI.step ht hjl hDj (y := y) hxl hxv hy0 (fun k hk => (hup k hk).2.1) (fun k hk => ⟨(hup k hk).1, (hyk k hk).1, (hyk k hk).2, hxk k hk⟩)
    have hT2 := hT.step (i := j) hw12
    refine AC ?_
    refine A0 <| A0 <| A4 <| Az <| Ab <| Al fun ds => Ao (Ae 1) <| Af rfl (AE Aa Aa rfl (by omega) (by omega)) <| Ao (Ae 1) <| Am ?_
    refine Ab ⟨_, m2 - 1, Off.eq (BT rfl <| BJ rfl <| BY rfl <| BJ rfl <| Cv rfl <| Ci rfl <| Cw rfl <| BY rfl <| A2), by omega, ?_⟩
    exact ⟨j + 1, by omega, Bb, _, _, _, _, _, _, hle0, hr, hl, h1s, h2s, h3s, hT2, Bb, hI2, fun i hi h => by by_cases e : i = j; subst e; exact C0; rw [B7 e]; exact hcov i hi (by omega), rfl⟩
   replace hDk0 : D k0 = false := by simpa using hDk0
   have hyz0 := hI.no k0 hkl0 hDk0
   refine Ag Aa (dT (by omega)) <| AC <| A0 <| A4 <| Ab <| Al fun ds => Ao (Ae 1) <| Af rfl (AE Aa Aa rfl (by omega) (by omega)) <| Ao (Ae 1) <| Am ?_
   refine Ab ⟨_, m2 - 1, Off.eq (B3 rfl <| BT rfl <| Ci rfl <| A2), by omega, ?_⟩
   exact ⟨j + 1, by omega, Bb, c, D, Y, R, W, _, hle0, hr, hl, h1s, h2s, h3s, hT, Bb, hI, fun i hi h => by by_cases e : i = j; subst e; have := hcov k0 hkl0 (by omega); rw [hDk0] at this; cases this; exact hcov i hi (by omega), rfl⟩
  refine Ac <| AI (Ae 3) <| Ad Aa (by first | rfl | exact dF (by omega)) ?_
  obtain rfl : j = ps.length := by omega
  refine AC ?_
  refine A0 <| A0 <| A4 <| Az <| Ab <| Al fun ds => Ao (Ae 1) <| Af rfl (AE Aa Aa rfl (by omega) (by omega)) <| Ao (Ae 1) <| Am ?_
  refine Ab ⟨_, m - 1, Off.eq (Ci rfl <| Cw rfl <| BJ rfl <| Ci rfl <| A2), by omega, ?_⟩
  exact ⟨rn + 1, by omega, Bb, c, D, Y, R, W, _, hle0, hr, hl, h1s, h2s, h3s, hT, Bb, hI, fun i hi h => hcov i hi (by omega), rfl⟩
 refine Ac <| AI (Ae 3) <| Ad Aa (by first | rfl | exact dF (by omega)) ?_
 obtain rfl : rn = ps.length := by omega
 have hall : ∀ i, i < l.length → D i = true := fun i hi => hcov i hi (by have := hρn i hi; omega)
 have hA := hI.all hall (by omega) hρn
 refine AL (i := 0) rfl hb13 (.here) fun F32 hF33 hz12 => ?_
 replace hr := hr.mono hF33
 replace hl := hl.mono hF33
 replace h3s := h3s.mono hF33
 replace hT := hT.mono hF33
 replace hle0 := Heap.le_trans hle0 hF33
 refine AL (i := 0) rfl hb12 (.here) fun F34 hF35 hz11 => ?_
 replace hr := hr.mono hF35
 replace hl := hl.mono hF35
 replace h3s := h3s.mono hF35
 replace hT := hT.mono hF35
 replace hle0 := Heap.le_trans hle0 hF35
 replace hz12 := hF35 _ _ hz12
 have hyr : Ints F34 (.slice (some ⟨b12, 0, none⟩) ps.length ps.length) (iL Y ps.length) := Dc hz11 rfl Bp (fun _ => rfl) (by omega)
 have hwl : Sl F34 (.slice (some ⟨b13, 0, none⟩) ps.length ps.length) 1 valE (vL W ps.length) := Dc hz12 rfl Jw (fun _ => rfl) (by omega)
 refine AC ?_
 refine A0 <| A0 <| A4 <| Ab <| Ac <| AI (Ae 1) <| Ak ?_
 refine AJ [20, 21, 169, 170, 171, 172, 173, 174, 175, 176, 177, 178, 179, 180, 181, 182, 183, 184, 185, 186, 187, 188, 189, 190, 191, 192, 193, 194, 195, 196, 197, 198, 199, 200, 201, 202, 203, 204, 205, 206, 207, 208, 209, 210, 211, 212, 213, 214, 215, 216, 217, 218, 219, 220, 221, 222, 223, 224, 225, 226, 227, 228, 229, 230, 231, 232, 233, 234, 235, 236, 237] (fun m e σ => ∃ i : Nat, m + i = ps.length ∧ Fct e 20 (.int .i64 (i : Int)) ∧ ∃ G, F.le G ∧ StmR G vp ve ps s ∧ Ints G v9 l ∧ Sl G v3 1 u8E xd ∧ TellR G ps.length W D R ∧ Ints G (.slice (some ⟨b12, 0, none⟩) ps.length ps.length) (iL Y ps.length) ∧ Sl G (.slice (some ⟨b13, 0, none⟩) ps.length ps.length) 1 valE (vL W ps.length) ∧ ∃ qs R10, Own 59 4 v10 qs.length (qs.flatMap edE) R10 ∧ TellQ G ps qs s xd Y R i ∧ σ = ⟨G, (b3, bx 30 [.slice none 0 0, .slice none 0 0]) :: (b2, bx 36 [v0, v1, v2, v3]) :: (b1, bx 30 [vp, ve]) :: R10⟩) (ps.length) ?_ ?_
 · exact ⟨0, by omega, Bb, _, hle0, hr, hl, h3s, hT, hyr, hwl, ps, _, ho10, TellQ.start, rfl⟩
 rintro m e _ ⟨i, hm, hs20, G3, hle0, hr, hl, h3s, hT, hyr, hwl, qs, R10, ho10, hQ, rfl⟩
 by_cases hlt : i < ps.length
 ·have hin := hlt
  have hql := hQ.len
  have hil : i < l.length := by omega
  have hqi : i < qs.length := by have := hQ.len; omega
  have hqe := hQ.left i hqi hlt (Nat.le_refl _)
  have hyi : (iL Y ps.length)[i]'(by rw [Bp]; exact hin) = Y i := LD _
  have hyb := hA.lo i hil
  have hta : turnN xd i < 256 := D0 h3b
  have htc : turnN xd (i + 1) < 256 := D0 h3b
  have hWi := hT.rd i hin (hall i hil)
  have hRl := hA.len i hil
  have hWe : (vL W ps.length)[i]'(by rw [Jw]; exact hin) = W i := OF _
  have hWi2 := hWi
  rw [← hWe] at hWi2
  refine Ac <| AI (Ae 3) <| Ag Aa (by first | rfl | exact dT (by omega)) <| Aj <| Ab <| Ac <| Ak <| Ac ?_
  have hleS := hle0
  refine Bn (.inl rfl) (fun _ _ h => h) (kK <| kK <| kK <| .refl _) [28] (by kernel_rfl) fun ds => Ai 0 rfl (by kernel_rfl) (by kernel_rfl) (by kernel_rfl) (by kernel_rfl) rfl rfl (fun _ h => h.drop (kK <| kK <| kK <| .refl _)) (fun _ _ _ h => h) (A9 Aa) <| Ai 1 rfl (by kernel_rfl) (by kernel_rfl) (by kernel_rfl) (by kernel_rfl) rfl rfl (fun _ h => h.drop (kK <| kK <| kK <| .refl _)) (fun _ _ _ h => h) (A9 Aa) <| Ai 2 rfl (by kernel_rfl) (by kernel_rfl) (by kernel_rfl) (by kernel_rfl) rfl rfl (fun _ h => h.drop (kK <| kK <| kK <| .refl _)) (fun _ _ _ h => h) (A9 Aa) <| Ai 3 rfl (by kernel_rfl) (by kernel_rfl) (by kernel_rfl) (by kernel_rfl) rfl rfl (fun _ h => h.drop (kK <| kK <| kK <| .refl _)) (fun _ _ _ h => h) (A9 Aa) <| Ai 4 rfl (by kernel_rfl) (by kernel_rfl) (by kernel_rfl) (by kernel_rfl) rfl rfl (fun _ h => h.drop (kK <| kK <| kK <| .refl _)) (fun _ _ _ h => h) (Ax (k := i) A7 Aa hyr.plain Aa rfl (by rw [Bp]; exact hin)) <| Ai 5 rfl (by kernel_rfl) (by kernel_rfl) (by kernel_rfl) (by kernel_rfl) rfl rfl (fun _ h => h.drop (kK <| kK <| kK <| .refl _)) (fun _ _ _ h => h) (Ah AA Aa (hyr.cell1 (by rw [Bp]; exact hin) rfl)) <| Ai 6 rfl (by kernel_rfl) (by kernel_rfl) (by kernel_rfl) (by kernel_rfl) rfl rfl (fun _ h => h.drop (kK <| kK <| kK <| .refl _)) (fun _ _ _ h => h) (AD Oh Aa) ?_
  refine Ai 7 rfl (by kernel_rfl) (by kernel_rfl) (by kernel_rfl) (by kernel_rfl) rfl rfl (fun _ h => h.drop (kK <| kK <| kK <| .refl _)) (fun _ _ _ h => h) (Ah Lz Aa (Cell.own 1 rfl rfl)) <| Ai 8 rfl (by kernel_rfl) (by kernel_rfl) (by kernel_rfl) (by kernel_rfl) rfl rfl (fun _ h => h.drop (kK <| kK <| kK <| .refl _)) (fun _ _ _ h => h) (A9 Aa) <| Ai 13 rfl (by kernel_rfl) (by kernel_rfl) (by kernel_rfl) (by kernel_rfl) rfl rfl (fun _ h => h.drop (kK <| kK <| kK <| .refl _)) (fun _ _ _ h => h) (A9 Aa) <| Ai 14 rfl (by kernel_rfl) (by kernel_rfl) (by kernel_rfl) (by kernel_rfl) rfl rfl (fun _ h => h.drop (kK <| kK <| kK <| .refl _)) (fun _ _ _ h => h) (A9 Aa) <| Ai 15 rfl (by kernel_rfl) (by kernel_rfl) (by kernel_rfl) (by kernel_rfl) rfl rfl (fun _ h => h.drop (kK <| kK <| kK <| .refl _)) (fun _ _ _ h => h) (Ax (k := i) A7 Aa hyr.plain Aa rfl (by rw [Bp]; exact hin)) <| Ai 16 rfl (by kernel_rfl) (by kernel_rfl) (by kernel_rfl) (by kernel_rfl) rfl rfl (fun _ h => h.drop (kK <| kK <| kK <| .refl _)) (fun _ _ _ h => h) (Ah AA Aa (hyr.cell1 (by rw [Bp]; exact hin) rfl)) <| Ai 17 rfl (by kernel_rfl) (by kernel_rfl) (by kernel_rfl) (by kernel_rfl) rfl rfl (fun _ h => h.drop (kK <| kK <| kK <| .refl _)) (fun _ _ _ h => h) (AD Oh Aa) ?_
  refine Ai 18 rfl (by kernel_rfl) (by kernel_rfl) (by kernel_rfl) (by kernel_rfl) rfl rfl (fun _ h => h.drop (kK <| kK <| kK <| .refl _)) (fun _ _ _ h => h) (Ah Lz Aa (Cell.own 1 rfl rfl)) <| Ai 19 rfl (by kernel_rfl) (by kernel_rfl) (by kernel_rfl) (by kernel_rfl) rfl rfl (fun _ h => h.drop (kK <| kK <| kK <| .refl _)) (fun _ _ _ h => h) (A9 Aa) <| Ai 20 rfl (by kernel_rfl) (by kernel_rfl) (by kernel_rfl) (by kernel_rfl) rfl rfl (fun _ h => h.drop (kK <| kK <| kK <| .refl _)) (fun _ _ _ h => h) (AE Aa Aa rfl (by omega) (by omega)) ?_
  refine CK 9 rfl (by kernel_rfl) rfl (AP (Ay FT Aa AY (Dh h3s h3b (n := i) rfl) (fun _ _ h => h)) ⟨fun _ _ => (fun _ h => h.drop (kK <| kK <| kK <| .refl _)), ?_⟩)
  refine Ai 10 rfl (by kernel_rfl) (by kernel_rfl) (by kernel_rfl) (by kernel_rfl) rfl rfl (fun _ h => h.drop (kK <| kK <| kK <| .refl _)) (fun _ _ _ h => h) (CE Aa Aa (Int.natCast_nonneg _) (by decide)) <| Ai 11 rfl (by kernel_rfl) (by kernel_rfl) (by kernel_rfl) (by kernel_rfl) rfl rfl (fun _ h => h.drop (kK <| kK <| kK <| .refl _)) (fun _ _ _ h => h) (BZ Aa Aa rfl (by omega) (by omega)) <| Ai 12 rfl (by kernel_rfl) (by kernel_rfl) (by kernel_rfl) (by kernel_rfl) rfl rfl (fun _ h => h.drop (kK <| kK <| kK <| .refl _)) (fun _ _ _ h => h) (Ee Aa Aa) ?_
  refine CK 21 rfl (by kernel_rfl) rfl (AP (Ay FT Aa AY (Dh h3s h3b (n := i + 1) (by push_cast; rfl)) (fun _ _ h => h)) ⟨fun _ _ => (fun _ h => h.drop (kK <| kK <| kK <| .refl _)), ?_⟩)
  refine Ai 22 rfl (by kernel_rfl) (by kernel_rfl) (by kernel_rfl) (by kernel_rfl) rfl rfl (fun _ h => h.drop (kK <| kK <| kK <| .refl _)) (fun _ _ _ h => h) (CE Aa Aa (Int.natCast_nonneg _) (by decide)) <| Ai 23 rfl (by kernel_rfl) (by kernel_rfl) (by kernel_rfl) (by kernel_rfl) rfl rfl (fun _ h => h.drop (kK <| kK <| kK <| .refl _)) (fun _ _ _ h => h) (AE Aa Aa rfl (by omega) (by omega)) <| Ai 24 rfl (by kernel_rfl) (by kernel_rfl) (by kernel_rfl) (by kernel_rfl) rfl rfl (fun _ h => h.drop (kK <| kK <| kK <| .refl _)) (fun _ _ _ h => h) (E4 Aa Aa) <| Ai 25 rfl (by kernel_rfl) (by kernel_rfl) (by kernel_rfl) (by kernel_rfl) rfl rfl (fun _ h => h.drop (kK <| kK <| kK <| .refl _)) (fun _ _ _ h => h) (BE GX (.cons Aa rfl (.cons Aa rfl .nil)) (.cons rfl rfl (Nat.le_of_ble_eq_true rfl) (.cons (.here) .nil) (.cons rfl rfl (Nat.le_of_ble_eq_true rfl) (.cons (.next <| .here) .nil) .nil))) <| Ai 26 rfl (by kernel_rfl) (by kernel_rfl) (by kernel_rfl) (by kernel_rfl) rfl rfl (fun _ h => h.drop (kK <| kK <| kK <| .refl _)) (fun _ _ _ h => h) (Ax (k := i) Bl Aa (ho10.plain (by omega)) Aa rfl hqi) <| Ai 27 rfl (by kernel_rfl) (by kernel_rfl) (by kernel_rfl) (by kernel_rfl) rfl rfl (fun _ h => h.drop (kK <| kK <| kK <| .refl _)) (fun _ _ _ h => h) (BB K7 Aa) ?_
  refine BG 28 rfl (by kernel_rfl) (SU (j := i * 4 + 1) EX Aa Aa rfl ho10 (by rw [C8 Da]; omega) (by simp [Value.oneCell']) (.s <| .s <| .s <| .z) .last fun R9 ho9 => ⟨(fun h => nomatch h), ?_⟩)
  refine Bo (by kernel_rfl) ?_ _
  refine Ab <| Ac ?_
  rw [hyi] at ho9
  have ho9b := PO (a := (max 1450 (Y i - ((turnN xd i % 40 : Nat) : Int)))) (b := (min 1850 (Y i + ((turnN xd (i + 1) % 40 : Nat) : Int)))) ho9 hqi
  refine Al fun ds => Ao (Ae 2) <| A3 rfl <| AU A7 B1 rfl .nil rfl rfl (by decide) (by simp [Value.oneCell']) fun b37 hb37 nb37 => Ao (Ae 2) <| Af rfl (Ax (k := i) Bt Aa hwl.plain Aa rfl (by rw [Jw]; exact hin)) <| Af rfl (Ah Br Aa (hwl.cell1 (by rw [Jw]; exact hin) rfl)) <| A3 rfl <| Bi A7 D5 Aa (CR rfl) Aa (Sl.srcInt hWi2) (by omega) (by omega) (.z) .box fun v38 R39 ho40 => ?_
  have ho21 : Own 3 1 v38 (R i).length ((R i).flatMap intE) R39 := by simpa using ho40
  obtain ⟨w21, hw21⟩ : ∃ y, y = v38 := ⟨_, rfl⟩
  subst hw21
  refine Af rfl (Ax (k := i) Bl Aa (ho9b.plain (by rw [List.length_set]; omega)) Aa rfl (by rw [List.length_set]; omega)) <| Ao (Ae 1) <| BP (.one (.skip <| .here) <| .one (.skip <| .here) <| .one (.skip <| .here) <| .blk (.lastS) <| .lastb (.last)) <| AV <| Dy E0 Aa Aa ho9b (by rw [C8 Da, List.length_set]; omega) ho21.one (.s <| .s <| .s <| .z) .more fun R41 ho42 => ?_
  have ho10b := ho42
  refine Am <| Ab <| Ac ?_
  have ho22 := Ud (x := toldE s xd Y R i) hqi ho10b (by rw [hqe, hr.at hlt]; rfl) rfl rfl
  refine Al fun ds => As (Ae 1) <| Ak ?_
  refine AJ [21, 212, 213, 214, 215, 216, 217, 218, 219, 220, 221, 222, 223, 224, 225, 226, 227, 228, 229, 230, 231, 232, 233, 234, 235, 236, 237] (fun m e σ => ∃ p : Nat, m + p = s.places.length ∧ Fct e 21 (.int .i64 (p : Int)) ∧ ∃ RS, Own 3 1 w21 (lostL xd s.places.length i (R i) p).length ((lostL xd s.places.length i (R i) p).flatMap intE) RS ∧ σ = ⟨G3, (b3, bx 30 [.slice none 0 0, .slice none 0 0]) :: (b2, bx 36 [v0, v1, v2, v3]) :: (b1, bx 30 [vp, ve]) :: (R41 ++ RS)⟩) (s.places.length) ?_ ?_
  · exact ⟨0, by omega, Bb, _, ho21, rfl⟩
  rintro m2 e2 _ ⟨p, hm2, ht21, RS, hoS, rfl⟩
  by_cases hltp : p < s.places.length
  ·have ht3 : (turnN xd (i * s.places.length + p)) < 256 := D0 h3b
   have hmul : (i : Int) * (s.places.length : Int) = ((i * s.places.length : Nat) : Int) := by push_cast; rfl
   have hmb : i * s.places.length ≤ 24 := Nat.le_trans (Nat.mul_le_mul (show i ≤ 4 by omega) (show s.places.length ≤ 6 by omega)) (by decide)
   have hll3 := Et (xd := xd) (np := s.places.length) (i := i) (xs := R i) p
   refine Ac <| Aw (Ae 3) fun ds => Af rfl (A6 BO Aa hr.places.plain) <| As (Ae 1) <| Ag Aa (by first | rfl | exact dT (by omega)) ?_
   by_cases h41 : (turnN xd (i * s.places.length + p)) % 4 = 1
   ·refine Aj <| Ab <| Ac <| Ak <| Aw (Ae 5) fun ds => Af rfl (A6 BO Aa hr.places.plain) <| Af rfl (D9 Aa Aa rfl (by omega) (by omega)) <| Ao (Ae 1) <| Af rfl (AE Aa Aa rfl (by omega) (by omega)) <| AS rfl (Ay FT Aa AY (Dh h3s h3b (n := i * s.places.length + p) (by push_cast; rfl)) (fun _ _ h => h)) <| Af rfl (CE Aa Aa (Int.natCast_nonneg _) (by decide)) <| As (Ae 1) <| Ag Aa (dT (by omega)) <| Al fun ds => Ao (Ae 2) <| Af rfl (Ax (k := i) Bl Aa (ho22.plain (by rw [List.length_set]; omega)) Aa rfl (by rw [List.length_set]; omega)) <| Ao (Ae 1) <| Af rfl (Ah Br Aa (CM ho22 (fun p hp => .tail _ (.tail _ (.tail _ (List.mem_append_left _ hp)))) (FI Da _ _ (by rw [List.length_set]; omega) (by rw [List.getElem_set_self]; rfl)))) <| Ao (Ae 1) <| Af rfl (Ax (k := p) A7 Aa (hoS.plain (by omega)) Aa rfl (by omega)) <| AV <| Dy Cc Aa Aa hoS (by rw [C8 (enc := intE) (s := 1) (fun _ => rfl)]; omega) rfl (.s <| .s <| .s <| .k <| .z) .last fun R44 ho45 => ?_
    have hoL : Own 3 1 w21 (lostL xd s.places.length i (R i) (p + 1)).length ((lostL xd s.places.length i (R i) (p + 1)).flatMap intE) R44 := by have h9 := ho45; rw [show p * 1 = p * 1 + 0 from rfl, FG (by omega)] at h9; rw [TQ h41]; exact h9.to (by rw [List.length_set])
    refine Am <| Az <| Ab <| Al fun ds => Ao (Ae 1) <| Af rfl (AE Aa Aa rfl (by omega) (by omega)) <| Ao (Ae 1) <| Am ?_
    refine Ab ⟨_, m2 - 1, Off.eq (B3 rfl <| BT rfl <| Cw rfl <| BY rfl <| A2), by omega, ?_⟩
    exact ⟨p + 1, by omega, Bb, _, hoL, rfl⟩
   refine Aj <| Ab <| Ac <| Ak <| Aw (Ae 5) fun ds => Af rfl (A6 BO Aa hr.places.plain) <| Af rfl (D9 Aa Aa rfl (by omega) (by omega)) <| Ao (Ae 1) <| Af rfl (AE Aa Aa rfl (by omega) (by omega)) <| AS rfl (Ay FT Aa AY (Dh h3s h3b (n := i * s.places.length + p) (by push_cast; rfl)) (fun _ _ h => h)) <| Af rfl (CE Aa Aa (Int.natCast_nonneg _) (by decide)) <| As (Ae 1) <| Ad Aa (dF (by omega)) <| Aj <| Az <| Ab <| Al fun ds => Ao (Ae 1) <| Af rfl (AE Aa Aa rfl (by omega) (by omega)) <| Ao (Ae 1) <| Am ?_
   refine Ab ⟨_, m2 - 1, Off.eq (B3 rfl <| Ci rfl <| A2), by omega, ?_⟩
   exact ⟨p + 1, by omega, Bb, _, by rw [Vz h41]; exact hoS, rfl⟩
  refine Ac <| Aw (Ae 3) fun ds => Af rfl (A6 BO Aa hr.places.plain) <| As (Ae 1) <| Ad Aa (by first | rfl | exact dF (by omega)) ?_
  obtain rfl : p = s.places.length := by omega
  have hll3 := Et (xd := xd) (np := s.places.length) (i := i) (xs := R i) s.places.length
  refine Bm (σ := ⟨_, _⟩) (by rfl) hoS (.s <| .s <| .s <| .k <| .z) .last fun F46 hF47 hz48 => ?_
  replace hr := hr.mono hF47
  replace hl := hl.mono hF47
  replace h3s := h3s.mono hF47
  replace hT := hT.mono hF47
  replace hyr := hyr.mono hF47
  replace hwl := hwl.mono hF47
  replace hQ := hQ.mono hF47
  replace hle0 := Heap.le_trans hle0 hF47
  refine Cl (.one (.here) <| .one (.here) <| .one (.here) <| .lastb (.here)) ?_
  have hws := hoS.sl (fun _ => rfl) hz48 (by omega)
  have hQ2 := hQ.step (by have := hQ.len; omega) (w := w21) hws
  refine AC ?_
  refine A0 <| A0 <| A4 <| Az <| Ab <| Al fun ds => Ao (Ae 1) <| Af rfl (AE Aa Aa rfl (by omega) (by omega)) <| Ao (Ae 1) <| Am ?_
  refine Ab ⟨_, m - 1, Off.eq (BT rfl <| BJ rfl <| Cv rfl <| BT rfl <| Cw rfl <| A2), by omega, ?_⟩
  exact ⟨i + 1, by omega, Bb, _, hle0, hr, hl, h3s, hT, hyr, hwl, _, _, ho22, hQ2, rfl⟩
 refine Ac <| AI (Ae 3) <| Ad Aa (by first | rfl | exact dF (by omega)) ?_
 obtain rfl : i = ps.length := by omega
 have hql := hQ.len
 refine Bm (σ := ⟨_, _⟩) (by rfl) ho10 (.s <| .s <| .s <| .z) .last fun F49 hF50 hz51 => ?_
 replace hr := hr.mono hF50
 replace hl := hl.mono hF50
 replace hyr := hyr.mono hF50
 replace hQ := hQ.mono hF50
 have hen := ho10.sl (fun _ => rfl) hz51 (by omega)
 refine AC ?_
 refine A0 <| A0 <| A4 <| Ab <| Aw (Ae 2) fun ds => AV <| AT RY Aa Aa (i := 2) rfl (.next <| .here) hen.plain.one (.next <| .next <| .here) <| Am <| Ab <| Aw (Ae 4) fun ds => AV <| AQ OP Aa Aa (i := 0) rfl rfl rfl rfl (by intro u hu; simp only [List.mem_cons, List.not_mem_nil, or_false] at hu; rcases hu with rfl | rfl; exact hr.places.plain.one; exact hen.plain.one) (.here) <| As (Ae 3) <| At <| Aq rfl (.agg RL Aa rfl rfl (Bg 0 rfl) Bf) ?_
 exact ⟨l, Y, R, c, v9, _, qs, _, rfl, hl, hll0, ht, hA, hQ.stm hr hen, hyr⟩
end
section
set_option maxRecDepth 100000
open Go.RowKit
theorem FV : ZeroT Tryz.prog 78 (.agg #[.int .i64 0, .int .i64 0]) := Bv (by kernel_rfl)
theorem Mw : AggT Tryz.prog 73 3 := Cx (by kernel_rfl)
instance : AggI Tryz.prog 73 3 := ⟨Mw⟩
theorem JT : AggT Tryz.prog 78 2 := Cx (by kernel_rfl)
instance : AggI Tryz.prog 78 2 := ⟨JT⟩
theorem bd_100 : Body Tryz.prog 100 := AF (by kernel_rfl)
theorem WB : Body Tryz.prog 113 := AF (by kernel_rfl)
theorem bd_133 : Body Tryz.prog 133 := AF (by kernel_rfl)
theorem bt_78 : BuildT Tryz.prog 78 [.int .i64 0, .int .i64 0] [(0, 1), (1, 1)] := Cs FV (by kernel_rfl) (by decide)
instance : FieldI Tryz.prog 73 0 0 := ⟨Bd (by kernel_rfl)⟩
theorem Cd : SliceT Tryz.prog 22 73 3 := Co (by kernel_rfl)
instance : SliceI Tryz.prog 22 := ⟨_, _, Cd⟩
theorem OO : SizeT Tryz.prog 78 2 := Bq (by kernel_rfl)
theorem DF {F : Heap} (z lo hi : Int) : Ok Tryz.prog 17 [.int .i64 z, .int .i64 lo, .int .i64 hi].toArray F fun r _ => r = .bool (inB lo hi z) := by
 refine Ok.intro Tryz.func17 rfl Tryz.ntmps17 rfl fun w0 => ?_
 by_cases h1 : lo ≤ z
 ·refine AI (Ae 1) <| Aw (Ae 4) fun ds => Ap rfl rfl Aa (by first | rfl | exact dT (by omega)) <| Ao (Ae 1) <| Ap rfl rfl Aa (by first | rfl | exact dT (by omega)) <| Ao (Ae 1) <| Ap rfl rfl Aa (by first | rfl | exact dT (by omega)) <| Ao (Ae 1) <| Af rfl (Au Aa (by first | rfl | exact dT (by omega)) Aa) <| As (Ae 1) ?_
  by_cases h2 : z ≤ hi
  ·refine At <| Aq rfl Bf ?_
   show _ = _; simp [outOf, inB, h1, h2]
  refine At <| Aq rfl Bf ?_
  show _ = _; simp [outOf, inB, h1, h2]
 refine AI (Ae 1) <| Aw (Ae 4) fun ds => Ar rfl rfl Aa (.inl (congrArg Value.bool (by first | rfl | exact dF (by omega)))) rfl <| Ar rfl rfl Aa (.inl (congrArg Value.bool (by first | rfl | exact dF (by omega)))) rfl <| Ar rfl rfl Aa (.inl (congrArg Value.bool (by first | rfl | exact dF (by omega)))) rfl <| Af rfl (A5 Aa (by first | rfl | exact dF (by omega)) Aa) <| As (Ae 1) <| At <| Aq rfl Bf ?_
 show _ = _; simp [outOf, inB, h1]
theorem NU {F : Heap} {b1 b2 T1 T2 : Nat} {lo hi : Int} (h1 : F b1 = some (bx T1 [.int .i64 lo])) (h2 : F b2 = some (bx T2 [.int .i64 hi])) (z : Int) : Ok Tryz.prog 100 [.int .i64 z, .pointer (some ⟨b1, 0, none⟩), .pointer (some ⟨b2, 0, none⟩)].toArray F fun r _ => r = .bool (!(inB lo hi z)) := by
 refine Ok.intro Tryz.func100 rfl Tryz.ntmps100 rfl fun w0 => ?_
 by_cases hz : z < lo
 ·refine AI (Ae 1) <| Aw (Ae 1) fun ds => Af rfl (Ah AA Aa (AM h1 rfl)) <| Ao (Ae 2) <| Ar rfl rfl Aa (.inl (congrArg Value.bool (by first | rfl | exact dT (by omega)))) rfl <| Ar rfl rfl Aa (.inl (congrArg Value.bool (by first | rfl | exact dT (by omega)))) rfl <| Ar rfl rfl Aa (.inl (congrArg Value.bool (by first | rfl | exact dT (by omega)))) rfl <| Af rfl (Au Aa (by first | rfl | exact dT (by omega)) Aa) <| As (Ae 1) <| At <| Aq rfl Bf ?_
  show _ = _
  have : ¬ lo ≤ z := by omega
  simp [outOf, inB, hz, this]
 refine AI (Ae 1) <| Aw (Ae 1) fun ds => Af rfl (Ah AA Aa (AM h1 rfl)) <| Ao (Ae 2) <| Ap rfl rfl Aa (by first | rfl | exact dF (by omega)) <| Ao (Ae 1) <| Ap rfl rfl Aa (by first | rfl | exact dF (by omega)) <| Af rfl (Ah AA Aa (AM h2 rfl)) <| Ap rfl rfl Aa (by first | rfl | exact dF (by omega)) <| Ao (Ae 1) <| Af rfl (A5 Aa (by first | rfl | exact dF (by omega)) Aa) <| As (Ae 1) ?_
 by_cases hz2 : hi < z
 ·refine At <| Aq rfl Bf ?_
  show _ = _
  have : ¬ z ≤ hi := by omega
  simp [outOf, inB, hz2, this]
 refine At <| Aq rfl Bf ?_
 show _ = _
 have e1 : lo ≤ z := by omega
 have e2 : z ≤ hi := by omega
 simp [outOf, inB, hz2, e1, e2]
theorem Bw {F : Heap} {v : Value} {xs : List Int} (lo hi : Int) (h : Ints F v xs) : Ok Tryz.prog 62 [.int .i64 lo, .int .i64 hi, v].toArray F fun r _ => r = .bool (xs.any fun z => !(inB lo hi z)) := by
 refine Ok.intro Tryz.func62 rfl Tryz.ntmps62 rfl fun w0 => Ac <| Al fun ds => A3 rfl <| Bc Aa rfl fun b1 hb1 nb1 => A3 rfl <| Bc Aa rfl fun b2 hb2 nb2 => As (Ae 1) <| AL (i := 1) rfl hb1 (.next <| .here) fun F3 hF4 hz1 => ?_
 replace h := h.mono hF4
 refine AL (i := 0) rfl hb2 (.here) fun F5 hF6 hz2 => ?_
 replace h := h.mono hF6
 replace hz1 := hF6 _ _ hz1
 refine Aw (Ae 1) fun ds => Af rfl (Bu AY) <| AS rfl (Ay bd_99 Aa AY (Gs h (fun z => !(inB lo hi z)) bd_100 fun k hk => NU hz1 hz2 _) (fun _ _ h => h)) <| As (Ae 1) <| At <| Aq rfl Bf ?_
 rfl
theorem P8 {F : Heap} {v : Value} {xs : List Stk} (h : Sl F v 3 Stk.enc xs) (p : _ → Bool) {g : FuncId} {cs : List Value} (hg : Body Tryz.prog g) (hp : ∀ k (hk : k < xs.length), Ok Tryz.prog g ([Value.agg (Stk.enc xs[k]).toArray] ++ cs).toArray F fun r _ => r = .bool (p xs[k])) : Ok Tryz.prog 133 [v, .func (.func g) #[] cs.toArray].toArray F fun r _ => r = .int .i64 (findI p xs) := by
 refine Ok.intro Tryz.func133 rfl Tryz.ntmps133 rfl fun w0 => ?_
 have hlen := h.plain.lt
 refine AI (Ae 1) <| Ac <| Aw (Ae 1) fun ds => Af rfl (A6 Cd Aa h.plain) <| As (Ae 1) <| Ak ?_
 refine AJ [4, 5, 8, 9, 10, 11, 12, 13, 14, 15, 16, 17, 18] (fun m e σ => ∃ k : Nat, m + k = xs.length ∧ Fct e 8 (.int .i64 k) ∧ σ = ⟨F, []⟩ ∧ ∀ j (hj : j < xs.length), j < k → p xs[j] = false) (xs.length) ?_ ?_
 · exact ⟨0, by omega, Bb, rfl, fun j hj h => absurd h (by omega)⟩
 rintro m e _ ⟨k, hm, hs8, rfl, hno⟩
 by_cases hlt : k < xs.length
 ·refine AI (Ae 1) <| Ac <| Ag Aa (by first | rfl | exact dT (by omega)) ?_
  by_cases hpk : p xs[k] = true
  ·refine Aj <| Ab <| Ac <| Ak <| AI (Ae 2) <| Aw (Ae 3) fun ds => Af rfl (Ax  Cd Aa h.plain Aa rfl (by omega)) <| Af rfl (AO Mw Aa rfl rfl (h.whole (by omega))) <| AS rfl (Ay hg Aa AY (hp k hlt) (fun _ _ h => h)) <| Am <| Ab <| Ag Aa hpk <| AI (Ae 2) <| At ?_
   refine A8 (A1 (A1 (A8 (A1 ?_))))
   refine Aq rfl Bf ?_
   show _ = _
   rw [Cz hlt hpk hno]; rfl
  replace hpk : p xs[k] = false := by simpa using hpk
  refine Aj <| Ab <| Ac <| Ak <| AI (Ae 2) <| Aw (Ae 3) fun ds => Af rfl (Ax  Cd Aa h.plain Aa rfl (by omega)) <| Af rfl (AO Mw Aa rfl rfl (h.whole (by omega))) <| AS rfl (Ay hg Aa AY (hp k hlt) (fun _ _ h => h)) <| Am <| Ab <| Ad Aa hpk <| Aj <| Az <| Ab <| Al fun ds => Af rfl (AE Aa Aa rfl (by omega) (by omega)) <| Ao (Ae 1) <| Am ?_
  refine Ab ⟨_, m - 1, Off.eq (BT rfl <| Cw rfl <| BY rfl <| A2), by omega, ?_⟩
  refine ⟨k + 1, by omega, Bb, rfl, fun j hj hjk => ?_⟩
  rcases Nat.lt_succ_iff_lt_or_eq.1 hjk with hjk | rfl
  · exact hno j hj hjk
  exact hpk
 refine AI (Ae 1) <| Ac <| Ad Aa (by first | rfl | exact dF (by omega)) <| AC ?_
 refine A0 <| A0 <| A4 <| Ab <| AI (Ae 1) <| At <| Aq rfl Bf ?_
 show _ = _
 rw [CS fun j hj => hno j hj (by omega)]; rfl
theorem Gq {F : Heap} {v : Value} {xs : List Stk} (h : Sl F v 3 Stk.enc xs) (p : _ → Bool) {g : FuncId} {cs : List Value} (hg : Body Tryz.prog g) (hp : ∀ k (hk : k < xs.length), Ok Tryz.prog g ([Value.agg (Stk.enc xs[k]).toArray] ++ cs).toArray F fun r _ => r = .bool (p xs[k])) : Ok Tryz.prog 112 [v, .func (.func g) #[] cs.toArray].toArray F fun r _ => r = .bool (xs.any p) := by
 refine Ok.intro Tryz.func112 rfl Tryz.ntmps112 rfl fun w0 => AI (Ae 1) <| Aw (Ae 2) fun ds => AS rfl (Ay bd_133 Aa AY (P8 h p hg hp) (fun _ _ h => h)) <| As (Ae 2) <| At <| Aq rfl Bf ?_
 show _ = _
 rw [← Dt]; rfl
theorem LY {F : Heap} {c TB : Nat} {b : Stk} (hb : F c = some (bx TB b.enc)) (x : Stk) : Ok Tryz.prog 113 [.agg x.enc.toArray, .pointer (some ⟨c, 0, none⟩)].toArray F fun r _ => r = .bool (sameS x.name b.name) := by
 refine Ok.intro Tryz.func113 rfl Tryz.ntmps113 rfl fun w0 => Ac <| Al fun ds => A3 rfl <| Bc Aa rfl fun b1 hb1 nb1 => As (Ae 1) <| Aw (Ae 3) fun ds => Af rfl (Ah DU Aa (AM hb rfl)) <| As (Ae 2) <| At <| Aq rfl Bf ?_
 rfl
theorem E2 {F : Heap} (g t : Int) : Ok Tryz.prog 28 [.int .i64 g, .int .i64 t].toArray F fun r _ => r = .agg #[.int .i64 g, .int .i64 t] := by
 refine Ok.intro Tryz.func28 rfl Tryz.ntmps28 rfl fun w0 => Ac <| Al fun ds => A3 rfl <| AN FV rfl fun b1 hb1 nb1 => Am <| Ab <| Aw (Ae 2) fun ds => Af rfl (BE bt_78 (.cons Aa rfl (.cons Aa rfl .nil)) (.cons rfl rfl (Nat.le_of_ble_eq_true rfl) (.cons (.here) .nil) (.cons rfl rfl (Nat.le_of_ble_eq_true rfl) (.cons (.next <| .here) .nil) .nil))) <| AV <| AQ OO Aa Aa (i := 0) rfl rfl rfl rfl (by simp [Value.oneCell']) (.here) <| Am <| Ab <| At <| Aq rfl (.agg JT Aa rfl rfl (Bg 0 rfl) .nil) ?_
 rfl
theorem D2 {F : Heap} (g t : Int) : Ok Tryz.prog 32 [.int .i64 g, .int .i64 t].toArray F fun r _ => r = .agg #[.int .i64 g, .int .i64 t] := by
 refine Ok.intro Tryz.func32 rfl Tryz.ntmps32 rfl fun w0 => Ac <| Al fun ds => A3 rfl <| AN EE rfl fun b1 hb1 nb1 => Am <| Ab <| Aw (Ae 2) fun ds => Af rfl (BE GX (.cons Aa rfl (.cons Aa rfl .nil)) (.cons rfl rfl (Nat.le_of_ble_eq_true rfl) (.cons (.here) .nil) (.cons rfl rfl (Nat.le_of_ble_eq_true rfl) (.cons (.next <| .here) .nil) .nil))) <| AV <| AQ EX Aa Aa (i := 0) rfl rfl rfl rfl (by simp [Value.oneCell']) (.here) <| Am <| Ab <| At <| Aq rfl (.agg Cg Aa rfl rfl (Bg 0 rfl) .nil) ?_
 rfl
end
section
set_option maxRecDepth 100000
open Go.RowKit
theorem RP : ZeroT Tryz.prog 73 (.agg #[.string ⟨#[]⟩, .int .i64 0, .int .i64 0]) := Bv (by kernel_rfl)
theorem Hw : ZeroT Tryz.prog 76 (.agg #[.int .i64 0, .int .i64 0, .int .i64 0]) := Bv (by kernel_rfl)
theorem G8 : AggT Tryz.prog 76 3 := Cx (by kernel_rfl)
instance : AggI Tryz.prog 76 3 := ⟨G8⟩
theorem WD : Body Tryz.prog 112 := AF (by kernel_rfl)
theorem Dg : Body Tryz.prog 62 := AF (by kernel_rfl)
theorem Om : FieldT Tryz.prog 26 0 0 := Bd (by kernel_rfl)
instance : FieldI Tryz.prog 26 0 0 := ⟨Om⟩
instance : FieldI Tryz.prog 26 1 1 := ⟨Bd (by kernel_rfl)⟩
instance : FieldI Tryz.prog 26 2 2 := ⟨Bd (by kernel_rfl)⟩
theorem K9 : FieldT Tryz.prog 26 3 3 := Bd (by kernel_rfl)
instance : FieldI Tryz.prog 26 3 3 := ⟨K9⟩
theorem Ol : FieldT Tryz.prog 26 4 4 := Bd (by kernel_rfl)
instance : FieldI Tryz.prog 26 4 4 := ⟨Ol⟩
instance : FieldI Tryz.prog 73 1 1 := ⟨Bd (by kernel_rfl)⟩
theorem S9 : FieldT Tryz.prog 76 0 0 := Bd (by kernel_rfl)
instance : FieldI Tryz.prog 76 0 0 := ⟨S9⟩
theorem S8 : FieldT Tryz.prog 76 1 1 := Bd (by kernel_rfl)
instance : FieldI Tryz.prog 76 1 1 := ⟨S8⟩
theorem S7 : FieldT Tryz.prog 78 0 0 := Bd (by kernel_rfl)
instance : FieldI Tryz.prog 78 0 0 := ⟨S7⟩
theorem S6 : FieldT Tryz.prog 78 1 1 := Bd (by kernel_rfl)
instance : FieldI Tryz.prog 78 1 1 := ⟨S6⟩
theorem Re : OneT Tryz.prog 22 := BI (by kernel_rfl)
instance : OneI Tryz.prog 22 := ⟨Re⟩
theorem EQ : OneT Tryz.prog 23 := BI (by kernel_rfl)
instance : OneI Tryz.prog 23 := ⟨EQ⟩
theorem NV : OneT Tryz.prog 24 := BI (by kernel_rfl)
instance : OneI Tryz.prog 24 := ⟨NV⟩
theorem CD : SliceT Tryz.prog 23 76 3 := Co (by kernel_rfl)
instance : SliceI Tryz.prog 23 := ⟨_, _, CD⟩
theorem Cu : SliceT Tryz.prog 24 78 2 := Co (by kernel_rfl)
instance : SliceI Tryz.prog 24 := ⟨_, _, Cu⟩
theorem sz_73 : SizeT Tryz.prog 73 3 := Bq (by kernel_rfl)
theorem KY : SizeT Tryz.prog 76 3 := Bq (by kernel_rfl)
theorem PapR.ones {F : Heap} {vs vr vx : Value} {c : Pap} (hr : PapR F vs vr vx c) : ∀ u ∈ [.int .i64 c.run, vs, vr, .int .i64 c.gats, vx], u.oneCell' = true := by
 intro u hu
 simp only [List.mem_cons, List.not_mem_nil, or_false] at hu
 rcases hu with rfl | rfl | rfl | rfl | rfl
 · rfl
 · exact hr.stocks.plain.one
 · exact hr.reams.plain.one
 · rfl
 exact hr.seen.plain.one
theorem Un {F : Heap} {vs vr vx : Value} {c : Pap} (hr : PapR F vs vr vx c) : Ok Tryz.prog 86 [papV vs vr vx c].toArray F fun r _ => r = checkPV c := by
 have hle0 : F.le F := Heap.le_refl _
 refine Ok.intro Tryz.func86 rfl Tryz.ntmps86 rfl fun w0 => ?_
 have hL1 := hr.stocks.plain.lt
 have hL2 := hr.reams.plain.lt
 have hL3 := hr.seen.plain.lt
 by_cases h1 : inB 1 500 c.run = true
 ·refine Ac <| Al fun ds => A3 rfl <| Bc Aa rfl fun b1 hb1 nb1 => As (Ae 3) <| Ac <| Ak <| Aw (Ae 2) fun ds => A3 rfl <| AU A7 B1 rfl (.cons Aa .nil) rfl rfl (by decide) (by simp [Value.oneCell']) fun b2 hb2 nb2 => AW (i := 0) rfl hb2 .here fun F3 hF4 hz5 => ?_
  replace hr := hr.mono hF4
  replace hle0 := Heap.le_trans hle0 hF4
  have hsl6 := Bk hz5
  refine AS rfl (Ay Dg Aa AY (Bw _ _ hsl6) (fun _ _ h => h)) <| As (Ae 1) <| Ad Aa (by simp [h1]) ?_
  by_cases h2 : inB 1 4 c.stocks.length = true
  ·refine Aw (Ae 2) fun ds => Af rfl (A6 Cd Aa hr.stocks.plain) <| A3 rfl <| AU A7 B1 rfl (.cons Aa .nil) rfl rfl (by decide) (by simp [Value.oneCell']) fun b7 hb7 nb7 => AW (i := 0) rfl hb7 .here fun F8 hF9 hz10 => ?_
   replace hr := hr.mono hF9
   replace hle0 := Heap.le_trans hle0 hF9
   have hsl11 := Bk hz10
   refine AS rfl (Ay Dg Aa AY (Bw _ _ hsl11) (fun _ _ h => h)) <| As (Ae 1) <| Ad Aa (by simp [h2]) <| Aj <| Az <| Ab <| Ac <| Aw (Ae 2) fun ds => Af rfl (A6 Cd Aa hr.stocks.plain) <| As (Ae 1) <| Ak ?_
   refine AJ [2, 3, 4, 5, 6, 25, 26, 27, 28, 29, 30, 31, 32, 33, 34, 35, 36, 37, 38, 39, 40, 41, 42, 43, 44, 45, 46, 47, 48, 49, 50, 51, 52, 53, 54, 55, 56, 57, 58, 59, 60, 61, 62, 63] (fun m e σ => ∃ k : Nat, m + k = c.stocks.length ∧ Fct e 25 (.int .i64 (k : Int)) ∧ ∃ G, F.le G ∧ PapR G vs vr vx c ∧ σ = ⟨G, [(b1, bx 26 [.int .i64 c.run, vs, vr, .int .i64 c.gats, vx])]⟩ ∧ ∀ j, j < k → stkErr c j = 0) (c.stocks.length) ?_ ?_
   · exact ⟨0, by omega, Bb, _, hle0, hr, rfl, fun j h => absurd h (by omega)⟩
   rintro m e _ ⟨k, hm, hs25, G3, hle0, hr, rfl, hno⟩
   by_cases hlt : k < c.stocks.length
   ·refine AI (Ae 1) <| Ac <| Ag Aa (by first | rfl | exact dT (by omega)) ?_
    by_cases hn : nameOk c.stocks[k].name = true
    ·refine Aj <| Ab <| Ac <| Ak <| Aw (Ae 1) fun ds => Af rfl (Ax  Cd Aa hr.stocks.plain Aa rfl (by omega)) <| Af rfl (AO Mw Aa rfl rfl (hr.stocks.whole (by omega))) <| A3 rfl <| AN RP rfl fun b13 hb13 nb13 => Ao (Ae 1) <| AV <| AQ sz_73 Aa Aa (i := 0) rfl rfl rfl rfl Stk.enc_one (.here) <| Am <| Ab <| Ak <| Aw (Ae 2) fun ds => AS rfl (Ay JQ Aa AY (CX _) (fun _ _ h => h)) <| As (Ae 2) <| Ad Aa (by rw [hn]; rfl) <| Ac <| AL (i := 0) rfl hb13 (.here) fun F14 hF15 hq => ?_
     replace hr := hr.mono hF15
     replace hle0 := Heap.le_trans hle0 hF15
     by_cases ht : (c.stocks.take k).any (fun y => sameS y.name c.stocks[k].name) = true
     ·refine Al fun ds => Ao (Ae 3) <| Af rfl (Do Cd Aa hr.stocks.plain Aa (k := k) rfl (by omega)) <| Af rfl (Bu AY) <| AS rfl (Ay WD Aa AY (Gq (hr.stocks.to (k := k) (by omega)) (fun y => sameS y.name c.stocks[k].name) WB fun i hi => LY hq _) (fun _ _ h => h)) <| As (Ae 1) <| Ag Aa ht <| AI (Ae 4) <| At ?_
      refine A8 (A8 (A1 (A1 (A8 (A1 ?_)))))
      refine Aq rfl Bf ?_
      have hE : stkErr c k = 5 := by rw [DB hlt]; simp [hn, ht]
      have hQ := Fj h1 h2 (B0 hlt hno (by rw [hE]; decide)) (by rw [hE]; decide)
      rw [hE] at hQ
      exact hQ.symm
     replace ht : (c.stocks.take k).any (fun y => sameS y.name c.stocks[k].name) = false := by simpa using ht
     refine Al fun ds => Ao (Ae 3) <| Af rfl (Do Cd Aa hr.stocks.plain Aa (k := k) rfl (by omega)) <| Af rfl (Bu AY) <| AS rfl (Ay WD Aa AY (Gq (hr.stocks.to (k := k) (by omega)) (fun y => sameS y.name c.stocks[k].name) WB fun i hi => LY hq _) (fun _ _ h => h)) <| As (Ae 1) <| Ad Aa ht ?_
     by_cases hy : (inB 1450 1850 c.stocks[k].lo && inB 1450 1850 c.stocks[k].hi) = true
     ·refine Aw (Ae 2) fun ds => Af rfl (Ah AA Aa (AM hq rfl)) <| Ao (Ae 2) <| Af rfl (Ah AA Aa (AM hq rfl)) <| A3 rfl <| AU A7 B1 rfl (.cons Aa (.cons Aa .nil)) rfl rfl (by decide) (by simp [Value.oneCell']) fun b16 hb16 nb16 => AW (i := 0) rfl hb16 .here fun F17 hF18 hz19 => ?_
      replace hr := hr.mono hF18
      replace hle0 := Heap.le_trans hle0 hF18
      replace hq := hF18 _ _ hq
      have hsl20 := Cp hz19
      refine AS rfl (Ay Dg Aa AY (Bw _ _ hsl20) (fun _ _ h => h)) <| As (Ae 1) <| Ad Aa (by rw [FQ]; simp only [Bool.and_eq_true] at hy; rw [hy.1, hy.2]; rfl) ?_
      by_cases hlh : c.stocks[k].hi < c.stocks[k].lo
      ·refine Aw (Ae 2) fun ds => Af rfl (Ah AA Aa (AM hq rfl)) <| Ao (Ae 2) <| Af rfl (Ah AA Aa (AM hq rfl)) <| As (Ae 2) <| Ag Aa (dT hlh) <| AI (Ae 4) <| At ?_
       refine A8 (A8 (A1 (A1 (A8 (A1 ?_)))))
       refine Aq rfl Bf ?_
       have hE : stkErr c k = 2 := by rw [DB hlt]; simp [hn, ht, hy, hlh]
       have hQ := Fj h1 h2 (B0 hlt hno (by rw [hE]; decide)) (by rw [hE]; decide)
       rw [hE] at hQ
       exact hQ.symm
      refine Aw (Ae 2) fun ds => Af rfl (Ah AA Aa (AM hq rfl)) <| Ao (Ae 2) <| Af rfl (Ah AA Aa (AM hq rfl)) <| As (Ae 2) <| Ad Aa (dF hlh) <| Aj ?_
      refine Az (Az (Ab ?_))
      refine Al fun ds => Af rfl (AE Aa Aa rfl (by omega) (by omega)) <| Ao (Ae 1) <| Am ?_
      refine Ab ⟨_, m - 1, Off.eq (Cv rfl <| Ci rfl <| BY rfl <| A2), by omega, ?_⟩
      refine ⟨k + 1, by omega, Bb, _, hle0, hr, rfl, fun j hjk => ?_⟩
      rcases Nat.lt_succ_iff_lt_or_eq.1 hjk with hjk | rfl
      · exact hno j hjk
      rw [DB hlt]; simp [hn, ht, hy, hlh]
     replace hy : (inB 1450 1850 c.stocks[k].lo && inB 1450 1850 c.stocks[k].hi) = false := by simpa using hy
     refine Aw (Ae 2) fun ds => Af rfl (Ah AA Aa (AM hq rfl)) <| Ao (Ae 2) <| Af rfl (Ah AA Aa (AM hq rfl)) <| A3 rfl <| AU A7 B1 rfl (.cons Aa (.cons Aa .nil)) rfl rfl (by decide) (by simp [Value.oneCell']) fun b21 hb21 nb21 => AW (i := 0) rfl hb21 .here fun F22 hF23 hz24 => ?_
     have hsl25 := Cp hz24
     refine AS rfl (Ay Dg Aa AY (Bw _ _ hsl25) (fun _ _ h => h)) <| As (Ae 1) <| Ag Aa (by rw [FQ]; rw [Bool.and_eq_false_iff] at hy; rcases hy with hy | hy <;> rw [hy] <;> simp) <| AI (Ae 4) <| At ?_
     refine A8 (A8 (A1 (A1 (A8 (A1 ?_)))))
     refine Aq rfl Bf ?_
     have hE : stkErr c k = 7 := by rw [DB hlt]; simp [hn, ht, hy]
     have hQ := Fj h1 h2 (B0 hlt hno (by rw [hE]; decide)) (by rw [hE]; decide)
     rw [hE] at hQ
     exact hQ.symm
    replace hn : nameOk c.stocks[k].name = false := by simpa using hn
    refine Aj <| Ab <| Ac <| Ak <| Aw (Ae 1) fun ds => Af rfl (Ax  Cd Aa hr.stocks.plain Aa rfl (by omega)) <| Af rfl (AO Mw Aa rfl rfl (hr.stocks.whole (by omega))) <| A3 rfl <| AN RP rfl fun b26 hb26 nb26 => Ao (Ae 1) <| AV <| AQ sz_73 Aa Aa (i := 0) rfl rfl rfl rfl Stk.enc_one (.here) <| Am <| Ab <| Ak <| Aw (Ae 2) fun ds => AS rfl (Ay JQ Aa AY (CX _) (fun _ _ h => h)) <| As (Ae 2) <| Ag Aa (by rw [hn]; rfl) <| AI (Ae 4) <| At ?_
    refine A8 (A8 (A1 (A1 (A8 (A1 ?_)))))
    refine Aq rfl Bf ?_
    have hE : stkErr c k = 6 := by rw [DB hlt]; simp [hn]
    have hQ := Fj h1 h2 (B0 hlt hno (by rw [hE]; decide)) (by rw [hE]; decide)
    rw [hE] at hQ
    exact hQ.symm
   refine AI (Ae 1) <| Ac <| Ad Aa (by first | rfl | exact dF (by omega)) ?_
   have h3 : firstQ c.stocks.length (stkErr c) = (0, 0) := BU fun j hj => hno j (by omega)
   by_cases h4 : inB 1 4 c.reams.length = true
   ·refine AC ?_
    refine A0 <| A0 <| A4 <| Ab <| Ac <| Aw (Ae 2) fun ds => Af rfl (A6 CD Aa hr.reams.plain) <| A3 rfl <| AU A7 B1 rfl (.cons Aa .nil) rfl rfl (by decide) (by simp [Value.oneCell']) fun b27 hb27 nb27 => AW (i := 0) rfl hb27 .here fun F28 hF29 hz30 => ?_
    replace hr := hr.mono hF29
    replace hle0 := Heap.le_trans hle0 hF29
    have hsl31 := Bk hz30
    refine AS rfl (Ay Dg Aa AY (Bw _ _ hsl31) (fun _ _ h => h)) <| Am <| Ab <| Ad Aa (by simp [h4]) <| Aj <| Ab <| Ac <| Aw (Ae 2) fun ds => Af rfl (A6 CD Aa hr.reams.plain) <| As (Ae 1) <| Ak ?_
    refine AJ [2, 3, 4, 7, 8, 72, 73, 74, 75, 76, 77, 78, 79, 80, 81, 82, 83, 84, 85, 86, 87, 88, 89, 90, 91, 92, 93, 94, 95, 96, 97, 98, 99, 100, 101, 102, 103, 104, 105, 106, 107, 108, 109, 110, 111] (fun m e σ => ∃ k : Nat, m + k = c.reams.length ∧ Fct e 72 (.int .i64 (k : Int)) ∧ ∃ G, F.le G ∧ PapR G vs vr vx c ∧ σ = ⟨G, [(b1, bx 26 [.int .i64 c.run, vs, vr, .int .i64 c.gats, vx])]⟩ ∧ ∀ j, j < k → remErr c j = 0) (c.reams.length) ?_ ?_
    · exact ⟨0, by omega, Bb, _, hle0, hr, rfl, fun j h => absurd h (by omega)⟩
    rintro m e _ ⟨k, hm, ht72, G5, hle0, hr, rfl, hno⟩
    by_cases hlt : k < c.reams.length
    ·refine AI (Ae 1) <| Ac <| Ag Aa (by first | rfl | exact dT (by omega)) ?_
     by_cases hs : inB 0 (c.stocks.length - 1) c.reams[k].stock = true
     ·refine Aj <| Ab <| Ac <| Ak <| Aw (Ae 1) fun ds => Af rfl (Ax  CD Aa hr.reams.plain Aa rfl (by omega)) <| Af rfl (AO G8 Aa rfl rfl (hr.reams.whole (by omega))) <| A3 rfl <| AN Hw rfl fun b33 hb33 nb33 => Ao (Ae 1) <| AV <| AQ KY Aa Aa (i := 0) rfl rfl rfl rfl Rem.enc_one (.here) <| Am <| Ab <| Ak <| Aw (Ae 2) fun ds => Af rfl (A6 Cd Aa hr.stocks.plain) <| Af rfl (BZ Aa Aa rfl (by omega) (by omega)) <| Ao (Ae 2) <| A3 rfl <| AU A7 B1 rfl (.cons Aa .nil) rfl rfl (by decide) (by simp [Value.oneCell']) fun b34 hb34 nb34 => AW (i := 0) rfl hb34 .here fun F35 hF36 hz37 => ?_
      replace hr := hr.mono hF36
      replace hle0 := Heap.le_trans hle0 hF36
      have hsl38 := Bk hz37
      refine AS rfl (Ay Dg Aa AY (Bw _ _ hsl38) (fun _ _ h => h)) <| As (Ae 1) <| Ad Aa (by simp [hs]) ?_
      by_cases hy : (inB 1 2000 c.reams[k].lo && inB 1 2000 c.reams[k].hi) = true
      ·refine Aw (Ae 6) fun ds => A3 rfl <| AU A7 B1 rfl (.cons Aa (.cons Aa .nil)) rfl rfl (by decide) (by simp [Value.oneCell']) fun b39 hb39 nb39 => AW (i := 0) rfl hb39 .here fun F40 hF41 hz42 => ?_
       replace hr := hr.mono hF41
       replace hle0 := Heap.le_trans hle0 hF41
       have hsl43 := Cp hz42
       refine AS rfl (Ay Dg Aa AY (Bw _ _ hsl43) (fun _ _ h => h)) <| As (Ae 1) <| Ad Aa (by rw [FQ]; simp only [Bool.and_eq_true] at hy; rw [hy.1, hy.2]; rfl) ?_
       have hyb : 1 ≤ c.reams[k].lo ∧ c.reams[k].lo ≤ 2000 := by have h := hy; unfold inB at h; simp at h; omega
       by_cases hw : inB c.reams[k].lo (c.reams[k].lo + 2) c.reams[k].hi = true
       ·refine Aw (Ae 6) fun ds => Af rfl (AE Aa Aa rfl (by omega) (by omega)) <| Ao (Ae 3) <| A3 rfl <| AU A7 B1 rfl (.cons Aa .nil) rfl rfl (by decide) (by simp [Value.oneCell']) fun b44 hb44 nb44 => AW (i := 0) rfl hb44 .here fun F45 hF46 hz47 => ?_
        replace hr := hr.mono hF46
        replace hle0 := Heap.le_trans hle0 hF46
        have hsl48 := Bk hz47
        refine AS rfl (Ay Dg Aa AY (Bw _ _ hsl48) (fun _ _ h => h)) <| As (Ae 1) <| Ad Aa (by simp [hw]) <| Aj ?_
        refine Az (Az (Ab ?_))
        refine By (fun _ _ h => h.drop (kD <| kK <| .refl _)) <| Al fun ds => Af rfl (AE Aa Aa rfl (by omega) (by omega)) <| Ao (Ae 1) <| Am ?_
        refine Ab ⟨_, m - 1, Off.eq (Cv rfl <| Ci rfl <| Cw rfl <| BY rfl <| A2), by omega, ?_⟩
        refine ⟨k + 1, by omega, Bb, _, hle0, hr, rfl, fun j hjk => ?_⟩
        rcases Nat.lt_succ_iff_lt_or_eq.1 hjk with hjk | rfl
        · exact hno j hjk
        rw [Eq hlt]; simp [hs, hy, hw]
       replace hw : inB c.reams[k].lo (c.reams[k].lo + 2) c.reams[k].hi = false := by simpa using hw
       refine Aw (Ae 6) fun ds => Af rfl (AE Aa Aa rfl (by omega) (by omega)) <| Ao (Ae 3) <| A3 rfl <| AU A7 B1 rfl (.cons Aa .nil) rfl rfl (by decide) (by simp [Value.oneCell']) fun b49 hb49 nb49 => AW (i := 0) rfl hb49 .here fun F50 hF51 hz52 => ?_
       have hsl53 := Bk hz52
       refine AS rfl (Ay Dg Aa AY (Bw _ _ hsl53) (fun _ _ h => h)) <| As (Ae 1) <| Ag Aa (by simp [hw]) <| AI (Ae 4) <| At ?_
       refine A8 (A8 (A1 (A1 (A8 (A1 ?_)))))
       refine Aq rfl Bf ?_
       have hE : remErr c k = 2 := by rw [Eq hlt]; simp [hs, hy, hw]
       have hQ := Fi h1 h2 h3 h4 (B0 hlt hno (by rw [hE]; decide)) (by rw [hE]; decide)
       rw [hE] at hQ
       exact hQ.symm
      replace hy : (inB 1 2000 c.reams[k].lo && inB 1 2000 c.reams[k].hi) = false := by simpa using hy
      refine Aw (Ae 6) fun ds => A3 rfl <| AU A7 B1 rfl (.cons Aa (.cons Aa .nil)) rfl rfl (by decide) (by simp [Value.oneCell']) fun b54 hb54 nb54 => AW (i := 0) rfl hb54 .here fun F55 hF56 hz57 => ?_
      have hsl58 := Cp hz57
      refine AS rfl (Ay Dg Aa AY (Bw _ _ hsl58) (fun _ _ h => h)) <| As (Ae 1) <| Ag Aa (by rw [FQ]; rw [Bool.and_eq_false_iff] at hy; rcases hy with hy | hy <;> rw [hy] <;> simp) <| AI (Ae 4) <| At ?_
      refine A8 (A8 (A1 (A1 (A8 (A1 ?_)))))
      refine Aq rfl Bf ?_
      have hE : remErr c k = 7 := by rw [Eq hlt]; simp [hs, hy]
      have hQ := Fi h1 h2 h3 h4 (B0 hlt hno (by rw [hE]; decide)) (by rw [hE]; decide)
      rw [hE] at hQ
      exact hQ.symm
     replace hs : inB 0 (c.stocks.length - 1) c.reams[k].stock = false := by simpa using hs
     refine Aj <| Ab <| Ac <| Ak <| Aw (Ae 1) fun ds => Af rfl (Ax  CD Aa hr.reams.plain Aa rfl (by omega)) <| Af rfl (AO G8 Aa rfl rfl (hr.reams.whole (by omega))) <| A3 rfl <| AN Hw rfl fun b59 hb59 nb59 => Ao (Ae 1) <| AV <| AQ KY Aa Aa (i := 0) rfl rfl rfl rfl Rem.enc_one (.here) <| Am <| Ab <| Ak <| Aw (Ae 2) fun ds => Af rfl (A6 Cd Aa hr.stocks.plain) <| Af rfl (BZ Aa Aa rfl (by omega) (by omega)) <| Ao (Ae 2) <| A3 rfl <| AU A7 B1 rfl (.cons Aa .nil) rfl rfl (by decide) (by simp [Value.oneCell']) fun b60 hb60 nb60 => AW (i := 0) rfl hb60 .here fun F61 hF62 hz63 => ?_
     have hsl64 := Bk hz63
     refine AS rfl (Ay Dg Aa AY (Bw _ _ hsl64) (fun _ _ h => h)) <| As (Ae 1) <| Ag Aa (by simp [hs]) <| AI (Ae 4) <| At ?_
     refine A8 (A8 (A1 (A1 (A8 (A1 ?_)))))
     refine Aq rfl Bf ?_
     have hE : remErr c k = 4 := by rw [Eq hlt]; simp [hs]
     have hQ := Fi h1 h2 h3 h4 (B0 hlt hno (by rw [hE]; decide)) (by rw [hE]; decide)
     rw [hE] at hQ
     exact hQ.symm
    refine AI (Ae 1) <| Ac <| Ad Aa (by first | rfl | exact dF (by omega)) ?_
    have h5 : firstQ c.reams.length (remErr c) = (0, 0) := BU fun j hj => hno j (by omega)
    by_cases h6 : inB 1 5 c.gats = true
    ·have h6b : 1 ≤ c.gats ∧ c.gats ≤ 5 := by have h := h6; unfold inB at h; simp at h; omega
     refine AC ?_
     refine A0 <| A0 <| A4 <| Ab <| Ac <| Ak <| Aw (Ae 2) fun ds => A3 rfl <| AU A7 B1 rfl (.cons Aa .nil) rfl rfl (by decide) (by simp [Value.oneCell']) fun b65 hb65 nb65 => AW (i := 0) rfl hb65 .here fun F66 hF67 hz68 => ?_
     replace hr := hr.mono hF67
     replace hle0 := Heap.le_trans hle0 hF67
     have hsl69 := Bk hz68
     refine AS rfl (Ay Dg Aa AY (Bw _ _ hsl69) (fun _ _ h => h)) <| As (Ae 1) <| Ad Aa (by simp [h6]) ?_
     by_cases h7 : 8 < c.seen.length
     ·refine Aw (Ae 2) fun ds => Af rfl (A6 Cu Aa hr.seen.plain) <| As (Ae 2) <| Ag Aa (dT (by omega)) <| AI (Ae 3) <| At <| A8 <| A1 <| Aq rfl Bf ?_
      exact (Qh h1 h2 h3 h4 h5 h6 h7).symm
     refine Aw (Ae 2) fun ds => Af rfl (A6 Cu Aa hr.seen.plain) <| As (Ae 2) <| Ad Aa (dF (by omega)) <| Aj <| Az <| Ab <| Ac <| Aw (Ae 2) fun ds => Af rfl (A6 Cu Aa hr.seen.plain) <| As (Ae 1) <| Ak ?_
     refine AJ [2, 3, 4, 9, 10, 125, 126, 127, 128, 129, 130, 131, 132, 133, 134, 135, 136, 137, 138, 139, 140, 141, 142, 143, 144, 145, 146, 147, 148] (fun m e σ => ∃ k : Nat, m + k = c.seen.length ∧ Fct e 125 (.int .i64 (k : Int)) ∧ ∃ G, F.le G ∧ PapR G vs vr vx c ∧ σ = ⟨G, [(b1, bx 26 [.int .i64 c.run, vs, vr, .int .i64 c.gats, vx])]⟩ ∧ ∀ j, j < k → snErr c j = 0) (c.seen.length) ?_ ?_
     · exact ⟨0, by omega, Bb, _, hle0, hr, rfl, fun j h => absurd h (by omega)⟩
     rintro m e _ ⟨k, hm, hu125, G7, hle0, hr, rfl, hno⟩
     by_cases hlt : k < c.seen.length
     ·refine AI (Ae 1) <| Ac <| Ag Aa (by first | rfl | exact dT (by omega)) ?_
      by_cases hg : inB 0 (c.gats - 1) c.seen[k].g = true
      ·refine Aj <| Ab <| Ac <| Ak <| Aw (Ae 1) fun ds => Af rfl (Ax  Cu Aa hr.seen.plain Aa rfl (by omega)) <| Af rfl (AO JT Aa rfl rfl (hr.seen.whole (by omega))) <| A3 rfl <| AN FV rfl fun b71 hb71 nb71 => Ao (Ae 1) <| AV <| AQ OO Aa Aa (i := 0) rfl rfl rfl rfl Sn.enc_one (.here) <| Am <| Ab <| Aw (Ae 2) fun ds => Af rfl (BZ Aa Aa rfl (by omega) (by omega)) <| Ao (Ae 2) <| A3 rfl <| AU A7 B1 rfl (.cons Aa .nil) rfl rfl (by decide) (by simp [Value.oneCell']) fun b72 hb72 nb72 => AW (i := 0) rfl hb72 .here fun F73 hF74 hz75 => ?_
       replace hr := hr.mono hF74
       replace hle0 := Heap.le_trans hle0 hF74
       have hsl76 := Bk hz75
       refine AS rfl (Ay Dg Aa AY (Bw _ _ hsl76) (fun _ _ h => h)) <| Ao (Ae 1) <| Ap rfl rfl Aa (by simp [hg]) <| Ao (Ae 1) <| Ap rfl rfl Aa (by simp [hg]) <| Ao (Ae 1) <| Ap rfl rfl Aa (by simp [hg]) <| Af rfl (A6 Cd Aa hr.stocks.plain) <| Ap rfl rfl Aa (by simp [hg]) <| Af rfl (BZ Aa Aa rfl (by omega) (by omega)) <| Ap rfl rfl Aa (by simp [hg]) <| Ao (Ae 1) <| Ap rfl rfl Aa (by simp [hg]) <| Ao (Ae 1) <| Ap rfl rfl Aa (by simp [hg]) <| A3 rfl <| AU A7 B1 rfl (.cons Aa .nil) rfl rfl (by decide) (by simp [Value.oneCell']) fun b77 hb77 nb77 => AW (i := 0) rfl hb77 .here fun F78 hF79 hz80 => ?_
       replace hr := hr.mono hF79
       replace hle0 := Heap.le_trans hle0 hF79
       have hsl81 := Bk hz80
       refine Ap rfl rfl Aa (by simp [hg]) <| AS rfl (Ay Dg Aa AY (Bw _ _ hsl81) (fun _ _ h => h)) <| Af rfl (A5 Aa (by simp [hg]) Aa) <| Am <| Ab ?_
       by_cases hs : inB 0 (c.stocks.length - 1) c.seen[k].s = true
       ·refine Ad Aa (by simp [hs]) <| Aj <| Az <| Ab <| By (fun _ _ h => h.drop (kD <| kK <| .refl _)) <| Al fun ds => Af rfl (AE Aa Aa rfl (by omega) (by omega)) <| Ao (Ae 1) <| Am ?_
        refine Ab ⟨_, m - 1, Off.eq (B3 rfl <| BT rfl <| BY rfl <| A2), by omega, ?_⟩
        refine ⟨k + 1, by omega, Bb, _, hle0, hr, rfl, fun j hjk => ?_⟩
        rcases Nat.lt_succ_iff_lt_or_eq.1 hjk with hjk | rfl
        · exact hno j hjk
        rw [DO hlt]; simp [hg, hs]
       replace hs : inB 0 (c.stocks.length - 1) c.seen[k].s = false := by simpa using hs
       refine Ag Aa (by simp [hs]) <| AI (Ae 4) <| At ?_
       refine A8 (A1 (A1 (A8 (A1 ?_))))
       refine Aq rfl Bf ?_
       have hE : snErr c k = 4 := by rw [DO hlt]; simp [hg, hs]
       have hQ := Ji h1 h2 h3 h4 h5 h6 h7 (B0 hlt hno (by rw [hE]; decide)) (by rw [hE]; decide)
       rw [hE] at hQ
       exact hQ.symm
      replace hg : inB 0 (c.gats - 1) c.seen[k].g = false := by simpa using hg
      refine Aj <| Ab <| Ac <| Ak <| Aw (Ae 1) fun ds => Af rfl (Ax  Cu Aa hr.seen.plain Aa rfl (by omega)) <| Af rfl (AO JT Aa rfl rfl (hr.seen.whole (by omega))) <| A3 rfl <| AN FV rfl fun b82 hb82 nb82 => Ao (Ae 1) <| AV <| AQ OO Aa Aa (i := 0) rfl rfl rfl rfl Sn.enc_one (.here) <| Am <| Ab <| Aw (Ae 2) fun ds => Af rfl (BZ Aa Aa rfl (by omega) (by omega)) <| Ao (Ae 2) <| A3 rfl <| AU A7 B1 rfl (.cons Aa .nil) rfl rfl (by decide) (by simp [Value.oneCell']) fun b83 hb83 nb83 => AW (i := 0) rfl hb83 .here fun F84 hF85 hz86 => ?_
      have hsl87 := Bk hz86
      refine AS rfl (Ay Dg Aa AY (Bw _ _ hsl87) (fun _ _ h => h)) <| Ao (Ae 1) <| Ar rfl rfl Aa (.inl (congrArg Value.bool (by simp [hg]))) rfl <| Ar rfl rfl Aa (.inl (congrArg Value.bool (by simp [hg]))) rfl <| Ar rfl rfl Aa (.inl (congrArg Value.bool (by simp [hg]))) rfl <| Ar rfl rfl Aa (.inl (congrArg Value.bool (by simp [hg]))) rfl <| Ar rfl rfl Aa (.inl (congrArg Value.bool (by simp [hg]))) rfl <| Ar rfl rfl Aa (.inl (congrArg Value.bool (by simp [hg]))) rfl <| Ar rfl rfl Aa (.inl (congrArg Value.bool (by simp [hg]))) rfl <| Ar rfl rfl Aa (.inl (congrArg Value.bool (by simp [hg]))) rfl <| Af rfl (Au Aa (by simp [hg]) Aa) <| Am <| Ab <| Ag Aa rfl <| AI (Ae 4) <| At ?_
      refine A8 (A1 (A1 (A8 (A1 ?_))))
      refine Aq rfl Bf ?_
      have hE : snErr c k = 4 := by rw [DO hlt]; simp [hg]
      have hQ := Ji h1 h2 h3 h4 h5 h6 h7 (B0 hlt hno (by rw [hE]; decide)) (by rw [hE]; decide)
      rw [hE] at hQ
      exact hQ.symm
     refine AI (Ae 1) <| Ac <| Ad Aa (by first | rfl | exact dF (by omega)) <| AC ?_
     refine A0 <| A0 <| A4 <| Ab <| AI (Ae 3) <| At <| Aq rfl Bf ?_
     exact (Qm h1 h2 h3 h4 h5 h6 h7 (BU fun j hj => hno j (by omega))).symm
    replace h6 : inB 1 5 c.gats = false := by simpa using h6
    refine AC ?_
    refine A0 <| A0 <| A4 <| Ab <| Ac <| Ak <| Aw (Ae 2) fun ds => A3 rfl <| AU A7 B1 rfl (.cons Aa .nil) rfl rfl (by decide) (by simp [Value.oneCell']) fun b88 hb88 nb88 => AW (i := 0) rfl hb88 .here fun F89 hF90 hz91 => ?_
    have hsl92 := Bk hz91
    refine AS rfl (Ay Dg Aa AY (Bw _ _ hsl92) (fun _ _ h => h)) <| As (Ae 1) <| Ag Aa (by simp [h6]) <| AI (Ae 3) <| At <| A8 <| A1 <| Aq rfl Bf ?_
    exact (Qi h1 h2 h3 h4 h5 h6).symm
   replace h4 : inB 1 4 c.reams.length = false := by simpa using h4
   refine AC ?_
   refine A0 <| A0 <| A4 <| Ab <| Ac <| Aw (Ae 2) fun ds => Af rfl (A6 CD Aa hr.reams.plain) <| A3 rfl <| AU A7 B1 rfl (.cons Aa .nil) rfl rfl (by decide) (by simp [Value.oneCell']) fun b93 hb93 nb93 => AW (i := 0) rfl hb93 .here fun F94 hF95 hz96 => ?_
   have hsl97 := Bk hz96
   refine AS rfl (Ay Dg Aa AY (Bw _ _ hsl97) (fun _ _ h => h)) <| Am <| Ab <| Ag Aa (by simp [h4]) <| AI (Ae 3) <| At <| A1 <| Aq rfl Bf ?_
   exact (Qj h1 h2 h3 h4).symm
  replace h2 : inB 1 4 c.stocks.length = false := by simpa using h2
  refine Aw (Ae 2) fun ds => Af rfl (A6 Cd Aa hr.stocks.plain) <| A3 rfl <| AU A7 B1 rfl (.cons Aa .nil) rfl rfl (by decide) (by simp [Value.oneCell']) fun b98 hb98 nb98 => AW (i := 0) rfl hb98 .here fun F99 hF100 hz101 => ?_
  have hsl102 := Bk hz101
  refine AS rfl (Ay Dg Aa AY (Bw _ _ hsl102) (fun _ _ h => h)) <| As (Ae 1) <| Ag Aa (by simp [h2]) <| AI (Ae 3) <| At <| A8 <| A1 <| Aq rfl Bf ?_
  exact (Qk h1 h2).symm
 replace h1 : inB 1 500 c.run = false := by simpa using h1
 refine Ac <| Al fun ds => A3 rfl <| Bc Aa rfl fun b103 hb103 nb103 => As (Ae 3) <| Ac <| Ak <| Aw (Ae 2) fun ds => A3 rfl <| AU A7 B1 rfl (.cons Aa .nil) rfl rfl (by decide) (by simp [Value.oneCell']) fun b104 hb104 nb104 => AW (i := 0) rfl hb104 .here fun F105 hF106 hz107 => ?_
 have hsl108 := Bk hz107
 refine AS rfl (Ay Dg Aa AY (Bw _ _ hsl108) (fun _ _ h => h)) <| As (Ae 1) <| Ag Aa (by simp [h1]) <| AI (Ae 3) <| At <| A8 <| A1 <| Aq rfl Bf ?_
 exact (Ql h1).symm
end
section
set_option maxRecDepth 100000
open Go.RowKit
theorem Fk : Body Tryz.prog 17 := AF (by kernel_rfl)
theorem Fy {F : Heap} {vs vr vx : Value} {c : Pap} (hr : PapR F vs vr vx c) : Ok Tryz.prog 4 [papV vs vr vx c].toArray F fun r _ => r = checkPV c := by
 refine Ok.intro Tryz.func4 rfl Tryz.ntmps4 rfl fun w0 => ?_
 have hL1 := hr.stocks.plain.lt
 have hL2 := hr.reams.plain.lt
 have hL3 := hr.seen.plain.lt
 by_cases h1 : inB 1 500 c.run = true
 ·refine Ac <| Al fun ds => A3 rfl <| Bc Aa rfl fun b1 hb1 nb1 => As (Ae 3) <| Ac <| Aw (Ae 2) fun ds => AS rfl (Ay Fk Aa AY (DF _ _ _) (fun _ _ h => h)) <| As (Ae 1) <| Ad Aa (by rw [h1]; rfl) ?_
  by_cases h2 : inB 1 4 c.stocks.length = true
  ·have hp6 : c.stocks.length ≤ 4 := by have h := h2; unfold inB at h; simp at h; omega
   refine Aj <| Ab <| Ac <| Aw (Ae 2) fun ds => Af rfl (A6 Cd Aa hr.stocks.plain) <| AS rfl (Ay Fk Aa AY (DF _ _ _) (fun _ _ h => h)) <| As (Ae 1) <| Ad Aa (by rw [h2]; rfl) <| Aj <| Ab <| AI (Ae 1) <| Ac <| AI (Ae 1) <| Ak ?_
   refine AJ [2, 3, 4, 5, 6, 7, 21, 22, 23, 24, 25, 26, 27, 28, 29, 30, 31, 32, 33, 34, 35, 36, 37, 38, 39, 40, 41, 42, 43, 44, 45, 46, 47, 48, 49, 50, 51, 52, 53, 54, 55, 56, 57] (fun m e σ => ∃ k : Nat, m + k = c.stocks.length ∧ Fct e 6 (.int .i64 (k : Int)) ∧ ∃ (v : Value) (R : List (Nat × Obj)), Fct e 5 v ∧ Own 9 1 v (snames c k).length ((snames c k).flatMap strE) R ∧ σ = ⟨F, (b1, bx 26 [.int .i64 c.run, vs, vr, .int .i64 c.gats, vx]) :: R⟩ ∧ ∀ j, j < k → stkErr c j = 0) (c.stocks.length) ?_ ?_
   · exact ⟨0, by omega, Bb, _, _, Bb, Own.nil, rfl, fun j h => absurd h (by omega)⟩
   rintro m e _ ⟨k, hm, hs6, v4, R4, hs5, ho, rfl, hno⟩
   by_cases hlt : k < c.stocks.length
   ·have hnl := QL (Nat.le_of_lt hlt)
    refine Ac <| Aw (Ae 3) fun ds => Af rfl (A6 Cd Aa hr.stocks.plain) <| As (Ae 1) <| Ag Aa (by first | rfl | exact dT (by omega)) ?_
    by_cases hf : freshE c.stocks[k].name (snames c k) = 0
    ·refine Aj <| Ab <| Ac <| Ak <| Aw (Ae 3) fun ds => Af rfl (Ax (k := k) Cd Aa hr.stocks.plain Aa rfl hlt) <| Ao (Ae 1) <| Af rfl (Ah DU Aa (hr.stocks.cell hlt rfl)) <| Ao (Ae 1) <| AS rfl (FA N5 Aa AY (fun G _ hG => Fg (ho.sl (fun _ => rfl) (fun p hp => hG p (List.mem_cons_of_mem _ hp)) (by omega)) _) (fun _ _ h => h)) <| As (Ae 1) <| Aw (Ae 4) fun ds => Af rfl (Ax (k := k) Cd Aa hr.stocks.plain Aa rfl hlt) <| Ao (Ae 1) <| Af rfl (Ah DU Aa (hr.stocks.cell hlt rfl)) <| A3 rfl <| AU EY zr_9 rfl (.cons Aa .nil) rfl rfl (by decide) (by simp [Value.oneCell']) fun b3 hb3 nb3 => A3 rfl <| Bi EY el_9 Aa ho Aa (BA (s := 1) 0 rfl rfl (by simp [Value.oneCell'])) (by omega) (by omega) (.s <| .s <| .z) .last fun v4 R5 ho6 => ?_
     have ho2 := ho6.snoc (x := c.stocks[k].name) rfl rfl
     refine As (Ae 1) <| Ac <| AI (Ae 2) <| Ag Aa (dT hf) ?_
     by_cases hv : rangeE c.stocks[k].lo c.stocks[k].hi 1450 1850 = 0
     ·refine Al fun ds => Ao (Ae 3) <| Af rfl (Ax (k := k) Cd Aa hr.stocks.plain Aa rfl hlt) <| Ao (Ae 1) <| Af rfl (AO (vs := [.int .i64 c.stocks[k].lo, .int .i64 c.stocks[k].hi]) Cg Aa rfl rfl (hr.stocks.part hlt (rest := []) rfl)) <| AS rfl (Ay N4 Aa AY (Fb _ _ _ _) (fun _ _ h => h)) <| As (Ae 1) <| AI (Ae 2) <| Ad Aa (dF (fun h => h hv)) <| Aj <| Az <| Ab <| By (fun _ _ h => h.drop (kD <| kK <| .refl _)) <| Al fun ds => Ao (Ae 1) <| Af rfl (AE Aa Aa rfl (by omega) (by omega)) <| Ao (Ae 1) <| Am ?_
      refine Ab ⟨_, m - 1, Off.eq (Cv rfl <| Ci rfl <| Cw rfl <| BY rfl <| A2), by omega, ?_⟩
      refine ⟨k + 1, by omega, Bb, _, _, Bb, by rw [OZ hlt]; exact ho2, rfl, fun j hjk => ?_⟩
      rcases Nat.lt_succ_iff_lt_or_eq.1 hjk with hjk | rfl
      · exact hno j hjk
      rw [Ft hlt, if_neg (fun h => h hf), hv]
     refine Al fun ds => Ao (Ae 3) <| Af rfl (Ax (k := k) Cd Aa hr.stocks.plain Aa rfl hlt) <| Ao (Ae 1) <| Af rfl (AO (vs := [.int .i64 c.stocks[k].lo, .int .i64 c.stocks[k].hi]) Cg Aa rfl rfl (hr.stocks.part hlt (rest := []) rfl)) <| AS rfl (Ay N4 Aa AY (Fb _ _ _ _) (fun _ _ h => h)) <| As (Ae 1) <| AI (Ae 2) <| Ag Aa (dT hv) <| AI (Ae 5) <| At ?_
     refine A8 (A1 (A1 (A8 (A1 ?_))))
     refine Aq rfl Bf ?_
     have hE : stkErr c k = rangeE c.stocks[k].lo c.stocks[k].hi 1450 1850 := by rw [Ft hlt]; simp [hf]
     have hQ := Fj h1 h2 (B0 hlt hno (by rw [hE]; exact hv)) (by rw [hE]; exact hv)
     rw [hE] at hQ
     exact hQ.symm
    refine Aj <| Ab <| Ac <| Ak <| Aw (Ae 3) fun ds => Af rfl (Ax (k := k) Cd Aa hr.stocks.plain Aa rfl hlt) <| Ao (Ae 1) <| Af rfl (Ah DU Aa (hr.stocks.cell hlt rfl)) <| Ao (Ae 1) <| AS rfl (FA N5 Aa AY (fun G _ hG => Fg (ho.sl (fun _ => rfl) (fun p hp => hG p (List.mem_cons_of_mem _ hp)) (by omega)) _) (fun _ _ h => h)) <| As (Ae 1) <| Aw (Ae 4) fun ds => Af rfl (Ax (k := k) Cd Aa hr.stocks.plain Aa rfl hlt) <| Ao (Ae 1) <| Af rfl (Ah DU Aa (hr.stocks.cell hlt rfl)) <| A3 rfl <| AU EY zr_9 rfl (.cons Aa .nil) rfl rfl (by decide) (by simp [Value.oneCell']) fun b7 hb7 nb7 => A3 rfl <| Bi EY el_9 Aa ho Aa (BA (s := 1) 0 rfl rfl (by simp [Value.oneCell'])) (by omega) (by omega) (.s <| .s <| .z) .last fun v8 R9 ho10 => ?_
    have ho2 := ho10.snoc (x := c.stocks[k].name) rfl rfl
    refine As (Ae 1) <| Ac <| AI (Ae 2) <| Ad Aa (dF hf) <| Aj <| Ab <| AI (Ae 2) <| Ag Aa (dT hf) <| AI (Ae 5) <| At ?_
    refine A8 (A1 (A1 (A8 (A1 ?_))))
    refine Aq rfl Bf ?_
    have hE : stkErr c k = freshE c.stocks[k].name (snames c k) := by rw [Ft hlt]; simp [hf]
    have hQ := Fj h1 h2 (B0 hlt hno (by rw [hE]; exact hf)) (by rw [hE]; exact hf)
    rw [hE] at hQ
    exact hQ.symm
   refine Ac <| Aw (Ae 3) fun ds => Af rfl (A6 Cd Aa hr.stocks.plain) <| As (Ae 1) <| Ad Aa (by first | rfl | exact dF (by omega)) ?_
   have h3 : firstQ c.stocks.length (stkErr c) = (0, 0) := BU fun j hj => hno j (by omega)
   refine SS (.cons (.here) <| .nil) ?_
   by_cases h4 : inB 1 4 c.reams.length = true
   ·refine AC ?_
    refine A0 <| A0 <| A4 <| Ab <| Ac <| Aw (Ae 2) fun ds => Af rfl (A6 CD Aa hr.reams.plain) <| AS rfl (Ay Fk Aa AY (DF _ _ _) (fun _ _ h => h)) <| As (Ae 1) <| Ad Aa (by rw [h4]; rfl) <| Aj <| Ab <| Ac <| AI (Ae 1) <| Ak ?_
    refine AJ [2, 3, 4, 8, 9, 10, 63, 64, 65, 66, 67, 68, 69, 70, 71, 72, 73, 74, 75, 76, 77, 78, 79, 80, 81, 82, 83, 84, 85, 86, 87, 88, 89, 90, 91, 92, 93, 94, 95, 96, 97, 98, 99, 100, 101, 102] (fun m e σ => ∃ k : Nat, m + k = c.reams.length ∧ Fct e 8 (.int .i64 (k : Int)) ∧ σ = ⟨F, [(b1, bx 26 [.int .i64 c.run, vs, vr, .int .i64 c.gats, vx])]⟩ ∧ ∀ j, j < k → remErr c j = 0) (c.reams.length) ?_ ?_
    · exact ⟨0, by omega, Bb, rfl, fun j h => absurd h (by omega)⟩
    rintro m e _ ⟨k, hm, ht8, rfl, hno⟩
    by_cases hlt : k < c.reams.length
    ·refine Ac <| Aw (Ae 3) fun ds => Af rfl (A6 CD Aa hr.reams.plain) <| As (Ae 1) <| Ag Aa (by first | rfl | exact dT (by omega)) ?_
     by_cases hs : inB 0 (c.stocks.length - 1) c.reams[k].stock = true
     ·refine Aj <| Ab <| Ac <| Ak <| Aw (Ae 3) fun ds => Af rfl (Ax (k := k) CD Aa hr.reams.plain Aa rfl hlt) <| Af rfl (AO G8 Aa rfl rfl (hr.reams.whole hlt)) <| A3 rfl <| AN Hw rfl fun b12 hb12 nb12 => AV <| AQ KY Aa Aa (i := 0) rfl rfl rfl rfl Rem.enc_one (.here) <| Am <| Ab <| Ac <| Aw (Ae 4) fun ds => Af rfl (A6 Cd Aa hr.stocks.plain) <| Af rfl (BZ Aa Aa rfl (by omega) (by omega)) <| AS rfl (Ay Fk Aa AY (DF _ _ _) (fun _ _ h => h)) <| As (Ae 1) <| Ad Aa (by rw [hs]; rfl) ?_
      by_cases hy : rangeE c.reams[k].lo c.reams[k].hi 1 2000 = 0
      ·have hyb : 1 ≤ c.reams[k].lo ∧ c.reams[k].lo ≤ 2000 := by have h := hy; unfold rangeE at h; split at h; exact absurd h (by decide); omega
       refine Aj <| Ab <| Aw (Ae 1) fun ds => Af rfl (AO (vs := [.int .i64 c.reams[k].lo, .int .i64 c.reams[k].hi]) Cg Aa rfl rfl (Fd 0 rfl rfl)) <| AS rfl (Ay N4 Aa AY (Fb _ _ _ _) (fun _ _ h => h)) <| As (Ae 1) <| Ac <| Aw (Ae 3) fun ds => Ap rfl rfl Aa (dT hy) <| Ao (Ae 1) <| Ap rfl rfl Aa (dT hy) <| Ao (Ae 1) <| Ap rfl rfl Aa (dT hy) <| Ao (Ae 1) <| Ap rfl rfl Aa (dT hy) <| Ao (Ae 1) <| Ap rfl rfl Aa (dT hy) <| Ao (Ae 1) <| Ap rfl rfl Aa (dT hy) <| Ao (Ae 1) <| Ap rfl rfl Aa (dT hy) <| Af rfl (AE Aa Aa rfl (by omega) (by omega)) <| Ap rfl rfl Aa (dT hy) <| Ao (Ae 1) <| Af rfl (Au Aa (dT hy) Aa) <| Am <| Ab ?_
       by_cases hw : c.reams[k].lo + 2 < c.reams[k].hi
       ·refine Ag Aa (dT hw) <| Al fun ds => As (Ae 1) <| AI (Ae 2) <| Ag Aa (by first | rfl | decide) <| AI (Ae 5) <| At ?_
        refine A8 (A1 (A1 (A8 (A1 ?_))))
        refine Aq rfl Bf ?_
        have hE : remErr c k = 2 := by rw [Ek hlt]; simp [hs, hy, hw]
        have hQ := Fi h1 h2 h3 h4 (B0 hlt hno (by rw [hE]; decide)) (by rw [hE]; decide)
        rw [hE] at hQ
        exact hQ.symm
       refine Ad Aa (dF hw) <| Aj <| Ab <| AI (Ae 2) <| Ad Aa (dF (fun h => h hy)) <| Aj <| Az <| Ab <| By (fun _ _ h => h.drop (kD <| kK <| .refl _)) <| Al fun ds => Ao (Ae 1) <| Af rfl (AE Aa Aa rfl (by omega) (by omega)) <| Ao (Ae 1) <| Am ?_
       refine Ab ⟨_, m - 1, Off.eq (Cv rfl <| BT rfl <| A2), by omega, ?_⟩
       refine ⟨k + 1, by omega, Bb, rfl, fun j hjk => ?_⟩
       rcases Nat.lt_succ_iff_lt_or_eq.1 hjk with hjk | rfl
       · exact hno j hjk
       rw [Ek hlt]; simp [hs, hy, hw]
      refine Aj <| Ab <| Aw (Ae 1) fun ds => Af rfl (AO (vs := [.int .i64 c.reams[k].lo, .int .i64 c.reams[k].hi]) Cg Aa rfl rfl (Fd 0 rfl rfl)) <| AS rfl (Ay N4 Aa AY (Fb _ _ _ _) (fun _ _ h => h)) <| As (Ae 1) <| Ac <| Aw (Ae 3) fun ds => Ar rfl rfl Aa (.inl (congrArg Value.bool (dF hy))) rfl <| Ar rfl rfl Aa (.inl (congrArg Value.bool (dF hy))) rfl <| Ar rfl rfl Aa (.inl (congrArg Value.bool (dF hy))) rfl <| Ar rfl rfl Aa (.inl (congrArg Value.bool (dF hy))) rfl <| Ar rfl rfl Aa (.inl (congrArg Value.bool (dF hy))) rfl <| Ar rfl rfl Aa (.inl (congrArg Value.bool (dF hy))) rfl <| Ar rfl rfl Aa (.inl (congrArg Value.bool (dF hy))) rfl <| Ar rfl rfl Aa (.inl (congrArg Value.bool (dF hy))) rfl <| Af rfl (A5 Aa (dF hy) Aa) <| Am <| Ab <| Ad Aa rfl <| Aj <| Ab <| AI (Ae 2) <| Ag Aa (dT hy) <| AI (Ae 5) <| At ?_
      refine A8 (A1 (A1 (A8 (A1 ?_))))
      refine Aq rfl Bf ?_
      have hE : remErr c k = rangeE c.reams[k].lo c.reams[k].hi 1 2000 := by rw [Ek hlt]; simp [hs, hy]
      have hQ := Fi h1 h2 h3 h4 (B0 hlt hno (by rw [hE]; exact hy)) (by rw [hE]; exact hy)
      rw [hE] at hQ
      exact hQ.symm
     replace hs : inB 0 (c.stocks.length - 1) c.reams[k].stock = false := by simpa using hs
     refine Aj <| Ab <| Ac <| Ak <| Aw (Ae 3) fun ds => Af rfl (Ax (k := k) CD Aa hr.reams.plain Aa rfl hlt) <| Af rfl (AO G8 Aa rfl rfl (hr.reams.whole hlt)) <| A3 rfl <| AN Hw rfl fun b13 hb13 nb13 => AV <| AQ KY Aa Aa (i := 0) rfl rfl rfl rfl Rem.enc_one (.here) <| Am <| Ab <| Ac <| Aw (Ae 4) fun ds => Af rfl (A6 Cd Aa hr.stocks.plain) <| Af rfl (BZ Aa Aa rfl (by omega) (by omega)) <| AS rfl (Ay Fk Aa AY (DF _ _ _) (fun _ _ h => h)) <| As (Ae 1) <| Ag Aa (by rw [hs]; rfl) <| AI (Ae 4) <| At ?_
     refine A1 (A8 (A1 (A1 (A8 (A1 ?_)))))
     refine Aq rfl Bf ?_
     have hE : remErr c k = 4 := by rw [Ek hlt]; simp [hs]
     have hQ := Fi h1 h2 h3 h4 (B0 hlt hno (by rw [hE]; decide)) (by rw [hE]; decide)
     rw [hE] at hQ
     exact hQ.symm
    refine Ac <| Aw (Ae 3) fun ds => Af rfl (A6 CD Aa hr.reams.plain) <| As (Ae 1) <| Ad Aa (by first | rfl | exact dF (by omega)) ?_
    have h5 : firstQ c.reams.length (remErr c) = (0, 0) := BU fun j hj => hno j (by omega)
    by_cases h6 : inB 1 5 c.gats = true
    ·have h6b : 1 ≤ c.gats ∧ c.gats ≤ 5 := by have h := h6; unfold inB at h; simp at h; omega
     refine AC ?_
     refine A0 <| A0 <| A4 <| Ab <| Ac <| Aw (Ae 2) fun ds => AS rfl (Ay Fk Aa AY (DF _ _ _) (fun _ _ h => h)) <| As (Ae 1) <| Ad Aa (by rw [h6]; rfl) ?_
     by_cases h7 : 8 < c.seen.length
     ·refine Aj <| Ab <| Ac <| Aw (Ae 2) fun ds => Af rfl (A6 Cu Aa hr.seen.plain) <| As (Ae 1) <| Ag Aa (dT (by omega)) <| AI (Ae 3) <| At <| A1 <| Aq rfl Bf ?_
      exact (Qh h1 h2 h3 h4 h5 h6 h7).symm
     refine Aj <| Ab <| Ac <| Aw (Ae 2) fun ds => Af rfl (A6 Cu Aa hr.seen.plain) <| As (Ae 1) <| Ad Aa (dF (by omega)) <| Aj <| Ab <| Ac <| AI (Ae 1) <| Ak ?_
     refine AJ [2, 3, 4, 11, 111, 112, 113, 114, 115, 116, 117, 118, 119, 120, 121, 122, 123, 124, 125, 126, 127, 128, 129, 130, 131, 132, 133, 134, 135, 136, 137, 138, 139, 140, 141, 142, 143] (fun m e σ => ∃ k : Nat, m + k = c.seen.length ∧ Fct e 11 (.int .i64 (k : Int)) ∧ σ = ⟨F, [(b1, bx 26 [.int .i64 c.run, vs, vr, .int .i64 c.gats, vx])]⟩ ∧ ∀ j, j < k → snErr c j = 0) (c.seen.length) ?_ ?_
     · exact ⟨0, by omega, Bb, rfl, fun j h => absurd h (by omega)⟩
     rintro m e _ ⟨k, hm, hs11, rfl, hno⟩
     by_cases hlt : k < c.seen.length
     ·refine Ac <| Aw (Ae 3) fun ds => Af rfl (A6 Cu Aa hr.seen.plain) <| As (Ae 1) <| Ag Aa (by first | rfl | exact dT (by omega)) ?_
      by_cases hg : inB 0 (c.gats - 1) c.seen[k].g = true
      ·refine Aj <| Ab <| Ac <| Ak <| Ac <| Bx (.inl rfl) (fun _ _ h => h) (by kernel_rfl) (by kernel_rfl) fun ds => Ba (Ae 3) <| AX rfl (Ax (k := k) Cu Aa hr.seen.plain Aa rfl hlt) <| Ba (Ae 1) <| AX rfl (Ah AA Aa (hr.seen.cell hlt rfl)) <| Ba (Ae 2) <| AX rfl (BZ Aa Aa rfl (by omega) (by omega)) <| GS rfl (Ay Fk Aa AY (DF _ _ _) (fun _ _ h => h)) <| Ba (Ae 2) <| AK rfl rfl Aa (by rw [hg]; rfl) <| Ba (Ae 1) <| AK rfl rfl Aa (by rw [hg]; rfl) <| Ba (Ae 1) <| AK rfl rfl Aa (by rw [hg]; rfl) <| Ba (Ae 1) <| AK rfl rfl Aa (by rw [hg]; rfl) <| AX rfl (Ax (k := k) Cu Aa hr.seen.plain Aa rfl hlt) <| AK rfl rfl Aa (by rw [hg]; rfl) <| Ba (Ae 1) <| AK rfl rfl Aa (by rw [hg]; rfl) <| AX rfl (Ah AA Aa (hr.seen.cell hlt rfl)) <| AK rfl rfl Aa (by rw [hg]; rfl) <| Ba (Ae 1) <| AK rfl rfl Aa (by rw [hg]; rfl) <| Ba (Ae 1) <| AK rfl rfl Aa (by rw [hg]; rfl) <| AX rfl (A6 Cd Aa hr.stocks.plain) <| AK rfl rfl Aa (by rw [hg]; rfl) <| AX rfl (BZ Aa Aa rfl (by omega) (by omega)) <| AK rfl rfl Aa (by rw [hg]; rfl) <| GS rfl (Ay Fk Aa AY (DF _ _ _) (fun _ _ h => h)) <| AK rfl rfl Aa (by rw [hg]; rfl) <| Ba (Ae 1) <| AX rfl (A5 Aa (by rw [hg]; rfl) Aa) <| B9 <| Ab ?_
       by_cases hs : inB 0 (c.stocks.length - 1) c.seen[k].s = true
       ·refine Ad Aa (by rw [hs]; rfl) <| Aj <| Az <| Ab <| Al fun ds => Ao (Ae 1) <| Af rfl (AE Aa Aa rfl (by omega) (by omega)) <| Ao (Ae 1) <| Am ?_
        refine Ab ⟨_, m - 1, Off.eq (Cv rfl <| BY rfl <| A2), by omega, ?_⟩
        refine ⟨k + 1, by omega, Bb, rfl, fun j hjk => ?_⟩
        rcases Nat.lt_succ_iff_lt_or_eq.1 hjk with hjk | rfl
        · exact hno j hjk
        rw [DO hlt]; simp [hg, hs]
       replace hs : inB 0 (c.stocks.length - 1) c.seen[k].s = false := by simpa using hs
       refine Ag Aa (by rw [hs]; rfl) <| AI (Ae 4) <| At ?_
       refine A8 (A1 (A1 (A8 (A1 ?_))))
       refine Aq rfl Bf ?_
       have hE : snErr c k = 4 := by rw [DO hlt]; simp [hg, hs]
       have hQ := Ji h1 h2 h3 h4 h5 h6 h7 (B0 hlt hno (by rw [hE]; decide)) (by rw [hE]; decide)
       rw [hE] at hQ
       exact hQ.symm
      replace hg : inB 0 (c.gats - 1) c.seen[k].g = false := by simpa using hg
      refine Aj <| Ab <| Ac <| Ak <| Ac <| Bx (.inl rfl) (fun _ _ h => h) (by kernel_rfl) (by kernel_rfl) fun ds => Ba (Ae 3) <| AX rfl (Ax (k := k) Cu Aa hr.seen.plain Aa rfl hlt) <| Ba (Ae 1) <| AX rfl (Ah AA Aa (hr.seen.cell hlt rfl)) <| Ba (Ae 2) <| AX rfl (BZ Aa Aa rfl (by omega) (by omega)) <| GS rfl (Ay Fk Aa AY (DF _ _ _) (fun _ _ h => h)) <| Ba (Ae 2) <| AG rfl rfl Aa (.inl (congrArg Value.bool (by simp [hg]))) rfl <| AG rfl rfl Aa (.inl (congrArg Value.bool (by simp [hg]))) rfl <| AG rfl rfl Aa (.inl (congrArg Value.bool (by simp [hg]))) rfl <| AG rfl rfl Aa (.inl (congrArg Value.bool (by simp [hg]))) rfl <| AG rfl rfl Aa (.inl (congrArg Value.bool (by simp [hg]))) rfl <| AG rfl rfl Aa (.inl (congrArg Value.bool (by simp [hg]))) rfl <| AG rfl rfl Aa (.inl (congrArg Value.bool (by simp [hg]))) rfl <| AG rfl rfl Aa (.inl (congrArg Value.bool (by simp [hg]))) rfl <| AG rfl rfl Aa (.inl (congrArg Value.bool (by simp [hg]))) rfl <| AG rfl rfl Aa (.inl (congrArg Value.bool (by simp [hg]))) rfl <| AG rfl rfl Aa (.inl (congrArg Value.bool (by simp [hg]))) rfl <| AG rfl rfl Aa (.inl (congrArg Value.bool (by simp [hg]))) rfl <| AX rfl (Au Aa (by simp [hg]) Aa) <| B9 <| Ab <| Ag Aa rfl <| AI (Ae 4) <| At ?_
      refine A8 (A1 (A1 (A8 (A1 ?_))))
      refine Aq rfl Bf ?_
      have hE : snErr c k = 4 := by rw [DO hlt]; simp [hg]
      have hQ := Ji h1 h2 h3 h4 h5 h6 h7 (B0 hlt hno (by rw [hE]; decide)) (by rw [hE]; decide)
      rw [hE] at hQ
      exact hQ.symm
     refine Ac <| Aw (Ae 3) fun ds => Af rfl (A6 Cu Aa hr.seen.plain) <| As (Ae 1) <| Ad Aa (by first | rfl | exact dF (by omega)) <| AC ?_
     refine A0 <| A0 <| A4 <| Ab <| AI (Ae 3) <| At <| Aq rfl Bf ?_
     exact (Qm h1 h2 h3 h4 h5 h6 h7 (BU fun j hj => hno j (by omega))).symm
    replace h6 : inB 1 5 c.gats = false := by simpa using h6
    refine AC ?_
    refine A0 <| A0 <| A4 <| Ab <| Ac <| Aw (Ae 2) fun ds => AS rfl (Ay Fk Aa AY (DF _ _ _) (fun _ _ h => h)) <| As (Ae 1) <| Ag Aa (by rw [h6]; rfl) <| AI (Ae 3) <| At <| A1 <| Aq rfl Bf ?_
    exact (Qi h1 h2 h3 h4 h5 h6).symm
   replace h4 : inB 1 4 c.reams.length = false := by simpa using h4
   refine AC ?_
   refine A0 <| A0 <| A4 <| Ab <| Ac <| Aw (Ae 2) fun ds => Af rfl (A6 CD Aa hr.reams.plain) <| AS rfl (Ay Fk Aa AY (DF _ _ _) (fun _ _ h => h)) <| As (Ae 1) <| Ag Aa (by rw [h4]; rfl) <| AI (Ae 3) <| At <| A1 <| Aq rfl Bf ?_
   exact (Qj h1 h2 h3 h4).symm
  replace h2 : inB 1 4 c.stocks.length = false := by simpa using h2
  refine Aj <| Ab <| Ac <| Aw (Ae 2) fun ds => Af rfl (A6 Cd Aa hr.stocks.plain) <| AS rfl (Ay Fk Aa AY (DF _ _ _) (fun _ _ h => h)) <| As (Ae 1) <| Ag Aa (by rw [h2]; rfl) <| AI (Ae 3) <| At <| A1 <| Aq rfl Bf ?_
  exact (Qk h1 h2).symm
 replace h1 : inB 1 500 c.run = false := by simpa using h1
 refine Ac <| Al fun ds => A3 rfl <| Bc Aa rfl fun b15 hb15 nb15 => As (Ae 3) <| Ac <| Aw (Ae 2) fun ds => AS rfl (Ay Fk Aa AY (DF _ _ _) (fun _ _ h => h)) <| As (Ae 1) <| Ag Aa (by rw [h1]; rfl) <| AI (Ae 3) <| At <| A1 <| Aq rfl Bf ?_
 exact (Ql h1).symm
end
section
set_option maxRecDepth 100000
open Go.RowKit
section
variable {P : Program} {B : Base} {e : Env} {σ : St} {d : Option Nat} {ty : TypeId} {pos : String} {af : Array Edge} {gd : Option (Nat × Bool)}
theorem KI {z : Int} (h1 : 0 ≤ z) (h2 : z < 18446744073709551616) : IntKind.u64.wrap z = z := by
 simp [IntKind.wrap, IntKind.signed, IntKind.bits]; omega
theorem J9 {x y : Operand} {a b : Nat} {t u : TypeId} (hx : ev e x = .int .u64 (a : Int)) (hy : ev e y = .int .u64 (b : Int)) (h : a + b < 18446744073709551616) :
   OpR P B ⟨d, .binOp .add t x y u, ty, pos, af, gd⟩ e σ (.int .u64 ((a + b : Nat) : Int)) := fun w _ => by
 have hw : IntKind.u64.wrap ((a : Int) + (b : Int)) = ((a + b : Nat) : Int) := by rw [← Int.natCast_add]; exact KI (by omega) (by omega)
 simp [execOp, hx, hy, eqGuard, binOp, Op.intArith, hw]
theorem Lq {x y : Operand} {m k : Nat} {t u : TypeId} (hx : ev e x = .int .u64 (m : Int)) (hy : ev e y = .int .u64 (k : Int)) (h1 : m < 18446744073709551616) (h2 : k < 18446744073709551616) :
   OpR P B ⟨d, .binOp .and t x y u, ty, pos, af, gd⟩ e σ (.int .u64 ((m &&& k : Nat) : Int)) := fun w _ => by
 have hle : m &&& k ≤ m := Nat.and_le_left
 have e1 : (BitVec.ofInt 64 (m : Int) &&& BitVec.ofInt 64 (k : Int)).toNat = m &&& k := by
   rw [BitVec.ofInt_natCast, BitVec.ofInt_natCast, BitVec.toNat_and, BitVec.toNat_ofNat, BitVec.toNat_ofNat, Nat.mod_eq_of_lt (by omega), Nat.mod_eq_of_lt (by omega)]
 have e2 : IntKind.u64.wrap ((m &&& k : Nat) : Int) = ((m &&& k : Nat) : Int) := KI (by omega) (by omega)
 have e3 : Op.intBits .and .u64 (m : Int) (k : Int) = pure (.int .u64 (IntKind.u64.wrap ((BitVec.ofInt 64 (m : Int) &&& BitVec.ofInt 64 (k : Int)).toNat : Int))) := rfl
 rw [e1, e2] at e3
 simp only [execOp, hx, hy, eqGuard, binOp, e3]
 simp
theorem J6 {x y : Operand} {m k : Nat} {t u : TypeId} {kd : IntKind} (hx : ev e x = .int .u64 (m : Int)) (hy : ev e y = .int kd (k : Int)) (hk : k < 64) :
   OpR P B ⟨d, .binOp .shr t x y u, ty, pos, af, gd⟩ e σ (.int .u64 ((m / 2 ^ k : Nat) : Int)) := HL hx hy rfl hk (by simp)
end
def on1 (n : Nat) : Nat := (n / 2 ^ 1 &&& 6148914691236517205) + (n &&& 6148914691236517205)
def on2 (n : Nat) : Nat := (n / 2 ^ 2 &&& 3689348814741910323) + (n &&& 3689348814741910323)
def on3 (n : Nat) : Nat := n / 2 ^ 4 + n &&& 1085102592571150095
def on4 (n : Nat) : Nat := n + n / 2 ^ 8
def on5 (n : Nat) : Nat := n + n / 2 ^ 16
def on6 (n : Nat) : Nat := n + n / 2 ^ 32
def onN (n : Nat) : Nat := on6 (on5 (on4 (on3 (on2 (on1 n))))) &&& 127
def bitsL (n : Nat) : List Nat := (List.range 16).filter fun i => n.testBit i
theorem onN_eq : ∀ n, n < 512 → onN n = (bitsL n).length := by
 have h : (List.range 512).all (fun n => onN n == (bitsL n).length) = true := by kernel_rfl
 intro n hn
 have := List.all_eq_true.1 h n (List.mem_range.2 hn)
 exact beq_iff_eq.1 this
theorem Vw : ∀ n, n < 512 → on1 n < 4096 ∧ on2 (on1 n) < 4096 ∧ on3 (on2 (on1 n)) < 4096 ∧ on4 (on3 (on2 (on1 n))) < 4096 ∧ on5 (on4 (on3 (on2 (on1 n)))) < 4096 ∧ on6 (on5 (on4 (on3 (on2 (on1 n))))) < 4096 := by
 have h : (List.range 512).all (fun n => decide (on1 n < 4096 ∧ on2 (on1 n) < 4096 ∧ on3 (on2 (on1 n)) < 4096 ∧ on4 (on3 (on2 (on1 n))) < 4096 ∧ on5 (on4 (on3 (on2 (on1 n)))) < 4096 ∧ on6 (on5 (on4 (on3 (on2 (on1 n))))) < 4096)) = true := by kernel_rfl
 intro n hn
 exact of_decide_eq_true (List.all_eq_true.1 h n (List.mem_range.2 hn))
def bitLen (n : Nat) : Nat := if n = 0 then 0 else n.log2 + 1
def tab8 : ByteArray := ⟨#[0, 1, 2, 2, 3, 3, 3, 3, 4, 4, 4, 4, 4, 4, 4, 4, 5, 5, 5, 5, 5, 5, 5, 5, 5, 5, 5, 5, 5, 5, 5, 5, 6, 6, 6, 6, 6, 6, 6, 6, 6, 6, 6, 6, 6, 6, 6, 6, 6, 6, 6, 6, 6, 6, 6, 6, 6, 6, 6, 6, 6, 6, 6, 6, 7, 7, 7, 7, 7, 7, 7, 7, 7, 7, 7, 7, 7, 7, 7, 7, 7, 7, 7, 7, 7, 7, 7, 7, 7, 7, 7, 7, 7, 7, 7, 7, 7, 7, 7, 7, 7, 7, 7, 7, 7, 7, 7, 7, 7, 7, 7, 7, 7, 7, 7, 7, 7, 7, 7, 7, 7, 7, 7, 7, 7, 7, 7, 7, 8, 8, 8, 8, 8, 8, 8, 8, 8, 8, 8, 8, 8, 8, 8, 8, 8, 8, 8, 8, 8, 8, 8, 8, 8, 8, 8, 8, 8, 8, 8, 8, 8, 8, 8, 8, 8, 8, 8, 8, 8, 8, 8, 8, 8, 8, 8, 8, 8, 8, 8, 8, 8, 8, 8, 8, 8, 8, 8, 8, 8, 8, 8, 8, 8, 8, 8, 8, 8, 8, 8, 8, 8, 8, 8, 8, 8, 8, 8, 8, 8, 8, 8, 8, 8, 8, 8, 8, 8, 8, 8, 8, 8, 8, 8, 8, 8, 8, 8, 8, 8, 8, 8, 8, 8, 8, 8, 8, 8, 8, 8, 8, 8, 8, 8, 8, 8, 8, 8, 8, 8, 8, 8, 8, 8, 8, 8, 8]⟩
theorem J0 : tab8.size = 256 := rfl
theorem tab8_at {n : Nat} (h : n < 256) (hk : n < tab8.size) : ((tab8[n]'hk).toNat : Int) = (bitLen n : Int) := by
 have ht : (List.range 256).all (fun i => if h : i < tab8.size then (tab8[i]'h).toNat == bitLen i else false) = true := by kernel_rfl
 have := List.all_eq_true.1 ht n (List.mem_range.2 h)
 rw [dif_pos hk] at this
 rw [beq_iff_eq.1 this]
theorem JO {n : Nat} (h : n < 256) : bitLen n ≤ 8 := by
 have ht : (List.range 256).all (fun i => decide (bitLen i ≤ 8)) = true := by kernel_rfl
 exact of_decide_eq_true (List.all_eq_true.1 ht n (List.mem_range.2 h))
def bitsTo (n k : Nat) : List Nat := (List.range k).filter fun i => n.testBit i
theorem RC {n : Nat} (h : n < 256) : bitsTo n (bitLen n) = bitsL n := by
 have ht : (List.range 256).all (fun i => decide (bitsTo i (bitLen i) = bitsL i)) = true := by kernel_rfl
 exact of_decide_eq_true (List.all_eq_true.1 ht n (List.mem_range.2 h))
theorem RB {n k : Nat} (h : n.testBit k = true) : bitsTo n (k + 1) = bitsTo n k ++ [k] := by unfold bitsTo; rw [List.range_succ, List.filter_append]; simp [h]
theorem Uq {n k : Nat} (h : n.testBit k = false) : bitsTo n (k + 1) = bitsTo n k := by unfold bitsTo; rw [List.range_succ, List.filter_append]; simp [h]
theorem Mg {n k : Nat} : (bitsTo n k).length ≤ k := by have := List.length_filter_le (fun i => n.testBit i) (List.range k); rw [List.length_range] at this; exact this
theorem KE {n k : Nat} : ((n / 2 ^ k &&& 1 : Nat) : Int) = 1 ↔ n.testBit k = true := by
 rw [Nat.and_one_is_mod, Nat.testBit_eq_decide_div_mod_eq, decide_eq_true_iff]; omega
end
section
set_option maxRecDepth 100000
open Go.RowKit
theorem bd_118 : Body Tryz.prog 118 := AF (by kernel_rfl)
theorem bd_92 : Body Tryz.prog 92 := AF (by kernel_rfl)
theorem V2 {F : Heap} {n : Nat} (h : n < 256) : Ok Tryz.prog 118 [.int .u64 (n : Int)].toArray F fun r _ => r = .int .i64 (bitLen n : Int) := by
 refine Ok.intro Tryz.func118 rfl Tryz.ntmps118 rfl fun w0 => ?_
 have hlt := J0
 refine AI (Ae 1) <| Ac <| AI (Ae 2) <| Ad Aa (dF (by omega)) <| Aj <| Ab <| Ac <| AI (Ae 2) <| Ad Aa (dF (by omega)) <| Aj <| Ab <| Ac <| AI (Ae 2) <| Ad Aa (dF (by omega)) <| Aj <| Ab <| Aw (Ae 2) fun ds => Af rfl (Ck ⟨_, Tryz.underlying203⟩ Tryz.underlying5 Aa (show IntKind.u8.wrap (n : Int) = (n : Int) by simp [IntKind.wrap, IntKind.signed, IntKind.bits]; omega)) <| Af rfl (Ga Tryz.underlying9 Aa Aa rfl (show n < tab8.size by rw [J0]; omega)) <| Af rfl (Ck ⟨_, Tryz.underlying5⟩ Tryz.underlying3 Aa (show IntKind.i64.wrap _ = (bitLen n : Int) from (congrArg IntKind.i64.wrap (tab8_at h (by rw [J0]; omega))).trans (CQ (by omega) (by have := JO h; omega)))) <| Af rfl (AE Aa Aa rfl (by omega) (by have := JO h; omega)) <| As (Ae 1) <| At <| Aq rfl Bf ?_
 show _ = _
 simp [outOf]
theorem RD {F : Heap} {n : Nat} (h : n < 256) : Ok Tryz.prog 92 [.int .u64 (n : Int)].toArray F fun r _ => r = .int .i64 (bitLen n : Int) := by
 refine Ok.intro Tryz.func92 rfl Tryz.ntmps92 rfl fun w0 => AI (Ae 1) <| Ac <| Ad Aa rfl <| Aj <| Ab <| Aw (Ae 1) fun ds => AS rfl (Ay bd_118 Aa AY (V2 h) (fun _ _ h => h)) <| As (Ae 1) <| At <| Aq rfl Bf ?_
 rfl
theorem FF {F : Heap} {n : Nat} (h : n < 256) : Ok Tryz.prog 49 [.int .i64 (n : Int)].toArray F fun u F' => Nats F' u (bitsL n) := by
 refine Ok.intro Tryz.func49 rfl Tryz.ntmps49 rfl fun w0 => ?_
 have hl8 := JO h
 refine AI (Ae 1) <| Ac <| Aw (Ae 1) fun ds => Af rfl (Ck ⟨_, Tryz.underlying3⟩ Tryz.underlying179 Aa (KI (by omega) (by omega))) <| AS rfl (Ay bd_92 Aa AY (RD h) (fun _ _ h => h)) <| As (Ae 1) <| Ak ?_
 refine AJ [2, 3, 7, 8, 9, 10, 11, 12, 13, 14, 15, 16, 17, 18, 19] (fun m e σ => ∃ k : Nat, m + k = bitLen n ∧ Fct e 7 (.int .i64 (k : Int)) ∧ ∃ (v : Value) (R : List (Nat × Obj)), Fct e 2 v ∧ Own 3 1 v (bitsTo n k).length ((bitsTo n k).flatMap natE) R ∧ σ = ⟨F, R⟩) (bitLen n) ?_ ?_
 · exact ⟨0, by omega, Bb, _, _, Bb, Own.nil, rfl⟩
 rintro m e _ ⟨k, hm, hs7, v2, R2, hs2, ho, rfl⟩
 by_cases hlt : k < bitLen n
 ·have hbl := Mg (n := n) (k := k)
  refine AI (Ae 1) <| Ac <| Ag Aa (by first | rfl | exact dT (by omega)) ?_
  by_cases hb : n.testBit k = true
  ·refine Aj <| Ab <| Ac <| Ak <| AI (Ae 2) <| Aw (Ae 2) fun ds => Af rfl (HL Aa Aa rfl (show k < 64 by omega) (show _ = ((n / 2 ^ k : Nat) : Int) by simp)) <| Af rfl (HM Aa Aa rfl (k := 1) rfl (by have := Nat.div_le_self n (2 ^ k); omega) (by omega) rfl) <| As (Ae 1) <| Ag Aa (dT (KE.2 hb)) <| Al fun ds => Ao (Ae 2) <| A3 rfl <| AU A7 B1 rfl (.cons Aa .nil) rfl rfl (by decide) (by simp [Value.oneCell']) fun b2 hb2 nb2 => A3 rfl <| Bi A7 D5 Aa ho Aa (BA (s := 1) 0 rfl rfl (by simp [Value.oneCell'])) (by omega) (by omega) (.s <| .z) .last fun v3 R4 ho5 => ?_
   have ho2 := ho5.snoc (x := k) rfl rfl
   refine Ao (Ae 1) <| Am <| Az <| Ab <| By (fun _ _ h => h.drop (kD <| .refl _)) <| Al fun ds => Af rfl (AE Aa Aa rfl (by omega) (by omega)) <| Ao (Ae 1) <| Am ?_
   refine Ab ⟨_, m - 1, Off.eq (BT rfl <| Ci rfl <| Cw rfl <| BY rfl <| A2), by omega, ?_⟩
   exact ⟨k + 1, by omega, Bb, _, _, Bb, by rw [RB hb]; exact ho2, rfl⟩
  replace hb : n.testBit k = false := by simpa using hb
  refine Aj <| Ab <| Ac <| Ak <| AI (Ae 2) <| Aw (Ae 2) fun ds => Af rfl (HL Aa Aa rfl (show k < 64 by omega) (show _ = ((n / 2 ^ k : Nat) : Int) by simp)) <| Af rfl (HM Aa Aa rfl (k := 1) rfl (by have := Nat.div_le_self n (2 ^ k); omega) (by omega) rfl) <| As (Ae 1) <| Ad Aa (dF (fun hq => by rw [KE.1 hq] at hb; cases hb)) <| Aj <| Az <| Ab <| Al fun ds => Af rfl (AE Aa Aa rfl (by omega) (by omega)) <| Ao (Ae 1) <| Am ?_
  refine Ab ⟨_, m - 1, Off.eq (BT rfl <| Cw rfl <| A2), by omega, ?_⟩
  exact ⟨k + 1, by omega, Bb, _, _, Bb, by rw [Uq hb]; exact ho, rfl⟩
 refine AI (Ae 1) <| Ac <| Ad Aa (by first | rfl | exact dF (by omega)) ?_
 obtain rfl : k = bitLen n := by omega
 have hbl := Mg (n := n) (k := bitLen n)
 refine Bm (σ := ⟨_, _⟩) (by rfl) ho (.z) .last fun F6 hF7 hz8 => ?_
 have hre := ho.sl (fun _ => rfl) hz8 (by omega)
 rw [RC h] at hre
 refine AC ?_
 refine A0 <| A0 <| A4 <| Ab <| AI (Ae 2) <| At <| Aq rfl Bf ?_
 exact hre
end
section
structure ValidP (c : Pap) : Prop where
 run : 1 ≤ c.run ∧ c.run ≤ 500
 stocks : 1 ≤ c.stocks.length ∧ c.stocks.length ≤ 4
 stk : ∀ j, j < c.stocks.length → stkErr c j = 0
 reams : 1 ≤ c.reams.length ∧ c.reams.length ≤ 4
 rem : ∀ j, j < c.reams.length → remErr c j = 0
 gats : 1 ≤ c.gats ∧ c.gats ≤ 5
 seen : c.seen.length ≤ 8
 sns : ∀ j, j < c.seen.length → snErr c j = 0
theorem Di {a b z : Int} : inB a b z = true ↔ a ≤ z ∧ z ≤ b := by unfold inB; simp
theorem Eo {c : Pap} (h : (checkP c).2.2 = 0) : ValidP c := by
 unfold checkP at h
 by_cases a1 : inB 1 500 c.run = false
 · rw [if_pos a1] at h; exact absurd h (by decide)
 rw [if_neg a1] at h
 by_cases a2 : inB 1 4 c.stocks.length = false
 · rw [if_pos a2] at h; exact absurd h (by decide)
 rw [if_neg a2] at h
 by_cases a3 : (firstQ c.stocks.length (stkErr c)).2 = 0
 · rw [if_neg (fun q => q a3)] at h
   by_cases a4 : inB 1 4 c.reams.length = false
   · rw [if_pos a4] at h; exact absurd h (by decide)
   rw [if_neg a4] at h
   by_cases a5 : (firstQ c.reams.length (remErr c)).2 = 0
   · rw [if_neg (fun q => q a5)] at h
     by_cases a6 : inB 1 5 c.gats = false
     · rw [if_pos a6] at h; exact absurd h (by decide)
     rw [if_neg a6] at h
     by_cases a7 : 8 < c.seen.length
     · rw [if_pos a7] at h; exact absurd h (by decide)
     rw [if_neg a7] at h
     by_cases a8 : (firstQ c.seen.length (snErr c)).2 = 0
     · rw [Bool.not_eq_false, Di] at a1 a2 a4 a6
       exact ⟨a1, by omega, Ds a3, by omega, Ds a5, a6, by omega, Ds a8⟩
     rw [if_pos a8] at h; exact absurd h a8
   rw [if_pos a5] at h; exact absurd h a5
 rw [if_pos a3] at h; exact absurd h a3
theorem ValidP.ream {c : Pap} (h : ValidP c) {i : Nat} (hi : i < c.reams.length) : (0 ≤ (c.rm i).stock ∧ (c.rm i).stock < c.stocks.length) ∧ 1 ≤ (c.rm i).lo ∧ (c.rm i).lo ≤ (c.rm i).hi ∧ (c.rm i).hi ≤ (c.rm i).lo + 2 ∧ (c.rm i).hi ≤ 2000 := by
 have h1 := h.rem i hi
 rw [Eq hi, MR hi] at h1
 by_cases a1 : inB 0 (c.stocks.length - 1) (c.rm i).stock = false
 · rw [if_pos a1] at h1; exact absurd h1 (by decide)
 rw [if_neg a1] at h1
 by_cases a2 : (inB 1 2000 (c.rm i).lo && inB 1 2000 (c.rm i).hi) = false
 · rw [if_pos a2] at h1; exact absurd h1 (by decide)
 rw [if_neg a2] at h1
 by_cases a3 : inB (c.rm i).lo ((c.rm i).lo + 2) (c.rm i).hi = false
 · rw [if_pos a3] at h1; exact absurd h1 (by decide)
 rw [Bool.not_eq_false] at a1 a2 a3
 rw [Bool.and_eq_true] at a2
 obtain ⟨a4, a5⟩ := a2
 rw [Di] at a1 a3 a4 a5
 omega
theorem ValidP.sn {c : Pap} (h : ValidP c) {i : Nat} (hi : i < c.seen.length) : (0 ≤ (c.sn i).g ∧ (c.sn i).g < c.gats) ∧ 0 ≤ (c.sn i).s ∧ (c.sn i).s < c.stocks.length := by
 have h1 := h.sns i hi
 rw [DO hi, UU hi] at h1
 by_cases a1 : (inB 0 (c.gats - 1) (c.sn i).g && inB 0 (c.stocks.length - 1) (c.sn i).s) = false
 · rw [if_pos a1] at h1; exact absurd h1 (by decide)
 rw [Bool.not_eq_false, Bool.and_eq_true, Di, Di] at a1
 omega
def arrV (n : Nat) (f : Nat → Int) : List Go.Value := (List.range n).map fun i => .int .i64 (f i)
theorem Ms {n : Nat} {f : Nat → Int} : (arrV n f).length = n := by simp [arrV]
theorem O0 {n : Nat} {f : Nat → Int} {i : Nat} (h : i < n) : (arrV n f)[i]? = some (.int .i64 (f i)) := by simp [arrV, h]
theorem Mr {n : Nat} {f : Nat → Int} {i : Nat} {v : Int} : (arrV n f).set (0 + i * 1) (.int .i64 v) = arrV n fun j => if j = i then v else f j := by
 rw [show 0 + i * 1 = i by omega]
 apply List.ext_getElem
 · simp [arrV]
 intro j h1 h2
 rw [List.getElem_set]
 simp only [arrV, List.getElem_map, List.getElem_range]
 by_cases hij : i = j
 · rw [if_pos hij, if_pos hij.symm]
 rw [if_neg hij, if_neg (fun q => hij q.symm)]
theorem Ec {n : Nat} {f : Nat → Int} : ∀ u ∈ arrV n f, u.oneCell' = true := by
 intro u hu
 obtain ⟨i, _, rfl⟩ := List.mem_map.1 hu
 rfl
def wantTo (c : Pap) (but : Nat) : Nat → Nat → Nat
 | 0, _ => 0
 | k + 1, g => if but.testBit k = false ∧ (c.sn k).g = g then wantTo c but k g ||| 2 ^ (c.sn k).s.toNat else wantTo c but k g
theorem Jv {c : Pap} (hv : ValidP c) {but : Nat} {g : Nat} : ∀ k, k ≤ c.seen.length → wantTo c but k g < 16
 | 0, _ => by simp [wantTo]
 | k + 1, h => by
   have h1 := Jv hv (but := but) (g := g) k (by omega)
   have h2 := hv.sn (i := k) (by omega)
   have h3 := hv.stocks
   unfold wantTo
   split
   · exact Nat.or_lt_two_pow (n := 4) h1 (Nat.pow_lt_pow_right (by omega) (by omega))
   exact h1
def abv (x : Nat → Int) : Nat → Int
 | 0 => 0
 | i + 1 => abv x i + x i
theorem DJ {x : Nat → Int} {n : Nat} (h : ∀ i, i < n → 0 ≤ x i ∧ x i ≤ 2000) : ∀ k, k ≤ n → 0 ≤ abv x k ∧ abv x k ≤ 2000 * k
 | 0, _ => by simp [abv]
 | k + 1, hk => by
   have h1 := DJ h k (by omega)
   have h2 := h k (by omega)
   unfold abv; omega
def inPl (c : Pap) (x : Nat → Int) (i k : Nat) : Prop := abv x i < (k + 1) * c.run ∧ k * c.run < abv x i + x i
instance {c : Pap} {x : Nat → Int} {i k : Nat} : Decidable (inPl c x i k) := by unfold inPl; infer_instance
def placTo (c : Pap) (x : Nat → Int) : Nat → Nat → Nat
 | 0, _ => 0
 | i + 1, k => if (k : Int) < c.gats ∧ inPl c x i k then placTo c x i k ||| 2 ^ (c.rm i).stock.toNat else placTo c x i k
theorem Es {c : Pap} (hv : ValidP c) {x : Nat → Int} {k : Nat} : ∀ i, i ≤ c.reams.length → placTo c x i k < 16
 | 0, _ => by simp [placTo]
 | i + 1, h => by
   have h1 := Es hv (x := x) (k := k) i (by omega)
   have h2 := hv.ream (i := i) (by omega)
   have h3 := hv.stocks
   unfold placTo
   split
   · exact Nat.or_lt_two_pow (n := 4) h1 (Nat.pow_lt_pow_right (by omega) (by omega))
   exact h1
theorem CA {n : Nat} {f : Nat → Int} {i : Nat} (h : i < n) : (arrV n f)[0 + i * 1]? = some (.int .i64 (f i)) := by rw [show 0 + i * 1 = i by omega]; exact O0 h
@[reducible] def placV (f : Nat → Nat) : Go.Value := .agg (arrV 5 fun k => (f k : Int)).toArray
theorem Ge {a b A B : Int} (h : 0 ≤ a) (h2 : a ≤ A) (h3 : 0 ≤ b) (h4 : b ≤ B) : 0 ≤ a * b ∧ a * b ≤ A * B := ⟨Int.mul_nonneg h h3, Int.mul_le_mul h2 h4 h3 (by omega)⟩
theorem Qr {n k : Nat} : ((n / 2 ^ k &&& 1 : Nat) : Int) = 0 ↔ n.testBit k = false := by
 rw [Nat.and_one_is_mod, Nat.testBit_eq_decide_div_mod_eq, decide_eq_false_iff_not]; omega
theorem U7 {c : Pap} {but k gi si : Nat} (hb : but.testBit k = false) (hg : (c.sn k).g = (gi : Int)) (hs : (c.sn k).s = (si : Int)) : (fun j => if j = gi then ((wantTo c but k gi ||| 2 ^ si : Nat) : Int) else (wantTo c but k j : Int)) = fun j => ((wantTo c but (k + 1) j : Nat) : Int) := by
 funext j
 show _ = ((if but.testBit k = false ∧ (c.sn k).g = j then wantTo c but k j ||| 2 ^ (c.sn k).s.toNat else wantTo c but k j : Nat) : Int)
 by_cases h : j = gi
 · subst h; rw [if_pos rfl, if_pos ⟨hb, hg⟩, hs]; simp
 rw [if_neg h, if_neg (fun q => h (by have := q.2; omega))]
theorem want_no {c : Pap} {but k : Nat} (hb : but.testBit k = true) : (fun j => ((wantTo c but (k + 1) j : Nat) : Int)) = fun j => ((wantTo c but k j : Nat) : Int) := by
 funext j
 show ((if but.testBit k = false ∧ (c.sn k).g = j then wantTo c but k j ||| 2 ^ (c.sn k).s.toNat else wantTo c but k j : Nat) : Int) = _
 rw [if_neg (fun q => by rw [hb] at q; cases q.1)]
def placMid (c : Pap) (x : Nat → Int) (i k j : Nat) : Nat := if j < k then placTo c x (i + 1) j else placTo c x i j
theorem NT {c : Pap} {x : Nat → Int} {i : Nat} : (fun j => ((placMid c x i 0 j : Nat) : Int)) = fun j => ((placTo c x i j : Nat) : Int) := by funext j; simp [placMid]
theorem Pp {c : Pap} {x : Nat → Int} {i k : Nat} (hk : (k : Int) = c.gats) : (fun j => ((placMid c x i k j : Nat) : Int)) = fun j => ((placTo c x (i + 1) j : Nat) : Int) := by
 funext j
 unfold placMid
 by_cases h : j < k
 · rw [if_pos h]
 rw [if_neg h]
 show _ = ((if (j : Int) < c.gats ∧ inPl c x i j then placTo c x i j ||| 2 ^ (c.rm i).stock.toNat else placTo c x i j : Nat) : Int)
 rw [if_neg (fun q => by have := q.1; omega)]
theorem QW {c : Pap} {x : Nat → Int} {i k : Nat} : placMid c x i k k = placTo c x i k := by simp [placMid]
theorem Po {c : Pap} {x : Nat → Int} {i k si : Nat} (hk : (k : Int) < c.gats) (h : inPl c x i k) (hs : (c.rm i).stock = (si : Int)) : (fun j => if j = k then ((placTo c x i k ||| 2 ^ si : Nat) : Int) else (placMid c x i k j : Int)) = fun j => ((placMid c x i (k + 1) j : Nat) : Int) := by
 funext j
 by_cases hj : j = k
 · subst hj
   rw [if_pos rfl]; unfold placMid; rw [if_pos (by omega)]
   show _ = ((if (j : Int) < c.gats ∧ inPl c x i j then placTo c x i j ||| 2 ^ (c.rm i).stock.toNat else placTo c x i j : Nat) : Int)
   rw [if_pos ⟨hk, h⟩, hs]; simp
 rw [if_neg hj]; unfold placMid
 by_cases h2 : j < k
 · rw [if_pos h2, if_pos (by omega)]
 rw [if_neg h2, if_neg (by omega)]
theorem Lu {c : Pap} {x : Nat → Int} {i k : Nat} (h : ¬ inPl c x i k) : (fun j => ((placMid c x i (k + 1) j : Nat) : Int)) = fun j => ((placMid c x i k j : Nat) : Int) := by
 funext j
 unfold placMid
 by_cases hj : j < k
 · rw [if_pos hj, if_pos (by omega)]
 rw [if_neg hj]
 by_cases h2 : j = k
 · subst h2
   rw [if_pos (by omega)]
   show ((if (j : Int) < c.gats ∧ inPl c x i j then placTo c x i j ||| 2 ^ (c.rm i).stock.toNat else placTo c x i j : Nat) : Int) = _
   rw [if_neg (fun q => h q.2)]
 rw [if_neg (by omega)]
end
section
set_option maxRecDepth 100000
open Go.RowKit
theorem EN : ZeroT Tryz.prog 110 (.agg #[.int .i64 0, .slice none 0 0, .slice none 0 0, .int .i64 0, .slice none 0 0]) := Bv (by kernel_rfl)
theorem Js : ZeroT Tryz.prog 120 (.agg #[.int .i64 0, .int .i64 0, .int .i64 0, .int .i64 0, .int .i64 0]) := Bv (by kernel_rfl)
theorem Ch : AggT Tryz.prog 110 5 := Cx (by kernel_rfl)
instance : AggI Tryz.prog 110 5 := ⟨Ch⟩
theorem Jq : AggT Tryz.prog 120 5 := Cx (by kernel_rfl)
instance : AggI Tryz.prog 120 5 := ⟨Jq⟩
theorem Eh : AggT Tryz.prog 26 5 := Cx (by kernel_rfl)
instance : AggI Tryz.prog 26 5 := ⟨Eh⟩
theorem Eg : ArrT Tryz.prog 120 5 3 1 := KF (by kernel_rfl)
theorem bd_86 : Body Tryz.prog 86 := AF (by kernel_rfl)
theorem bt_110 : BuildT Tryz.prog 110 [.int .i64 0, .slice none 0 0, .slice none 0 0, .int .i64 0, .slice none 0 0] [(0, 5)] := Cs EN (by kernel_rfl) (by decide)
theorem Gl : FieldT Tryz.prog 110 0 0 := Bd (by kernel_rfl)
instance : FieldI Tryz.prog 110 0 0 := ⟨Gl⟩
theorem Fr : SizeT Tryz.prog 110 5 := Bq (by kernel_rfl)
theorem J1 : SizeT Tryz.prog 120 5 := Bq (by kernel_rfl)
theorem DH {F : Heap} {vs vr vx : Value} {c : Pap} (hr : PapR F vs vr vx c) : Ok Tryz.prog 47 [papV vs vr vx c].toArray F fun u _ => u = .tuple #[papV vs vr vx c, .int .i64 (checkP c).2.2] := by
 refine Ok.intro Tryz.func47 rfl Tryz.ntmps47 rfl fun w0 => Ac <| Al fun ds => A3 rfl <| Bc Aa rfl fun b1 hb1 nb1 => A3 rfl <| AN EN rfl fun b2 hb2 nb2 => As (Ae 1) <| Aw (Ae 1) fun ds => AS rfl (Ay bd_86 Aa AY (Un hr) (fun _ _ h => h)) <| As (Ae 7) <| Aw (Ae 1) fun ds => Af rfl (BE bt_110 (.cons Aa rfl .nil) (.cons rfl rfl (Nat.le_of_ble_eq_true rfl) (.cons (.here) (.cons (.next <| .here) (.cons (.next <| .next <| .here) (.cons (.next <| .next <| .next <| .here) (.cons (.next <| .next <| .next <| .next <| .here) .nil))))) .nil)) <| Ao (Ae 1) <| AV <| AQ Fr Aa Aa (i := 0) rfl rfl rfl rfl hr.ones (.here) <| As (Ae 1) <| At <| Aq rfl (.agg Ch Aa rfl rfl (Bg 0 rfl) Bf) ?_
 rfl
theorem OD {F : Heap} {vs vr vx : Value} {c : Pap} (hr : PapR F vs vr vx c) (hv : ValidP c) {but : Nat} (hbut : but < 256) : Ok Tryz.prog 88 [papV vs vr vx c, .int .i64 (but : Int)].toArray F fun u _ => u = placV (wantTo c but c.seen.length) := by
 refine Ok.intro Tryz.func88 rfl Tryz.ntmps88 rfl fun w0 => ?_
 have hL3 := hr.seen.plain.lt
 refine Ac <| Al fun ds => A3 rfl <| Bc Aa rfl fun b1 hb1 nb1 => A3 rfl <| AN Js rfl fun b2 hb2 nb2 => Am <| Ab <| Ac <| Aw (Ae 3) fun ds => Af rfl (A6 Cu Aa hr.seen.plain) <| As (Ae 1) <| Ak ?_
 refine AJ [5, 6, 11, 12, 13, 14, 15, 16, 17, 18, 19, 20, 21, 22, 23, 24, 25, 26, 27, 28, 29, 30] (fun m e σ => ∃ k : Nat, m + k = c.seen.length ∧ Fct e 11 (.int .i64 (k : Int)) ∧ σ = ⟨F, [(b2, bx 120 (arrV 5 (fun j => ((wantTo c but k j : Nat) : Int)))), (b1, bx 110 [.int .i64 c.run, vs, vr, .int .i64 c.gats, vx])]⟩) (c.seen.length) ?_ ?_
 · exact ⟨0, by omega, Bb, rfl⟩
 rintro m e _ ⟨k, hm, hs11, rfl⟩
 by_cases hlt : k < c.seen.length
 ·have hsn := UU hlt
  have hb := hv.sn hlt
  have hst := hv.stocks
  have hga := hv.gats
  have hse := hv.seen
  obtain ⟨gi, hgi⟩ := Int.eq_ofNat_of_zero_le hb.1.1
  obtain ⟨si, hsi⟩ := Int.eq_ofNat_of_zero_le hb.2.1
  have hg5 : gi < 5 := by omega
  have hs4 : si < 4 := by omega
  have hp : 2 ^ si < 16 := Nat.pow_lt_pow_right (n := 4) (by omega) (by omega)
  have hwl := Jv hv (but := but) (g := gi) k (by omega)
  refine AI (Ae 1) <| Ac <| Ag Aa (by first | rfl | exact dT (by omega)) ?_
  by_cases hbt : but.testBit k = true
  ·refine Aj <| Ab <| Ac <| Ak <| Aw (Ae 1) fun ds => Af rfl (Ax  Cu Aa hr.seen.plain Aa rfl (by omega)) <| Af rfl (AO JT Aa rfl rfl (hr.seen.whole (by omega))) <| A3 rfl <| AN FV rfl fun b4 hb4 nb4 => Ao (Ae 1) <| AV <| AQ OO Aa Aa (i := 0) rfl rfl rfl rfl Sn.enc_one (.here) <| Am <| Ab <| Aw (Ae 2) fun ds => Af rfl (HL Aa Aa rfl (show k < 64 by omega) (show _ = ((but / 2 ^ k : Nat) : Int) by simp)) <| Af rfl (HM Aa Aa rfl (k := 1) rfl (by have := Nat.div_le_self but (2 ^ k); omega) (by omega) rfl) <| As (Ae 1) <| Ad Aa (dF (fun hq => by rw [Qr.1 hq] at hbt; cases hbt)) <| Aj <| Az <| Ab <| By (fun _ _ h => h.drop (kD <| kK <| kK <| .refl _)) <| Al fun ds => Af rfl (AE Aa Aa rfl (by omega) (by omega)) <| Ao (Ae 1) <| Am ?_
   refine Ab ⟨_, m - 1, Off.eq (BT rfl <| Ci rfl <| BY rfl <| A2), by omega, ?_⟩
   exact ⟨k + 1, by omega, Bb, by rw [want_no hbt]⟩
  replace hbt : but.testBit k = false := by simpa using hbt
  refine Aj <| Ab <| Ac <| Ak <| Aw (Ae 1) fun ds => Af rfl (Ax  Cu Aa hr.seen.plain Aa rfl (by omega)) <| Af rfl (AO JT Aa rfl rfl (hr.seen.whole (by omega))) <| A3 rfl <| AN FV rfl fun b5 hb5 nb5 => Ao (Ae 1) <| AV <| AQ OO Aa Aa (i := 0) rfl rfl rfl rfl Sn.enc_one (.here) <| Am <| Ab <| Aw (Ae 2) fun ds => Af rfl (HL Aa Aa rfl (show k < 64 by omega) (show _ = ((but / 2 ^ k : Nat) : Int) by simp)) <| Af rfl (HM Aa Aa rfl (k := 1) rfl (by have := Nat.div_le_self but (2 ^ k); omega) (by omega) rfl) <| As (Ae 1) <| Ag Aa (dT (Qr.2 hbt)) <| Bn (.inl rfl) (fun _ _ h => h) (kK <| kK <| kK <| .refl _) [9] (by kernel_rfl) fun ds => Ai 0 rfl (by kernel_rfl) (by kernel_rfl) (by kernel_rfl) (by kernel_rfl) rfl rfl (fun _ h => h.drop (kK <| kK <| kK <| .refl _)) (fun _ _ _ h => h) (AD S7 Aa) <| Ai 1 rfl (by kernel_rfl) (by kernel_rfl) (by kernel_rfl) (by kernel_rfl) rfl rfl (fun _ h => h.drop (kK <| kK <| kK <| .refl _)) (fun _ _ _ h => h) (Ah AA Aa (Cell.own 0 rfl rfl)) <| Ai 2 rfl (by kernel_rfl) (by kernel_rfl) (by kernel_rfl) (by kernel_rfl) rfl rfl (fun _ h => h.drop (kK <| kK <| kK <| .refl _)) (fun _ _ _ h => h) (AR (k := gi) Eg Aa Aa (show c.seen[k].g = (gi : Int) by rw [hsn]; exact hgi) hg5) ?_
  refine Ai 3 rfl (by kernel_rfl) (by kernel_rfl) (by kernel_rfl) (by kernel_rfl) rfl rfl (fun _ h => h.drop (kK <| kK <| kK <| .refl _)) (fun _ _ _ h => h) (Ah AA Aa (Cell.own 1 rfl (CA hg5))) <| Ai 4 rfl (by kernel_rfl) (by kernel_rfl) (by kernel_rfl) (by kernel_rfl) rfl rfl (fun _ h => h.drop (kK <| kK <| kK <| .refl _)) (fun _ _ _ h => h) (AD S6 Aa) <| Ai 5 rfl (by kernel_rfl) (by kernel_rfl) (by kernel_rfl) (by kernel_rfl) rfl rfl (fun _ h => h.drop (kK <| kK <| kK <| .refl _)) (fun _ _ _ h => h) (Ah AA Aa (Cell.own 0 rfl rfl)) <| Ai 6 rfl (by kernel_rfl) (by kernel_rfl) (by kernel_rfl) (by kernel_rfl) rfl rfl (fun _ h => h.drop (kK <| kK <| kK <| .refl _)) (fun _ _ _ h => h) (Pk Aa Aa (k := si) (show c.seen[k].s = (si : Int) by rw [hsn]; exact hsi) (by omega) (show _ = ((2 ^ si : Nat) : Int) by simp) (Int.le_trans (by decide) (Int.natCast_nonneg _)) (Int.le_trans (Int.le_of_lt (Int.ofNat_lt.2 hp)) (by decide))) <| Ai 7 rfl (by kernel_rfl) (by kernel_rfl) (by kernel_rfl) (by kernel_rfl) rfl rfl (fun _ h => h.drop (kK <| kK <| kK <| .refl _)) (fun _ _ _ h => h) (T0 Aa Aa (m := wantTo c but k gi) (k := 2 ^ si) rfl rfl (by omega) (by omega) rfl) <| Ai 8 rfl (by kernel_rfl) (by kernel_rfl) (by kernel_rfl) (by kernel_rfl) rfl rfl (fun _ h => h.drop (kK <| kK <| kK <| .refl _)) (fun _ _ _ h => h) (AR (k := gi) Eg Aa Aa (show c.seen[k].g = (gi : Int) by rw [hsn]; exact hgi) hg5) ?_
  refine BG 9 rfl (by kernel_rfl) (Ct Cc Aa rfl Aa (i := 1) rfl (by rw [Ms]; omega) rfl (.next .here) ⟨(fun h => nomatch h), ?_⟩)
  refine Bo (by kernel_rfl) ?_ _
  refine Az <| Ab <| By (fun _ _ h => h.drop (kD <| kK <| kK <| .refl _)) <| Al fun ds => Af rfl (AE Aa Aa rfl (by omega) (by omega)) <| Ao (Ae 1) <| Am ?_
  refine Ab ⟨_, m - 1, Off.eq (B3 rfl <| Ci rfl <| Cw rfl <| A2), by omega, ?_⟩
  exact ⟨k + 1, by omega, Bb, by rw [Mr, U7 hbt hgi hsi]⟩
 refine AI (Ae 1) <| Ac <| Ad Aa (by first | rfl | exact dF (by omega)) ?_
 obtain rfl : k = c.seen.length := by omega
 refine AC ?_
 refine A0 <| A0 <| A4 <| Ab <| Aw (Ae 1) fun ds => AV <| AQ J1 Aa Aa (i := 0) rfl rfl rfl rfl Ec (.here) <| Am <| Ab <| At <| Aq rfl (.agg Jq Aa rfl rfl (Bg 0 rfl) .nil) ?_
 rfl
end
section
set_option maxRecDepth 100000
open Go.RowKit
theorem JS : ArrT Tryz.prog 173 4 3 1 := KF (by kernel_rfl)
theorem JB {F : Heap} {vs vr vx : Value} {c : Pap} (hr : PapR F vs vr vx c) (hv : ValidP c) {x : Nat → Int} (hx : ∀ i, i < c.reams.length → 0 ≤ x i ∧ x i ≤ 2000) : Ok Tryz.prog 90 [papV vs vr vx c, .agg (arrV 4 x).toArray].toArray F fun u _ => u = placV (placTo c x c.reams.length) := by
 refine Ok.intro Tryz.func90 rfl Tryz.ntmps90 rfl fun w0 => ?_
 have hL2 := hr.reams.plain.lt
 refine Ac <| Al fun ds => A3 rfl <| Bc Aa rfl fun b1 hb1 nb1 => A3 rfl <| Bc Aa rfl fun b2 hb2 nb2 => A3 rfl <| AN Js rfl fun b3 hb3 nb3 => Am <| Ab <| AI (Ae 1) <| Ac <| Aw (Ae 3) fun ds => Af rfl (A6 CD Aa hr.reams.plain) <| As (Ae 1) <| Ak ?_
 refine AJ [5, 6, 7, 8, 13, 14, 15, 16, 17, 18, 19, 20, 21, 22, 23, 24, 25, 26, 27, 28, 29, 30, 31, 32, 33, 34, 35, 36, 37, 38, 39, 40, 41, 42, 43, 44, 45, 46, 47, 48, 49, 50, 51, 52, 53, 54, 55, 56, 57, 58, 59] (fun m e σ => ∃ i : Nat, m + i = c.reams.length ∧ Fct e 13 (.int .i64 (i : Int)) ∧ Fct e 5 (.int .i64 (abv x i)) ∧ σ = ⟨F, [(b3, bx 120 (arrV 5 (fun j => ((placTo c x i j : Nat) : Int)))), (b2, bx 173 (arrV 4 x)), (b1, bx 110 [.int .i64 c.run, vs, vr, .int .i64 c.gats, vx])]⟩) (c.reams.length) ?_ ?_
 · exact ⟨0, by omega, Bb, Bb, rfl⟩
 rintro m e _ ⟨i, hm, hs13, hs5, rfl⟩
 by_cases hlt : i < c.reams.length
 ·have hrm := MR hlt
  have hb := hv.ream hlt
  have hst := hv.stocks
  have hga := hv.gats
  have hre := hv.reams
  have hru := hv.run
  obtain ⟨si, hsi⟩ := Int.eq_ofNat_of_zero_le hb.1.1
  have hs4 : si < 4 := by omega
  have hp : 2 ^ si < 16 := Nat.pow_lt_pow_right (n := 4) (by omega) (by omega)
  have hi4 : i < 4 := by omega
  have hab := DJ hx i (by omega)
  have hxi := hx i hlt
  refine AI (Ae 1) <| Ac <| Ag Aa (by first | rfl | exact dT (by omega)) <| Aj <| Ab <| Ac <| Ak <| Aw (Ae 1) fun ds => Af rfl (Ax  CD Aa hr.reams.plain Aa rfl (by omega)) <| Af rfl (AO G8 Aa rfl rfl (hr.reams.whole (by omega))) <| A3 rfl <| AN Hw rfl fun b5 hb5 nb5 => Ao (Ae 1) <| AV <| AQ KY Aa Aa (i := 0) rfl rfl rfl rfl Rem.enc_one (.here) <| Am <| Ab <| Ac <| AI (Ae 4) <| Ak ?_
  refine AJ [8, 21, 22, 23, 24, 25, 26, 27, 28, 29, 30, 31, 32, 33, 34, 35, 36, 37, 38, 39, 40, 41, 42, 43, 44, 45, 46, 47, 48, 49, 50, 51, 52, 53] (fun m e σ => ∃ k : Nat, (m : Int) + k = c.gats ∧ Fct e 21 (.int .i64 (k : Int)) ∧ σ = ⟨F, [(b5, bx 76 c.reams[i].enc), (b3, bx 120 (arrV 5 (fun j => ((placMid c x i k j : Nat) : Int)))), (b2, bx 173 (arrV 4 x)), (b1, bx 110 [.int .i64 c.run, vs, vr, .int .i64 c.gats, vx])]⟩) (c.gats.toNat) ?_ ?_
  · exact ⟨0, by omega, Bb, by rw [NT]⟩
  rintro m2 e2 _ ⟨k, hm2, ht21, rfl⟩
  by_cases hk : (k : Int) < c.gats
  ·have hk5 : (k : Int) ≤ 4 := by omega
   have hka : k < 5 := by omega
   have hm1 := Ge (a := (k : Int) + 1) (b := c.run) (A := 5) (B := 500) (by omega) (by omega) (by omega) hv.run.2
   have hm2 := Ge (a := (k : Int)) (b := c.run) (A := 5) (B := 500) (by omega) (by omega) (by omega) hv.run.2
   have hpt := Es hv (x := x) (k := k) i (by omega)
   refine AI (Ae 1) <| Ac <| Ag Aa (dT hk) ?_
   by_cases hc1 : abv x i < ((k : Int) + 1) * c.run
   ·refine Aj <| Ab <| Ac <| Ak <| AI (Ae 2) <| Ac <| Bx (.inl rfl) (fun _ _ h => h) (by kernel_rfl) (by kernel_rfl) fun ds => Ba (Ae 2) <| AX rfl (AE Aa Aa rfl (by omega) (by omega)) <| Ba (Ae 3) <| AX rfl (D9 Aa Aa rfl (by omega) (by omega)) <| Ba (Ae 2) <| AK rfl rfl Aa (dT hc1) <| Ba (Ae 1) <| AK rfl rfl Aa (dT hc1) <| Ba (Ae 1) <| AK rfl rfl Aa (dT hc1) <| AX rfl (AR (k := i) JS Aa Aa rfl hi4) <| AK rfl rfl Aa (dT hc1) <| AX rfl (Ah AA Aa (Cell.own 2 rfl (CA hi4))) <| AK rfl rfl Aa (dT hc1) <| AX rfl (AE Aa Aa rfl (by omega) (by omega)) <| AK rfl rfl Aa (dT hc1) <| Ba (Ae 1) <| AK rfl rfl Aa (dT hc1) <| Ba (Ae 1) <| AK rfl rfl Aa (dT hc1) <| Ba (Ae 1) <| AK rfl rfl Aa (dT hc1) <| Ba (Ae 1) <| AK rfl rfl Aa (dT hc1) <| AX rfl (D9 Aa Aa rfl (by omega) (by omega)) <| AK rfl rfl Aa (dT hc1) <| Ba (Ae 1) <| AX rfl (Au Aa (dT hc1) Aa) <| B9 <| Ab ?_
    by_cases hc2 : (k : Int) * c.run < abv x i + x i
    ·refine Ag Aa (dT hc2) <| Bn (.inl rfl) (fun _ _ h => h) (kK <| kK <| kK <| kK <| .refl _) [8] (by kernel_rfl) fun ds => Ai 0 rfl (by kernel_rfl) (by kernel_rfl) (by kernel_rfl) (by kernel_rfl) rfl rfl (fun _ h => h.drop (kK <| kK <| kK <| kK <| .refl _)) (fun _ _ _ h => h) (A9 Aa) <| Ai 1 rfl (by kernel_rfl) (by kernel_rfl) (by kernel_rfl) (by kernel_rfl) rfl rfl (fun _ h => h.drop (kK <| kK <| kK <| kK <| .refl _)) (fun _ _ _ h => h) (AR (k := k) Eg Aa Aa rfl hka) <| Ai 2 rfl (by kernel_rfl) (by kernel_rfl) (by kernel_rfl) (by kernel_rfl) rfl rfl (fun _ h => h.drop (kK <| kK <| kK <| kK <| .refl _)) (fun _ _ _ h => h) (Ah AA Aa (Cell.own 1 rfl (CA hka))) <| Ai 3 rfl (by kernel_rfl) (by kernel_rfl) (by kernel_rfl) (by kernel_rfl) rfl rfl (fun _ h => h.drop (kK <| kK <| kK <| kK <| .refl _)) (fun _ _ _ h => h) (AD S9 Aa) <| Ai 4 rfl (by kernel_rfl) (by kernel_rfl) (by kernel_rfl) (by kernel_rfl) rfl rfl (fun _ h => h.drop (kK <| kK <| kK <| kK <| .refl _)) (fun _ _ _ h => h) (Ah AA Aa (Cell.own 0 rfl rfl)) <| Ai 5 rfl (by kernel_rfl) (by kernel_rfl) (by kernel_rfl) (by kernel_rfl) rfl rfl (fun _ h => h.drop (kK <| kK <| kK <| kK <| .refl _)) (fun _ _ _ h => h) (Pk Aa Aa (k := si) (show c.reams[i].stock = (si : Int) by rw [hrm]; exact hsi) (by omega) (show _ = ((2 ^ si : Nat) : Int) by simp) (Int.le_trans (by decide) (Int.natCast_nonneg _)) (Int.le_trans (Int.le_of_lt (Int.ofNat_lt.2 hp)) (by decide))) ?_
     refine Ai 6 rfl (by kernel_rfl) (by kernel_rfl) (by kernel_rfl) (by kernel_rfl) rfl rfl (fun _ h => h.drop (kK <| kK <| kK <| kK <| .refl _)) (fun _ _ _ h => h) (T0 Aa Aa (m := placTo c x i k) (k := 2 ^ si) (by rw [QW]) rfl (by omega) (by omega) rfl) <| Ai 7 rfl (by kernel_rfl) (by kernel_rfl) (by kernel_rfl) (by kernel_rfl) rfl rfl (fun _ h => h.drop (kK <| kK <| kK <| kK <| .refl _)) (fun _ _ _ h => h) (AR (k := k) Eg Aa Aa rfl hka) ?_
     refine BG 8 rfl (by kernel_rfl) (Ct Cc Aa rfl Aa (i := 1) rfl (by rw [Ms]; omega) rfl (.next .here) ⟨(fun h => nomatch h), ?_⟩)
     refine Bo (by kernel_rfl) ?_ _
     refine Az <| Ab <| Al fun ds => Af rfl (AE Aa Aa rfl (by omega) (by omega)) <| Ao (Ae 1) <| Am ?_
     refine Ab ⟨_, m2 - 1, Off.eq (Cv rfl <| Cw rfl <| A2), by omega, ?_⟩
     exact ⟨k + 1, by omega, Bb, by rw [Mr, Po hk ⟨hc1, hc2⟩ hsi]⟩
    refine Ad Aa (dF hc2) <| Aj <| Az <| Ab <| Al fun ds => Af rfl (AE Aa Aa rfl (by omega) (by omega)) <| Ao (Ae 1) <| Am ?_
    refine Ab ⟨_, m2 - 1, Off.eq (B3 rfl <| BT rfl <| Cw rfl <| A2), by omega, ?_⟩
    exact ⟨k + 1, by omega, Bb, by rw [Lu (fun q => hc2 q.2)]⟩
   refine Aj <| Ab <| Ac <| Ak <| AI (Ae 2) <| Ac <| Bx (.inl rfl) (fun _ _ h => h) (by kernel_rfl) (by kernel_rfl) fun ds => Ba (Ae 2) <| AX rfl (AE Aa Aa rfl (by omega) (by omega)) <| Ba (Ae 3) <| AX rfl (D9 Aa Aa rfl (by omega) (by omega)) <| Ba (Ae 2) <| AG rfl rfl Aa (.inl (congrArg Value.bool (dF hc1))) rfl <| AG rfl rfl Aa (.inl (congrArg Value.bool (dF hc1))) rfl <| AG rfl rfl Aa (.inl (congrArg Value.bool (dF hc1))) rfl <| AG rfl rfl Aa (.inl (congrArg Value.bool (dF hc1))) rfl <| AG rfl rfl Aa (.inl (congrArg Value.bool (dF hc1))) rfl <| AG rfl rfl Aa (.inl (congrArg Value.bool (dF hc1))) rfl <| AG rfl rfl Aa (.inl (congrArg Value.bool (dF hc1))) rfl <| AG rfl rfl Aa (.inl (congrArg Value.bool (dF hc1))) rfl <| AG rfl rfl Aa (.inl (congrArg Value.bool (dF hc1))) rfl <| AG rfl rfl Aa (.inl (congrArg Value.bool (dF hc1))) rfl <| AG rfl rfl Aa (.inl (congrArg Value.bool (dF hc1))) rfl <| AX rfl (A5 Aa (dF hc1) Aa) <| B9 <| Ab <| Ad Aa rfl <| Aj <| Az <| Ab <| Al fun ds => Af rfl (AE Aa Aa rfl (by omega) (by omega)) <| Ao (Ae 1) <| Am ?_
   refine Ab ⟨_, m2 - 1, Off.eq (B3 rfl <| BT rfl <| Cw rfl <| A2), by omega, ?_⟩
   exact ⟨k + 1, by omega, Bb, by rw [Lu (fun q => hc1 q.1)]⟩
  refine AI (Ae 1) <| Ac <| Ad Aa (dF hk) ?_
  have hkg : (k : Int) = c.gats := by omega
  refine AC ?_
  refine A0 <| A0 <| A4 <| Ab <| Al fun ds => Ao (Ae 2) <| Af rfl (AR (k := i) JS Aa Aa rfl hi4) <| Af rfl (Ah AA Aa (Cell.own 2 rfl (CA hi4))) <| Af rfl (AE Aa Aa rfl (by omega) (by omega)) <| Ao (Ae 1) <| Am <| Az <| Ab <| By (fun _ _ h => h.drop (kD <| kK <| kK <| kK <| .refl _)) <| Al fun ds => Af rfl (AE Aa Aa rfl (by omega) (by omega)) <| Ao (Ae 1) <| Am ?_
  refine Ab ⟨_, m - 1, Off.eq (BT rfl <| BY rfl <| BJ rfl <| BT rfl <| Cw rfl <| A2), by omega, ?_⟩
  exact ⟨i + 1, by omega, Bb, Bb, by rw [Pp hkg]⟩
 refine AI (Ae 1) <| Ac <| Ad Aa (by first | rfl | exact dF (by omega)) ?_
 obtain rfl : i = c.reams.length := by omega
 refine AC ?_
 refine A0 <| A0 <| A4 <| Ab <| Aw (Ae 1) fun ds => AV <| AQ J1 Aa Aa (i := 0) rfl rfl rfl rfl Ec (.here) <| Am <| Ab <| At <| Aq rfl (.agg Jq Aa rfl rfl (Bg 0 rfl) .nil) ?_
 rfl
end
section
theorem GP (n : Nat) : (bitsL n).length ≤ 16 := by have := List.length_filter_le (fun i => n.testBit i) (List.range 16); rw [List.length_range] at this; exact this
def fewB (a b : Nat) : Bool := if ((bitsL a).length : Int) - ((bitsL b).length : Int) ≠ 0 then decide (((bitsL a).length : Int) - ((bitsL b).length : Int) < 0) else decide (cmpL (bitsL a) (bitsL b) < 0)
def sumTo (xs : List Int) (k : Nat) : Int := (xs.take k).sum
theorem He {xs : List Int} {k : Nat} (h : k < xs.length) : sumTo xs (k + 1) = sumTo xs k + xs[k] := by unfold sumTo; rw [List.take_succ_eq_append_getElem h, List.sum_append]; simp
theorem JZ {xs : List Int} (hb : ∀ k (hk : k < xs.length), 0 ≤ xs[k] ∧ xs[k] ≤ 2000) : ∀ k, k ≤ xs.length → 0 ≤ sumTo xs k ∧ sumTo xs k ≤ 2000 * k
 | 0, _ => by simp [sumTo]
 | k + 1, h => by
   have h1 := JZ hb k (by omega)
   have h2 := hb k (by omega)
   rw [He (by omega)]; omega
end
section
set_option maxRecDepth 100000
open Go.RowKit
theorem Oz : Body Tryz.prog 101 := AF (by kernel_rfl)
theorem bd_122 : Body Tryz.prog 122 := AF (by kernel_rfl)
theorem Mm : Body Tryz.prog 49 := AF (by kernel_rfl)
theorem K4 : OneT Tryz.prog 126 := BI (by kernel_rfl)
instance : OneI Tryz.prog 126 := ⟨K4⟩
theorem HE : SliceT Tryz.prog 31 126 1 := Co (by kernel_rfl)
instance : SliceI Tryz.prog 31 := ⟨_, _, HE⟩
theorem TK {F : Heap} {n : Nat} (h : n < 512) : Ok Tryz.prog 122 [.int .u64 (n : Int)].toArray F fun r _ => r = .int .i64 ((bitsL n).length : Int) := by
 refine Ok.intro Tryz.func122 rfl Tryz.ntmps122 rfl fun w0 => ?_
 have hs := Vw n h
 obtain ⟨s1, s2, s3, s4, s5, s6⟩ := hs
 refine AI (Ae 1) <| Aw (Ae 1) fun ds => Af rfl (J6 Aa Aa (k := 1) (by decide)) <| Af rfl (Lq Aa Aa (k := 6148914691236517205) (by have := Nat.div_le_self n (2 ^ 1); omega) (by decide)) <| Ao (Ae 1) <| Af rfl (Lq Aa Aa (k := 6148914691236517205) (by omega) (by decide)) <| Af rfl (J9 Aa Aa (show on1 n < _ by omega)) <| As (Ae 1) <| Aw (Ae 1) fun ds => Af rfl (J6 Aa Aa (m := on1 n) (k := 2) (by decide)) <| Af rfl (Lq Aa Aa (k := 3689348814741910323) (by have := Nat.div_le_self (on1 n) (2 ^ 2); omega) (by decide)) <| Ao (Ae 1) <| Af rfl (Lq Aa Aa (m := on1 n) (k := 3689348814741910323) (by omega) (by decide)) <| Af rfl (J9 Aa Aa (show on2 (on1 n) < _ by omega)) <| As (Ae 1) <| Aw (Ae 1) fun ds => Af rfl (J6 Aa Aa (m := on2 (on1 n)) (k := 4) (by decide)) <| Ao (Ae 1) <| Af rfl (J9 Aa Aa (b := on2 (on1 n)) (by have := Nat.div_le_self (on2 (on1 n)) (2 ^ 4); omega)) <| Af rfl (Lq Aa Aa (k := 1085102592571150095) (by have := Nat.div_le_self (on2 (on1 n)) (2 ^ 4); omega) (by decide)) <| As (Ae 1) <| Aw (Ae 2) fun ds => Af rfl (J6 Aa Aa (m := on3 (on2 (on1 n))) (k := 8) (by decide)) <| Af rfl (J9 Aa Aa (a := on3 (on2 (on1 n))) (show on4 (on3 (on2 (on1 n))) < _ by omega)) <| As (Ae 1) <| Aw (Ae 2) fun ds => Af rfl (J6 Aa Aa (m := on4 (on3 (on2 (on1 n)))) (k := 16) (by decide)) <| Af rfl (J9 Aa Aa (a := on4 (on3 (on2 (on1 n)))) (show on5 (on4 (on3 (on2 (on1 n)))) < _ by omega)) ?_
 refine As (Ae 1) <| Aw (Ae 2) fun ds => Af rfl (J6 Aa Aa (m := on5 (on4 (on3 (on2 (on1 n))))) (k := 32) (by decide)) <| Af rfl (J9 Aa Aa (a := on5 (on4 (on3 (on2 (on1 n))))) (show on6 (on5 (on4 (on3 (on2 (on1 n))))) < _ by omega)) <| As (Ae 1) <| Aw (Ae 1) fun ds => Af rfl (Ck ⟨_, Tryz.underlying203⟩ Tryz.underlying3 Aa (show IntKind.i64.wrap (on6 (on5 (on4 (on3 (on2 (on1 n))))) : Int) = (on6 (on5 (on4 (on3 (on2 (on1 n))))) : Int) from CQ (by omega) (by omega))) <| Af rfl (HM Aa Aa (m := on6 (on5 (on4 (on3 (on2 (on1 n)))))) (k := 127) rfl rfl (by omega) (by omega) rfl) <| As (Ae 1) <| At <| Aq rfl Bf ?_
 show Value.int .i64 ((onN n : Nat) : Int) = _
 rw [onN_eq n h]
theorem K1 {F : Heap} {n : Nat} (h : n < 512) : Ok Tryz.prog 101 [.int .u64 (n : Int)].toArray F fun r _ => r = .int .i64 ((bitsL n).length : Int) := by
 refine Ok.intro Tryz.func101 rfl Tryz.ntmps101 rfl fun w0 => AI (Ae 1) <| Ac <| Ad Aa rfl <| Aj <| Ab <| Aw (Ae 1) fun ds => AS rfl (Ay bd_122 Aa AY (TK h) (fun _ _ h => h)) <| As (Ae 1) <| At <| Aq rfl Bf ?_
 rfl
theorem VF {F : Heap} {a b : Nat} (ha : a < 256) (hb : b < 256) : Ok Tryz.prog 67 [.int .i64 (a : Int), .int .i64 (b : Int)].toArray F fun r _ => r = .bool (fewB a b) := by
 refine Ok.intro Tryz.func67 rfl Tryz.ntmps67 rfl fun w0 => ?_
 have hla := GP a
 have hlb := GP b
 by_cases h1 : ((bitsL a).length : Int) - ((bitsL b).length : Int) = 0
 ·refine AI (Ae 1) <| Ac <| Aw (Ae 1) fun ds => Af rfl (Ck ⟨_, Tryz.underlying3⟩ Tryz.underlying179 Aa (KI (by omega) (by omega))) <| AS rfl (Ay Oz Aa AY (K1 (n := a) (by omega)) (fun _ _ h => h)) <| Ao (Ae 1) <| Af rfl (Ck ⟨_, Tryz.underlying3⟩ Tryz.underlying179 Aa (KI (by omega) (by omega))) <| AS rfl (Ay Oz Aa AY (K1 (n := b) (by omega)) (fun _ _ h => h)) <| Af rfl (BZ Aa Aa rfl (by omega) (by omega)) <| As (Ae 1) <| AI (Ae 2) <| Ad Aa (dF (fun h => h h1)) <| Aj <| Ab <| Aw (Ae 1) fun ds => A3 rfl <| Be Mm Aa AY (FF (n := a) ha) fun v1 F2 hr3 hF4 => ?_
  have al := hr3
  refine Ao (Ae 1) <| A3 rfl <| Be Mm Aa AY (FF (n := b) hb) fun v5 F6 hr7 hF8 => ?_
  replace al := al.mono hF8
  have bl := hr7
  refine AS rfl (Ay bd_80 Aa AY (LU al bl) (fun _ _ h => h)) <| As (Ae 2) <| At <| Aq rfl Bf ?_
  show Value.bool _ = Value.bool _
  unfold fewB; rw [if_neg (fun h => h h1)]
 refine AI (Ae 1) <| Ac <| Aw (Ae 1) fun ds => Af rfl (Ck ⟨_, Tryz.underlying3⟩ Tryz.underlying179 Aa (KI (by omega) (by omega))) <| AS rfl (Ay Oz Aa AY (K1 (n := a) (by omega)) (fun _ _ h => h)) <| Ao (Ae 1) <| Af rfl (Ck ⟨_, Tryz.underlying3⟩ Tryz.underlying179 Aa (KI (by omega) (by omega))) <| AS rfl (Ay Oz Aa AY (K1 (n := b) (by omega)) (fun _ _ h => h)) <| Af rfl (BZ Aa Aa rfl (by omega) (by omega)) <| As (Ae 1) <| AI (Ae 2) <| Ag Aa (dT h1) <| AI (Ae 3) <| At <| A1 <| Aq rfl Bf ?_
 show Value.bool _ = Value.bool _
 unfold fewB; rw [if_pos h1]
theorem OM {F : Heap} {v : Value} {xs : List Int} (h : Ints F v xs) (hl : xs.length ≤ 4) (hb : ∀ k (hk : k < xs.length), 0 ≤ xs[k] ∧ xs[k] ≤ 2000) : Ok Tryz.prog 84 [v].toArray F fun r _ => r = .int .i64 (sumTo xs xs.length) := by
 refine Ok.intro Tryz.func84 rfl Tryz.ntmps84 rfl fun w0 => AI (Ae 1) <| AI (Ae 1) <| Ac <| AI (Ae 1) <| Ak ?_
 refine AJ [3, 4, 5, 6, 7, 8, 9, 10, 11, 12, 13, 14, 15, 16] (fun m e σ => ∃ k : Nat, m + k = xs.length ∧ Fct e 4 (.int .i64 (k : Int)) ∧ Fct e 3 (.int .i64 (sumTo xs k)) ∧ σ = ⟨F, []⟩) (xs.length) ?_ ?_
 · exact ⟨0, by omega, Bb, Bb, rfl⟩
 rintro m e _ ⟨k, hm, hs4, hs3, rfl⟩
 by_cases hlt : k < xs.length
 ·have hb2 := hb k hlt
  have hbs := JZ hb k (by omega)
  refine Ac <| Aw (Ae 2) fun ds => Af rfl (A6 A7 Aa h.plain) <| As (Ae 1) <| Ag Aa (by first | rfl | exact dT (by omega)) <| Aj <| Ab <| Ac <| Ak <| Al fun ds => Ao (Ae 3) <| Af rfl (Ax (k := k) A7 Aa h.plain Aa rfl hlt) <| Af rfl (Ah AA Aa (h.cell1 hlt rfl)) <| Af rfl (AE Aa Aa rfl (by omega) (by omega)) <| Ao (Ae 1) <| Am <| Az <| Ab <| Al fun ds => Ao (Ae 1) <| Af rfl (AE Aa Aa rfl (by omega) (by omega)) <| Ao (Ae 1) <| Am ?_
  refine Ab ⟨_, m - 1, Off.eq (BT rfl <| Ci rfl <| Cw rfl <| A2), by omega, ?_⟩
  exact ⟨k + 1, by omega, Bb, by rw [He hlt]; exact Bb, rfl⟩
 refine Ac <| Aw (Ae 2) fun ds => Af rfl (A6 A7 Aa h.plain) <| As (Ae 1) <| Ad Aa (by first | rfl | exact dF (by omega)) ?_
 obtain rfl : k = xs.length := by omega
 refine AC ?_
 refine A0 <| A0 <| A4 <| Ab <| AI (Ae 2) <| At <| Aq rfl Bf ?_
 rfl
theorem KS {F : Heap} {vx : Value} {xs : List Nat} (hxs : Sl F vx 1 u16E xs) (hxb : ∀ x ∈ xs, x < 65536) {n : Nat} {z : Int} (hz : z = (n : Int)) : Ok Tryz.prog 43 [vx, .int .i64 z].toArray F fun u _ => u = .int .i64 (turnN xs n : Int) := by
 subst hz
 refine Ok.intro Tryz.func43 rfl Tryz.ntmps43 rfl fun w0 => ?_
 have hL := hxs.plain.lt
 by_cases h0 : xs.length = 0
 ·refine AI (Ae 1) <| Ac <| Aw (Ae 1) fun ds => Af rfl (A6 HE Aa hxs.plain) <| As (Ae 1) <| Ag Aa (by first | rfl | exact dT (by omega)) <| AI (Ae 1) <| At <| A1 <| Aq rfl Bf ?_
  show _ = _
  have : xs = [] := List.eq_nil_of_length_eq_zero h0
  subst this
  rw [MG]; rfl
 refine AI (Ae 1) <| Ac <| Aw (Ae 1) fun ds => Af rfl (A6 HE Aa hxs.plain) <| As (Ae 1) <| Ad Aa (by first | rfl | exact dF (by omega)) ?_
 have hlt : n % xs.length < xs.length := Nat.mod_lt _ (by omega)
 have hb := hxb _ (List.getElem_mem hlt)
 refine Aj <| Ab <| Aw (Ae 3) fun ds => Af rfl (A6 HE Aa hxs.plain) <| Af rfl (CE Aa Aa (Int.natCast_nonneg _) (by omega)) <| Af rfl (Ax (k := n % xs.length) HE Aa hxs.plain Aa (by push_cast; rfl) hlt) <| Af rfl (Ah K4 Aa (hxs.cell1 hlt rfl)) <| Af rfl (Ck ⟨_, Tryz.underlying126⟩ Tryz.underlying3 Aa (CQ (by omega) (by omega))) <| As (Ae 1) <| At <| Aq rfl Bf ?_
 show _ = _
 rw [OI hlt]; rfl
end
section
set_option maxRecDepth 100000
open Go.RowKit
theorem DY : FieldT Tryz.prog 115 0 0 := Bd (by kernel_rfl)
instance : FieldI Tryz.prog 115 0 0 := ⟨DY⟩
theorem DX : FieldT Tryz.prog 115 1 1 := Bd (by kernel_rfl)
instance : FieldI Tryz.prog 115 1 1 := ⟨DX⟩
instance : FieldI Tryz.prog 115 2 2 := ⟨Bd (by kernel_rfl)⟩
theorem DW : FieldT Tryz.prog 146 0 0 := Bd (by kernel_rfl)
instance : FieldI Tryz.prog 146 0 0 := ⟨DW⟩
theorem DV : FieldT Tryz.prog 146 1 1 := Bd (by kernel_rfl)
instance : FieldI Tryz.prog 146 1 1 := ⟨DV⟩
instance : FieldI Tryz.prog 146 2 2 := ⟨Bd (by kernel_rfl)⟩
theorem D3 : OneT Tryz.prog 113 := BI (by kernel_rfl)
instance : OneI Tryz.prog 113 := ⟨D3⟩
theorem EO : SizeT Tryz.prog 113 1 := Bq (by kernel_rfl)
theorem SR {F : Heap} {b : Nat} {lo hi met z : Int} (hm : 0 ≤ met ∧ met < 1000000) : OkM Tryz.prog 50 [.pointer (some ⟨b, 0, none⟩), .int .i64 z].toArray F [(b, bx 115 [.int .i64 lo, .int .i64 hi, .int .i64 met])] fun u _ H' => u = outOf [] ∧ H' = [(b, bx 115 [.int .i64 (if met = 0 then z else min lo z), .int .i64 (if met = 0 then z else max hi z), .int .i64 (met + 1)])] := by
 refine OkM.intro Tryz.func50 rfl Tryz.ntmps50 rfl fun w0 => ?_
 have hme := hm
 by_cases h0 : met = 0
 ·refine Ac <| Aw (Ae 1) fun ds => Af rfl (AH Aa) <| Ao (Ae 2) <| Af rfl (AE Aa Aa rfl (by omega) (by omega)) <| Af rfl (AH Aa) <| Ao (Ae 1) <| AV <| AT Cc Aa Aa (i := 0) rfl (.next <| .next <| .here) rfl (.here) <| Am <| Ab <| Aw (Ae 1) fun ds => Af rfl (AH Aa) <| As (Ae 3) <| Ag Aa (dT (by omega)) <| Al fun ds => Ao (Ae 4) <| Af rfl (AH Aa) <| Ao (Ae 1) <| AV <| AT EO Aa Aa (i := 0) rfl (.here) rfl (.here) <| Af rfl (AH Aa) <| Ao (Ae 1) <| AV <| AT EO Aa Aa (i := 0) rfl (.next <| .here) rfl (.here) <| Am <| Ab <| Bn (.inl rfl) (fun _ _ h => h) (List.nil_sublist _) [19] (by kernel_rfl) fun ds => Ai 0 rfl (by kernel_rfl) (by kernel_rfl) (by kernel_rfl) (by kernel_rfl) rfl rfl (fun _ h => h.drop (List.nil_sublist _)) (fun _ _ _ h => h) (A9 Aa) <| Ai 1 rfl (by kernel_rfl) (by kernel_rfl) (by kernel_rfl) (by kernel_rfl) rfl rfl (fun _ h => h.drop (List.nil_sublist _)) (fun _ _ _ h => h) (A9 Aa) <| Ai 2 rfl (by kernel_rfl) (by kernel_rfl) (by kernel_rfl) (by kernel_rfl) rfl rfl (fun _ h => h.drop (List.nil_sublist _)) (fun _ _ _ h => h) (A9 Aa) <| Ai 3 rfl (by kernel_rfl) (by kernel_rfl) (by kernel_rfl) (by kernel_rfl) rfl rfl (fun _ h => h.drop (List.nil_sublist _)) (fun _ _ _ h => h) (AH Aa) <| Ai 4 rfl (by kernel_rfl) (by kernel_rfl) (by kernel_rfl) (by kernel_rfl) rfl rfl (fun _ h => h.drop (List.nil_sublist _)) (fun _ _ _ h => h) (AD DY Aa) ?_
  refine Ai 6 rfl (by kernel_rfl) (by kernel_rfl) (by kernel_rfl) (by kernel_rfl) rfl rfl (fun _ h => h.drop (List.nil_sublist _)) (fun _ _ _ h => h) (A9 Aa) <| Ai 8 rfl (by kernel_rfl) (by kernel_rfl) (by kernel_rfl) (by kernel_rfl) rfl rfl (fun _ h => h.drop (List.nil_sublist _)) (fun _ _ _ h => h) (A9 Aa) <| Ai 9 rfl (by kernel_rfl) (by kernel_rfl) (by kernel_rfl) (by kernel_rfl) rfl rfl (fun _ h => h.drop (List.nil_sublist _)) (fun _ _ _ h => h) (AH Aa) <| Ai 10 rfl (by kernel_rfl) (by kernel_rfl) (by kernel_rfl) (by kernel_rfl) rfl rfl (fun _ h => h.drop (List.nil_sublist _)) (fun _ _ _ h => h) (AD DX Aa) <| Ai 12 rfl (by kernel_rfl) (by kernel_rfl) (by kernel_rfl) (by kernel_rfl) rfl rfl (fun _ h => h.drop (List.nil_sublist _)) (fun _ _ _ h => h) (A9 Aa) ?_
  refine FR [5, 11] (by kernel_rfl) (by decide) (in2 ?_ ?_)
  ·refine D7 rfl rfl (AP (Ah D3 Aa (Cell.own 0 rfl rfl)).quiet ⟨fun _ _ => (fun _ h => h.drop (List.nil_sublist _)), ?_⟩)
   refine Ai 7 rfl (by kernel_rfl) (by kernel_rfl) (by kernel_rfl) (by kernel_rfl) rfl rfl (fun _ h => h.drop (List.nil_sublist _)) (fun _ _ _ h => h) (E4 Aa Aa) ?_
   refine CK 11 rfl (by kernel_rfl) rfl (AP (Ah D3 Aa (Cell.own 0 rfl rfl)).quiet ⟨fun _ _ => (fun _ h => h.drop (List.nil_sublist _)), ?_⟩)
   refine Ai 13 rfl (by kernel_rfl) (by kernel_rfl) (by kernel_rfl) (by kernel_rfl) rfl rfl (fun _ h => h.drop (List.nil_sublist _)) (fun _ _ _ h => h) (Ee Aa Aa) <| Ai 14 rfl (by kernel_rfl) (by kernel_rfl) (by kernel_rfl) (by kernel_rfl) rfl rfl (fun _ h => h.drop (List.nil_sublist _)) (fun _ _ _ h => h) (AH Aa) <| Ai 15 rfl (by kernel_rfl) (by kernel_rfl) (by kernel_rfl) (by kernel_rfl) rfl rfl (fun _ h => h.drop (List.nil_sublist _)) (fun _ _ _ h => h) (AD DY Aa) ?_
   refine BG 16 rfl (by kernel_rfl) (AT EO Aa Aa (i := 0) rfl (.here) rfl (.here) ⟨fun _ _ => (fun _ h => h.drop (List.nil_sublist _)), ?_⟩)
   refine Ai 17 rfl (by kernel_rfl) (by kernel_rfl) (by kernel_rfl) (by kernel_rfl) rfl rfl (fun _ h => h.drop (List.nil_sublist _)) (fun _ _ _ h => h) (AH Aa) <| Ai 18 rfl (by kernel_rfl) (by kernel_rfl) (by kernel_rfl) (by kernel_rfl) rfl rfl (fun _ h => h.drop (List.nil_sublist _)) (fun _ _ _ h => h) (AD DX Aa) ?_
   refine BG 19 rfl (by kernel_rfl) (AT EO Aa Aa (i := 0) rfl (.next <| .here) rfl (.here) ⟨(fun h => nomatch h), ?_⟩)
   refine Bo (by kernel_rfl) ?_ _
   refine Dp rfl .nil (.cons (.here) <| .nil) rfl ?_
   exact ⟨rfl, by rw [if_pos h0, if_pos h0, Int.min_self, Int.max_self]⟩
  refine D7 rfl rfl (AP (Ah D3 Aa (Cell.own 0 rfl rfl)).quiet ⟨fun _ _ => (fun _ h => h.drop (List.nil_sublist _)), ?_⟩)
  refine Ai 13 rfl (by kernel_rfl) (by kernel_rfl) (by kernel_rfl) (by kernel_rfl) rfl rfl (fun _ h => h.drop (List.nil_sublist _)) (fun _ _ _ h => h) (Ee Aa Aa) ?_
  refine CK 5 rfl (by kernel_rfl) rfl (AP (Ah D3 Aa (Cell.own 0 rfl rfl)).quiet ⟨fun _ _ => (fun _ h => h.drop (List.nil_sublist _)), ?_⟩)
  refine Ai 7 rfl (by kernel_rfl) (by kernel_rfl) (by kernel_rfl) (by kernel_rfl) rfl rfl (fun _ h => h.drop (List.nil_sublist _)) (fun _ _ _ h => h) (E4 Aa Aa) <| Ai 14 rfl (by kernel_rfl) (by kernel_rfl) (by kernel_rfl) (by kernel_rfl) rfl rfl (fun _ h => h.drop (List.nil_sublist _)) (fun _ _ _ h => h) (AH Aa) <| Ai 15 rfl (by kernel_rfl) (by kernel_rfl) (by kernel_rfl) (by kernel_rfl) rfl rfl (fun _ h => h.drop (List.nil_sublist _)) (fun _ _ _ h => h) (AD DY Aa) ?_
  refine BG 16 rfl (by kernel_rfl) (AT EO Aa Aa (i := 0) rfl (.here) rfl (.here) ⟨fun _ _ => (fun _ h => h.drop (List.nil_sublist _)), ?_⟩)
  refine Ai 17 rfl (by kernel_rfl) (by kernel_rfl) (by kernel_rfl) (by kernel_rfl) rfl rfl (fun _ h => h.drop (List.nil_sublist _)) (fun _ _ _ h => h) (AH Aa) <| Ai 18 rfl (by kernel_rfl) (by kernel_rfl) (by kernel_rfl) (by kernel_rfl) rfl rfl (fun _ h => h.drop (List.nil_sublist _)) (fun _ _ _ h => h) (AD DX Aa) ?_
  refine BG 19 rfl (by kernel_rfl) (AT EO Aa Aa (i := 0) rfl (.next <| .here) rfl (.here) ⟨(fun h => nomatch h), ?_⟩)
  refine Bo (by kernel_rfl) ?_ _
  refine Dp rfl .nil (.cons (.here) <| .nil) rfl ?_
  exact ⟨rfl, by rw [if_pos h0, if_pos h0, Int.min_self, Int.max_self]⟩
 refine Ac <| Aw (Ae 1) fun ds => Af rfl (AH Aa) <| Ao (Ae 2) <| Af rfl (AE Aa Aa rfl (by omega) (by omega)) <| Af rfl (AH Aa) <| Ao (Ae 1) <| AV <| AT Cc Aa Aa (i := 0) rfl (.next <| .next <| .here) rfl (.here) <| Am <| Ab <| Aw (Ae 1) fun ds => Af rfl (AH Aa) <| As (Ae 3) <| Ad Aa (dF (by omega)) <| Aj <| Ab <| Bn (.inl rfl) (fun _ _ h => h) (List.nil_sublist _) [19] (by kernel_rfl) fun ds => Ai 0 rfl (by kernel_rfl) (by kernel_rfl) (by kernel_rfl) (by kernel_rfl) rfl rfl (fun _ h => h.drop (List.nil_sublist _)) (fun _ _ _ h => h) (A9 Aa) <| Ai 1 rfl (by kernel_rfl) (by kernel_rfl) (by kernel_rfl) (by kernel_rfl) rfl rfl (fun _ h => h.drop (List.nil_sublist _)) (fun _ _ _ h => h) (A9 Aa) <| Ai 2 rfl (by kernel_rfl) (by kernel_rfl) (by kernel_rfl) (by kernel_rfl) rfl rfl (fun _ h => h.drop (List.nil_sublist _)) (fun _ _ _ h => h) (A9 Aa) <| Ai 3 rfl (by kernel_rfl) (by kernel_rfl) (by kernel_rfl) (by kernel_rfl) rfl rfl (fun _ h => h.drop (List.nil_sublist _)) (fun _ _ _ h => h) (AH Aa) <| Ai 4 rfl (by kernel_rfl) (by kernel_rfl) (by kernel_rfl) (by kernel_rfl) rfl rfl (fun _ h => h.drop (List.nil_sublist _)) (fun _ _ _ h => h) (AD DY Aa) <| Ai 6 rfl (by kernel_rfl) (by kernel_rfl) (by kernel_rfl) (by kernel_rfl) rfl rfl (fun _ h => h.drop (List.nil_sublist _)) (fun _ _ _ h => h) (A9 Aa) <| Ai 8 rfl (by kernel_rfl) (by kernel_rfl) (by kernel_rfl) (by kernel_rfl) rfl rfl (fun _ h => h.drop (List.nil_sublist _)) (fun _ _ _ h => h) (A9 Aa) ?_
 refine Ai 9 rfl (by kernel_rfl) (by kernel_rfl) (by kernel_rfl) (by kernel_rfl) rfl rfl (fun _ h => h.drop (List.nil_sublist _)) (fun _ _ _ h => h) (AH Aa) <| Ai 10 rfl (by kernel_rfl) (by kernel_rfl) (by kernel_rfl) (by kernel_rfl) rfl rfl (fun _ h => h.drop (List.nil_sublist _)) (fun _ _ _ h => h) (AD DX Aa) <| Ai 12 rfl (by kernel_rfl) (by kernel_rfl) (by kernel_rfl) (by kernel_rfl) rfl rfl (fun _ h => h.drop (List.nil_sublist _)) (fun _ _ _ h => h) (A9 Aa) ?_
 refine FR [5, 11] (by kernel_rfl) (by decide) (in2 ?_ ?_)
 ·refine D7 rfl rfl (AP (Ah D3 Aa (Cell.own 0 rfl rfl)).quiet ⟨fun _ _ => (fun _ h => h.drop (List.nil_sublist _)), ?_⟩)
  refine Ai 7 rfl (by kernel_rfl) (by kernel_rfl) (by kernel_rfl) (by kernel_rfl) rfl rfl (fun _ h => h.drop (List.nil_sublist _)) (fun _ _ _ h => h) (E4 Aa Aa) ?_
  refine CK 11 rfl (by kernel_rfl) rfl (AP (Ah D3 Aa (Cell.own 0 rfl rfl)).quiet ⟨fun _ _ => (fun _ h => h.drop (List.nil_sublist _)), ?_⟩)
  refine Ai 13 rfl (by kernel_rfl) (by kernel_rfl) (by kernel_rfl) (by kernel_rfl) rfl rfl (fun _ h => h.drop (List.nil_sublist _)) (fun _ _ _ h => h) (Ee Aa Aa) <| Ai 14 rfl (by kernel_rfl) (by kernel_rfl) (by kernel_rfl) (by kernel_rfl) rfl rfl (fun _ h => h.drop (List.nil_sublist _)) (fun _ _ _ h => h) (AH Aa) <| Ai 15 rfl (by kernel_rfl) (by kernel_rfl) (by kernel_rfl) (by kernel_rfl) rfl rfl (fun _ h => h.drop (List.nil_sublist _)) (fun _ _ _ h => h) (AD DY Aa) ?_
  refine BG 16 rfl (by kernel_rfl) (AT EO Aa Aa (i := 0) rfl (.here) rfl (.here) ⟨fun _ _ => (fun _ h => h.drop (List.nil_sublist _)), ?_⟩)
  refine Ai 17 rfl (by kernel_rfl) (by kernel_rfl) (by kernel_rfl) (by kernel_rfl) rfl rfl (fun _ h => h.drop (List.nil_sublist _)) (fun _ _ _ h => h) (AH Aa) <| Ai 18 rfl (by kernel_rfl) (by kernel_rfl) (by kernel_rfl) (by kernel_rfl) rfl rfl (fun _ h => h.drop (List.nil_sublist _)) (fun _ _ _ h => h) (AD DX Aa) ?_
  refine BG 19 rfl (by kernel_rfl) (AT EO Aa Aa (i := 0) rfl (.next <| .here) rfl (.here) ⟨(fun h => nomatch h), ?_⟩)
  refine Bo (by kernel_rfl) ?_ _
  refine Dp rfl .nil (.cons (.here) <| .nil) rfl ?_
  exact ⟨rfl, by rw [if_neg h0, if_neg h0]⟩
 refine D7 rfl rfl (AP (Ah D3 Aa (Cell.own 0 rfl rfl)).quiet ⟨fun _ _ => (fun _ h => h.drop (List.nil_sublist _)), ?_⟩)
 refine Ai 13 rfl (by kernel_rfl) (by kernel_rfl) (by kernel_rfl) (by kernel_rfl) rfl rfl (fun _ h => h.drop (List.nil_sublist _)) (fun _ _ _ h => h) (Ee Aa Aa) ?_
 refine CK 5 rfl (by kernel_rfl) rfl (AP (Ah D3 Aa (Cell.own 0 rfl rfl)).quiet ⟨fun _ _ => (fun _ h => h.drop (List.nil_sublist _)), ?_⟩)
 refine Ai 7 rfl (by kernel_rfl) (by kernel_rfl) (by kernel_rfl) (by kernel_rfl) rfl rfl (fun _ h => h.drop (List.nil_sublist _)) (fun _ _ _ h => h) (E4 Aa Aa) <| Ai 14 rfl (by kernel_rfl) (by kernel_rfl) (by kernel_rfl) (by kernel_rfl) rfl rfl (fun _ h => h.drop (List.nil_sublist _)) (fun _ _ _ h => h) (AH Aa) <| Ai 15 rfl (by kernel_rfl) (by kernel_rfl) (by kernel_rfl) (by kernel_rfl) rfl rfl (fun _ h => h.drop (List.nil_sublist _)) (fun _ _ _ h => h) (AD DY Aa) ?_
 refine BG 16 rfl (by kernel_rfl) (AT EO Aa Aa (i := 0) rfl (.here) rfl (.here) ⟨fun _ _ => (fun _ h => h.drop (List.nil_sublist _)), ?_⟩)
 refine Ai 17 rfl (by kernel_rfl) (by kernel_rfl) (by kernel_rfl) (by kernel_rfl) rfl rfl (fun _ h => h.drop (List.nil_sublist _)) (fun _ _ _ h => h) (AH Aa) <| Ai 18 rfl (by kernel_rfl) (by kernel_rfl) (by kernel_rfl) (by kernel_rfl) rfl rfl (fun _ h => h.drop (List.nil_sublist _)) (fun _ _ _ h => h) (AD DX Aa) ?_
 refine BG 19 rfl (by kernel_rfl) (AT EO Aa Aa (i := 0) rfl (.next <| .here) rfl (.here) ⟨(fun h => nomatch h), ?_⟩)
 refine Bo (by kernel_rfl) ?_ _
 refine Dp rfl .nil (.cons (.here) <| .nil) rfl ?_
 exact ⟨rfl, by rw [if_neg h0, if_neg h0]⟩
theorem SQ {F : Heap} {b : Nat} {lo hi met z : Int} (hm : 0 ≤ met ∧ met < 1000000) : OkM Tryz.prog 65 [.pointer (some ⟨b, 0, none⟩), .int .i64 z].toArray F [(b, bx 146 [.int .i64 lo, .int .i64 hi, .int .i64 met])] fun u _ H' => u = outOf [] ∧ H' = [(b, bx 146 [.int .i64 (if met = 0 then z else min lo z), .int .i64 (if met = 0 then z else max hi z), .int .i64 (met + 1)])] := by
 refine OkM.intro Tryz.func65 rfl Tryz.ntmps65 rfl fun w0 => ?_
 have hme := hm
 by_cases h0 : met = 0
 ·refine Ac <| Aw (Ae 1) fun ds => Af rfl (AH Aa) <| Ao (Ae 2) <| Af rfl (AE Aa Aa rfl (by omega) (by omega)) <| Af rfl (AH Aa) <| Ao (Ae 1) <| AV <| AT Cc Aa Aa (i := 0) rfl (.next <| .next <| .here) rfl (.here) <| Am <| Ab <| Aw (Ae 1) fun ds => Af rfl (AH Aa) <| As (Ae 3) <| Ag Aa (dT (by omega)) <| Al fun ds => Ao (Ae 4) <| Af rfl (AH Aa) <| Ao (Ae 1) <| AV <| AT Cc Aa Aa (i := 0) rfl (.here) rfl (.here) <| Af rfl (AH Aa) <| Ao (Ae 1) <| AV <| AT Cc Aa Aa (i := 0) rfl (.next <| .here) rfl (.here) <| Am <| Ab <| Bn (.inl rfl) (fun _ _ h => h) (List.nil_sublist _) [19] (by kernel_rfl) fun ds => Ai 0 rfl (by kernel_rfl) (by kernel_rfl) (by kernel_rfl) (by kernel_rfl) rfl rfl (fun _ h => h.drop (List.nil_sublist _)) (fun _ _ _ h => h) (A9 Aa) <| Ai 1 rfl (by kernel_rfl) (by kernel_rfl) (by kernel_rfl) (by kernel_rfl) rfl rfl (fun _ h => h.drop (List.nil_sublist _)) (fun _ _ _ h => h) (A9 Aa) <| Ai 2 rfl (by kernel_rfl) (by kernel_rfl) (by kernel_rfl) (by kernel_rfl) rfl rfl (fun _ h => h.drop (List.nil_sublist _)) (fun _ _ _ h => h) (A9 Aa) <| Ai 3 rfl (by kernel_rfl) (by kernel_rfl) (by kernel_rfl) (by kernel_rfl) rfl rfl (fun _ h => h.drop (List.nil_sublist _)) (fun _ _ _ h => h) (AH Aa) <| Ai 4 rfl (by kernel_rfl) (by kernel_rfl) (by kernel_rfl) (by kernel_rfl) rfl rfl (fun _ h => h.drop (List.nil_sublist _)) (fun _ _ _ h => h) (AD DW Aa) ?_
  refine Ai 6 rfl (by kernel_rfl) (by kernel_rfl) (by kernel_rfl) (by kernel_rfl) rfl rfl (fun _ h => h.drop (List.nil_sublist _)) (fun _ _ _ h => h) (A9 Aa) <| Ai 8 rfl (by kernel_rfl) (by kernel_rfl) (by kernel_rfl) (by kernel_rfl) rfl rfl (fun _ h => h.drop (List.nil_sublist _)) (fun _ _ _ h => h) (A9 Aa) <| Ai 9 rfl (by kernel_rfl) (by kernel_rfl) (by kernel_rfl) (by kernel_rfl) rfl rfl (fun _ h => h.drop (List.nil_sublist _)) (fun _ _ _ h => h) (AH Aa) <| Ai 10 rfl (by kernel_rfl) (by kernel_rfl) (by kernel_rfl) (by kernel_rfl) rfl rfl (fun _ h => h.drop (List.nil_sublist _)) (fun _ _ _ h => h) (AD DV Aa) <| Ai 12 rfl (by kernel_rfl) (by kernel_rfl) (by kernel_rfl) (by kernel_rfl) rfl rfl (fun _ h => h.drop (List.nil_sublist _)) (fun _ _ _ h => h) (A9 Aa) ?_
  refine FR [5, 11] (by kernel_rfl) (by decide) (in2 ?_ ?_)
  ·refine D7 rfl rfl (AP (Ah AA Aa (Cell.own 0 rfl rfl)).quiet ⟨fun _ _ => (fun _ h => h.drop (List.nil_sublist _)), ?_⟩)
   refine Ai 7 rfl (by kernel_rfl) (by kernel_rfl) (by kernel_rfl) (by kernel_rfl) rfl rfl (fun _ h => h.drop (List.nil_sublist _)) (fun _ _ _ h => h) (E4 Aa Aa) ?_
   refine CK 11 rfl (by kernel_rfl) rfl (AP (Ah AA Aa (Cell.own 0 rfl rfl)).quiet ⟨fun _ _ => (fun _ h => h.drop (List.nil_sublist _)), ?_⟩)
   refine Ai 13 rfl (by kernel_rfl) (by kernel_rfl) (by kernel_rfl) (by kernel_rfl) rfl rfl (fun _ h => h.drop (List.nil_sublist _)) (fun _ _ _ h => h) (Ee Aa Aa) <| Ai 14 rfl (by kernel_rfl) (by kernel_rfl) (by kernel_rfl) (by kernel_rfl) rfl rfl (fun _ h => h.drop (List.nil_sublist _)) (fun _ _ _ h => h) (AH Aa) <| Ai 15 rfl (by kernel_rfl) (by kernel_rfl) (by kernel_rfl) (by kernel_rfl) rfl rfl (fun _ h => h.drop (List.nil_sublist _)) (fun _ _ _ h => h) (AD DW Aa) ?_
   refine BG 16 rfl (by kernel_rfl) (AT Cc Aa Aa (i := 0) rfl (.here) rfl (.here) ⟨fun _ _ => (fun _ h => h.drop (List.nil_sublist _)), ?_⟩)
   refine Ai 17 rfl (by kernel_rfl) (by kernel_rfl) (by kernel_rfl) (by kernel_rfl) rfl rfl (fun _ h => h.drop (List.nil_sublist _)) (fun _ _ _ h => h) (AH Aa) <| Ai 18 rfl (by kernel_rfl) (by kernel_rfl) (by kernel_rfl) (by kernel_rfl) rfl rfl (fun _ h => h.drop (List.nil_sublist _)) (fun _ _ _ h => h) (AD DV Aa) ?_
   refine BG 19 rfl (by kernel_rfl) (AT Cc Aa Aa (i := 0) rfl (.next <| .here) rfl (.here) ⟨(fun h => nomatch h), ?_⟩)
   refine Bo (by kernel_rfl) ?_ _
   refine Dp rfl .nil (.cons (.here) <| .nil) rfl ?_
   exact ⟨rfl, by rw [if_pos h0, if_pos h0, Int.min_self, Int.max_self]⟩
  refine D7 rfl rfl (AP (Ah AA Aa (Cell.own 0 rfl rfl)).quiet ⟨fun _ _ => (fun _ h => h.drop (List.nil_sublist _)), ?_⟩)
  refine Ai 13 rfl (by kernel_rfl) (by kernel_rfl) (by kernel_rfl) (by kernel_rfl) rfl rfl (fun _ h => h.drop (List.nil_sublist _)) (fun _ _ _ h => h) (Ee Aa Aa) ?_
  refine CK 5 rfl (by kernel_rfl) rfl (AP (Ah AA Aa (Cell.own 0 rfl rfl)).quiet ⟨fun _ _ => (fun _ h => h.drop (List.nil_sublist _)), ?_⟩)
  refine Ai 7 rfl (by kernel_rfl) (by kernel_rfl) (by kernel_rfl) (by kernel_rfl) rfl rfl (fun _ h => h.drop (List.nil_sublist _)) (fun _ _ _ h => h) (E4 Aa Aa) <| Ai 14 rfl (by kernel_rfl) (by kernel_rfl) (by kernel_rfl) (by kernel_rfl) rfl rfl (fun _ h => h.drop (List.nil_sublist _)) (fun _ _ _ h => h) (AH Aa) <| Ai 15 rfl (by kernel_rfl) (by kernel_rfl) (by kernel_rfl) (by kernel_rfl) rfl rfl (fun _ h => h.drop (List.nil_sublist _)) (fun _ _ _ h => h) (AD DW Aa) ?_
  refine BG 16 rfl (by kernel_rfl) (AT Cc Aa Aa (i := 0) rfl (.here) rfl (.here) ⟨fun _ _ => (fun _ h => h.drop (List.nil_sublist _)), ?_⟩)
  refine Ai 17 rfl (by kernel_rfl) (by kernel_rfl) (by kernel_rfl) (by kernel_rfl) rfl rfl (fun _ h => h.drop (List.nil_sublist _)) (fun _ _ _ h => h) (AH Aa) <| Ai 18 rfl (by kernel_rfl) (by kernel_rfl) (by kernel_rfl) (by kernel_rfl) rfl rfl (fun _ h => h.drop (List.nil_sublist _)) (fun _ _ _ h => h) (AD DV Aa) ?_
  refine BG 19 rfl (by kernel_rfl) (AT Cc Aa Aa (i := 0) rfl (.next <| .here) rfl (.here) ⟨(fun h => nomatch h), ?_⟩)
  refine Bo (by kernel_rfl) ?_ _
  refine Dp rfl .nil (.cons (.here) <| .nil) rfl ?_
  exact ⟨rfl, by rw [if_pos h0, if_pos h0, Int.min_self, Int.max_self]⟩
 refine Ac <| Aw (Ae 1) fun ds => Af rfl (AH Aa) <| Ao (Ae 2) <| Af rfl (AE Aa Aa rfl (by omega) (by omega)) <| Af rfl (AH Aa) <| Ao (Ae 1) <| AV <| AT Cc Aa Aa (i := 0) rfl (.next <| .next <| .here) rfl (.here) <| Am <| Ab <| Aw (Ae 1) fun ds => Af rfl (AH Aa) <| As (Ae 3) <| Ad Aa (dF (by omega)) <| Aj <| Ab <| Bn (.inl rfl) (fun _ _ h => h) (List.nil_sublist _) [19] (by kernel_rfl) fun ds => Ai 0 rfl (by kernel_rfl) (by kernel_rfl) (by kernel_rfl) (by kernel_rfl) rfl rfl (fun _ h => h.drop (List.nil_sublist _)) (fun _ _ _ h => h) (A9 Aa) <| Ai 1 rfl (by kernel_rfl) (by kernel_rfl) (by kernel_rfl) (by kernel_rfl) rfl rfl (fun _ h => h.drop (List.nil_sublist _)) (fun _ _ _ h => h) (A9 Aa) <| Ai 2 rfl (by kernel_rfl) (by kernel_rfl) (by kernel_rfl) (by kernel_rfl) rfl rfl (fun _ h => h.drop (List.nil_sublist _)) (fun _ _ _ h => h) (A9 Aa) <| Ai 3 rfl (by kernel_rfl) (by kernel_rfl) (by kernel_rfl) (by kernel_rfl) rfl rfl (fun _ h => h.drop (List.nil_sublist _)) (fun _ _ _ h => h) (AH Aa) <| Ai 4 rfl (by kernel_rfl) (by kernel_rfl) (by kernel_rfl) (by kernel_rfl) rfl rfl (fun _ h => h.drop (List.nil_sublist _)) (fun _ _ _ h => h) (AD DW Aa) <| Ai 6 rfl (by kernel_rfl) (by kernel_rfl) (by kernel_rfl) (by kernel_rfl) rfl rfl (fun _ h => h.drop (List.nil_sublist _)) (fun _ _ _ h => h) (A9 Aa) <| Ai 8 rfl (by kernel_rfl) (by kernel_rfl) (by kernel_rfl) (by kernel_rfl) rfl rfl (fun _ h => h.drop (List.nil_sublist _)) (fun _ _ _ h => h) (A9 Aa) ?_
 refine Ai 9 rfl (by kernel_rfl) (by kernel_rfl) (by kernel_rfl) (by kernel_rfl) rfl rfl (fun _ h => h.drop (List.nil_sublist _)) (fun _ _ _ h => h) (AH Aa) <| Ai 10 rfl (by kernel_rfl) (by kernel_rfl) (by kernel_rfl) (by kernel_rfl) rfl rfl (fun _ h => h.drop (List.nil_sublist _)) (fun _ _ _ h => h) (AD DV Aa) <| Ai 12 rfl (by kernel_rfl) (by kernel_rfl) (by kernel_rfl) (by kernel_rfl) rfl rfl (fun _ h => h.drop (List.nil_sublist _)) (fun _ _ _ h => h) (A9 Aa) ?_
 refine FR [5, 11] (by kernel_rfl) (by decide) (in2 ?_ ?_)
 ·refine D7 rfl rfl (AP (Ah AA Aa (Cell.own 0 rfl rfl)).quiet ⟨fun _ _ => (fun _ h => h.drop (List.nil_sublist _)), ?_⟩)
  refine Ai 7 rfl (by kernel_rfl) (by kernel_rfl) (by kernel_rfl) (by kernel_rfl) rfl rfl (fun _ h => h.drop (List.nil_sublist _)) (fun _ _ _ h => h) (E4 Aa Aa) ?_
  refine CK 11 rfl (by kernel_rfl) rfl (AP (Ah AA Aa (Cell.own 0 rfl rfl)).quiet ⟨fun _ _ => (fun _ h => h.drop (List.nil_sublist _)), ?_⟩)
  refine Ai 13 rfl (by kernel_rfl) (by kernel_rfl) (by kernel_rfl) (by kernel_rfl) rfl rfl (fun _ h => h.drop (List.nil_sublist _)) (fun _ _ _ h => h) (Ee Aa Aa) <| Ai 14 rfl (by kernel_rfl) (by kernel_rfl) (by kernel_rfl) (by kernel_rfl) rfl rfl (fun _ h => h.drop (List.nil_sublist _)) (fun _ _ _ h => h) (AH Aa) <| Ai 15 rfl (by kernel_rfl) (by kernel_rfl) (by kernel_rfl) (by kernel_rfl) rfl rfl (fun _ h => h.drop (List.nil_sublist _)) (fun _ _ _ h => h) (AD DW Aa) ?_
  refine BG 16 rfl (by kernel_rfl) (AT Cc Aa Aa (i := 0) rfl (.here) rfl (.here) ⟨fun _ _ => (fun _ h => h.drop (List.nil_sublist _)), ?_⟩)
  refine Ai 17 rfl (by kernel_rfl) (by kernel_rfl) (by kernel_rfl) (by kernel_rfl) rfl rfl (fun _ h => h.drop (List.nil_sublist _)) (fun _ _ _ h => h) (AH Aa) <| Ai 18 rfl (by kernel_rfl) (by kernel_rfl) (by kernel_rfl) (by kernel_rfl) rfl rfl (fun _ h => h.drop (List.nil_sublist _)) (fun _ _ _ h => h) (AD DV Aa) ?_
  refine BG 19 rfl (by kernel_rfl) (AT Cc Aa Aa (i := 0) rfl (.next <| .here) rfl (.here) ⟨(fun h => nomatch h), ?_⟩)
  refine Bo (by kernel_rfl) ?_ _
  refine Dp rfl .nil (.cons (.here) <| .nil) rfl ?_
  exact ⟨rfl, by rw [if_neg h0, if_neg h0]⟩
 refine D7 rfl rfl (AP (Ah AA Aa (Cell.own 0 rfl rfl)).quiet ⟨fun _ _ => (fun _ h => h.drop (List.nil_sublist _)), ?_⟩)
 refine Ai 13 rfl (by kernel_rfl) (by kernel_rfl) (by kernel_rfl) (by kernel_rfl) rfl rfl (fun _ h => h.drop (List.nil_sublist _)) (fun _ _ _ h => h) (Ee Aa Aa) ?_
 refine CK 5 rfl (by kernel_rfl) rfl (AP (Ah AA Aa (Cell.own 0 rfl rfl)).quiet ⟨fun _ _ => (fun _ h => h.drop (List.nil_sublist _)), ?_⟩)
 refine Ai 7 rfl (by kernel_rfl) (by kernel_rfl) (by kernel_rfl) (by kernel_rfl) rfl rfl (fun _ h => h.drop (List.nil_sublist _)) (fun _ _ _ h => h) (E4 Aa Aa) <| Ai 14 rfl (by kernel_rfl) (by kernel_rfl) (by kernel_rfl) (by kernel_rfl) rfl rfl (fun _ h => h.drop (List.nil_sublist _)) (fun _ _ _ h => h) (AH Aa) <| Ai 15 rfl (by kernel_rfl) (by kernel_rfl) (by kernel_rfl) (by kernel_rfl) rfl rfl (fun _ h => h.drop (List.nil_sublist _)) (fun _ _ _ h => h) (AD DW Aa) ?_
 refine BG 16 rfl (by kernel_rfl) (AT Cc Aa Aa (i := 0) rfl (.here) rfl (.here) ⟨fun _ _ => (fun _ h => h.drop (List.nil_sublist _)), ?_⟩)
 refine Ai 17 rfl (by kernel_rfl) (by kernel_rfl) (by kernel_rfl) (by kernel_rfl) rfl rfl (fun _ h => h.drop (List.nil_sublist _)) (fun _ _ _ h => h) (AH Aa) <| Ai 18 rfl (by kernel_rfl) (by kernel_rfl) (by kernel_rfl) (by kernel_rfl) rfl rfl (fun _ h => h.drop (List.nil_sublist _)) (fun _ _ _ h => h) (AD DV Aa) ?_
 refine BG 19 rfl (by kernel_rfl) (AT Cc Aa Aa (i := 0) rfl (.next <| .here) rfl (.here) ⟨(fun h => nomatch h), ?_⟩)
 refine Bo (by kernel_rfl) ?_ _
 refine Dp rfl .nil (.cons (.here) <| .nil) rfl ?_
 exact ⟨rfl, by rw [if_neg h0, if_neg h0]⟩
theorem UP {F : Heap} {b : Nat} {lo hi met : Int} : OkM Tryz.prog 51 [.pointer (some ⟨b, 0, none⟩)].toArray F [(b, bx 115 [.int .i64 lo, .int .i64 hi, .int .i64 met])] fun u _ H' => u = .agg #[.int .i64 lo, .int .i64 hi] ∧ H' = [(b, bx 115 [.int .i64 lo, .int .i64 hi, .int .i64 met])] := by
 refine OkM.intro Tryz.func51 rfl Tryz.ntmps51 rfl fun w0 => Ac <| Al fun ds => A3 rfl <| AN EE rfl fun b1 hb1 nb1 => Am <| Ab <| Ac <| Bn (.inl rfl) (fun _ _ h => h) (kK <| kK <| .refl _) [9] (by kernel_rfl) fun ds => Ai 0 rfl (by kernel_rfl) (by kernel_rfl) (by kernel_rfl) (by kernel_rfl) rfl rfl (fun _ h => h.drop (kK <| kK <| .refl _)) (fun _ _ _ h => h) (A9 Aa) <| Ai 1 rfl (by kernel_rfl) (by kernel_rfl) (by kernel_rfl) (by kernel_rfl) rfl rfl (fun _ h => h.drop (kK <| kK <| .refl _)) (fun _ _ _ h => h) (AH Aa) <| Ai 2 rfl (by kernel_rfl) (by kernel_rfl) (by kernel_rfl) (by kernel_rfl) rfl rfl (fun _ h => h.drop (kK <| kK <| .refl _)) (fun _ _ _ h => h) (AD DY Aa) <| Ai 3 rfl (by kernel_rfl) (by kernel_rfl) (by kernel_rfl) (by kernel_rfl) rfl rfl (fun _ h => h.drop (kK <| kK <| .refl _)) (fun _ _ _ h => h) (Ah D3 Aa (Cell.own 1 rfl rfl)) <| Ai 4 rfl (by kernel_rfl) (by kernel_rfl) (by kernel_rfl) (by kernel_rfl) rfl rfl (fun _ h => h.drop (kK <| kK <| .refl _)) (fun _ _ _ h => h) (A9 Aa) <| Ai 5 rfl (by kernel_rfl) (by kernel_rfl) (by kernel_rfl) (by kernel_rfl) rfl rfl (fun _ h => h.drop (kK <| kK <| .refl _)) (fun _ _ _ h => h) (AH Aa) <| Ai 6 rfl (by kernel_rfl) (by kernel_rfl) (by kernel_rfl) (by kernel_rfl) rfl rfl (fun _ h => h.drop (kK <| kK <| .refl _)) (fun _ _ _ h => h) (AD DX Aa) ?_
 refine Ai 7 rfl (by kernel_rfl) (by kernel_rfl) (by kernel_rfl) (by kernel_rfl) rfl rfl (fun _ h => h.drop (kK <| kK <| .refl _)) (fun _ _ _ h => h) (Ah D3 Aa (Cell.own 1 rfl rfl)) <| Ai 8 rfl (by kernel_rfl) (by kernel_rfl) (by kernel_rfl) (by kernel_rfl) rfl rfl (fun _ h => h.drop (kK <| kK <| .refl _)) (fun _ _ _ h => h) (BE GX (.cons Aa rfl (.cons Aa rfl .nil)) (.cons rfl rfl (Nat.le_of_ble_eq_true rfl) (.cons (.here) .nil) (.cons rfl rfl (Nat.le_of_ble_eq_true rfl) (.cons (.next <| .here) .nil) .nil))) ?_
 refine BG 9 rfl (by kernel_rfl) (AQ EX Aa Aa (i := 0) rfl rfl rfl rfl (by simp [Value.oneCell']) (.here) ⟨(fun h => nomatch h), ?_⟩)
 refine Bo (by kernel_rfl) ?_ _
 refine Ab <| At <| Er rfl (.agg Cg Aa rfl rfl (Bg 0 rfl) .nil) (.cons (.next <| .here) <| .nil) rfl ?_
 exact ⟨rfl, rfl⟩
theorem OT {F : Heap} {b : Nat} {lo hi met : Int} : OkM Tryz.prog 66 [.pointer (some ⟨b, 0, none⟩)].toArray F [(b, bx 146 [.int .i64 lo, .int .i64 hi, .int .i64 met])] fun u _ H' => u = .agg #[.int .i64 lo, .int .i64 hi] ∧ H' = [(b, bx 146 [.int .i64 lo, .int .i64 hi, .int .i64 met])] := by
 refine OkM.intro Tryz.func66 rfl Tryz.ntmps66 rfl fun w0 => Ac <| Al fun ds => A3 rfl <| AN EE rfl fun b1 hb1 nb1 => Am <| Ab <| Ac <| Bn (.inl rfl) (fun _ _ h => h) (kK <| kK <| .refl _) [9] (by kernel_rfl) fun ds => Ai 0 rfl (by kernel_rfl) (by kernel_rfl) (by kernel_rfl) (by kernel_rfl) rfl rfl (fun _ h => h.drop (kK <| kK <| .refl _)) (fun _ _ _ h => h) (A9 Aa) <| Ai 1 rfl (by kernel_rfl) (by kernel_rfl) (by kernel_rfl) (by kernel_rfl) rfl rfl (fun _ h => h.drop (kK <| kK <| .refl _)) (fun _ _ _ h => h) (AH Aa) <| Ai 2 rfl (by kernel_rfl) (by kernel_rfl) (by kernel_rfl) (by kernel_rfl) rfl rfl (fun _ h => h.drop (kK <| kK <| .refl _)) (fun _ _ _ h => h) (AD DW Aa) <| Ai 3 rfl (by kernel_rfl) (by kernel_rfl) (by kernel_rfl) (by kernel_rfl) rfl rfl (fun _ h => h.drop (kK <| kK <| .refl _)) (fun _ _ _ h => h) (Ah AA Aa (Cell.own 1 rfl rfl)) <| Ai 4 rfl (by kernel_rfl) (by kernel_rfl) (by kernel_rfl) (by kernel_rfl) rfl rfl (fun _ h => h.drop (kK <| kK <| .refl _)) (fun _ _ _ h => h) (A9 Aa) <| Ai 5 rfl (by kernel_rfl) (by kernel_rfl) (by kernel_rfl) (by kernel_rfl) rfl rfl (fun _ h => h.drop (kK <| kK <| .refl _)) (fun _ _ _ h => h) (AH Aa) <| Ai 6 rfl (by kernel_rfl) (by kernel_rfl) (by kernel_rfl) (by kernel_rfl) rfl rfl (fun _ h => h.drop (kK <| kK <| .refl _)) (fun _ _ _ h => h) (AD DV Aa) ?_
 refine Ai 7 rfl (by kernel_rfl) (by kernel_rfl) (by kernel_rfl) (by kernel_rfl) rfl rfl (fun _ h => h.drop (kK <| kK <| .refl _)) (fun _ _ _ h => h) (Ah AA Aa (Cell.own 1 rfl rfl)) <| Ai 8 rfl (by kernel_rfl) (by kernel_rfl) (by kernel_rfl) (by kernel_rfl) rfl rfl (fun _ h => h.drop (kK <| kK <| .refl _)) (fun _ _ _ h => h) (BE GX (.cons Aa rfl (.cons Aa rfl .nil)) (.cons rfl rfl (Nat.le_of_ble_eq_true rfl) (.cons (.here) .nil) (.cons rfl rfl (Nat.le_of_ble_eq_true rfl) (.cons (.next <| .here) .nil) .nil))) ?_
 refine BG 9 rfl (by kernel_rfl) (AQ EX Aa Aa (i := 0) rfl rfl rfl rfl (by simp [Value.oneCell']) (.here) ⟨(fun h => nomatch h), ?_⟩)
 refine Bo (by kernel_rfl) ?_ _
 refine Ab <| At <| Er rfl (.agg Cg Aa rfl rfl (Bg 0 rfl) .nil) (.cons (.next <| .here) <| .nil) rfl ?_
 exact ⟨rfl, rfl⟩
end
section
def wideN (c : Pap) (i : Nat) : Nat := ((c.rm i).hi - (c.rm i).lo + 1).toNat
theorem FX {c : Pap} (hv : ValidP c) {i : Nat} (hi : i < c.reams.length) : (c.rm i).hi - (c.rm i).lo + 1 = (wideN c i : Int) ∧ 1 ≤ wideN c i ∧ wideN c i ≤ 3 := by
 have h := hv.ream hi
 unfold wideN
 omega
def allN (c : Pap) : Nat → Nat
 | 0 => 1
 | k + 1 => allN c k * wideN c k
theorem Mu {c : Pap} (hv : ValidP c) : ∀ k, k ≤ c.reams.length → 1 ≤ allN c k ∧ allN c k ≤ 3 ^ k
 | 0, _ => by simp [allN]
 | k + 1, h => by
   have h1 := Mu hv k (by omega)
   have h2 := FX hv (i := k) (by omega)
   unfold allN
   exact ⟨Nat.mul_pos h1.1 h2.2.1, by rw [Nat.pow_succ]; exact Nat.mul_le_mul h1.2 h2.2.2⟩
theorem KG {c : Pap} (hv : ValidP c) {k : Nat} (hk : k ≤ c.reams.length) : allN c k ≤ 81 := by
 have h1 := (Mu hv k hk).2
 have h2 : 3 ^ k ≤ 3 ^ 4 := Nat.pow_le_pow_right (by omega) (by have := hv.reams; omega)
 exact Nat.le_trans h1 h2
def pileQ (c : Pap) (n : Nat) : Nat → Nat
 | 0 => n
 | k + 1 => pileQ c n k / wideN c k
theorem Pr {c : Pap} {n : Nat} : ∀ k, pileQ c n k ≤ n
 | 0 => Nat.le_refl _
 | k + 1 => Nat.le_trans (Nat.div_le_self _ _) (Pr k)
def pileX (c : Pap) (n i : Nat) : Int := (c.rm i).lo + ((pileQ c n i % wideN c i : Nat) : Int)
theorem Kf {c : Pap} (hv : ValidP c) {n i : Nat} (hi : i < c.reams.length) : (c.rm i).lo ≤ pileX c n i ∧ pileX c n i ≤ (c.rm i).hi := by
 have h := FX hv hi
 have h2 : pileQ c n i % wideN c i < wideN c i := Nat.mod_lt _ h.2.1
 unfold pileX; omega
def pileP (c : Pap) (n k : Nat) (i : Nat) : Int := if i < k then pileX c n i else 0
def pileF (c : Pap) (n : Nat) (i : Nat) : Int := pileP c n c.reams.length i
theorem TH {c : Pap} {n k : Nat} : (fun j => if j = k then pileX c n k else pileP c n k j) = pileP c n (k + 1) := by
 funext j
 unfold pileP
 by_cases h : j = k
 · subst h; rw [if_pos rfl, if_pos (by omega)]
 rw [if_neg h]
 by_cases h2 : j < k
 · rw [if_pos h2, if_pos (by omega)]
 rw [if_neg h2, if_neg (by omega)]
theorem QY {c : Pap} {n k : Nat} : pileP c n (k + 1) k = pileX c n k := by unfold pileP; rw [if_pos (by omega)]
theorem Lw {c : Pap} {n i : Nat} (h : i < c.reams.length) : pileF c n i = pileX c n i := by unfold pileF pileP; rw [if_pos h]
theorem CF {c : Pap} (hv : ValidP c) {n : Nat} : ∀ i, i < c.reams.length → 0 ≤ pileF c n i ∧ pileF c n i ≤ 2000 := fun i hi => by
 have h := Kf hv (n := n) hi
 have h2 := hv.ream hi
 rw [Lw hi]; omega
theorem WP {c : Pap} {n k : Nat} (hk : k < c.reams.length) : abv (pileF c n) (k + 1) = abv (pileF c n) k + pileX c n k := by
 show abv (pileF c n) k + pileF c n k = _
 rw [Lw hk]
def highB (c : Pap) (n : Nat) : Bool := decide (c.run * c.gats ≤ abv (pileF c n) c.reams.length)
def pilesTo (c : Pap) (k : Nat) : List Nat := (List.range k).filter (highB c)
def allPiles (c : Pap) : List Nat := pilesTo c (allN c c.reams.length)
theorem Gb {c : Pap} {k : Nat} (h : highB c k = true) : pilesTo c (k + 1) = pilesTo c k ++ [k] := by unfold pilesTo; rw [List.range_succ, List.filter_append]; simp [h]
theorem Lv {c : Pap} {k : Nat} (h : highB c k = false) : pilesTo c (k + 1) = pilesTo c k := by unfold pilesTo; rw [List.range_succ, List.filter_append]; simp [h]
theorem M4 {c : Pap} {k m : Nat} (h : k < m) (hk : highB c k = true) : ∃ rest, pilesTo c m = pilesTo c k ++ k :: rest := by
 obtain ⟨d, rfl⟩ : ∃ d, m = (k + 1) + d := ⟨m - (k + 1), by omega⟩
 clear h
 induction d with
 | zero => exact ⟨[], by rw [Nat.add_zero, Gb hk]⟩
 | succ d ih =>
   obtain ⟨rest, hr⟩ := ih
   rw [show k + 1 + (d + 1) = (k + 1 + d) + 1 by omega]
   cases hh : highB c (k + 1 + d) with
   | true => exact ⟨rest ++ [k + 1 + d], by rw [Gb hh, hr]; simp⟩
   | false => exact ⟨rest, by rw [Lv hh, hr]⟩
end
section
set_option maxRecDepth 100000
open Go.RowKit
theorem Q6 : ZeroT Tryz.prog 173 (.agg #[.int .i64 0, .int .i64 0, .int .i64 0, .int .i64 0]) := Bv (by kernel_rfl)
theorem Jp : AggT Tryz.prog 173 4 := Cx (by kernel_rfl)
instance : AggI Tryz.prog 173 4 := ⟨Jp⟩
abbrev PileA (c : Pap) (n : Nat) (_G : Heap) (vs : List Value) : Prop := vs = [.agg (arrV 4 (pileF c n)).toArray, .int .i64 (abv (pileF c n) c.reams.length)]
theorem Ke {F0 : Heap} {vs vr vx : Value} {c : Pap} (hr0 : PapR F0 vs vr vx c) (hv : ValidP c) {d1 : Nat} (z0 : F0 d1 = some (bx 110 [.int .i64 c.run, vs, vr, .int .i64 c.gats, vx])) : IterG Tryz.prog 114 [.pointer (some ⟨d1, 0, none⟩)] F0 (PileA c) (allPiles c) := by
 intro L J Jx F RH hF hm hmx hy h0
 have hr := hr0.mono hF
 have z1 := hF _ _ z0
 refine OkG.intro Tryz.func114 rfl Tryz.ntmps114 rfl fun w0 => ?_
 have hL2 := hr.reams.plain.lt
 refine AI (Ae 1) <| Ac <| Aw (Ae 2) fun ds => Af rfl (Ah EQ Aa (AM z1 rfl)) <| Af rfl (A6 CD Aa hr.reams.plain) <| As (Ae 1) <| Ak ?_
 refine AJ [3, 5, 16, 17, 18, 19, 20, 21, 22, 23, 24, 25, 26, 27, 28, 29, 30] (fun m e σ => ∃ k : Nat, m + k = c.reams.length ∧ Fct e 16 (.int .i64 (k : Int)) ∧ Fct e 3 (.int .i64 (allN c k : Int)) ∧ σ = ⟨F, RH⟩) (c.reams.length) ?_ ?_
 · exact ⟨0, by omega, Bb, Bb, rfl⟩
 rintro m e _ ⟨k, hm1, hs16, hs3, rfl⟩
 by_cases hlt : k < c.reams.length
 ·have hrm := MR hlt
  have hrl : c.reams[k].lo = (c.rm k).lo ∧ c.reams[k].hi = (c.rm k).hi := by rw [hrm]; exact ⟨rfl, rfl⟩
  have hb := hv.ream hlt
  have hw := FX hv hlt
  have ha := KG hv (k := k) (by omega)
  have ha2 := KG hv (k := k + 1) (by omega)
  refine AI (Ae 1) <| Ac <| Ag Aa (by first | rfl | exact dT (by omega)) <| Aj <| Ab <| Ac <| Ak <| Ac <| Al fun ds => Af rfl (Ax  CD Aa hr.reams.plain Aa rfl (by omega)) <| Af rfl (AO G8 Aa rfl rfl (hr.reams.whole (by omega))) <| A3 rfl <| AN Hw rfl fun b2 hb2 nb2 => AV <| AQ KY Aa Aa (i := 0) rfl rfl rfl rfl Rem.enc_one (.here) <| Am <| Ab <| Al fun ds => Ao (Ae 7) <| Af rfl (BZ Aa Aa rfl (by omega) (by omega)) <| Af rfl (AE Aa Aa (show c.reams[k].hi - c.reams[k].lo + 1 = (wideN c k : Int) by rw [hrm]; exact hw.1) (by omega) (by omega)) <| Af rfl (D9 Aa Aa (show (allN c k : Int) * (wideN c k : Int) = (allN c (k + 1) : Int) by show _ = ((allN c k * wideN c k : Nat) : Int); push_cast; rfl) (by omega) (by omega)) <| Ao (Ae 1) <| Am <| Az <| Ab <| By (fun _ _ h => h.drop (kD <| .refl _)) <| Al fun ds => Af rfl (AE Aa Aa rfl (by omega) (by omega)) <| Ao (Ae 1) <| Am ?_
  refine Ab ⟨_, m - 1, Off.eq (B3 rfl <| BY rfl <| A2), by omega, ?_⟩
  exact ⟨k + 1, by omega, Bb, Bb, rfl⟩
 refine AI (Ae 1) <| Ac <| Ad Aa (by first | rfl | exact dF (by omega)) ?_
 obtain rfl : k = c.reams.length := by omega
 have ha := KG hv (k := c.reams.length) (by omega)
 refine AC ?_
 refine A0 <| A0 <| A4 <| Ab <| AI (Ae 2) <| Ak ?_
 refine AJ [6, 7, 8, 9, 10, 11, 32, 33, 34, 35, 36, 37, 38, 39, 40, 41, 42, 43, 44, 45, 46, 47, 48, 49, 50, 51, 52, 53, 54, 55, 56, 57, 58, 59, 60, 61, 62, 63, 64, 65, 66, 67, 68, 69, 70, 71, 72, 73, 74, 75, 76, 77, 78, 79, 80, 81, 82, 83, 84, 85, 86] (fun m e σ => ∃ G RH, F0.le G ∧ F.le G ∧ ∃ n : Nat, m + n = allN c c.reams.length ∧ Fct e 32 (.int .i64 (n : Int)) ∧ J (pilesTo c n) G RH ∧ σ = ⟨G, RH⟩) (allN c c.reams.length) ?_ ?_
 · exact ⟨_, _, hF, Heap.le_refl _, 0, by omega, Bb, h0, rfl⟩
 rintro m2 e2 _ ⟨G, RH, hG, hFG, n, hm2, hu32, hJ, rfl⟩; replace hr := hr.mono hFG; replace z1 := hFG _ _ z1
 by_cases hlt : n < allN c c.reams.length
 ·refine AI (Ae 1) <| Ac <| Ag Aa (by first | rfl | exact dT (by omega)) <| Aj <| Ab <| Ac <| Ak <| AI (Ae 2) <| Ac <| Al fun ds => A3 rfl <| AN Q6 rfl fun b4 hb4 nb4 => Am <| Ab <| AI (Ae 1) <| Ac <| Aw (Ae 2) fun ds => Af rfl (Ah EQ Aa (AM z1 rfl)) <| Af rfl (A6 CD Aa hr.reams.plain) <| As (Ae 1) <| Ak ?_
  refine AJ [6, 8, 9, 10, 11, 39, 40, 41, 42, 43, 44, 45, 46, 47, 48, 49, 50, 51, 52, 53, 54, 55, 56, 57, 58, 59, 60, 61, 62, 63, 64, 65, 66, 67, 68, 69] (fun m e σ => ∃ k : Nat, m + k = c.reams.length ∧ Fct e 39 (.int .i64 (k : Int)) ∧ Fct e 6 (.int .i64 (pileQ c n k : Int)) ∧ Fct e 8 (.int .i64 (abv (pileF c n) k)) ∧ σ = ⟨G, (b4, bx 173 (arrV 4 (pileP c n k))) :: RH⟩) (c.reams.length) ?_ ?_
  · exact ⟨0, by omega, Bb, Bb, Bb, rfl⟩
  rintro m3 e3 _ ⟨k, hm3, ht39, ht6, ht8, rfl⟩
  by_cases hk : k < c.reams.length
  ·have hrm := MR hk
   have hrl : c.reams[k].lo = (c.rm k).lo ∧ c.reams[k].hi = (c.rm k).hi := by rw [hrm]; exact ⟨rfl, rfl⟩
   have hb := hv.ream hk
   have hw := FX hv hk
   have hq := Pr (c := c) (n := n) k
   have hxk := Kf hv (n := n) hk
   have hk4 : k < 4 := by have := hv.reams; omega
   have hab := DJ (CF hv (n := n)) k (by omega)
   have hab1 := DJ (CF hv (n := n)) (k + 1) (by omega)
   refine AI (Ae 1) <| Ac <| Ag Aa (by first | rfl | exact dT (by omega)) <| Aj <| Ab <| Ac <| Ak <| Aw (Ae 1) fun ds => Af rfl (Ax  CD Aa hr.reams.plain Aa rfl (by omega)) <| Af rfl (AO G8 Aa rfl rfl (hr.reams.whole (by omega))) <| A3 rfl <| AN Hw rfl fun b6 hb6 nb6 => Ao (Ae 1) <| AV <| AQ KY Aa Aa (i := 0) rfl rfl rfl rfl Rem.enc_one (.here) <| Am <| Ab <| Aw (Ae 6) fun ds => Af rfl (BZ Aa Aa rfl (by omega) (by omega)) <| Af rfl (AE Aa Aa (show c.reams[k].hi - c.reams[k].lo + 1 = (wideN c k : Int) by rw [hrm]; exact hw.1) (by omega) (by omega)) <| As (Ae 1) <| Ac <| Bn (.inl rfl) (fun _ _ h => h) (kK <| kK <| .refl _) [9] (by kernel_rfl) fun ds => Ai 0 rfl (by kernel_rfl) (by kernel_rfl) (by kernel_rfl) (by kernel_rfl) rfl rfl (fun _ h => h.drop (kK <| kK <| .refl _)) (fun _ _ _ h => h) (A9 Aa) <| Ai 1 rfl (by kernel_rfl) (by kernel_rfl) (by kernel_rfl) (by kernel_rfl) rfl rfl (fun _ h => h.drop (kK <| kK <| .refl _)) (fun _ _ _ h => h) (AD S8 Aa) <| Ai 2 rfl (by kernel_rfl) (by kernel_rfl) (by kernel_rfl) (by kernel_rfl) rfl rfl (fun _ h => h.drop (kK <| kK <| .refl _)) (fun _ _ _ h => h) (AD EI Aa) <| Ai 3 rfl (by kernel_rfl) (by kernel_rfl) (by kernel_rfl) (by kernel_rfl) rfl rfl (fun _ h => h.drop (kK <| kK <| .refl _)) (fun _ _ _ h => h) (Ah AA Aa (Cell.own 0 rfl rfl)) ?_
   refine Ai 4 rfl (by kernel_rfl) (by kernel_rfl) (by kernel_rfl) (by kernel_rfl) rfl rfl (fun _ h => h.drop (kK <| kK <| .refl _)) (fun _ _ _ h => h) (A9 Aa) <| Ai 5 rfl (by kernel_rfl) (by kernel_rfl) (by kernel_rfl) (by kernel_rfl) rfl rfl (fun _ h => h.drop (kK <| kK <| .refl _)) (fun _ _ _ h => h) (A9 Aa) <| Ai 6 rfl (by kernel_rfl) (by kernel_rfl) (by kernel_rfl) (by kernel_rfl) rfl rfl (fun _ h => h.drop (kK <| kK <| .refl _)) (fun _ _ _ h => h) (CE Aa Aa (Int.natCast_nonneg _) (by omega)) <| Ai 7 rfl (by kernel_rfl) (by kernel_rfl) (by kernel_rfl) (by kernel_rfl) rfl rfl (fun _ h => h.drop (kK <| kK <| .refl _)) (fun _ _ _ h => h) (AE Aa Aa (show c.reams[k].lo + ((pileQ c n k : Int) % (wideN c k : Int)) = pileX c n k by rw [hrm]; unfold pileX; push_cast; rfl) (by omega) (by omega)) <| Ai 8 rfl (by kernel_rfl) (by kernel_rfl) (by kernel_rfl) (by kernel_rfl) rfl rfl (fun _ h => h.drop (kK <| kK <| .refl _)) (fun _ _ _ h => h) (AR (k := k) JS Aa Aa rfl hk4) ?_
   refine BG 9 rfl (by kernel_rfl) (Ct Cc Aa rfl Aa (i := 1) rfl (by rw [Ms]; omega) rfl (.next .here) ⟨(fun h => nomatch h), ?_⟩)
   refine Bo (by kernel_rfl) ?_ _
   refine Ab <| Ac ?_
   rw [Mr, TH]
   refine Al fun ds => Ao (Ae 2) <| Af rfl (Se Aa Aa (Int.natCast_nonneg _) (by omega) (by omega)) <| As (Ae 1) <| Al fun ds => Ao (Ae 2) <| Af rfl (AR (k := k) JS Aa Aa rfl hk4) <| Af rfl (Ah AA Aa (Cell.own 1 rfl (CA hk4))) <| Af rfl (AE Aa Aa (show abv (pileF c n) k + pileP c n (k + 1) k = abv (pileF c n) (k + 1) by rw [QY, WP hk]) (by omega) (by omega)) <| Ao (Ae 1) <| Am <| Az <| Ab <| By (fun _ _ h => h.drop (kD <| kK <| .refl _)) <| Al fun ds => Af rfl (AE Aa Aa rfl (by omega) (by omega)) <| Ao (Ae 1) <| Am ?_
   refine Ab ⟨_, m3 - 1, Off.eq (Cv rfl <| Ci rfl <| A2), by omega, ?_⟩
   exact ⟨k + 1, by omega, Bb, BN (congrArg (Value.int .i64) (by show _ = ((pileQ c n k / wideN c k : Nat) : Int); push_cast; rfl)), Bb, rfl⟩
  refine AI (Ae 1) <| Ac <| Ad Aa (by first | rfl | exact dF (by omega)) ?_
  obtain rfl : k = c.reams.length := by omega
  have hrg := Ge (a := c.run) (b := c.gats) (A := 500) (B := 5) (by have := hv.run; omega) hv.run.2 (by have := hv.gats; omega) hv.gats.2
  have hyd : highB c n = decide (c.run * c.gats ≤ abv (pileF c n) c.reams.length) := rfl
  by_cases hh : highB c n = true
  ·have hh2 := hh
   rw [hyd] at hh2
   obtain ⟨rest, hsp⟩ := M4 (m := allN c c.reams.length) hlt hh
   refine AC ?_
   refine A0 <| A0 <| A4 <| Ab <| Ac <| DK fun ds => BK rfl rfl (A9 Aa) <| BK rfl rfl (AD Gl Aa) <| BK rfl rfl (AD Om Aa) <| BK rfl rfl (Ah AA Aa (AM z1 rfl)) <| BK rfl rfl (AD Gl Aa) <| BK rfl rfl (AD K9 Aa) <| BK rfl rfl (Ah AA Aa (AM z1 rfl)) <| BK rfl rfl (D9 Aa Aa rfl (by omega) (by omega)) <| BK rfl rfl (Vg Aa Aa) <| BK rfl rfl (A9 Aa) <| C1 rfl rfl Aa hh2 <| BK rfl rfl (A9 Aa) <| C1 rfl rfl Aa hh2 <| BK rfl rfl (AO Jp Aa rfl rfl (Bg 0 rfl)) <| C1 rfl rfl Aa hh2 <| BK rfl rfl (A9 Aa) <| C1 rfl rfl Aa hh2 <| RM rfl Aa AY rfl (hy _ n rest _ _ _ hsp hG hJ rfl) fun v11 F12 RH9 hr13 hF14 => ?_
   replace hG := Heap.le_trans hG hF14
   replace hFG := Heap.le_trans hFG hF14
   replace hJ := hm _ _ _ _ hF14 hJ
   obtain ⟨yb, rfl, hyb⟩ := GZ hr13
   refine C1 rfl rfl Aa hh2 <| BK rfl rfl (MU Aa) <| BK rfl rfl (Au Aa hh2 Aa) <| G9 <| Ab ?_
   rcases hyb with ⟨rfl, hJ2⟩ | ⟨rfl, hJx⟩
   ·refine Ad Aa rfl <| Aj <| Az <| Ab <| By (fun _ _ h => h.drop (kD <| .refl _)) <| Al fun ds => Af rfl (AE Aa Aa rfl (by omega) (by omega)) <| Ao (Ae 1) <| Am ?_
    refine Ab ⟨_, m2 - 1, Off.eq (B3 rfl <| Cw rfl <| BY rfl <| BJ rfl <| BT rfl <| Cw rfl <| A2), by omega, ?_⟩
    exact ⟨_, _, hG, hFG, n + 1, by omega, Bb, by rw [Gb hh]; exact hJ2, rfl⟩
   refine Ag Aa rfl <| At ?_
   refine A8 (A1 (A1 (A8 ?_)))
   refine T6 rfl .nil (.cons _ (.refl _)) ?_
   exact .inr hJx
  replace hh : highB c n = false := by simpa using hh
  have hh2 := hh
  rw [hyd] at hh2
  refine AC ?_
  refine A0 <| A0 <| A4 <| Ab <| Ac <| DK fun ds => BK rfl rfl (A9 Aa) <| BK rfl rfl (AD Gl Aa) <| BK rfl rfl (AD Om Aa) <| BK rfl rfl (Ah AA Aa (AM z1 rfl)) <| BK rfl rfl (AD Gl Aa) <| BK rfl rfl (AD K9 Aa) <| BK rfl rfl (Ah AA Aa (AM z1 rfl)) <| BK rfl rfl (D9 Aa Aa rfl (by omega) (by omega)) <| BK rfl rfl (Vg Aa Aa) <| BK rfl rfl (A9 Aa) <| BM rfl rfl Aa (.inl (congrArg Value.bool hh2)) rfl <| BM rfl rfl Aa (.inl (congrArg Value.bool hh2)) rfl <| BM rfl rfl Aa (.inl (congrArg Value.bool hh2)) rfl <| BM rfl rfl Aa (.inl (congrArg Value.bool hh2)) rfl <| BM rfl rfl Aa (.inl (congrArg Value.bool hh2)) rfl <| BK rfl rfl (A5 Aa hh2 BF) <| G9 <| Ab <| Ad Aa rfl <| Aj <| Az <| Ab <| By (fun _ _ h => h.drop (kD <| .refl _)) <| Al fun ds => Af rfl (AE Aa Aa rfl (by omega) (by omega)) <| Ao (Ae 1) <| Am ?_
  refine Ab ⟨_, m2 - 1, Off.eq (B3 rfl <| Cw rfl <| BY rfl <| BJ rfl <| BT rfl <| Cw rfl <| A2), by omega, ?_⟩
  exact ⟨_, _, hG, hFG, n + 1, by omega, Bb, by rw [Lv hh]; exact hJ, rfl⟩
 refine AI (Ae 1) <| Ac <| Ad Aa (by first | rfl | exact dF (by omega)) ?_
 obtain rfl : n = allN c c.reams.length := by omega
 refine AC ?_
 refine A0 <| A0 <| A4 <| MX rfl .nil .all ?_
 exact .inl hJ
end
section
set_option maxRecDepth 100000
open Go.RowKit
theorem Pq {F : Heap} {vs vr vx : Value} {c : Pap} (hr : PapR F vs vr vx c) : Ok Tryz.prog 89 [papV vs vr vx c].toArray F fun u F' => ∃ d, u = .func (.func 114) #[] #[.pointer (some ⟨d, 0, none⟩)] ∧ F' d = some (bx 110 [.int .i64 c.run, vs, vr, .int .i64 c.gats, vx]) := by
 refine Ok.intro Tryz.func89 rfl Tryz.ntmps89 rfl fun w0 => Ac <| Al fun ds => A3 rfl <| Bc Aa rfl fun b1 hb1 nb1 => As (Ae 1) <| Ac <| AL (i := 0) rfl hb1 (.here) fun F2 hF3 hz => ?_
 refine Al fun ds => Af rfl (Bu AY) <| As (Ae 1) <| At <| Aq rfl Bf ?_
 exact ⟨_, rfl, hz⟩
theorem MZ {F : Heap} {vs vr vx : Value} {c : Pap} (hr : PapR F vs vr vx c) : Ok Tryz.prog 91 [papV vs vr vx c].toArray F fun u F' => ∃ d, u = .func (.func 115) #[] #[.pointer (some ⟨d, 0, none⟩)] ∧ F' d = some (bx 110 [.int .i64 c.run, vs, vr, .int .i64 c.gats, vx]) := by
 refine Ok.intro Tryz.func91 rfl Tryz.ntmps91 rfl fun w0 => Ac <| Al fun ds => A3 rfl <| Bc Aa rfl fun b1 hb1 nb1 => As (Ae 1) <| Ac <| AL (i := 0) rfl hb1 (.here) fun F2 hF3 hz => ?_
 refine Al fun ds => Af rfl (Bu AY) <| As (Ae 1) <| At <| Aq rfl Bf ?_
 exact ⟨_, rfl, hz⟩
theorem EV {F : Heap} {vs vr vx : Value} {c : Pap} (hr : PapR F vs vr vx c) {but : Int} : Ok Tryz.prog 48 [papV vs vr vx c, .int .i64 but].toArray F fun u F' => ∃ d d2, u = .func (.func 87) #[] #[.pointer (some ⟨d, 0, none⟩), .pointer (some ⟨d2, 0, none⟩)] ∧ F' d = some (bx 110 [.int .i64 c.run, vs, vr, .int .i64 c.gats, vx]) ∧ F' d2 = some (bx 3 [.int .i64 but]) := by
 refine Ok.intro Tryz.func48 rfl Tryz.ntmps48 rfl fun w0 => Ac <| Al fun ds => A3 rfl <| Bc Aa rfl fun b1 hb1 nb1 => A3 rfl <| Bc Aa rfl fun b2 hb2 nb2 => As (Ae 1) <| Ac <| AL (i := 1) rfl hb1 (.next <| .here) fun F3 hF4 hz => ?_
 refine AL (i := 0) rfl hb2 (.here) fun F5 hF6 hy => ?_
 replace hz := hF6 _ _ hz
 refine Al fun ds => Af rfl (Bu AY) <| As (Ae 1) <| At <| Aq rfl Bf ?_
 exact ⟨_, _, rfl, hz, hy⟩
end
section
def ordTo (g : Nat) : Nat → List Nat → List (List Nat)
 | 0, b => [b]
 | d + 1, b => (List.range g).flatMap fun x => if x ∈ b then [] else ordTo g d (b ++ [x])
def ordK (g d : Nat) (b : List Nat) (k : Nat) : List (List Nat) := (List.range k).flatMap fun x => if x ∈ b then [] else ordTo g d (b ++ [x])
def allOrds (g : Nat) : List (List Nat) := ordTo g g []
theorem Ly {g d : Nat} {b : List Nat} : ordTo g (d + 1) b = ordK g d b g := rfl
theorem TI {g d : Nat} {b : List Nat} : ordK g d b 0 = [] := rfl
theorem TJ {g d k : Nat} {b : List Nat} (h : k ∈ b) : ordK g d b (k + 1) = ordK g d b k := by unfold ordK; rw [List.range_succ, List.flatMap_append]; simp [h]
theorem Sp {g d k : Nat} {b : List Nat} (h : k ∉ b) : ordK g d b (k + 1) = ordK g d b k ++ ordTo g d (b ++ [k]) := by unfold ordK; rw [List.range_succ, List.flatMap_append]; simp [h]
theorem Rb {g d k : Nat} {b : List Nat} (hk : k < g) (h : k ∉ b) : ∃ rest, ordTo g (d + 1) b = ordK g d b k ++ ordTo g d (b ++ [k]) ++ rest := by
 rw [Ly]
 obtain ⟨m, rfl⟩ : ∃ m, g = (k + 1) + m := ⟨g - (k + 1), by omega⟩
 refine ⟨((List.range m).map (k + 1 + ·)).flatMap fun x => if x ∈ b then [] else ordTo (k + 1 + m) d (b ++ [x]), ?_⟩
 rw [← Sp h]
 unfold ordK
 rw [List.range_add, List.flatMap_append]
def usedB : List Nat → Nat
 | [] => 0
 | x :: b => 2 ^ x ||| usedB b
theorem Jz {i : Nat} : ∀ b : List Nat, (usedB b).testBit i = decide (i ∈ b)
 | [] => by simp [usedB]
 | x :: b => by
   unfold usedB
   rw [Nat.testBit_or, Jz b, Nat.testBit_two_pow]
   by_cases h : x = i
   · subst h; simp
   by_cases h2 : i ∈ b
   · simp [h2]
   have h3 : ¬ i = x := fun q => h q.symm
   simp [h, h2, h3]
theorem KO {x : Nat} : ∀ b : List Nat, usedB (b ++ [x]) = usedB b ||| 2 ^ x
 | [] => by simp [usedB]
 | y :: b => by
   show 2 ^ y ||| usedB (b ++ [x]) = (2 ^ y ||| usedB b) ||| 2 ^ x
   rw [KO b, Nat.or_assoc]
theorem OG : ∀ {b : List Nat}, (∀ x ∈ b, x < 5) → usedB b < 32
 | [], _ => by simp [usedB]
 | x :: b, h => by
   unfold usedB
   exact Nat.or_lt_two_pow (n := 5) (Nat.pow_lt_pow_right (by omega) (h x (by simp))) (OG fun y hy => h y (by simp [hy]))
end
section
open Go.RowKit
section
variable {P : Program} {n : Nat} {B : Base} {e : Env} {σ : St}
theorem My {Q : Exit → Env → St → Prop} {g : Operand} {ps : Array Tmp} {assign body : Code} {gf : FuncId} {cs : List Value} {L0 : Nat} {r0 : Loop} (hro : B.ro = some L0) (hL0 : (L0, Obj.loop r0) ∈ σ.H)
   (hg : ev e g = .func (.func gf) #[] cs.toArray) (hb : Body P gf) (J : Heap → List (Nat × Obj) → Prop) (Jx : Code → Heap → List (Nat × Obj) → Prop)
   (h : ∀ L fn tm, tm.size = n → (∀ t, tm.getD t undef = e t) → OkG P gf (.func (.yield L) #[] #[] :: cs).toArray σ.F ((L, loopO fn tm ps assign body r0.defers .ready none) :: σ.H) fun _ F' H' =>
     ∃ H1, H' = (L, loopO fn tm ps assign body r0.defers .ready none) :: H1 ∧ J F' H1 ∨ ∃ c, H' = (L, loopO fn tm ps assign body r0.defers .done (some c)) :: H1 ∧ Jx c F' H1)
   (hx : ∀ c F' H1, σ.F.le F' → Jx c F' H1 → WC P n B c Q e ⟨F', H1⟩)
   (hn : ∀ F' H1, σ.F.le F' → J F' H1 → Q .normal e ⟨F', H1⟩) : WC P n B (.rangeFunc g ps assign body) Q e σ := by
 intro ds a w ha hw
 have hL := (hw.own _ hL0).1
 rw [hro]
 refine wpIn_rangeFunc fun fn _ => ?_
 let W1 := w.alloc (loopO fn a.tmps ps assign body r0.defers .ready none)
 have hW1 : Holds (B.at ds) ⟨σ.F, (w.heap.size, loopO fn a.tmps ps assign body r0.defers .ready none) :: σ.H⟩ W1 := hw.alloc _
 refine ⟨w.heap.size, [], W1, { target := .fn (.func gf) cs.toArray, args := #[.func (.yield w.heap.size) #[] #[]] }, W1, gf, (.func (.yield w.heap.size) #[] #[] :: cs).toArray, W1, ?_, ?_, fun _ _ => trivial, ?_, fun h => by simp [fence] at h, trivial, ?_⟩
 · exact run_enterLoop_inner hL fn a.tmps ps assign body
 · simp only [resolve, ha.ev, hg]
   simp [go_sem]
   rfl
 · simp only [invoke]
   have := Ej hb (#[.func (.yield w.heap.size) #[] #[]] ++ cs.toArray) W1
   simpa using this
 refine ((ET (ro := some L0) (k := 0 - 1)).2 (((h w.heap.size fn a.tmps ha.size ha.get) W1 hW1.sub (fun p hp => ⟨(hW1.own p hp).1, (hW1.own p hp).2.1⟩) hW1.nodup).mono ?_)).2
 rintro r W2 ⟨v, F', H', rfl, hg', hh, hR⟩
 have hw2 := hW1.growG (Hc := (w.heap.size, loopO fn a.tmps ps assign body r0.defers .ready none) :: σ.H) (rest := []) (by simp) hg' hh
 rw [List.append_nil] at hw2
 have fin : ∀ st pe H1, H' = (w.heap.size, loopO fn a.tmps ps assign body r0.defers st pe) :: H1 → st ≠ .busy →
     ∃ W4, (Instr.endLoop w.heap.size).run P W2 = .ok pe W4 ∧ Holds (B.at ds) ⟨F', H1⟩ W4 := by
   intro st pe H1 he hst
   subst he
   have hl := (hw2.own (w.heap.size, loopO fn a.tmps ps assign body r0.defers st pe) (by simp)).1
   refine ⟨_, run_endLoop hl hst, ?_⟩
   have h4 := hw2.setObj (i := 0) (o' := loopO fn a.tmps ps assign body r0.defers .exhausted pe) rfl
   exact Holds.drop (σ := ⟨F', _⟩) h4 (by simp)
 obtain ⟨H1, hR | ⟨c, hR⟩⟩ := hR
 · obtain ⟨he, hJ⟩ := hR
   obtain ⟨W4, h1, h2⟩ := fin _ _ _ he (by simp)
   exact ⟨none, W4, h1, ds, e, ⟨F', H1⟩, ha, h2, hn F' H1 hg'.le hJ⟩
 obtain ⟨he, hJ⟩ := hR
 obtain ⟨W4, h1, h2⟩ := fin _ _ _ he (by simp)
 have := hx c F' H1 hg'.le hJ ds _ W4 ha h2
 rw [hro] at this
 exact ⟨some c, W4, h1, this⟩
def RoundRN {α : Type} (F0 : Heap) (L : Nat) (lo : LoopState → Option Code → Obj) (J : List α → Heap → List (Nat × Obj) → Prop) (Jx : Code → Heap → List (Nat × Obj) → Prop) (xs : List α) (v : Value) (F' : Heap) (H' : List (Nat × Obj)) : Prop :=
 (v = .bool true ∧ ∃ H2, H' = (L, lo .ready none) :: H2 ∧ F0.le F' ∧ J xs F' H2) ∨ (v = .bool false ∧ ∃ c H2, H' = (L, lo .done (some c)) :: H2 ∧ F0.le F' ∧ Jx c F' H2)
theorem MQ {L : Nat} {lo : LoopState → Option Code → Obj} {R : Value → Heap → List (Nat × Obj) → Prop} {H2 : List (Nat × Obj)} (hp : PickB σ.H ((L, lo .busy none) :: H2)) (hR : R (.bool true) σ.F ((L, lo .ready none) :: H2)) : RoundEG B L lo R .normal e σ :=
 ⟨σ.F, _, fun _ _ h => h.pickB hp, hR⟩
theorem Tt {L : Nat} {lo : LoopState → Option Code → Obj} {R : Value → Heap → List (Nat × Obj) → Prop} {H2 : List (Nat × Obj)} (hp : PickB σ.H ((L, lo .busy none) :: H2)) (hR : R (.bool false) σ.F ((L, lo .done (some .ret)) :: H2)) : RoundEG B L lo R .ret e σ :=
 ⟨σ.F, _, fun _ _ h => h.pickB hp, hR⟩
end
end
section
open Go.RowKit
section
variable {P : Program} {n : Nat} {B : Base} {e : Env} {σ : St}
theorem Grow.keysLe {w w' : World} {F F' : Heap} {M M' : List Nat} (h : Grow w F M w' F') (hm : ∀ b, b ∈ M → b ∈ M') : Grow w F M' w' F' :=
 ⟨h.os, h.tape, h.output, h.size, fun b hb hM => h.old b hb (fun q => hM (hm b q)), h.le, h.sub, h.ext⟩
theorem GF {H H1 : List (Nat × Obj)} (hp : H.Perm H1) : (keys H).Perm (keys H1) := hp.map _
theorem OkYG.perm {L : Nat} {args : List Value} {F : Heap} {H H1 : List (Nat × Obj)} {R R' : Value → Heap → List (Nat × Obj) → Prop} (hp : H.Perm H1) (h : OkYG P L args F H R)
   (hR : ∀ v F' H', R v F' H' → ∃ H'', H'.Perm H'' ∧ R' v F' H'') : OkYG P L args F H1 R' := by
 intro w h1 h2 h3
 obtain ⟨fn, tm, as1, bo, hy, hq⟩ := h w h1 (fun p hp' => h2 p (hp.mem_iff.1 hp')) ((GF hp).nodup_iff.2 h3)
 refine ⟨fn, tm, as1, bo, hy, hq.mono fun r w' hq => ?_⟩
 obtain ⟨v, F', H', q1, q2, ⟨q3, q5⟩, q4⟩ := hq
 obtain ⟨H'', r1, r2⟩ := hR v F' H' q4
 exact ⟨v, F', H'', q1, q2.keysLe (fun b hb => (GF hp).mem_iff.1 hb), ⟨fun p hp' => by
   obtain ⟨s1, s2, s3⟩ := q3 p (r1.mem_iff.2 hp')
   exact ⟨s1, s2, s3.imp (fun k => (GF hp).mem_iff.1 k) id⟩, (GF r1).nodup_iff.1 q5⟩, r2⟩
theorem OkYG.frame {L : Nat} {args : List Value} {F : Heap} {H : List (Nat × Obj)} {R : Value → Heap → List (Nat × Obj) → Prop} (Hf : List (Nat × Obj)) (h : OkYG P L args F H R) :
   OkYG P L args F (Hf ++ H) fun v F' H' => ∃ H2, H' = Hf ++ H2 ∧ R v F' H2 := by
 intro w h1 h2 h3
 have h3' : (keys Hf ++ keys H).Nodup := by have h9 := h3; unfold keys at h9 ⊢; rwa [List.map_append] at h9
 rw [List.nodup_append] at h3'
 obtain ⟨n1, n2, n3⟩ := h3'
 obtain ⟨fn, tm, as1, bo, hy, hq⟩ := h w h1 (fun p hp => h2 p (List.mem_append_right _ hp)) n2
 refine ⟨fn, tm, as1, bo, hy, hq.mono fun r w' hq => ?_⟩
 obtain ⟨v, F', H', q1, q2, ⟨q3, q5⟩, q4⟩ := hq
 have hlt : ∀ p ∈ Hf, p.1 < w.heap.size := fun p hp => (Array.getElem?_eq_some_iff.1 (h2 p (List.mem_append_left _ hp)).1).1
 refine ⟨v, F', Hf ++ H', q1, q2.keysLe (fun b hb => ?_), ⟨fun p hp => ?_, ?_⟩, H', rfl, q4⟩
 · show b ∈ (Hf ++ H).map (·.1)
   rw [List.map_append]; exact List.mem_append_right _ hb
 · rcases List.mem_append.1 hp with hp | hp
   · have hk := List.mem_map_of_mem (f := Prod.fst) hp
     obtain ⟨s1, s2⟩ := h2 p (List.mem_append_left _ hp)
     refine ⟨by rw [q2.old _ (hlt p hp) (fun q => n3 _ hk _ q rfl)]; exact s1, (q2.ext _ (hlt p hp)).trans s2, .inl ?_⟩
     show p.1 ∈ (Hf ++ H).map (·.1)
     rw [List.map_append]; exact List.mem_append_left _ hk
   obtain ⟨s1, s2, s3⟩ := q3 p hp
   refine ⟨s1, s2, s3.imp (fun k => ?_) id⟩
   show p.1 ∈ (Hf ++ H).map (·.1)
   rw [List.map_append]; exact List.mem_append_right _ k
 show ((Hf ++ H').map (·.1)).Nodup
 rw [List.map_append, List.nodup_append]
 refine ⟨n1, q5, fun a ha b hb he => ?_⟩
 obtain ⟨p, hp, rfl⟩ := List.mem_map.1 ha
 obtain ⟨q, hq, rfl⟩ := List.mem_map.1 hb
 rcases (q3 q hq).2.2 with hk | hk
 · exact n3 _ ha _ hk he
 have := hlt p hp; omega
def IterB {α : Type} (P : Program) (gf : FuncId) (cs : List Value) (F0 : Heap) (E : Nat) (ord : α → List Nat) (arg : α → Value → Value) (xs : List α) : Prop :=
 ∀ (L : Nat) (J : List α → Heap → List (Nat × Obj) → Prop) (Jx : Heap → List (Nat × Obj) → Prop) (F : Heap) (H : List (Nat × Obj)), F0.le F →
   (∀ pre F F' H, F.le F' → J pre F H → J pre F' H) → (∀ F F' H, F.le F' → Jx F H → Jx F' H) →
   (∀ pre x rest F H v R, xs = pre ++ x :: rest → F0.le F → J pre F H → Own E 1 v (ord x).length ((ord x).flatMap natE) R → OkYG P L [arg x v] F (R ++ H) fun u F' H' => ∃ H2, H' = R ++ H2 ∧ (u = .bool true ∧ J (pre ++ [x]) F' H2 ∨ u = .bool false ∧ Jx F' H2)) →
   J [] F H → OkG P gf (.func (.yield L) #[] #[] :: cs).toArray F H fun _ F' H' => J xs F' H' ∨ Jx F' H'
def Ahead {α : Type} (R : List (Nat × Obj)) (J : α → Heap → List (Nat × Obj) → Prop) (a : α) (F : Heap) (H : List (Nat × Obj)) : Prop := ∃ H2, H = R ++ H2 ∧ J a F H2
theorem Hk {p : Nat × Obj} {R H : List (Nat × Obj)} : (p :: (R ++ H)).Perm (R ++ p :: H) := List.perm_middle.symm
theorem RN {α : Type} {ord : α → List Nat} {arg : α → Value → Value} {Q : Exit → Env → St → Prop} {g : Operand} {ps : List Tmp} {assign body : Code} {gf : FuncId} {cs : List Value} {F0 : Heap} {E : Nat} {xs : List α} {L0 : Nat} {r0 : Loop}
   (hro : B.ro = some L0) (hL0 : (L0, Obj.loop r0) ∈ σ.H) (hg : ev e g = .func (.func gf) #[] cs.toArray) (hb : Body P gf) (hit : IterB P gf cs F0 E ord arg xs) (hF : F0.le σ.F)
   (J : List α → Heap → List (Nat × Obj) → Prop) (Jx : Code → Heap → List (Nat × Obj) → Prop) (hm : ∀ pre F F' H, F.le F' → J pre F H → J pre F' H) (hmx : ∀ c F F' H, F.le F' → Jx c F H → Jx c F' H)
   (h0 : J [] σ.F σ.H)
   (hround : ∀ L fn tm pre x rest G H1 v R, xs = pre ++ x :: rest → σ.F.le G → J pre G H1 → Own E 1 v (ord x).length ((ord x).flatMap natE) R → [arg x v].length = ps.length ∧ (ps.zip [arg x v]).all (fun p => Nat.blt p.1 n) = true ∧
     ∀ w0, WC P n ⟨w0, L :: keys (R ++ H1), G, [], some L⟩ assign (thenE (fun e' σ' => ∃ H2, σ'.H = (L, loopO fn tm ps.toArray assign body r0.defers .ready none) :: H2 ∧
       WC P n ⟨w0, L :: keys (R ++ H1), G, [], some L⟩ body (RoundEG ⟨w0, L :: keys (R ++ H1), G, [], some L⟩ L (loopO fn tm ps.toArray assign body r0.defers) (RoundRN σ.F L (loopO fn tm ps.toArray assign body r0.defers) (Ahead R J) (Ahead R Jx) (pre ++ [x]))) e' ⟨σ'.F, (L, loopO fn tm ps.toArray assign body r0.defers .busy none) :: H2⟩) (fun _ _ _ => False))
     (updL e (ps.zip [arg x v])) ⟨G, (L, loopO fn tm ps.toArray assign body r0.defers .ready none) :: (R ++ H1)⟩)
   (hx : ∀ c F' H1, σ.F.le F' → Jx c F' H1 → WC P n B c Q e ⟨F', H1⟩)
   (hn : ∀ F' H1, σ.F.le F' → J xs F' H1 → Q .normal e ⟨F', H1⟩) : WC P n B (.rangeFunc g ps.toArray assign body) Q e σ := by
 refine My hro hL0 hg hb (J xs) Jx (fun L fn tm hsz htm => ?_) hx hn
 refine OkG.mono (hit L (fun pre F H => σ.F.le F ∧ ∃ H1, H = (L, loopO fn tm ps.toArray assign body r0.defers .ready none) :: H1 ∧ J pre F H1)
   (fun F H => σ.F.le F ∧ ∃ c H1, H = (L, loopO fn tm ps.toArray assign body r0.defers .done (some c)) :: H1 ∧ Jx c F H1) σ.F _ hF ?_ ?_ ?_ ⟨Heap.le_refl _, _, rfl, h0⟩) ?_
 · rintro pre F F' H hFF ⟨h1, H1, h2, h3⟩
   exact ⟨Heap.le_trans h1 hFF, H1, h2, hm _ _ _ _ hFF h3⟩
 · rintro F F' H hFF ⟨h1, c, H1, h2, h3⟩
   exact ⟨Heap.le_trans h1 hFF, c, H1, h2, hmx _ _ _ _ hFF h3⟩
 · rintro pre x rest G H v R hxs hG ⟨h1, H1, rfl, h3⟩ hO
   obtain ⟨q1, q2, q3⟩ := hround L fn tm pre x rest G H1 v R hxs h1 h3 hO
   refine (Hl (R := RoundRN σ.F L (loopO fn tm ps.toArray assign body r0.defers) (Ahead R J) (Ahead R Jx) (pre ++ [x])) hsz htm q1 q2 q3).perm Hk fun u F' H' hR => ?_
   rcases hR with ⟨rfl, H2, k1, k2, H3, rfl, k3⟩ | ⟨rfl, c, H2, k1, k2, H3, rfl, k3⟩
   · subst k1
     exact ⟨_, Hk, _, rfl, .inl ⟨rfl, k2, H3, rfl, k3⟩⟩
   subst k1
   exact ⟨_, Hk, _, rfl, .inr ⟨rfl, k2, c, H3, rfl, k3⟩⟩
 rintro v F' H' _ (⟨h1, H1, rfl, h3⟩ | ⟨h1, c, H1, rfl, h3⟩)
 · exact ⟨H1, .inl ⟨rfl, h3⟩⟩
 exact ⟨H1, .inr ⟨c, rfl, h3⟩⟩
theorem Gc {p q : Nat × Obj} {R H : List (Nat × Obj)} : (p :: q :: (R ++ H)).Perm (R ++ p :: q :: H) := (List.Perm.cons p List.perm_middle.symm).trans List.perm_middle.symm
theorem Ey {α : Type} {ord : α → List Nat} {arg : α → Value → Value} {Q : Exit → Env → St → Prop} {g : Operand} {ps : List Tmp} {assign body : Code} {gf : FuncId} {cs : List Value} {F0 : Heap} {E : Nat} {xs : List α}
   (hro : B.ro = none) (hg : ev e g = .func (.func gf) #[] cs.toArray) (hb : Body P gf) (hit : IterB P gf cs F0 E ord arg xs) (hF : F0.le σ.F)
   (J : List α → Heap → List (Nat × Obj) → Prop) (Jx : Code → Heap → List (Nat × Obj) → Prop) (hm : ∀ pre F F' H, F.le F' → J pre F H → J pre F' H) (hmx : ∀ c F F' H, F.le F' → Jx c F H → Jx c F' H)
   (h0 : J [] σ.F σ.H)
   (hround : ∀ L D fn tm pre x rest G H1 v R, xs = pre ++ x :: rest → σ.F.le G → J pre G H1 → Own E 1 v (ord x).length ((ord x).flatMap natE) R → [arg x v].length = ps.length ∧ (ps.zip [arg x v]).all (fun p => Nat.blt p.1 n) = true ∧
     ∀ w0, WC P n ⟨w0, L :: D :: keys (R ++ H1), G, [], some L⟩ assign (thenE (fun e' σ' => ∃ H2, σ'.H = (L, loopO fn tm ps.toArray assign body D .ready none) :: H2 ∧
       WC P n ⟨w0, L :: D :: keys (R ++ H1), G, [], some L⟩ body (RoundEG ⟨w0, L :: D :: keys (R ++ H1), G, [], some L⟩ L (loopO fn tm ps.toArray assign body D) (RoundR σ.F L D (loopO fn tm ps.toArray assign body D) (Ahead R J) (Ahead R Jx) (pre ++ [x]))) e' ⟨σ'.F, (L, loopO fn tm ps.toArray assign body D .busy none) :: H2⟩) (fun _ _ _ => False))
     (updL e (ps.zip [arg x v])) ⟨G, (L, loopO fn tm ps.toArray assign body D .ready none) :: (D, openO) :: (R ++ H1)⟩)
   (hx : ∀ c F' H1, σ.F.le F' → Jx c F' H1 → WC P n B c Q e ⟨F', H1⟩)
   (hn : ∀ F' H1, σ.F.le F' → J xs F' H1 → Q .normal e ⟨F', H1⟩) : WC P n B (.rangeFunc g ps.toArray assign body) Q e σ := by
 refine GY hro hg hb (J xs) Jx (fun L D fn tm hsz htm => ?_) hx hn
 refine OkG.mono (hit L (fun pre F H => σ.F.le F ∧ ∃ H1, H = (L, loopO fn tm ps.toArray assign body D .ready none) :: (D, openO) :: H1 ∧ J pre F H1)
   (fun F H => σ.F.le F ∧ ∃ c H1, H = (L, loopO fn tm ps.toArray assign body D .done (some c)) :: (D, openO) :: H1 ∧ Jx c F H1) σ.F _ hF ?_ ?_ ?_ ⟨Heap.le_refl _, _, rfl, h0⟩) ?_
 · rintro pre F F' H hFF ⟨h1, H1, h2, h3⟩
   exact ⟨Heap.le_trans h1 hFF, H1, h2, hm _ _ _ _ hFF h3⟩
 · rintro F F' H hFF ⟨h1, c, H1, h2, h3⟩
   exact ⟨Heap.le_trans h1 hFF, c, H1, h2, hmx _ _ _ _ hFF h3⟩
 · rintro pre x rest G H v R hxs hG ⟨h1, H1, rfl, h3⟩ hO
   obtain ⟨q1, q2, q3⟩ := hround L D fn tm pre x rest G H1 v R hxs h1 h3 hO
   refine (Hl (R := RoundR σ.F L D (loopO fn tm ps.toArray assign body D) (Ahead R J) (Ahead R Jx) (pre ++ [x])) hsz htm q1 q2 q3).perm Gc fun u F' H' hR => ?_
   rcases hR with ⟨rfl, H2, k1, k2, H3, rfl, k3⟩ | ⟨rfl, c, H2, k1, k2, H3, rfl, k3⟩
   · subst k1
     exact ⟨_, Gc, _, rfl, .inl ⟨rfl, k2, H3, rfl, k3⟩⟩
   subst k1
   exact ⟨_, Gc, _, rfl, .inr ⟨rfl, k2, c, H3, rfl, k3⟩⟩
 rintro v F' H' _ (⟨h1, H1, rfl, h3⟩ | ⟨h1, c, H1, rfl, h3⟩)
 · exact ⟨H1, .inl ⟨rfl, h3⟩⟩
 exact ⟨H1, .inr ⟨c, rfl, h3⟩⟩
end
end
section
set_option maxRecDepth 100000
open Go.RowKit
theorem SB : ElemT Tryz.prog 78 2 16 (.agg #[.int .i64 0, .int .i64 0]) := EA (by kernel_rfl) rfl (by decide)
theorem Sn.enc_len (x : Sn) : x.enc.length = 2 := rfl
theorem Sa {F : Heap} {v : Value} {xs : List Sn} (h : Sl F v 2 Sn.enc xs) {H : List (Nat × Obj)} : Src ⟨F, H⟩ v xs.length (xs.flatMap Sn.enc) 2 := h.srcM (fun x => Sn.enc_len x) fun _ _ => Sn.enc_one
theorem Qa {F : Heap} {v : Value} {xs : List Sn} (h : Sl F v 2 Sn.enc xs) (hn : xs.length ≤ 1000) : OkN Tryz.prog 68 [v].toArray F fun u _ Hn => Own 78 2 u xs.length (xs.flatMap Sn.enc) Hn := by
 obtain ⟨a0, c0, rfl, g1, g2, g3, g4⟩ := h.plain
 refine OkN.intro Tryz.func68 rfl Tryz.ntmps68 rfl fun w0 => ?_
 cases a0
 ·refine AI (Ae 1) <| Ac <| Aw (Ae 1) fun ds => Af rfl (Dd Tryz.underlying24 Aa Aa) <| Am <| Ab <| Ag Aa rfl <| AI (Ae 1) <| At <| A1 <| CP rfl Bf (List.nil_sublist _) ?_
  obtain ⟨h0, -⟩ := g2 rfl
  have : xs = [] := List.eq_nil_of_length_eq_zero h0
  subst this
  exact Ce
 refine AI (Ae 1) <| Ac <| Aw (Ae 1) fun ds => Af rfl (Dd Tryz.underlying24 Aa Aa) <| Am <| Ab <| Ad Aa rfl <| Aj <| Ab <| Ac <| Al fun ds => A3 rfl <| FW Cu fun b1 hb1 nb1 => Ao (Ae 1) <| A3 rfl <| Bi Cu SB Aa (CR rfl) Aa (Sa h) (by omega) (by omega) (.z) .box fun v2 R3 ho4 => ?_
 have ho1 : Own 78 2 v2 xs.length (xs.flatMap Sn.enc) R3 := by simpa using ho4
 refine As (Ae 1) <| At <| CP rfl Bf (List.sublist_append_left _ _) ?_
 exact ho1
end
end Go.Proofs.YtkjfmibiinfhfabGreat
