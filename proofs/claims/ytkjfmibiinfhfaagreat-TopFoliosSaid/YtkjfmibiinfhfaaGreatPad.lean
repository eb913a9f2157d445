/-
  A part of a proof: TopFolios returns true of any press, any room and whatever is shelved, and leaves what it is handed as it was.
-/
import Derived.Test.YtkjfmibiinfhfaaGreatPac
import Derived.KernelRfl
import Derived.RangeFuncNested
namespace Go.Proofs.YtkjfmibiinfhfaaGreat
set_option synthInstance.maxSize 4000
set_option synthInstance.maxHeartbeats 1000000
section
set_option maxRecDepth 100000
open Go.RowKit
theorem RY : Body Tryz.prog 72 := AB (by kernel_rfl)
theorem VA : Body Tryz.prog 106 := AB (by kernel_rfl)
theorem Rj : OneT Tryz.prog 164 := BA (by kernel_rfl)
instance : OneI Tryz.prog 164 := ⟨Rj⟩
theorem Co {F : Heap} {v u : Value} {l xs : List Nat} (hl : Nats F v l) (hx : Nats F u xs) (hn : l.length ≤ 1000) : Ok Tryz.prog 78 [v, u].toArray F fun z F' => Nats F' z (wo l xs) := by
 refine Ok.intro Tryz.func78 rfl Tryz.ntmps78 rfl fun w0 => ?_
 have hlen := hl.plain.lt
 refine AD (Ag 1) <| Ac <| Ax (Ag 1) fun ds => Ad rfl (AA AR Aa hl.plain) <| Aw (Ag 1) <| Aq ?_
 refine AH [4, 6, 9, 10, 11, 12, 13, 14, 15, 16, 17, 18, 19, 20, 21] (fun m e σ => ∃ k : Nat, m + k = l.length ∧ Fct e 9 (.int .i64 k) ∧ ∃ v R, Fct e 4 v ∧ Own 3 1 v (wo (l.take k) xs).length ((wo (l.take k) xs).flatMap natE) R ∧ σ = ⟨F, R⟩) (l.length) ?_ ?_
 · exact ⟨0, by omega, Ba, _, _, Ba, Own.nil, rfl⟩
 rintro m e _ ⟨k, hm1, hs9, v4, R4, hs4, ho, rfl⟩; have hwl : (wo (l.take k) xs).length ≤ l.length := Nat.le_trans (List.length_filter_le _ _) (by rw [List.length_take]; omega)
 by_cases hlt : k < l.length
 ·refine AD (Ag 1) <| Ac <| Ah Aa (by first | rfl | exact dT (by omega)) ?_
  by_cases hm : l[k] ∈ xs
  ·refine Ak <| Ab <| Ac <| Aq <| Ac <| Aj fun ds => Ad rfl (A1  AR Aa hl.plain Aa rfl hlt) <| Ad rfl (Ap AM Aa (hl.cell1 hlt rfl)) <| Aw (Ag 1) <| Ax (Ag 2) fun ds => AE rfl (As RY Aa AO (E1 hx _) (fun _ _ h => h)) <| Aw (Ag 1) <| Ae Aa (by rw [dT hm]; first | done | rfl) <| Ak <| A4 <| Ab <| Aj fun ds => Ad rfl (AJ Aa Aa rfl (by omega) (by omega)) <| Ao (Ag 1) <| Al ?_
   refine Ab ⟨_, m - 1, Off.eq (Ci rfl <| BF rfl <| A3), by omega, ?_⟩
   exact ⟨k + 1, by omega, Ba, _, _, Ba, by rw [QW hlt, if_pos hm]; exact ho, rfl⟩
  refine Ak <| Ab <| Ac <| Aq <| Ac <| Aj fun ds => Ad rfl (A1  AR Aa hl.plain Aa rfl hlt) <| Ad rfl (Ap AM Aa (hl.cell1 hlt rfl)) <| Aw (Ag 1) <| Ax (Ag 2) fun ds => AE rfl (As RY Aa AO (E1 hx _) (fun _ _ h => h)) <| Aw (Ag 1) <| Ah Aa (by rw [dF hm]; first | done | rfl) <| Aj fun ds => Ao (Ag 2) <| A5 rfl <| AS AR B3 rfl (.cons Aa .nil) rfl rfl (by decide) (by simp [Value.oneCell']) fun b2 hb2 nb2 => A5 rfl <| Bd AR GR Aa ho Aa (Bv (s := 1) 0 rfl rfl (by simp [Value.oneCell'])) (by omega) (by omega) (.s <| .z) .last fun v3 R4 ho5 => ?_
  have ho2 := ho5.snoc (x := l[k]) rfl rfl
  refine Ao (Ag 1) <| Al <| A4 <| Ab <| Bk (fun _ _ h => h.drop (kD <| .refl _)) <| Aj fun ds => Ad rfl (AJ Aa Aa rfl (by omega) (by omega)) <| Ao (Ag 1) <| Al ?_
  refine Ab ⟨_, m - 1, Off.eq (Ci rfl <| BI rfl <| BF rfl <| BQ rfl <| A3), by omega, ?_⟩
  exact ⟨k + 1, by omega, Ba, _, _, Ba, by rw [QW hlt, if_neg hm]; exact ho2, rfl⟩
 refine AD (Ag 1) <| Ac <| Ae Aa (by first | rfl | exact dF (by omega)) <| Bo (σ := ⟨_, _⟩) (by rfl) ho (.z) .last fun F6 hF7 hz8 => ?_
 have hn2 := ho.sl (fun _ => rfl) hz8 (by omega)
 refine AG ?_
 refine A2 <| A2 <| A8 <| Ab <| AD (Ag 2) <| Au <| Am rfl Bi ?_
 show Nats _ _ _
 rw [show wo l xs = wo (l.take k) xs by rw [List.take_of_length_le (by omega)]]; exact hn2
theorem KM {F0 : Heap} {b c1 c8 c3 : Nat} {vb vr vs vq vl : Value} {r : Room} (hX0 : RoomX num F0 b c1 c8 c3 vb vr vs vq vl r) (hv : Valid r) {d1 d2 d3 d4 : Nat} {of : Int} {w : Nat} {fv : Value} (z1 : F0 d1 = some (bx 126 [ptr b])) (z2 : F0 d2 = some (bx 3 [.int .i64 of])) (z3 : F0 d3 = some (bx 3 [.int .i64 (w : Int)])) (z4 : F0 d4 = some (bx 164 [fv])) (hw8 : w < 256) (num' : List Nat → Int)
   (hnum : ∀ G v l, F0.le G → Nats G v l → (∀ i ∈ l, i < r.reqs.length) → FnOk Tryz.prog fv [v] G fun u _ => u = .int .i64 (num' l)) : Iter Tryz.prog 105 [.pointer (some ⟨d1, 0, none⟩), .pointer (some ⟨d2, 0, none⟩), .pointer (some ⟨d3, 0, none⟩), .pointer (some ⟨d4, 0, none⟩)] F0 (fun l G vs => ∃ v, vs = [v, .int .i64 (num' l)] ∧ Nats G v l) (setsR r of w) := by
 intro L J Jx F RH hF hm hmx hy h0
 have hX := hX0.mono hF
 replace z1 := hF _ _ z1
 replace z2 := hF _ _ z2
 replace z3 := hF _ _ z3
 replace z4 := hF _ _ z4
 have hk0 : keys RH = keys RH := rfl
 refine OkM.intro Tryz.func105 rfl Tryz.ntmps105 rfl fun w0 => ?_
 have hq8 := hv.nq
 have hL1 := hX.room.reqs.plain.lt
 have hp256 := pow_le8 hq8
 refine PD <| Ac <| PE <| Ab <| Ac <| Aj fun ds => Ad rfl (Ap Ea Aa (AP z1 rfl)) <| Ad rfl (BL Aa) <| Ao (Ag 2) <| Ad rfl (Ap DP Aa (AP hX.blk rfl)) <| Ad rfl (AA Cw Aa hX.room.reqs.plain) <| Ad rfl (Mr Aa Aa (k := r.reqs.length) rfl (by omega) (show (1 : Int) * 2 ^ r.reqs.length = ((2 ^ r.reqs.length : Nat) : Int) by simp) (Int.le_trans (by decide) (Int.natCast_nonneg _)) (by have : ((2 ^ r.reqs.length : Nat) : Int) ≤ 256 := Int.ofNat_le.2 hp256; exact Int.le_trans this (by decide))) <| Aw (Ag 1) <| Aq ?_
 refine AH [6, 7, 15, 16, 17, 18, 19, 20, 21, 22, 23, 24, 25, 26, 27, 28, 29, 30, 31, 32, 33, 34, 35, 36, 37, 38, 39, 40, 41, 42] (fun m e σ => ∃ G RH', F0.le G ∧ F.le G ∧ ∃ k : Nat, m + k = 2 ^ r.reqs.length ∧ Fct e 15 (.int .i64 k) ∧ keys RH' = keys RH ∧ J (setsTo r of w k) G RH' ∧ σ = ⟨G, RH'⟩) (2 ^ r.reqs.length) ?_ ?_
 · exact ⟨_, _, hF, Heap.le_refl _, 0, by omega, Ba, rfl, h0, rfl⟩
 rintro m e _ ⟨G, RH', hG, hFG, k, hm1, hs15, hk, hJ, rfl⟩; replace hX := hX.mono hFG; replace z1 := hFG _ _ z1; replace z2 := hFG _ _ z2; replace z3 := hFG _ _ z3; replace z4 := hFG _ _ z4
 by_cases hlt : k < 2 ^ r.reqs.length
 ·refine AD (Ag 1) <| Ac <| Ah Aa (by first | rfl | exact dT (by omega)) ?_
  have hk256 : k < 256 := by omega
  by_cases h1 : butNot k of = 0
  ·refine Ak <| Ab <| Ac <| Aq <| AD (Ag 2) <| Ac <| Ax (Ag 1) fun ds => Ad rfl (Ap AM Aa (AP z2 rfl)) <| Ad rfl (Ov (m := k) Aa Aa rfl (by omega)) <| Ao (Ag 2) <| Ai rfl rfl Aa (by simp [h1]) <| Ao (Ag 1) <| Ai rfl rfl Aa (by simp [h1]) <| Ad rfl (Ap AM Aa (AP z3 rfl)) <| Ai rfl rfl Aa (by simp [h1]) <| Ad rfl (GW Aa Aa (m := k) (k := w) rfl rfl (by omega) (by omega) rfl) <| Ai rfl rfl Aa (by simp [h1]) <| Ad rfl (Ap AM Aa (AP z3 rfl)) <| Ai rfl rfl Aa (by simp [h1]) <| Ao (Ag 1) <| Ad rfl (A9 Aa (by simp [h1]) Aa) <| Al <| Ab ?_
   by_cases h2 : k &&& w = w
   ·refine Ae Aa (by simp [h2]) ?_
    by_cases h3 : (allR r (bitsL k)).isSome = true
    ·refine Ak <| Ab <| Ax (Ag 1) fun ds => A5 rfl <| Bb VA Aa AO (Ry hk256) fun v2 F3 hr4 hF5 => ?_
     replace hX := hX.mono hF5
     replace hG := hG.mono hF5
     replace hFG := hFG.mono hF5
     replace hJ := hm _ _ _ _ hF5 hJ
     replace z1 := hF5 _ _ z1
     replace z4 := hF5 _ _ z4
     have hl2 := hr4
     refine Aw (Ag 1) <| Ac <| Ac <| Aj fun ds => Ad rfl (Ap Ea Aa (AP z1 rfl)) <| Ao (Ag 1) <| AE rfl (As Ke Aa AO (Gx hX hv hl2 (Gy hlt) J6) (fun _ _ h => h)) <| Aw (Ag 1) <| Ae Aa (by rw [h3]; first | done | rfl) ?_
     have hok : okSet r of w k = true := by unfold okSet; simp [h1, h2, h3]
     obtain ⟨rest, hsp⟩ := PQ hlt hok
     refine Ak <| Ab <| Ac <| EK fun ds => Ep rfl rfl (A0 Aa) <| Ep rfl rfl (A0 Aa) <| Ep rfl rfl (Ap Rj Aa (AP z4 rfl)) <| Ep rfl rfl (A0 Aa) <| WI_c rfl rfl (KR Aa AO (hnum _ _ _ hG hl2 (Gy hlt)) (fun _ _ h => h)) <| WI_y (Ha := []) rfl Aa AO rfl (hy _ _ _ _ _ _ hsp hG hJ ⟨_, rfl, hl2⟩) fun v10 F11 RH hr12 hF13 hkY => ?_
     replace hG := hG.mono hF13
     replace hFG := hFG.mono hF13
     replace hJ := hm _ _ _ _ hF13 hJ
     obtain ⟨yb, rfl, hyb⟩ := MW hr12
     have hk2 := hkY.trans hk
     refine Ep rfl rfl (EQ Aa) <| LT <| Ab ?_
     rcases hyb with ⟨rfl, hJ⟩ | ⟨rfl, hJx⟩
     ·refine Ae Aa rfl <| Ak <| A4 <| Ab <| Aj fun ds => Ad rfl (AJ Aa Aa rfl (by omega) (by omega)) <| Ao (Ag 1) <| Al ?_
      refine Ab ⟨_, m - 1, Off.eq (Bx rfl <| Ci rfl <| BI rfl <| BF rfl <| A3), by omega, ?_⟩
      refine ⟨_, _, hG, hFG, k + 1, by omega, Ba, hk2, ?_, rfl⟩
      rw [Eg, if_pos hok]; exact hJ
     refine Ah Aa rfl <| Au ?_
     refine A7 (Ay (Ay (A7 (Nd ?_))))
     refine GD rfl .nil .all hk2 ?_
     exact .inr hJx
    refine Ak <| Ab <| Ax (Ag 1) fun ds => A5 rfl <| Bb VA Aa AO (Ry hk256) fun v14 F15 hr16 hF17 => ?_
    replace hX := hX.mono hF17
    replace hG := hG.mono hF17
    replace hFG := hFG.mono hF17
    replace hJ := hm _ _ _ _ hF17 hJ
    replace z1 := hF17 _ _ z1
    have hl2 := hr16
    refine Aw (Ag 1) <| Ac <| Ac <| Aj fun ds => Ad rfl (Ap Ea Aa (AP z1 rfl)) <| Ao (Ag 1) <| AE rfl (As Ke Aa AO (Gx hX hv hl2 (Gy hlt) J6) (fun _ _ h => h)) <| Aw (Ag 1) <| Ah Aa (by simpa using h3) <| AG <| A2 <| A8 <| Ab <| Aj fun ds => Ad rfl (AJ Aa Aa rfl (by omega) (by omega)) <| Ao (Ag 1) <| Al ?_
    refine Ab ⟨_, m - 1, Off.eq (Bx rfl <| BI rfl <| BF rfl <| BQ rfl <| A3), by omega, ?_⟩
    refine ⟨_, RH', hG, hFG, k + 1, by omega, Ba, hk, ?_, rfl⟩
    rw [Eg, if_neg (by unfold okSet; simp [h1, h2, h3])]; exact hJ
   refine Ah Aa (by first | rfl | exact dT (by omega)) <| AG <| A2 <| A8 <| Ab <| Aj fun ds => Ad rfl (AJ Aa Aa rfl (by omega) (by omega)) <| Ao (Ag 1) <| Al ?_
   refine Ab ⟨_, m - 1, Off.eq (Bx rfl <| A3), by omega, ?_⟩
   refine ⟨_, RH', hG, hFG, k + 1, by omega, Ba, hk, ?_, rfl⟩
   rw [Eg, if_neg (by unfold okSet; simp [h1, h2])]; exact hJ
  refine Ak <| Ab <| Ac <| Aq <| AD (Ag 2) <| Ac <| Ax (Ag 1) fun ds => Ad rfl (Ap AM Aa (AP z2 rfl)) <| Ad rfl (Ov (m := k) Aa Aa rfl (by omega)) <| Ao (Ag 2) <| Ar rfl rfl Aa (.inl (congrArg Value.bool (by first | rfl | exact dT (by omega)))) rfl <| Ar rfl rfl Aa (.inl (congrArg Value.bool (by first | rfl | exact dT (by omega)))) rfl <| Ar rfl rfl Aa (.inl (congrArg Value.bool (by first | rfl | exact dT (by omega)))) rfl <| Ar rfl rfl Aa (.inl (congrArg Value.bool (by first | rfl | exact dT (by omega)))) rfl <| Ar rfl rfl Aa (.inl (congrArg Value.bool (by first | rfl | exact dT (by omega)))) rfl <| Ad rfl (At Aa (by first | rfl | exact dT (by omega)) Aa) <| Al <| Ab <| Ah Aa (by first | rfl | exact dT (by omega)) <| AG <| A2 <| A8 <| Ab <| Aj fun ds => Ad rfl (AJ Aa Aa rfl (by omega) (by omega)) <| Ao (Ag 1) <| Al ?_
  refine Ab ⟨_, m - 1, Off.eq (Bx rfl <| A3), by omega, ?_⟩
  refine ⟨_, RH', hG, hFG, k + 1, by omega, Ba, hk, ?_, rfl⟩
  rw [Eg, if_neg (by unfold okSet; simp [h1])]; exact hJ
 refine AD (Ag 1) <| Ac <| Ae Aa (by first | rfl | exact dF (by omega)) ?_
 obtain rfl : k = 2 ^ r.reqs.length := by omega
 refine AG ?_
 refine A2 <| A2 <| A8 <| scope_n <| Mu rfl .nil .all hk ?_
 exact .inl hJ
end
section
set_option maxRecDepth 100000
open Go.RowKit
theorem Ri : OneT Tryz.prog 165 := BA (by kernel_rfl)
instance : OneI Tryz.prog 165 := ⟨Ri⟩
theorem Ra {F : Heap} {b : Nat} {of w : Int} {fv : Value} (hf1 : fv.oneCell' = true) : Ok Tryz.prog 74 [.pointer (some ⟨b, 0, none⟩), .int .i64 of, .int .i64 w, fv].toArray F fun u F' => ∃ d1 d2 d3 d4, u = .func (.func 105) #[] #[ptr d1, ptr d2, ptr d3, ptr d4] ∧ F' d1 = some (bx 126 [ptr b]) ∧ F' d2 = some (bx 3 [.int .i64 of]) ∧ F' d3 = some (bx 3 [.int .i64 w]) ∧ F' d4 = some (bx 164 [fv]) := by
 refine Ok.intro Tryz.func74 rfl Tryz.ntmps74 rfl fun w0 => Ac <| Aj fun ds => A5 rfl <| AX Aa rfl fun b1 hb1 nb1 => A5 rfl <| AX Aa rfl fun b2 hb2 nb2 => A5 rfl <| AX Aa rfl fun b3 hb3 nb3 => A5 rfl <| AX Aa (Cb hf1) fun b4 hb4 nb4 => Aw (Ag 1) <| Ac <| AN (i := 3) rfl hb1 (.next <| .next <| .next <| .here) fun F5 hF6 hz4 => AN (i := 2) rfl hb2 (.next <| .next <| .here) fun F7 hF8 hz5 => ?_
 replace hz4 := hF8 _ _ hz4
 refine AN (i := 1) rfl hb3 (.next <| .here) fun F9 hF10 hz6 => ?_
 replace hz4 := hF10 _ _ hz4
 replace hz5 := hF10 _ _ hz5
 refine AN (i := 0) rfl hb4 (.here) fun F11 hF12 hz7 => ?_
 replace hz4 := hF12 _ _ hz4
 replace hz5 := hF12 _ _ hz5
 replace hz6 := hF12 _ _ hz6
 refine Aj fun ds => Ad rfl (Bm AO) <| Aw (Ag 1) <| Au <| Am rfl Bi ?_
 exact ⟨_, _, _, _, rfl, hz4, hz5, hz6, hz7⟩
theorem Rq {F : Heap} {gf : FuncId} {cs : List Value} (hgb : Body Tryz.prog gf) {xs : List (List Nat)} {num' : List Nat → Int} (hit : Iter Tryz.prog gf cs F (fun l G vs => ∃ v, vs = [v, .int .i64 (num' l)] ∧ Nats G v l) xs) {cv : Value} (cmp : List Nat → List Nat → Int) (hc1 : cv.oneCell' = true)
   (hcmp : ∀ G v u l q, F.le G → Nats G v l → Nats G u q → l ∈ xs → (q = [] ∨ q ∈ xs) → FnOk Tryz.prog cv [v, u] G fun z _ => z = .int .i64 (cmp l q)) : Ok Tryz.prog 73 [.func (.func gf) #[] cs.toArray, cv].toArray F fun u F' => ∃ vb, u = .tuple #[vb, .int .i64 (mostR num' cmp xs).2] ∧ Nats F' vb (mostR num' cmp xs).1 ∧ ((mostR num' cmp xs).1 = [] ∨ (mostR num' cmp xs).1 ∈ xs) := by
 refine Ok.intro Tryz.func73 rfl Tryz.ntmps73 rfl fun w0 => ?_
 have hF0 : F.le F := Heap.le_refl _
 refine Ac <| Aj fun ds => A5 rfl <| AX Aa (Cb hc1) fun b1 hb1 nb1 => A5 rfl <| AF QU rfl fun b2 hb2 nb2 => A5 rfl <| AF B3 rfl fun b3 hb3 nb3 => Al <| Ab <| Ac <| Aj fun ds => AZ <| AW Dr Aa Aa (i := 0) rfl (.here) rfl (.here) <| Al <| Ab <| Ac <| Ac <| AN (i := 2) rfl hb1 (.next <| .next <| .here) fun F4 hF5 hz3 => ?_
 replace hF0 := hF0.mono hF5
 refine Aj fun ds => Aw (Ag 1) <| Aq ?_
 refine VM rfl Aa hgb hit hF0 (fun pre G H => ∃ vb, H = [(b3, bx 3 [.int .i64 (mostR num' cmp pre).2]), (b2, bx 59 [vb])] ∧ Nats G vb (mostR num' cmp pre).1 ∧ ((mostR num' cmp pre).1 = [] ∨ (mostR num' cmp pre).1 ∈ xs)) (fun _ _ _ => False) (fun _ _ _ _ hF h => h.imp fun _ h => ⟨h.1, h.2.1.mono hF, h.2.2⟩) (fun _ _ _ _ _ h => h) ⟨_, rfl, Sl.nil, .inl rfl⟩ (fun L D fn tm pre x rest G H1 vs hxs hle hJ hA => ?_) (fun _ _ _ _ h => h.elim) (fun F2 H1 hF2 hJ => ?_)
 ·replace hF0 := hF0.mono hle
  replace hz3 := hle _ _ hz3
  obtain ⟨vb, rfl, hvb, hbm⟩ := hJ
  obtain ⟨v9, rfl, hv9⟩ := hA
  have hxm : x ∈ xs := by rw [hxs]; simp
  refine ⟨rfl, rfl, fun w1 => ?_⟩
  refine Sm (e' := (upd (upd _ 9 v9) 10 (.int .i64 (num' x)))) rfl rfl <| Ac <| B8 (.inr (by kernel_rfl)) (fun _ _ h => h) fun ds => Aw (Ag 1) <| B8 (.inr (by kernel_rfl)) (fun _ _ h => h) fun ds => Ao (Ag 1) <| Al ?_
  refine Ab ⟨_, rfl, ?_⟩
  by_cases h1 : (mostR num' cmp pre).2 < num' x
  ·refine Aq <| Ac <| B8 (.inr (by kernel_rfl)) (fun _ _ h => h) fun ds => Ao (Ag 4) <| Ar rfl rfl Aa (.inl (congrArg Value.bool (by first | rfl | exact dT (by omega)))) rfl <| Ar rfl rfl Aa (.inl (congrArg Value.bool (by first | rfl | exact dT (by omega)))) rfl <| Ar rfl rfl Aa (.inl (congrArg Value.bool (by first | rfl | exact dT (by omega)))) rfl <| Ar rfl rfl Aa (.inl (congrArg Value.bool (by first | rfl | exact dT (by omega)))) rfl <| Ar rfl rfl Aa (.inr rfl) rfl <| Ar rfl rfl Aa (.inr rfl) rfl <| Ar rfl rfl Aa (.inr rfl) rfl <| Ar rfl rfl Aa (.inr rfl) rfl <| Ar rfl rfl Aa (.inr rfl) rfl <| Ar rfl rfl Aa (.inl (congrArg Value.bool (by first | rfl | exact dT (by omega)))) rfl <| Ad rfl (At Aa (by first | rfl | exact dT (by omega)) Aa) <| Al <| Ab <| Ah Aa rfl <| B8 (.inr (by kernel_rfl)) (fun _ _ h => h) fun ds => Ao (Ag 2) <| AZ <| AW KI Aa Aa (i := 3) rfl (.here) (by first | rfl | exact hv9.plain.one) (.next <| .next <| .next <| .here) <| AZ <| AW Dr Aa Aa (i := 2) rfl (.here) (by first | rfl | exact hv9.plain.one) (.next <| .next <| .here) <| Al <| A4 <| Kk (.cons (.here) <| .cons (.here) <| .cons (.here) <| .cons (.here) <| .nil) rfl ?_
   refine .inl ⟨rfl, _, rfl, hle, ?_⟩
   have e1 : (mostR num' cmp (pre ++ [x])) = (x, num' x) := by rw [DS, Ey (.inl h1)]
   exact ⟨_, by rw [e1], by rw [e1]; exact hv9, by rw [e1]; exact .inr hxm⟩
  refine Aq <| Ac <| B8 (.inr (by kernel_rfl)) (fun _ _ h => h) fun ds => Ao (Ag 4) <| Ai rfl rfl Aa (by first | rfl | exact dF (by omega)) <| Ao (Ag 1) <| Ai rfl rfl Aa (by first | rfl | exact dF (by omega)) <| Ao (Ag 1) <| Ai rfl rfl Aa (by first | rfl | exact dF (by omega)) <| Ao (Ag 1) <| Ai rfl rfl Aa (by first | rfl | exact dF (by omega)) <| Ao (Ag 1) ?_
  by_cases h2 : num' x = (mostR num' cmp pre).2
  ·refine Ai rfl rfl Aa (dT h2) <| Ad rfl (Ap Ri Aa (AP hz3 rfl)) <| Ai rfl rfl Aa (dT h2) <| Ao (Ag 1) <| Ai rfl rfl Aa (dT h2) <| Ao (Ag 1) <| Ai rfl rfl Aa (dT h2) <| AE rfl (KR Aa AO (hcmp _ _ _ _ _ hF0 hv9 hvb hxm hbm) (fun _ _ h => h)) <| Ai rfl rfl Aa (dT h2) <| Ao (Ag 1) <| Ai rfl rfl Aa (by first | rfl | exact dF (by omega)) <| Ad rfl (At Aa (dT h2) Aa) <| Ad rfl (A9 Aa (by first | rfl | exact dF (by omega)) Aa) <| Al <| Ab ?_
   by_cases h3 : cmp x (mostR num' cmp pre).1 < 0
   ·refine Ah Aa (dT h3) <| B8 (.inr (by kernel_rfl)) (fun _ _ h => h) fun ds => Ao (Ag 2) <| AZ <| AW KI Aa Aa (i := 3) rfl (.here) (by first | rfl | exact hv9.plain.one) (.next <| .next <| .next <| .here) <| AZ <| AW Dr Aa Aa (i := 2) rfl (.here) (by first | rfl | exact hv9.plain.one) (.next <| .next <| .here) <| Al <| A4 <| Kk (.cons (.here) <| .cons (.here) <| .cons (.here) <| .cons (.here) <| .nil) rfl ?_
    refine .inl ⟨rfl, _, rfl, hle, ?_⟩
    have e1 : (mostR num' cmp (pre ++ [x])) = (x, num' x) := by rw [DS, Ey (.inr ⟨h2, h3⟩)]
    exact ⟨_, by rw [e1], by rw [e1]; exact hv9, by rw [e1]; exact .inr hxm⟩
   refine Ae Aa (dF h3) <| Ak <| A4 <| Kk (.cons (.here) <| .cons (.here) <| .cons (.here) <| .cons (.here) <| .nil) rfl ?_
   refine .inl ⟨rfl, _, rfl, hle, ?_⟩
   have e1 : (mostR num' cmp (pre ++ [x])) = (mostR num' cmp pre) := by rw [DS, Gj (fun h => h.elim h1 fun h => h3 h.2)]
   exact ⟨_, by rw [e1], by rw [e1]; exact hvb, by rw [e1]; exact hbm⟩
  refine Ar rfl rfl Aa (.inl (congrArg Value.bool (dF h2))) rfl <| Ar rfl rfl Aa (.inl (congrArg Value.bool (dF h2))) rfl <| Ar rfl rfl Aa (.inl (congrArg Value.bool (dF h2))) rfl <| Ar rfl rfl Aa (.inl (congrArg Value.bool (dF h2))) rfl <| Ar rfl rfl Aa (.inl (congrArg Value.bool (dF h2))) rfl <| Ai rfl rfl Aa (by first | rfl | exact dF (by omega)) <| Ad rfl (A9 Aa (dF h2) Aa) <| Ad rfl (A9 Aa (by first | rfl | exact dF (by omega)) Aa) <| Al <| Ab <| Ae Aa rfl <| Ak <| A4 <| Kk (.cons (.here) <| .cons (.here) <| .cons (.here) <| .cons (.here) <| .nil) rfl ?_
  refine .inl ⟨rfl, _, rfl, hle, ?_⟩
  have e1 : (mostR num' cmp (pre ++ [x])) = (mostR num' cmp pre) := by rw [DS, Gj (fun h => h.elim h1 fun h => h2 h.1)]
  exact ⟨_, by rw [e1], by rw [e1]; exact hvb, by rw [e1]; exact hbm⟩
 obtain ⟨vb, rfl, hvb, hbm⟩ := hJ
 refine A4 <| Ab <| Ac <| Bf (.inl rfl) (fun _ _ h => h) (kK <| kK <| .refl _) [3] (by kernel_rfl) fun ds => Af 0 rfl (by kernel_rfl) (by kernel_rfl) (by kernel_rfl) (by kernel_rfl) rfl rfl (fun _ h => h.drop (kK <| kK <| .refl _)) (fun _ _ _ h => h) (Ap CJ Aa (Cell.own 1 rfl rfl)) <| Af 1 rfl (by kernel_rfl) (by kernel_rfl) (by kernel_rfl) (by kernel_rfl) rfl rfl (fun _ h => h.drop (kK <| kK <| .refl _)) (fun _ _ _ h => h) (Ap AM Aa (Cell.own 0 rfl rfl)) ?_
 refine Bt 2 rfl (by kernel_rfl) (AW KI Aa Aa (i := 1) rfl (.here) (by first | rfl | exact hvb.plain.one) (.next <| .here) ⟨fun _ _ => (fun _ h => h.drop (kK <| kK <| .refl _)), ?_⟩)
 refine Bt 3 rfl (by kernel_rfl) (AW Dr Aa Aa (i := 0) rfl (.here) (by first | rfl | exact hvb.plain.one) (.here) ⟨(fun h => nomatch h), ?_⟩)
 refine AY (by kernel_rfl) ?_ _
 refine Ab <| Au <| Am rfl (.one CJ Aa (Cell.own 1 rfl rfl) (.one AM Aa (Cell.own 0 rfl rfl) .nil)) ?_
 exact ⟨_, rfl, hvb, hbm⟩
end
section
set_option maxRecDepth 100000
open Go.RowKit
theorem bd_71 : Body Tryz.prog 71 := AB (by kernel_rfl)
theorem Vp : Body Tryz.prog 54 := AB (by kernel_rfl)
theorem bd_73 : Body Tryz.prog 73 := AB (by kernel_rfl)
theorem bd_74 : Body Tryz.prog 74 := AB (by kernel_rfl)
theorem Kd : Body Tryz.prog 77 := AB (by kernel_rfl)
theorem bd_93 : Body Tryz.prog 93 := AB (by kernel_rfl)
theorem VB : Body Tryz.prog 105 := AB (by kernel_rfl)
theorem NF {F : Heap} {b c1 c8 c3 : Nat} {vb vr vs vq vl : Value} {r : Room} (hX : RoomX num F b c1 c8 c3 vb vr vs vq vl r) (hv : Valid r) : Ok Tryz.prog 54 [.pointer (some ⟨b, 0, none⟩)].toArray F fun u F' => ∃ ws, u = .tuple #[ws, .int .i64 (bestP r).2] ∧ Nats F' ws (bestP r).1 ∧ ((bestP r).1 = [] ∨ (bestP r).1 ∈ setsR r (-1) 0) := by
 refine Ok.intro Tryz.func54 rfl Tryz.ntmps54 rfl fun w0 => AD (Ag 2) <| Ax (Ag 2) fun ds => Ad rfl (JP AO .nil) <| A5 rfl <| Bb bd_74 Aa AO (Ra rfl) fun v1 F2 hr3 hF4 => ?_
 replace hX := hX.mono hF4
 obtain ⟨d1, d2, d3, d4, rfl, z1, z2, z3, z4⟩ := hr3
 refine A5 rfl <| Bb bd_73 Aa AO (Rq VB (KM hX hv z1 z2 z3 z4 (of := -1) (w := 0) (by decide) (worthL r) (fun G v l hG hl hlt => ⟨93, [ptr b], [], rfl, bd_93, T3 (hX.mono hG) hv hl hlt⟩)) cmpL rfl (fun G v u l q _ h1 h2 _ _ => ⟨77, [], [], rfl, Kd, Dh h1 h2⟩)) fun v5 F6 hr7 hF8 => ?_
 obtain ⟨ws, rfl, hws, hmem⟩ := hr7
 refine Aw (Ag 4) <| Au <| Am rfl Bi ?_
 exact ⟨_, rfl, hws, hmem⟩
theorem Gz {F : Heap} {vb vr vs vq : Value} {r : Room} (hr : RoomR F vb vr vs vq r) : Ok Tryz.prog 12 [.agg #[vb, vr, vs, vq]].toArray F fun u F' => ∃ ws, u = .tuple #[ws, .int .i64 (bestE r).2.1, .int .i64 (bestE r).2.2] ∧ Nats F' ws (bestE r).1 := by
 refine Ok.intro Tryz.func12 rfl Tryz.ntmps12 rfl fun w0 => ?_
 by_cases h0 : (check r).2.2 = 0
 ·have hv := DE h0
  refine Ac <| Aj fun ds => A5 rfl <| AX Aa rfl fun b1 hb1 nb1 => Aw (Ag 3) <| Ax (Ag 1) fun ds => A5 rfl <| Bb Es Aa AO (Dg hr (Sl.nil : Ints F _ []) (BB.trans h0)) fun v2 F3 hr4 hF5 => ?_
  obtain ⟨p, rfl, hlk⟩ := hr4
  obtain ⟨b, c1, c8, c3, wb, wr, ws, wq, wl, rfl, hX⟩ := hlk
  refine Aw (Ag 5) <| Ac <| AD (Ag 2) <| Ae Aa (by decide) <| Ak <| Ab <| Ax (Ag 1) fun ds => A5 rfl <| Bb Vp Aa AO (NF hX hv) fun v6 F7 hr8 hF9 => ?_
  obtain ⟨ws, rfl, hws, hmem⟩ := hr8
  refine Aw (Ag 5) <| AD (Ag 5) <| Au <| Am rfl Bi ?_
  rw [LL h0]
  exact ⟨_, rfl, hws⟩
 refine Ac <| Aj fun ds => A5 rfl <| AX Aa rfl fun b10 hb10 nb10 => Aw (Ag 3) <| Ax (Ag 1) fun ds => AE rfl (As Es Aa AO (DB hr (Sl.nil : Ints F _ []) (fun h => h0 (BB.symm.trans h))) (fun _ _ h => h)) <| Aw (Ag 5) <| Ac <| AD (Ag 2) <| Ah Aa (by simpa [BB] using h0) <| AD (Ag 4) <| Au <| Ay <| Am rfl Bi ?_
 rw [Tp h0, ← BB]
 exact ⟨_, rfl, Sl.nil⟩
theorem NU {F : Heap} {vb vr vs vq : Value} {r : Room} (hr : RoomR F vb vr vs vq r) : Ok Tryz.prog 38 [.agg #[vb, vr, vs, vq]].toArray F fun u F' => ∃ ws, u = .tuple #[ws, .int .i64 (turnE r).2] ∧ Nats F' ws (turnE r).1 := by
 refine Ok.intro Tryz.func38 rfl Tryz.ntmps38 rfl fun w0 => ?_
 have hL1 := hr.reqs.plain.lt
 by_cases h0 : (check r).2.2 = 0
 ·have hv := DE h0
  refine Ac <| Aj fun ds => A5 rfl <| AX Aa rfl fun b1 hb1 nb1 => Aw (Ag 2) <| Ax (Ag 1) fun ds => A5 rfl <| Bb Es Aa AO (Dg hr (Sl.nil : Ints F _ []) (BB.trans h0)) fun v2 F3 hr4 hF5 => ?_
  replace hr := hr.mono hF5
  obtain ⟨p, rfl, hlk⟩ := hr4
  obtain ⟨b, c1, c8, c3, wb, wr, ws, wq, wl, rfl, hX⟩ := hlk
  refine Aw (Ag 5) <| Ac <| AD (Ag 2) <| Ae Aa (by decide) <| Ak <| Ab <| Ac <| Ax (Ag 2) fun ds => Ad rfl (AA Cw Aa hr.reqs.plain) <| Aw (Ag 1) <| Aq ?_
  refine AH [2, 5, 6, 18, 19, 20, 21, 22, 23, 24, 25, 26, 27, 28, 29, 30] (fun m e σ => ∃ G, RoomX num G b c1 c8 c3 wb wr ws wq wl r ∧ ∃ k : Nat, m + k = r.reqs.length ∧ Fct e 18 (.int .i64 k) ∧ ∃ v2, Fct e 2 v2 ∧ Nats G v2 (turnTo r k) ∧ σ = ⟨G, [(b1, bx 31 [vb, vr, vs, vq])]⟩) (r.reqs.length) ?_ ?_
  · exact ⟨_, hX, 0, by omega, Ba, _, Ba, Sl.nil, rfl⟩
  rintro m e _ ⟨G, hX, k, hm1, hs18, v2, hs2, h2, rfl⟩
  by_cases hlt : k < r.reqs.length
  ·refine AD (Ag 1) <| Ac <| Ah Aa (by first | rfl | exact dT (by omega)) ?_
   have hk8 := hv.nq
   have htl := KF (r := r) k
   refine Ak <| Ab <| Ac <| Aq <| AD (Ag 2) <| Ax (Ag 1) fun ds => AE rfl (As bd_71 Aa AO (clip_ok h2) (fun _ _ h => h)) <| Ao (Ag 1) <| A5 rfl <| AS AR B3 rfl (.cons Aa .nil) rfl rfl (by decide) (by simp [Value.oneCell']) fun b7 hb7 nb7 => A5 rfl <| Sn AR GR Aa (h2.clip.src (fun _ => rfl) O9) (Ti h2.plain) (by decide) Aa (Bv (s := 1) 0 rfl rfl (by simp [Value.oneCell'])) (by omega) (by omega) (.s <| .s <| .z) .end fun v8 R9 ho10 => ?_
   have ho2 := ho10.snoc (x := k) rfl rfl
   refine Aw (Ag 1) <| Ac <| Bo (σ := ⟨_, _⟩) (by rfl) ho2 (.s <| .s <| .z) .last fun F11 hF12 hz13 => ?_
   replace hX := hX.mono hF12
   replace h2 := h2.mono hF12
   have hn2 := ho2.sl (fun _ => rfl) hz13 (by simp only [List.length_append, List.length_singleton]; omega)
   by_cases hc : (allR r (turnTo r k ++ [k])).isSome = true
   ·refine Aj fun ds => Ao (Ag 2) <| AE rfl (As Ke Aa AO (Gx hX hv hn2 (fun i hi => by rcases List.mem_append.1 hi with hi | hi; (have := GA k i hi; omega); (simp at hi; omega)) (by simp only [List.length_append, List.length_singleton]; omega)) (fun _ _ h => h)) <| Al <| Ab <| Ah Aa hc <| Aj fun ds => Ao (Ag 2) <| Al <| A4 <| Ab <| Bk (fun _ _ h => h.drop (kD <| kK <| .refl _)) <| Aj fun ds => Ad rfl (AJ Aa Aa rfl (by omega) (by omega)) <| Ao (Ag 1) <| Al ?_
    refine Ab ⟨_, m - 1, Off.eq (Bx rfl <| A3), by omega, ?_⟩
    exact ⟨_, hX, k + 1, by omega, Ba, _, Ba, by rw [Hj hc]; exact hn2, rfl⟩
   refine Aj fun ds => Ao (Ag 2) <| AE rfl (As Ke Aa AO (Gx hX hv hn2 (fun i hi => by rcases List.mem_append.1 hi with hi | hi; (have := GA k i hi; omega); (simp at hi; omega)) (by simp only [List.length_append, List.length_singleton]; omega)) (fun _ _ h => h)) <| Al <| Ab <| Ae Aa (by simpa using hc) <| Ak <| A4 <| Ab <| Bk (fun _ _ h => h.drop (kD <| kK <| .refl _)) <| Aj fun ds => Ad rfl (AJ Aa Aa rfl (by omega) (by omega)) <| Ao (Ag 1) <| Al ?_
   refine Ab ⟨_, m - 1, Off.eq (Ci rfl <| BI rfl <| BF rfl <| A3), by omega, ?_⟩
   exact ⟨_, hX, k + 1, by omega, Ba, _, Ba, by rw [Jk hc]; exact h2, rfl⟩
  refine AD (Ag 1) <| Ac <| Ae Aa (by first | rfl | exact dF (by omega)) ?_
  obtain rfl : k = r.reqs.length := by omega
  refine AG ?_
  refine A2 <| A2 <| A8 <| Ab <| AD (Ag 3) <| Au <| Am rfl Bi ?_
  rw [T5 h0]
  exact ⟨_, rfl, h2⟩
 refine Ac <| Aj fun ds => A5 rfl <| AX Aa rfl fun b14 hb14 nb14 => Aw (Ag 2) <| Ax (Ag 1) fun ds => AE rfl (As Es Aa AO (DB hr (Sl.nil : Ints F _ []) (fun h => h0 (BB.symm.trans h))) (fun _ _ h => h)) <| Aw (Ag 5) <| Ac <| AD (Ag 2) <| Ah Aa (by simpa [BB] using h0) <| AD (Ag 3) <| Au <| Ay <| Am rfl Bi ?_
 rw [Sr h0, ← BB]
 exact ⟨_, rfl, Sl.nil⟩
end
section
set_option maxRecDepth 100000
open Go.RowKit
theorem el_44 : ElemT Tryz.prog 44 2 16 (.agg #[.int .i64 0, .int .i64 0]) := Dx (by kernel_rfl) rfl (by decide)
theorem GS : ZeroT Tryz.prog 44 (.agg #[.int .i64 0, .int .i64 0]) := Bw (by kernel_rfl)
theorem OQ {F : Heap} {vb vr vs vq : Value} {r : Room} (hr : RoomR F vb vr vs vq r) {v : Value} {xs : List Int} (hx : Ints F v xs) {v2 : Value} {ss : List Int} (hs : Ints F v2 ss) : Ok Tryz.prog 37 [.agg #[vb, vr, vs, vq], v, v2].toArray F fun u F' => ∃ ws, u = .tuple #[ws, .int .i64 (leftE r xs ss).2] ∧ Sl F' ws 2 spanE (leftE r xs ss).1 := by
 refine Ok.intro Tryz.func37 rfl Tryz.ntmps37 rfl fun w0 => ?_
 have hL1 := hr.seats.plain.lt
 have hL2 := hx.plain.lt
 have hL3 := hs.plain.lt
 by_cases h0 : someErr r xs = 0
 ·obtain ⟨l, rfl, hlt2, hasc⟩ := N4 h0
  have hv := DY h0
  have hl := GH hx
  have hn8 := FO hv hlt2 hasc
  have hnb := hv.nb
  refine Ac <| Aj fun ds => A5 rfl <| AX Aa rfl fun b1 hb1 nb1 => Aw (Ag 2) <| Ax (Ag 2) fun ds => A5 rfl <| Bb Es Aa AO (Dg hr hx h0) fun v2 F3 hr4 hF5 => ?_
  replace hr := hr.mono hF5
  replace hs := hs.mono hF5
  replace hl := hl.mono hF5
  obtain ⟨p, rfl, hlk⟩ := hr4
  obtain ⟨b, c1, c8, c3, wb, wr, ws, wq, wl, rfl, hX⟩ := hlk
  refine Aw (Ag 5) <| Ac <| Aq <| AD (Ag 3) <| Ae Aa (by decide) ?_
  by_cases h1 : ss.length = l.length
  ·refine Ax (Ag 1) fun ds => Ad rfl (AA AR Aa hs.plain) <| Ao (Ag 1) <| Ad rfl (AA AR Aa hl.plain) <| Aw (Ag 2) <| Ae Aa (dF (by omega)) ?_
   by_cases hall : (ss.any fun z => !(inB 0 (r.seats.length - 1) z)) = true
   ·refine Ax (Ag 2) fun ds => Ad rfl (AA Dt Aa hr.seats.plain) <| Ad rfl (Br Aa Aa rfl (by omega) (by omega)) <| Ao (Ag 1) <| AE rfl (As Dq Aa AO (B2 _ _ hs) (fun _ _ h => h)) <| Aw (Ag 1) <| Ah Aa hall <| AD (Ag 2) <| Au <| A7 <| Ay <| Am rfl Bi ?_
    rw [Fl h0 (TG h1 hall) (by decide)]
    exact ⟨_, rfl, Sl.nil⟩
   replace hall : (ss.any fun z => !(inB 0 (r.seats.length - 1) z)) = false := by simpa using hall
   refine Ax (Ag 2) fun ds => Ad rfl (AA Dt Aa hr.seats.plain) <| Ad rfl (Br Aa Aa rfl (by omega) (by omega)) <| Ao (Ag 1) <| AE rfl (As Dq Aa AO (B2 _ _ hs) (fun _ _ h => h)) <| Aw (Ag 1) <| Ae Aa hall <| Ak <| A4 <| Ab <| AD (Ag 1) <| Ac <| Ax (Ag 1) fun ds => Ad rfl (AA AR Aa hs.plain) <| Aw (Ag 1) <| Aq ?_
   refine AH [6, 7, 9, 11, 42, 43, 44, 45, 46, 47, 48, 49, 50, 51, 52, 53, 54, 55] (fun m e σ => ∃ k mask : Nat, m + k = ss.length ∧ Fct e 42 (.int .i64 k) ∧ Fct e 9 (.int .i64 (mask : Int)) ∧ Fct e 6 (.slice none 0 0) ∧ σ = ⟨F3, [(b1, bx 31 [vb, vr, vs, vq])]⟩ ∧ (∀ t : Nat, mask.testBit t = decide ((t : Int) ∈ ss.take k)) ∧ mask < 64 ∧ ∀ j (hj : j < ss.length), j < k → ss[j] ∉ ss.take j) (ss.length) ?_ ?_
   · exact ⟨0, 0, by omega, Ba, Ba, Ba, rfl, fun t => by simp, by omega, fun j hj h => absurd h (by omega)⟩
   rintro m e _ ⟨k, mask, hm, hs42, hs9, hs6, rfl, hmk, hm6, hno⟩
   by_cases hlt : k < ss.length
   ·refine AD (Ag 1) <| Ac <| Ah Aa (by first | rfl | exact dT (by omega)) ?_
    have hkl : k < l.length := by omega
    have hlk := hlt2 _ (List.getElem_mem hkl)
    have hns := hv.ns
    have hq8 := hv.nq
    obtain ⟨s, hse, hsn⟩ := GJ (Js hall hlt)
    have hs66 : s < 6 := by omega
    have hpk := PZ (show s < 6 by omega)
    by_cases hme : (s : Int) ∈ ss.take k
    ·refine Ak <| Ab <| Ac <| Aq <| Ac <| Aj fun ds => Ad rfl (A1  AR Aa hs.plain Aa rfl hlt) <| Ad rfl (Ap AM Aa (show Cell _ _ (.int .i64 ((s : Nat) : Int)) by rw [← hse]; exact hs.int hlt)) <| Aw (Ag 1) <| Ac <| Ax (Ag 2) fun ds => Ad rfl (FR Aa Aa (k := s) rfl (by show s < 64; omega) EP) <| Ad rfl (GW Aa Aa (m := mask / 2 ^ s) (k := 1) rfl rfl (by have := Nat.div_le_self mask (2 ^ s); omega) (by omega) rfl) <| Aw (Ag 1) <| Ah Aa (by rw [C0, hmk]; exact dT hme) <| AD (Ag 2) <| Au ?_
     refine Ay (A7 (Ay (Ay (A7 (Ay ?_)))))
     refine Am rfl Bi ?_
     rw [Fl h0 (PO h1 hall (PK hlt (by rw [hse]; exact hme))) (by decide)]
     exact ⟨_, rfl, Sl.nil⟩
    refine Ak <| Ab <| Ac <| Aq <| Ac <| Aj fun ds => Ad rfl (A1  AR Aa hs.plain Aa rfl hlt) <| Ad rfl (Ap AM Aa (show Cell _ _ (.int .i64 ((s : Nat) : Int)) by rw [← hse]; exact hs.int hlt)) <| Aw (Ag 1) <| Ac <| Ax (Ag 2) fun ds => Ad rfl (FR Aa Aa (k := s) rfl (by show s < 64; omega) EP) <| Ad rfl (GW Aa Aa (m := mask / 2 ^ s) (k := 1) rfl rfl (by have := Nat.div_le_self mask (2 ^ s); omega) (by omega) rfl) <| Aw (Ag 1) <| Ae Aa (by rw [C0, hmk]; exact dF hme) <| Ak <| Ab <| Aj fun ds => Ao (Ag 2) <| Ad rfl (Mr Aa Aa (k := s) rfl (by omega) (show (1 : Int) * 2 ^ s = ((2 ^ s : Nat) : Int) by simp) (Int.le_trans (by decide) (Int.natCast_nonneg (2 ^ s))) (by omega)) <| Ad rfl (DC Aa Aa (m := mask) (k := 2 ^ s) rfl (by simp) (by omega) (by omega) rfl) <| Ao (Ag 1) <| Al <| A4 <| Ab <| Aj fun ds => Ad rfl (AJ Aa Aa rfl (by omega) (by omega)) <| Ao (Ag 1) <| Al ?_
    refine Ab ⟨_, m - 1, Off.eq (Bx rfl <| A3), by omega, ?_⟩
    refine ⟨k + 1, mask ||| 2 ^ s, by omega, Ba, Ba, Ba, rfl, by rw [List.take_succ_eq_append_getElem hlt, hse]; exact Us hmk, Rs hm6 (by omega), fun j hj hjk => ?_⟩
    rcases Nat.lt_succ_iff_lt_or_eq.1 hjk with hjk | rfl
    · exact hno j hj hjk
    rw [hse]; exact hme
   refine AD (Ag 1) <| Ac <| Ae Aa (by first | rfl | exact dF (by omega)) ?_
   have hnd : ss.Nodup := Qg fun j hj => hno j hj (by omega)
   by_cases ha : Apart r l
   ·refine AG ?_
    refine A2 <| A2 <| A8 <| Ab <| Ac <| Ax (Ag 2) fun ds => AE rfl (As RZ Aa AO (Ja hX hv hl hlt2) (fun _ _ h => h)) <| Aw (Ag 1) <| Ae Aa (by rw [dT ha]; first | done | rfl) <| Ak <| Ab <| Ac <| Ax (Ag 2) fun ds => Ad rfl (AA B4 Aa hr.books.plain) <| Aw (Ag 1) <| Aq ?_
    refine AH [6, 13, 63, 64, 65, 66, 67, 68, 69, 70, 71, 72] (fun m e σ => ∃ k : Nat, m + k = r.books.length ∧ Fct e 63 (.int .i64 k) ∧ ∃ v6 R6, Fct e 6 v6 ∧ Own 44 2 v6 (leftL r l ss 0 k).length ((leftL r l ss 0 k).flatMap spanE) R6 ∧ σ = ⟨F3, (b1, bx 31 [vb, vr, vs, vq]) :: R6⟩) (r.books.length) ?_ ?_
    · exact ⟨0, by omega, Ba, _, _, Ba, Own.nil, rfl⟩
    rintro m2 e2 _ ⟨k, hm2, hu63, v6, R6, hu6, ho, rfl⟩
    by_cases hlt : k < r.books.length
    ·refine AD (Ag 1) <| Ac <| Ah Aa (by first | rfl | exact dT (by omega)) ?_
     have hkl8 := hv.nb
     have hlen := C8 (r := r) (l := l) (ss := ss) (n := 0) (k := k)
     refine Ak <| Ab <| Ac <| Aq <| Ac <| Aj fun ds => Ad rfl (A1  B4 Aa hr.books.plain Aa rfl hlt) <| Ad rfl (A6 DL Aa rfl rfl (hr.books.whole hlt)) <| A5 rfl <| AF D8 rfl fun b8 hb8 nb8 => AZ <| AC JH Aa Aa (i := 0) rfl rfl rfl rfl Book.enc_one (.here) <| Al <| Ab <| Aj fun ds => Ao (Ag 2) <| Ad rfl (A6 (vs := [.int .i64 r.books[k].lo, .int .i64 r.books[k].hi]) BP Aa rfl rfl (KW 0 rfl rfl)) <| A5 rfl <| B0 (offs := [(0, 2)]) (zl := [.int .i64 0, .int .i64 0]) EW GS rfl (.cons Aa rfl .nil) (by intro i p h; rcases i with _ | i <;> simp at h <;> subst h <;> rfl) (.cons rfl rfl (Nat.le_of_ble_eq_true rfl) (.cons (.here) (.cons (.next <| .here) .nil)) .nil) (by decide) (by decide) fun b9 hb9 nb9 => A5 rfl <| Bd EW el_44 Aa ho Aa (Bv (s := 2) 0 rfl rfl (by simp [Value.oneCell'])) (by omega) (by omega) (.s <| .s <| .s <| .z) .last fun v10 R11 ho12 => ?_
     have ho2 := ho12.snoc (x := leftAt r l ss 0 k) rfl (by rw [OR, ← MP hlt]; first | done | rfl)
     rw [← Qr] at ho2
     refine Ao (Ag 1) <| Al <| A4 <| Ab <| Bk (fun _ _ h => h.drop (kD <| kD <| kK <| .refl _)) <| Aj fun ds => Ad rfl (AJ Aa Aa rfl (by omega) (by omega)) <| Ao (Ag 1) <| Al ?_
     refine Ab ⟨_, m2 - 1, Off.eq (Ci rfl <| BI rfl <| A3), by omega, ?_⟩
     exact ⟨k + 1, by omega, Ba, _, _, Ba, ho2, rfl⟩
    refine AD (Ag 1) <| Ac <| Ae Aa (by first | rfl | exact dF (by omega)) ?_
    obtain rfl : k = r.books.length := by omega
    rw [C8] at ho
    refine AG ?_
    refine A2 <| A2 <| A8 <| Ab <| Ac <| Ax (Ag 1) fun ds => Ad rfl (AA AR Aa hl.plain) <| Aw (Ag 1) <| Aq ?_
    refine AH [6, 7, 14, 15, 16, 75, 76, 77, 78, 79, 80, 81, 82, 83, 84, 85, 86, 87, 88, 89, 90, 91, 92, 93, 94, 95, 96, 97, 98, 99, 100, 101, 102, 103, 104, 105, 106, 107, 108, 109, 110, 111, 112, 113, 114, 115, 116, 117, 118, 119, 120, 121, 122, 123, 124, 125, 126, 127, 128, 129, 130, 131, 132] (fun m e σ => ∃ k : Nat, m + k = l.length ∧ Fct e 75 (.int .i64 k) ∧ ∃ v6 R6, Fct e 6 v6 ∧ Own 44 2 v6 r.books.length ((leftL r l ss k r.books.length).flatMap spanE) R6 ∧ σ = ⟨F3, (b1, bx 31 [vb, vr, vs, vq]) :: R6⟩ ∧ ∀ j, j < k → badSeat r l ss j = false) (l.length) ?_ ?_
    · exact ⟨0, by omega, Ba, _, _, Ba, ho, rfl, fun j h => absurd h (by omega)⟩
    rintro m3 e3 _ ⟨k, hm3, hw75, v6, R6, hw6, ho, rfl, hno3⟩
    by_cases hlt0 : k < l.length
    ·have hlt : k < ss.length := by omega
     refine AD (Ag 1) <| Ac <| Ah Aa (by first | rfl | exact dT (by omega)) ?_
     have hkl : k < l.length := by omega
     have hlk := hlt2 _ (List.getElem_mem hkl)
     have hns := hv.ns
     have hq8 := hv.nq
     obtain ⟨s, hse, hsn⟩ := GJ (Js hall hlt)
     have hs66 : s < 6 := by omega
     have hpk := PZ (show s < 6 by omega)
     obtain ⟨eB, lB⟩ := hv.book hlk
     have hl8 : l[k] < 8 := by omega
     have hlb := Ei hv hlk hsn
     have hab := Ny hv (b := r.book l[k]) hlt2 hall (n := k) (by omega) (by omega) hn8 lB
     have hlx := OS (r := r) hkl hlt hse
     by_cases hrs : reason r l[k] s ≠ 0
     ·refine Ak <| Ab <| Ac <| Aq <| Ax (Ag 1) fun ds => Ad rfl (A1  AR Aa hl.plain Aa rfl hlt0) <| Ad rfl (Ap AM Aa (hl.cell1 hlt0 rfl)) <| Aw (Ag 2) <| Ac <| Ax (Ag 4) fun ds => Ad rfl (A1  AR Aa hs.plain Aa rfl hlt) <| Ad rfl (Ap AM Aa (show Cell _ _ (.int .i64 ((s : Nat) : Int)) by rw [← hse]; exact hs.int hlt)) <| AE rfl (As Sa Aa AO (MX hX hv hlk hsn) (fun _ _ h => h)) <| Aw (Ag 1) <| Ah Aa (dT hrs) <| AD (Ag 2) <| Au ?_
      refine Ay (A7 (Ay (Ay (A7 (Ay ?_)))))
      refine Am rfl Bi ?_
      rw [Fl h0 (TI h1 hall hnd ha hlt (by rw [LO hkl hlt hse]; exact dT hrs)) (by decide)]
      exact ⟨_, rfl, Sl.nil⟩
     refine Ak <| Ab <| Ac <| Aq <| Ax (Ag 1) fun ds => Ad rfl (A1  AR Aa hl.plain Aa rfl hlt0) <| Ad rfl (Ap AM Aa (hl.cell1 hlt0 rfl)) <| Aw (Ag 2) <| Ac <| Ax (Ag 4) fun ds => Ad rfl (A1  AR Aa hs.plain Aa rfl hlt) <| Ad rfl (Ap AM Aa (show Cell _ _ (.int .i64 ((s : Nat) : Int)) by rw [← hse]; exact hs.int hlt)) <| AE rfl (As Sa Aa AO (MX hX hv hlk hsn) (fun _ _ h => h)) <| Aw (Ag 1) <| Ae Aa (dF hrs) <| Ak <| Ab <| Ax (Ag 4) fun ds => Ad rfl (A1  Cw Aa hr.reqs.plain Aa rfl hlk) <| Ao (Ag 1) <| Ad rfl (Ap AM Aa (hr.reqs.cell hlk rfl)) <| Ad rfl (A1 (k := r.book l[k]) EW Aa (ho.plain (by omega)) Aa eB lB) <| Aw (Ag 1) <| Ac <| Bf (.inl rfl) (fun _ _ h => h) (kK <| .refl _) [18] (by kernel_rfl) fun ds => Af 0 rfl (by kernel_rfl) (by kernel_rfl) (by kernel_rfl) (by kernel_rfl) rfl rfl (fun _ h => h.drop (kK <| .refl _)) (fun _ _ _ h => h) (A0 Aa) <| Af 1 rfl (by kernel_rfl) (by kernel_rfl) (by kernel_rfl) (by kernel_rfl) rfl rfl (fun _ h => h.drop (kK <| .refl _)) (fun _ _ _ h => h) (BL Aa) <| Af 2 rfl (by kernel_rfl) (by kernel_rfl) (by kernel_rfl) (by kernel_rfl) rfl rfl (fun _ h => h.drop (kK <| .refl _)) (fun _ _ _ h => h) (Bs EU Aa) <| Af 3 rfl (by kernel_rfl) (by kernel_rfl) (by kernel_rfl) (by kernel_rfl) rfl rfl (fun _ h => h.drop (kK <| .refl _)) (fun _ _ _ h => h) (Ap AM Aa (HA ho (fun p hp => .tail _ hp) (MD (j := 0) lB rfl))) ?_
     refine Af 4 rfl (by kernel_rfl) (by kernel_rfl) (by kernel_rfl) (by kernel_rfl) rfl rfl (fun _ h => h.drop (kK <| .refl _)) (fun _ _ _ h => h) (A0 Aa) <| Af 5 rfl (by kernel_rfl) (by kernel_rfl) (by kernel_rfl) (by kernel_rfl) rfl rfl (fun _ h => h.drop (kK <| .refl _)) (fun _ _ _ h => h) (A0 Aa) <| Af 6 rfl (by kernel_rfl) (by kernel_rfl) (by kernel_rfl) (by kernel_rfl) rfl rfl (fun _ h => h.drop (kK <| .refl _)) (fun _ _ _ h => h) (A0 Aa) <| Af 7 rfl (by kernel_rfl) (by kernel_rfl) (by kernel_rfl) (by kernel_rfl) rfl rfl (fun _ h => h.drop (kK <| .refl _)) (fun _ _ _ h => h) (A0 Aa) <| Af 8 rfl (by kernel_rfl) (by kernel_rfl) (by kernel_rfl) (by kernel_rfl) rfl rfl (fun _ h => h.drop (kK <| .refl _)) (fun _ _ _ h => h) (A1  AR Aa hs.plain Aa rfl hlt) <| Af 9 rfl (by kernel_rfl) (by kernel_rfl) (by kernel_rfl) (by kernel_rfl) rfl rfl (fun _ h => h.drop (kK <| .refl _)) (fun _ _ _ h => h) (Ap AM Aa (show Cell _ _ (.int .i64 ((s : Nat) : Int)) by rw [← hse]; exact hs.int hlt)) <| Af 10 rfl (by kernel_rfl) (by kernel_rfl) (by kernel_rfl) (by kernel_rfl) rfl rfl (fun _ h => h.drop (kK <| .refl _)) (fun _ _ _ h => h) (BL Aa) <| Af 11 rfl (by kernel_rfl) (by kernel_rfl) (by kernel_rfl) (by kernel_rfl) rfl rfl (fun _ h => h.drop (kK <| .refl _)) (fun _ _ _ h => h) (Az Gq Aa) <| Af 12 rfl (by kernel_rfl) (by kernel_rfl) (by kernel_rfl) (by kernel_rfl) rfl rfl (fun _ h => h.drop (kK <| .refl _)) (fun _ _ _ h => h) (Bc  LQ Aa Aa rfl hl8) ?_
     refine Af 13 rfl (by kernel_rfl) (by kernel_rfl) (by kernel_rfl) (by kernel_rfl) rfl rfl (fun _ h => h.drop (kK <| .refl _)) (fun _ _ _ h => h) (Bc  LR Aa Aa rfl (by omega)) <| Af 14 rfl (by kernel_rfl) (by kernel_rfl) (by kernel_rfl) (by kernel_rfl) rfl rfl (fun _ h => h.drop (kK <| .refl _)) (fun _ _ _ h => h) (Ap AM Aa (hX.light_cell hl8 (by omega : s < 6)).cell) <| Af 15 rfl (by kernel_rfl) (by kernel_rfl) (by kernel_rfl) (by kernel_rfl) rfl rfl (fun _ h => h.drop (kK <| .refl _)) (fun _ _ _ h => h) (Br Aa Aa rfl (by omega) (by omega)) <| Af 16 rfl (by kernel_rfl) (by kernel_rfl) (by kernel_rfl) (by kernel_rfl) rfl rfl (fun _ h => h.drop (kK <| .refl _)) (fun _ _ _ h => h) (BL Aa) <| Af 17 rfl (by kernel_rfl) (by kernel_rfl) (by kernel_rfl) (by kernel_rfl) rfl rfl (fun _ h => h.drop (kK <| .refl _)) (fun _ _ _ h => h) (Bs EU Aa) ?_
     refine Bt 18 rfl (by kernel_rfl) (Hs Dr Aa Aa ho (by rw [Hb]; omega) rfl (.s .z) .last fun R7 ho3 => ⟨(fun h => nomatch h), ?_⟩)
     refine AY (by kernel_rfl) ?_ _
     refine Ab <| Bf (.inl rfl) (fun _ _ h => h) (kK <| .refl _) [18] (by kernel_rfl) fun ds => Af 0 rfl (by kernel_rfl) (by kernel_rfl) (by kernel_rfl) (by kernel_rfl) rfl rfl (fun _ h => h.drop (kK <| .refl _)) (fun _ _ _ h => h) (A0 Aa) <| Af 1 rfl (by kernel_rfl) (by kernel_rfl) (by kernel_rfl) (by kernel_rfl) rfl rfl (fun _ h => h.drop (kK <| .refl _)) (fun _ _ _ h => h) (BL Aa) <| Af 2 rfl (by kernel_rfl) (by kernel_rfl) (by kernel_rfl) (by kernel_rfl) rfl rfl (fun _ h => h.drop (kK <| .refl _)) (fun _ _ _ h => h) (Bs ET Aa) ?_
     refine Af 3 rfl (by kernel_rfl) (by kernel_rfl) (by kernel_rfl) (by kernel_rfl) rfl rfl (fun _ h => h.drop (kK <| .refl _)) (fun _ _ _ h => h) (Ap AM Aa (HA ho3 (fun p hp => .tail _ hp) (by rw [List.getElem?_set_ne (by omega)]; exact MD (j := 1) lB rfl))) ?_
     refine Af 4 rfl (by kernel_rfl) (by kernel_rfl) (by kernel_rfl) (by kernel_rfl) rfl rfl (fun _ h => h.drop (kK <| .refl _)) (fun _ _ _ h => h) (A0 Aa) <| Af 5 rfl (by kernel_rfl) (by kernel_rfl) (by kernel_rfl) (by kernel_rfl) rfl rfl (fun _ h => h.drop (kK <| .refl _)) (fun _ _ _ h => h) (A0 Aa) <| Af 6 rfl (by kernel_rfl) (by kernel_rfl) (by kernel_rfl) (by kernel_rfl) rfl rfl (fun _ h => h.drop (kK <| .refl _)) (fun _ _ _ h => h) (A0 Aa) <| Af 7 rfl (by kernel_rfl) (by kernel_rfl) (by kernel_rfl) (by kernel_rfl) rfl rfl (fun _ h => h.drop (kK <| .refl _)) (fun _ _ _ h => h) (A0 Aa) <| Af 8 rfl (by kernel_rfl) (by kernel_rfl) (by kernel_rfl) (by kernel_rfl) rfl rfl (fun _ h => h.drop (kK <| .refl _)) (fun _ _ _ h => h) (A1  AR Aa hs.plain Aa rfl hlt) <| Af 9 rfl (by kernel_rfl) (by kernel_rfl) (by kernel_rfl) (by kernel_rfl) rfl rfl (fun _ h => h.drop (kK <| .refl _)) (fun _ _ _ h => h) (Ap AM Aa (show Cell _ _ (.int .i64 ((s : Nat) : Int)) by rw [← hse]; exact hs.int hlt)) <| Af 10 rfl (by kernel_rfl) (by kernel_rfl) (by kernel_rfl) (by kernel_rfl) rfl rfl (fun _ h => h.drop (kK <| .refl _)) (fun _ _ _ h => h) (BL Aa) <| Af 11 rfl (by kernel_rfl) (by kernel_rfl) (by kernel_rfl) (by kernel_rfl) rfl rfl (fun _ h => h.drop (kK <| .refl _)) (fun _ _ _ h => h) (Az Gq Aa) <| Af 12 rfl (by kernel_rfl) (by kernel_rfl) (by kernel_rfl) (by kernel_rfl) rfl rfl (fun _ h => h.drop (kK <| .refl _)) (fun _ _ _ h => h) (Bc  LQ Aa Aa rfl hl8) ?_
     refine Af 13 rfl (by kernel_rfl) (by kernel_rfl) (by kernel_rfl) (by kernel_rfl) rfl rfl (fun _ h => h.drop (kK <| .refl _)) (fun _ _ _ h => h) (Bc  LR Aa Aa rfl (by omega)) <| Af 14 rfl (by kernel_rfl) (by kernel_rfl) (by kernel_rfl) (by kernel_rfl) rfl rfl (fun _ h => h.drop (kK <| .refl _)) (fun _ _ _ h => h) (Ap AM Aa (hX.light_cell hl8 (by omega : s < 6)).cell) <| Af 15 rfl (by kernel_rfl) (by kernel_rfl) (by kernel_rfl) (by kernel_rfl) rfl rfl (fun _ h => h.drop (kK <| .refl _)) (fun _ _ _ h => h) (Br Aa Aa rfl (by omega) (by omega)) <| Af 16 rfl (by kernel_rfl) (by kernel_rfl) (by kernel_rfl) (by kernel_rfl) rfl rfl (fun _ h => h.drop (kK <| .refl _)) (fun _ _ _ h => h) (BL Aa) <| Af 17 rfl (by kernel_rfl) (by kernel_rfl) (by kernel_rfl) (by kernel_rfl) rfl rfl (fun _ h => h.drop (kK <| .refl _)) (fun _ _ _ h => h) (Bs ET Aa) ?_
     refine Bt 18 rfl (by kernel_rfl) (Hs Dr Aa Aa ho3 (by rw [List.length_set, Hb]; omega) rfl (.s .z) .last fun R8 ho4 => ⟨(fun h => nomatch h), ?_⟩)
     refine AY (by kernel_rfl) ?_ _
     refine A4 <| Ab <| Aj fun ds => Ad rfl (AJ Aa Aa rfl (by omega) (by omega)) <| Ao (Ag 1) <| Al ?_
     refine Ab ⟨_, m3 - 1, Off.eq (DG rfl <| Bx rfl <| Ci rfl <| BI rfl <| BQ rfl <| A3), by omega, ?_⟩
     rw [SX (by rw [C8]; exact lB), show ((leftAt r l ss k (r.book l[k])).1 - light r l[k] s, (leftAt r l ss k (r.book l[k])).2 - light r l[k] s) = leftAt r l ss (k + 1) (r.book l[k]) from hlx.symm, SG hkl] at ho4
     refine ⟨k + 1, by omega, Ba, _, _, Ba, ho4, rfl, fun j hjk => ?_⟩
     rcases Nat.lt_succ_iff_lt_or_eq.1 hjk with hjk | rfl
     · exact hno3 j hjk
     rw [LO hkl hlt hse]; exact dF hrs
    refine AD (Ag 1) <| Ac <| Ae Aa (by first | rfl | exact dF (by omega)) ?_
    obtain rfl : k = l.length := by omega
    have hsit := sits_ok h1 hall hnd ha fun i hi => hno3 i (by omega)
    have ho5 : Own 44 2 v6 (leftL r l ss l.length r.books.length).length ((leftL r l ss l.length r.books.length).flatMap spanE) R6 := by rw [C8]; exact ho
    refine Bo (σ := ⟨_, _⟩) (by rfl) ho5 (.s <| .z) .last fun F14 hF15 hz16 => ?_
    have hn2 := ho5.sl (fun _ => rfl) hz16 (by rw [C8]; omega)
    refine AG ?_
    refine A2 <| A2 <| A8 <| Ab <| AD (Ag 3) <| Au <| Am rfl Bi ?_
    rw [Uy h0 hsit]
    exact ⟨_, rfl, hn2⟩
   refine AG ?_
   refine A2 <| A2 <| A8 <| Ab <| Ac <| Ax (Ag 2) fun ds => AE rfl (As RZ Aa AO (Ja hX hv hl hlt2) (fun _ _ h => h)) <| Aw (Ag 1) <| Ah Aa (by rw [dF ha]; first | done | rfl) <| AD (Ag 2) <| Au <| Ay <| Am rfl Bi ?_
   rw [Fl h0 (PP h1 hall hnd ha) (by decide)]
   exact ⟨_, rfl, Sl.nil⟩
  refine Ax (Ag 1) fun ds => Ad rfl (AA AR Aa hs.plain) <| Ao (Ag 1) <| Ad rfl (AA AR Aa hl.plain) <| Aw (Ag 2) <| Ah Aa (dT (by omega)) <| AD (Ag 2) <| Au <| A7 <| Ay <| Am rfl Bi ?_
  rw [Fl h0 (TH h1) (by decide)]
  exact ⟨_, rfl, Sl.nil⟩
 refine Ac <| Aj fun ds => A5 rfl <| AX Aa rfl fun b17 hb17 nb17 => Aw (Ag 2) <| Ax (Ag 2) fun ds => AE rfl (As Es Aa AO (DB hr hx h0) (fun _ _ h => h)) <| Aw (Ag 5) <| Ac <| Aq <| AD (Ag 3) <| Ah Aa (dT h0) <| AD (Ag 3) <| Au <| A7 <| Ay <| Am rfl Bi ?_
 rw [SI h0]
 exact ⟨_, rfl, Sl.nil⟩
end
section
open Go.RowKit
theorem Gc : SizeT Tryz.prog 44 2 := B1 (by kernel_rfl)
theorem MO : BuildT Tryz.prog 44 [.int .i64 0, .int .i64 0] [(0, 1), (1, 1)] := BG GS (by kernel_rfl) (by decide)
end
section
set_option maxRecDepth 100000
open Go.RowKit
theorem bd_75 : Body Tryz.prog 75 := AB (by kernel_rfl)
theorem bd_76 : Body Tryz.prog 76 := AB (by kernel_rfl)
theorem FX : Body Tryz.prog 78 := AB (by kernel_rfl)
theorem SS {F : Heap} {v : Value} {l : List Nat} (hl : Nats F v l) : Ok Tryz.prog 75 [v].toArray F fun r _ => r = .int .i64 (lenN l) := by
 refine Ok.intro Tryz.func75 rfl Tryz.ntmps75 rfl fun w0 => AD (Ag 1) <| Ax (Ag 1) fun ds => Ad rfl (AA AR Aa hl.plain) <| Aw (Ag 1) <| Au <| Am rfl Bi ?_
 rfl
theorem SR {F : Heap} {v u w : Value} {xs ys l : List Nat} (hx : Nats F v xs) (hy : Nats F u ys) {d T : Nat} (hd : F d = some (bx T [w])) (hl : Nats F w l) (hn : l.length ≤ 1000) : Ok Tryz.prog 76 [v, u, .pointer (some ⟨d, 0, none⟩)].toArray F fun r _ => r = .int .i64 (cmpL (wo l xs) (wo l ys)) := by
 refine Ok.intro Tryz.func76 rfl Tryz.ntmps76 rfl fun w0 => AD (Ag 1) <| Ac <| Bf (.inl rfl) (fun _ _ h => h) (.refl _) [2, 5, 6, 7] (by kernel_rfl) fun ds => Af 0 rfl (by kernel_rfl) (by kernel_rfl) (by kernel_rfl) (by kernel_rfl) rfl rfl (fun _ h => h.drop (.refl _)) (fun _ _ _ h => h) (Ap CJ Aa (AP hd rfl)) <| Af 1 rfl (by kernel_rfl) (by kernel_rfl) (by kernel_rfl) (by kernel_rfl) rfl rfl (fun _ h => h.drop (.refl _)) (fun _ _ _ h => h) (A0 Aa) ?_
 refine BX [2, 3, 4] (by kernel_rfl) (by decide) (in3 ?_ ?_ ?_)
 ·refine By rfl rfl (Bb FX Aa AO (Co hl hx hn) fun v1 F2 hr3 hF4 => ⟨(fun h => nomatch h), ?_⟩)
  replace hy := hy.mono hF4
  replace hl := hl.mono hF4
  replace hd := hF4 _ _ hd
  have ha := hr3
  refine BX [3, 4] (by kernel_rfl) (by decide) (Li ?_ ?_)
  ·refine By rfl rfl (AI (Ap CJ Aa (AP hd rfl)).quiet ⟨(fun _ => Qu (by kernel_rfl)), ?_⟩)
   refine Bl 4 rfl (by kernel_rfl) rfl (AI (A0 Aa).quiet ⟨(fun _ => Qu (by kernel_rfl)), ?_⟩)
   refine Bl 5 rfl (by kernel_rfl) rfl (Bb FX Aa AO (Co hl hy hn) fun v5 F6 hr7 hF8 => ⟨(fun h => nomatch h), ?_⟩)
   replace ha := ha.mono hF8
   have hb := hr7
   refine Bl 6 rfl (by kernel_rfl) rfl (AI (As Kd Aa AO (Dh ha hb) (fun _ _ h => h)) ⟨(fun h => nomatch h), ?_⟩)
   refine Bl 7 rfl (by kernel_rfl) rfl (AI (AL Aa).quiet ⟨(fun h => nomatch h), ?_⟩)
   refine AY (by kernel_rfl) ?_ _
   refine Ab <| Au <| Am rfl Bi ?_
   rfl
  refine By rfl rfl (AI (A0 Aa).quiet ⟨(fun _ => Qu (by kernel_rfl)), ?_⟩)
  refine Bl 3 rfl (by kernel_rfl) rfl (AI (Ap CJ Aa (AP hd rfl)).quiet ⟨(fun _ => Qu (by kernel_rfl)), ?_⟩)
  refine Bl 5 rfl (by kernel_rfl) rfl (Bb FX Aa AO (Co hl hy hn) fun v9 F10 hr11 hF12 => ⟨(fun h => nomatch h), ?_⟩)
  replace ha := ha.mono hF12
  have hb := hr11
  refine Bl 6 rfl (by kernel_rfl) rfl (AI (As Kd Aa AO (Dh ha hb) (fun _ _ h => h)) ⟨(fun h => nomatch h), ?_⟩)
  refine Bl 7 rfl (by kernel_rfl) rfl (AI (AL Aa).quiet ⟨(fun h => nomatch h), ?_⟩)
  refine AY (by kernel_rfl) ?_ _
  refine Ab <| Au <| Am rfl Bi ?_
  rfl
 ·refine By rfl rfl (AI (Ap CJ Aa (AP hd rfl)).quiet ⟨fun _ _ => (fun _ h => h.drop (.refl _)), ?_⟩)
  refine BX [2, 4] (by kernel_rfl) (by decide) (Li ?_ ?_)
  ·refine By rfl rfl (Bb FX Aa AO (Co hl hx hn) fun v13 F14 hr15 hF16 => ⟨(fun h => nomatch h), ?_⟩)
   replace hy := hy.mono hF16
   replace hl := hl.mono hF16
   have ha := hr15
   refine Bl 4 rfl (by kernel_rfl) rfl (AI (A0 Aa).quiet ⟨(fun _ => Qu (by kernel_rfl)), ?_⟩)
   refine Bl 5 rfl (by kernel_rfl) rfl (Bb FX Aa AO (Co hl hy hn) fun v17 F18 hr19 hF20 => ⟨(fun h => nomatch h), ?_⟩)
   replace ha := ha.mono hF20
   have hb := hr19
   refine Bl 6 rfl (by kernel_rfl) rfl (AI (As Kd Aa AO (Dh ha hb) (fun _ _ h => h)) ⟨(fun h => nomatch h), ?_⟩)
   refine Bl 7 rfl (by kernel_rfl) rfl (AI (AL Aa).quiet ⟨(fun h => nomatch h), ?_⟩)
   refine AY (by kernel_rfl) ?_ _
   refine Ab <| Au <| Am rfl Bi ?_
   rfl
  refine By rfl rfl (AI (A0 Aa).quiet ⟨fun _ _ => (fun _ h => h.drop (.refl _)), ?_⟩)
  refine Bl 2 rfl (by kernel_rfl) rfl (Bb FX Aa AO (Co hl hx hn) fun v21 F22 hr23 hF24 => ⟨(fun h => nomatch h), ?_⟩)
  replace hy := hy.mono hF24
  replace hl := hl.mono hF24
  have ha := hr23
  refine Bl 5 rfl (by kernel_rfl) rfl (Bb FX Aa AO (Co hl hy hn) fun v25 F26 hr27 hF28 => ⟨(fun h => nomatch h), ?_⟩)
  replace ha := ha.mono hF28
  have hb := hr27
  refine Bl 6 rfl (by kernel_rfl) rfl (AI (As Kd Aa AO (Dh ha hb) (fun _ _ h => h)) ⟨(fun h => nomatch h), ?_⟩)
  refine Bl 7 rfl (by kernel_rfl) rfl (AI (AL Aa).quiet ⟨(fun h => nomatch h), ?_⟩)
  refine AY (by kernel_rfl) ?_ _
  refine Ab <| Au <| Am rfl Bi ?_
  rfl
 refine By rfl rfl (AI (A0 Aa).quiet ⟨fun _ _ => (fun _ h => h.drop (.refl _)), ?_⟩)
 refine BX [2, 3] (by kernel_rfl) (by decide) (Li ?_ ?_)
 ·refine By rfl rfl (Bb FX Aa AO (Co hl hx hn) fun v29 F30 hr31 hF32 => ⟨(fun h => nomatch h), ?_⟩)
  replace hy := hy.mono hF32
  replace hl := hl.mono hF32
  replace hd := hF32 _ _ hd
  have ha := hr31
  refine Bl 3 rfl (by kernel_rfl) rfl (AI (Ap CJ Aa (AP hd rfl)).quiet ⟨(fun _ => Qu (by kernel_rfl)), ?_⟩)
  refine Bl 5 rfl (by kernel_rfl) rfl (Bb FX Aa AO (Co hl hy hn) fun v33 F34 hr35 hF36 => ⟨(fun h => nomatch h), ?_⟩)
  replace ha := ha.mono hF36
  have hb := hr35
  refine Bl 6 rfl (by kernel_rfl) rfl (AI (As Kd Aa AO (Dh ha hb) (fun _ _ h => h)) ⟨(fun h => nomatch h), ?_⟩)
  refine Bl 7 rfl (by kernel_rfl) rfl (AI (AL Aa).quiet ⟨(fun h => nomatch h), ?_⟩)
  refine AY (by kernel_rfl) ?_ _
  refine Ab <| Au <| Am rfl Bi ?_
  rfl
 refine By rfl rfl (AI (Ap CJ Aa (AP hd rfl)).quiet ⟨fun _ _ => (fun _ h => h.drop (.refl _)), ?_⟩)
 refine Bl 2 rfl (by kernel_rfl) rfl (Bb FX Aa AO (Co hl hx hn) fun v37 F38 hr39 hF40 => ⟨(fun h => nomatch h), ?_⟩)
 replace hy := hy.mono hF40
 replace hl := hl.mono hF40
 have ha := hr39
 refine Bl 5 rfl (by kernel_rfl) rfl (Bb FX Aa AO (Co hl hy hn) fun v41 F42 hr43 hF44 => ⟨(fun h => nomatch h), ?_⟩)
 replace ha := ha.mono hF44
 have hb := hr43
 refine Bl 6 rfl (by kernel_rfl) rfl (AI (As Kd Aa AO (Dh ha hb) (fun _ _ h => h)) ⟨(fun h => nomatch h), ?_⟩)
 refine Bl 7 rfl (by kernel_rfl) rfl (AI (AL Aa).quiet ⟨(fun h => nomatch h), ?_⟩)
 refine AY (by kernel_rfl) ?_ _
 refine Ab <| Au <| Am rfl Bi ?_
 rfl
theorem HH {F : Heap} {vb vr vs vq : Value} {r : Room} (hr : RoomR F vb vr vs vq r) {v : Value} {xs : List Int} (hx : Ints F v xs) (x : Int) : Ok Tryz.prog 39 [.agg #[vb, vr, vs, vq], v, .int .i64 x].toArray F fun u F' => ∃ ws, u = .tuple #[ws, .int .i64 (givesE r xs x).2] ∧ Nats F' ws (givesE r xs x).1 := by
 refine Ok.intro Tryz.func39 rfl Tryz.ntmps39 rfl fun w0 => ?_
 have hL1 := hr.reqs.plain.lt
 have hL2 := hx.plain.lt
 by_cases h0 : someErr r xs = 0
 ·obtain ⟨l, rfl, hlt2, hasc⟩ := N4 h0
  have hv := DY h0
  have hl := GH hx
  have hn8 := FO hv hlt2 hasc
  have hnb := hv.nb
  refine Ac <| Aj fun ds => A5 rfl <| AX Aa rfl fun b1 hb1 nb1 => A5 rfl <| AX Aa (Cb hx.plain.one) fun b2 hb2 nb2 => Aw (Ag 2) <| Ax (Ag 2) fun ds => A5 rfl <| Bb Es Aa AO (Dg hr hx h0) fun v3 F4 hr5 hF6 => ?_
  replace hr := hr.mono hF6
  replace hl := hl.mono hF6
  obtain ⟨p, rfl, hlk⟩ := hr5
  obtain ⟨b, c1, c8, c3, wb, wr, ws, wq, wl, rfl, hX⟩ := hlk
  refine Aw (Ag 5) <| Ac <| Aq <| AD (Ag 3) <| Ae Aa (by decide) ?_
  have hnq := hv.nq
  by_cases hin : inB 0 (r.reqs.length - 1) x = true
  ·obtain ⟨q, rfl, hq⟩ := GJ hin
   have hq8 : q < 8 := by omega
   have hpq := Kl hq8
   refine Ax (Ag 2) fun ds => Ad rfl (AA Cw Aa hr.reqs.plain) <| Ad rfl (Br Aa Aa rfl (by omega) (by omega)) <| Ao (Ag 1) <| A5 rfl <| AS AR B3 rfl (.cons Aa .nil) rfl rfl (by decide) (by simp [Value.oneCell']) fun b7 hb7 nb7 => AQ (i := 0) rfl hb7 .here fun F8 hF9 hz10 => ?_
   replace hl := hl.mono hF9
   replace hX := hX.mono hF9
   have hsl11 := Be hz10
   refine AE rfl (As Dq Aa AO (B2 _ _ hsl11) (fun _ _ h => h)) <| Aw (Ag 1) <| Ae Aa (by simp [hin]) ?_
   by_cases hqm : q ∈ l
   ·refine Ax (Ag 2) fun ds => AE rfl (As RY Aa AO (E1 hl q) (fun _ _ h => h)) <| Aw (Ag 1) <| Ah Aa (dT hqm) <| AD (Ag 2) <| Au <| A7 <| Ay <| Am rfl Bi ?_
    rw [U2 h0 hin hqm]
    exact ⟨_, rfl, Sl.nil⟩
   refine Ax (Ag 2) fun ds => AE rfl (As RY Aa AO (E1 hl q) (fun _ _ h => h)) <| Aw (Ag 1) <| Ae Aa (dF hqm) ?_
   by_cases hc1 : canB r l = true
   ·refine Ax (Ag 2) fun ds => AE rfl (As Ke Aa AO (Gx hX hv hl hlt2 hn8) (fun _ _ h => h)) <| Ao (Ag 2) ?_
    skip
    refine Ai rfl rfl Aa (by rw [show (allR r l).isSome = true from hc1]; first | done | rfl) <| Ao (Ag 1) <| Ai rfl rfl Aa (by rw [show (allR r l).isSome = true from hc1]; first | done | rfl) <| Ao (Ag 1) <| Ai rfl rfl Aa (by rw [show (allR r l).isSome = true from hc1]; first | done | rfl) <| A5 rfl <| AS AR B3 rfl (.cons Aa .nil) rfl rfl (by decide) (by simp [Value.oneCell']) fun b12 hb12 nb12 => AQ (i := 0) rfl hb12 .here fun F13 hF14 hz15 => ?_
    replace hl := hl.mono hF14
    replace hX := hX.mono hF14
    have hsl16 := natOne1 hz15
    refine Ai rfl rfl Aa (by rw [show (allR r l).isSome = true from hc1]; first | done | rfl) <| AE rfl (As Ke Aa AO (Gx hX hv hsl16 (fun i hi => by simp at hi; omega) (by simp)) (fun _ _ h => h)) <| Ai rfl rfl Aa (by rw [show (allR r l).isSome = true from hc1]; first | done | rfl) <| Ao (Ag 1) <| Ad rfl (A9 Aa (by rw [show (allR r l).isSome = true from hc1]; first | done | rfl) Aa) <| Aw (Ag 1) ?_
    by_cases hc2 : canB r [q] = true
    ·refine Ae Aa (by rw [show (allR r [q]).isSome = true from hc2]; rfl) <| Ak <| A4 <| Ab <| Ax (Ag 1) fun ds => Ad rfl (Mr Aa Aa (k := q) rfl (by omega) (show (1 : Int) * 2 ^ q = ((2 ^ q : Nat) : Int) by simp) (Int.le_trans (by decide) (Int.natCast_nonneg _)) (by omega)) <| Aw (Ag 1) <| AD (Ag 2) <| Ac <| Ax (Ag 1) fun ds => Ad rfl (AA AR Aa hl.plain) <| Aw (Ag 1) <| Aq ?_
     refine AH [10, 12, 54, 55, 56, 57, 58, 59, 60, 61, 62] (fun m e σ => ∃ k : Nat, m + k = l.length ∧ Fct e 54 (.int .i64 k) ∧ Fct e 10 (.int .i64 ((maskL q (l.take k) : Nat) : Int)) ∧ σ = ⟨F13, [(b2, bx 59 [v]), (b1, bx 31 [vb, vr, vs, vq])]⟩) (l.length) ?_ ?_
     · exact ⟨0, by omega, Ba, Ba, rfl⟩
     rintro m e _ ⟨k, hm, hs54, hs10, rfl⟩
     by_cases hlt : k < l.length
     ·refine AD (Ag 1) <| Ac <| Ah Aa (by first | rfl | exact dT (by omega)) ?_
      have hlk := hlt2 _ (List.getElem_mem hlt)
      have hk8 : l[k] < 8 := by omega
      have hpk := Kl hk8
      have hm8 := OJ hq8 (l := l.take k) (fun i hi => by have := hlt2 i (List.mem_of_mem_take hi); omega)
      refine Ak <| Ab <| Ac <| Aq <| Ac <| Aj fun ds => Ad rfl (A1  AR Aa hl.plain Aa rfl hlt) <| Ad rfl (Ap AM Aa (hl.cell1 hlt rfl)) <| Aw (Ag 1) <| Aj fun ds => Ao (Ag 2) <| Ad rfl (Mr Aa Aa (k := l[k]) rfl (by omega) (show (1 : Int) * 2 ^ l[k] = ((2 ^ l[k] : Nat) : Int) by simp) (Int.le_trans (by decide) (Int.natCast_nonneg _)) (by omega)) <| Ad rfl (DC Aa Aa (m := maskL q (l.take k)) (k := 2 ^ l[k]) rfl (by simp) (by omega) (by omega) rfl) <| Ao (Ag 1) <| Al <| A4 <| Ab <| Aj fun ds => Ad rfl (AJ Aa Aa rfl (by omega) (by omega)) <| Ao (Ag 1) <| Al ?_
      refine Ab ⟨_, m - 1, Off.eq (Ci rfl <| BF rfl <| BQ rfl <| A3), by omega, ?_⟩
      refine ⟨k + 1, by omega, Ba, ?_, rfl⟩
      rw [Qk hlt]; exact Ba
     refine AD (Ag 1) <| Ac <| Ae Aa (by first | rfl | exact dF (by omega)) ?_
     have htk : l.take k = l := List.take_of_length_le (by omega)
     rw [htk] at hs10
     have hm8 := OJ hq8 (l := l) (fun i hi => by have := hlt2 i hi; omega)
     refine AG ?_
     refine A2 <| A2 <| A8 <| Ab <| Ac <| AN (i := 0) rfl hb2 (.here) fun F18 hF19 hz4 => ?_
     replace hl := hl.mono hF19
     replace hX := hX.mono hF19
     refine Aj fun ds => Ao (Ag 3) <| A5 rfl <| Bb bd_74 Aa AO (Ra rfl) fun v20 F21 hr22 hF23 => ?_
     replace hl := hl.mono hF23
     replace hX := hX.mono hF23
     replace hz4 := hF23 _ _ hz4
     obtain ⟨d1, d2, d3, d4, rfl, z1, z2, z3, z4⟩ := hr22
     refine Ad rfl (Bm AO) <| A5 rfl <| Bb bd_73 Aa AO (Rq VB (KM hX hv z1 z2 z3 z4 (of := ((maskL q l : Nat) : Int)) (w := 2 ^ q) (by omega) lenN (fun G v l hG hl hlt => ⟨75, [], [], rfl, bd_75, SS hl⟩)) (fun a b => cmpL (wo l a) (wo l b)) rfl (fun G v u a b hG h1 h2 _ _ => ⟨76, [], [ptr b2], rfl, bd_76, SR h1 h2 (hG _ _ hz4) (hl.mono hG) (by omega)⟩)) fun v24 F25 hr26 hF27 => ?_
     replace hl := hl.mono hF27
     replace hz4 := hF27 _ _ hz4
     obtain ⟨ws2, rfl, hws, hmem⟩ := hr26
     refine Aw (Ag 5) <| Ac <| Aj fun ds => Ad rfl (Ap CJ Aa (AP hz4 rfl)) <| Ao (Ag 1) <| A5 rfl <| Bb FX Aa AO (Co hl hws (by omega)) fun v28 F29 hr30 hF31 => ?_
     have hres := hr30
     refine Aw (Ag 2) <| Au <| Am rfl Bi ?_
     rw [U1 h0 hin hqm ⟨hc1, hc2⟩]
     exact ⟨_, rfl, hres⟩
    refine Ah Aa (by rw [show (allR r [q]).isSome = false by simpa [canB] using hc2]; rfl) <| AD (Ag 2) <| Au <| A7 <| Ay <| Am rfl Bi ?_
    rw [Lj h0 hin hqm (fun h => hc2 h.2)]
    exact ⟨_, rfl, Sl.nil⟩
   refine Ax (Ag 2) fun ds => AE rfl (As Ke Aa AO (Gx hX hv hl hlt2 hn8) (fun _ _ h => h)) <| Ao (Ag 2) <| Ar rfl rfl Aa (.inl (congrArg Value.bool (by first | (rw [show (allR r l).isSome = false by simpa [canB] using hc1]; done) | (rw [show (allR r l).isSome = false by simpa [canB] using hc1]; rfl)))) rfl <| Ar rfl rfl Aa (.inl (congrArg Value.bool (by first | (rw [show (allR r l).isSome = false by simpa [canB] using hc1]; done) | (rw [show (allR r l).isSome = false by simpa [canB] using hc1]; rfl)))) rfl <| Ar rfl rfl Aa (.inl (congrArg Value.bool (by first | (rw [show (allR r l).isSome = false by simpa [canB] using hc1]; done) | (rw [show (allR r l).isSome = false by simpa [canB] using hc1]; rfl)))) rfl <| Ar rfl rfl Aa (.inl (congrArg Value.bool (by first | (rw [show (allR r l).isSome = false by simpa [canB] using hc1]; done) | (rw [show (allR r l).isSome = false by simpa [canB] using hc1]; rfl)))) rfl <| Ar rfl rfl Aa (.inl (congrArg Value.bool (by first | (rw [show (allR r l).isSome = false by simpa [canB] using hc1]; done) | (rw [show (allR r l).isSome = false by simpa [canB] using hc1]; rfl)))) rfl <| Ad rfl (At Aa (by first | (rw [show (allR r l).isSome = false by simpa [canB] using hc1]; done) | (rw [show (allR r l).isSome = false by simpa [canB] using hc1]; rfl)) Aa) <| Aw (Ag 1) <| Ah Aa rfl <| AD (Ag 2) <| Au <| A7 <| Ay <| Am rfl Bi ?_
   rw [Lj h0 hin hqm (fun h => hc1 h.1)]
   exact ⟨_, rfl, Sl.nil⟩
  replace hin : inB 0 (r.reqs.length - 1) x = false := by simpa using hin
  refine Ax (Ag 2) fun ds => Ad rfl (AA Cw Aa hr.reqs.plain) <| Ad rfl (Br Aa Aa rfl (by omega) (by omega)) <| Ao (Ag 1) <| A5 rfl <| AS AR B3 rfl (.cons Aa .nil) rfl rfl (by decide) (by simp [Value.oneCell']) fun b32 hb32 nb32 => AQ (i := 0) rfl hb32 .here fun F33 hF34 hz35 => ?_
  have hsl36 := Be hz35
  refine AE rfl (As Dq Aa AO (B2 _ _ hsl36) (fun _ _ h => h)) <| Aw (Ag 1) <| Ah Aa (by simp [hin]) <| AD (Ag 2) <| Au <| A7 <| Ay <| Am rfl Bi ?_
  rw [SP h0 hin]
  exact ⟨_, rfl, Sl.nil⟩
 refine Ac <| Aj fun ds => A5 rfl <| AX Aa rfl fun b37 hb37 nb37 => A5 rfl <| AX Aa (Cb hx.plain.one) fun b38 hb38 nb38 => Aw (Ag 2) <| Ax (Ag 2) fun ds => AE rfl (As Es Aa AO (DB hr hx h0) (fun _ _ h => h)) <| Aw (Ag 5) <| Ac <| Aq <| AD (Ag 3) <| Ah Aa (dT h0) <| AD (Ag 3) <| Au <| A7 <| Ay <| Am rfl Bi ?_
 rw [SQ h0]
 exact ⟨_, rfl, Sl.nil⟩
end
section
set_option maxRecDepth 100000
open Go.RowKit
theorem bd_79 : Body Tryz.prog 79 := AB (by kernel_rfl)
theorem Fp : ElemT Tryz.prog 56 5 48 (.agg #[.string ⟨#[]⟩, .int .i64 0, .int .i64 0, .int .i64 0, .bool false]) := Dx (by kernel_rfl) rfl (by decide)
theorem E7 : SizeT Tryz.prog 26 1 := B1 (by kernel_rfl)
theorem KJ : SizeT Tryz.prog 31 4 := B1 (by kernel_rfl)
theorem JE : ZeroT Tryz.prog 31 (.agg #[.slice none 0 0, .slice none 0 0, .slice none 0 0, .slice none 0 0]) := Bw (by kernel_rfl)
theorem UY {F : Heap} {v : Value} {xs : List Book} (h : Sl F v 5 Book.enc xs) (hn : xs.length ≤ 1000) : OkN Tryz.prog 79 [v].toArray F fun u _F' Hn => Own 56 5 u xs.length (xs.flatMap Book.enc) Hn := by
 obtain ⟨a0, c0, rfl, g1, g2, g3, g4⟩ := h.plain
 refine OkN.intro Tryz.func79 rfl Tryz.ntmps79 rfl fun w0 => ?_
 cases a0
 ·refine AD (Ag 1) <| Ac <| Ax (Ag 1) fun ds => Ad rfl (Ou Tryz.underlying26 Aa Aa) <| Al <| Ab <| Ah Aa rfl <| AD (Ag 1) <| Au <| Ay <| Mt rfl Bi (List.nil_sublist _) ?_
  obtain ⟨h0, -⟩ := g2 rfl
  have : xs = [] := List.eq_nil_of_length_eq_zero h0
  subst this
  exact BV
 refine AD (Ag 1) <| Ac <| Ax (Ag 1) fun ds => Ad rfl (Ou Tryz.underlying26 Aa Aa) <| Al <| Ab <| Ae Aa rfl <| Ak <| Ab <| Ac <| Aj fun ds => A5 rfl <| Hw B4 fun b1 hb1 nb1 => Ao (Ag 1) <| A5 rfl <| Bd B4 Fp Aa (FA rfl) Aa (h.src (fun _ => rfl) (fun _ => Book.enc_one)) (by omega) (by omega) (.z) .box fun v2 R3 ho4 => ?_
 have ho1 : Own 56 5 v2 xs.length (xs.flatMap Book.enc) R3 := by simpa using ho4
 refine Aw (Ag 1) <| Au <| Mt rfl Bi (List.sublist_append_left _ _) ?_
 exact ho1
theorem QP {F : Heap} {vb vr vs vq : Value} {r : Room} (hr : RoomR F vb vr vs vq r) : Ok Tryz.prog 40 [.agg #[vb, vr, vs, vq]].toArray F fun u _ => u = trip (askE r) := by
 refine Ok.intro Tryz.func40 rfl Tryz.ntmps40 rfl fun w0 => ?_
 have hL1 := hr.books.plain.lt
 by_cases h0 : (check r).2.2 = 0
 ·have hv := DE h0
  refine Ac <| Aj fun ds => A5 rfl <| AX Aa rfl fun b1 hb1 nb1 => Aw (Ag 3) <| Ax (Ag 1) fun ds => A5 rfl <| Bb Es Aa AO (Dg hr (Sl.nil : Ints F _ []) (BB.trans h0)) fun v2 F3 hr4 hF5 => ?_
  replace hr := hr.mono hF5
  obtain ⟨p, rfl, hlk⟩ := hr4
  obtain ⟨b, c1, c8, c3, wb, wr, ws, wq, wl, rfl, hX⟩ := hlk
  refine Aw (Ag 5) <| Ac <| AD (Ag 2) <| Ae Aa (by decide) <| Ak <| Ab <| Ax (Ag 1) fun ds => A5 rfl <| Bb Vp Aa AO (NF hX hv) fun v6 F7 hr8 hF9 => ?_
  replace hr := hr.mono hF9
  obtain ⟨ws0, rfl, hws0, hmem0⟩ := hr8
  refine Aw (Ag 5) <| Ac <| Ax (Ag 2) fun ds => Ad rfl (AA B4 Aa hr.books.plain) <| Aw (Ag 1) <| Aq ?_
  refine AH [2, 3, 8, 9, 10, 11, 28, 29, 30, 31, 32, 33, 34, 35, 36, 37, 38, 39, 40, 41, 42, 43, 44, 45, 46, 47, 48, 49, 50, 51, 52, 53, 54, 55, 56, 57, 58, 59, 60, 61, 62, 63, 64] (fun m e σ => ∃ G, RoomR G vb vr vs vq r ∧ ∃ k : Nat, m + k = r.books.length ∧ Fct e 28 (.int .i64 k) ∧ Fct e 2 (.int .i64 ((askTo (bestP r).2 (fun b => (bestP (measured r b)).2) k).1 : Nat)) ∧ Fct e 3 (.int .i64 (askTo (bestP r).2 (fun b => (bestP (measured r b)).2) k).2) ∧ σ = ⟨G, [(b1, bx 31 [vb, vr, vs, vq])]⟩) (r.books.length) ?_ ?_
  · exact ⟨_, hr, 0, by omega, Ba, Ba, Ba, rfl⟩
  rintro m e _ ⟨G, hr, k, hm1, hs28, hs2, hs3, rfl⟩
  by_cases hlt : k < r.books.length
  ·refine AD (Ag 1) <| Ac <| Ah Aa (by first | rfl | exact dT (by omega)) ?_
   have hnb := hv.nb
   have hvm := KB hv hlt
   have hb1 := Kc hv
   have hb2 := Kc hvm
   refine Ak <| Ab <| Ac <| Aq <| AD (Ag 2) <| Ax (Ag 1) fun ds => A5 rfl <| AF JE rfl fun b11 hb11 nb11 => AZ <| AC KJ Aa Aa (i := 0) rfl rfl rfl rfl hr.ones (.here) <| Al <| Ab <| Ax (Ag 2) fun ds => A5 rfl <| x_callN bd_79 Aa AO (UY hr.books (by omega)) fun v12 F13 R16 hr14 hF15 => ?_
   replace hr := hr.mono hF15
   have hoC := hr14
   refine Ao (Ag 1) <| AZ <| AW E7 Aa Aa (i := 0) rfl (.here) hoC.one (.here) <| Al <| Ab <| Ac <| Bf (.inl rfl) (fun _ _ h => h) (kK <| kK <| .refl _) [13] (by kernel_rfl) fun ds => Af 0 rfl (by kernel_rfl) (by kernel_rfl) (by kernel_rfl) (by kernel_rfl) rfl rfl (fun _ h => h.drop (kK <| kK <| .refl _)) (fun _ _ _ h => h) (Az BR Aa) <| Af 1 rfl (by kernel_rfl) (by kernel_rfl) (by kernel_rfl) (by kernel_rfl) rfl rfl (fun _ h => h.drop (kK <| kK <| .refl _)) (fun _ _ _ h => h) (Ap D6 Aa (Cell.own 0 rfl rfl)) <| Af 2 rfl (by kernel_rfl) (by kernel_rfl) (by kernel_rfl) (by kernel_rfl) rfl rfl (fun _ h => h.drop (kK <| kK <| .refl _)) (fun _ _ _ h => h) (A0 Aa) <| Af 3 rfl (by kernel_rfl) (by kernel_rfl) (by kernel_rfl) (by kernel_rfl) rfl rfl (fun _ h => h.drop (kK <| kK <| .refl _)) (fun _ _ _ h => h) (Az BR Aa) <| Af 4 rfl (by kernel_rfl) (by kernel_rfl) (by kernel_rfl) (by kernel_rfl) rfl rfl (fun _ h => h.drop (kK <| kK <| .refl _)) (fun _ _ _ h => h) (Ap D6 Aa (Cell.own 0 rfl rfl)) <| Af 5 rfl (by kernel_rfl) (by kernel_rfl) (by kernel_rfl) (by kernel_rfl) rfl rfl (fun _ h => h.drop (kK <| kK <| .refl _)) (fun _ _ _ h => h) (A0 Aa) <| Af 6 rfl (by kernel_rfl) (by kernel_rfl) (by kernel_rfl) (by kernel_rfl) rfl rfl (fun _ h => h.drop (kK <| kK <| .refl _)) (fun _ _ _ h => h) (A1 (k := k) B4 Aa (hoC.plain (by omega)) Aa rfl hlt) ?_
   refine Af 7 rfl (by kernel_rfl) (by kernel_rfl) (by kernel_rfl) (by kernel_rfl) rfl rfl (fun _ h => h.drop (kK <| kK <| .refl _)) (fun _ _ _ h => h) (Bs N7 Aa) <| Af 8 rfl (by kernel_rfl) (by kernel_rfl) (by kernel_rfl) (by kernel_rfl) rfl rfl (fun _ h => h.drop (kK <| kK <| .refl _)) (fun _ _ _ h => h) (Bs ET Aa) <| Af 9 rfl (by kernel_rfl) (by kernel_rfl) (by kernel_rfl) (by kernel_rfl) rfl rfl (fun _ h => h.drop (kK <| kK <| .refl _)) (fun _ _ _ h => h) (Ap AM Aa (show Cell _ _ (.int .i64 (r.bk k).hi) from HA hoC (fun p hp => .tail _ (.tail _ hp)) (flat_bk (j := 3) hlt rfl))) <| Af 10 rfl (by kernel_rfl) (by kernel_rfl) (by kernel_rfl) (by kernel_rfl) rfl rfl (fun _ h => h.drop (kK <| kK <| .refl _)) (fun _ _ _ h => h) (A1 (k := k) B4 Aa (hoC.plain (by omega)) Aa rfl hlt) <| Af 11 rfl (by kernel_rfl) (by kernel_rfl) (by kernel_rfl) (by kernel_rfl) rfl rfl (fun _ h => h.drop (kK <| kK <| .refl _)) (fun _ _ _ h => h) (Bs N7 Aa) <| Af 12 rfl (by kernel_rfl) (by kernel_rfl) (by kernel_rfl) (by kernel_rfl) rfl rfl (fun _ h => h.drop (kK <| kK <| .refl _)) (fun _ _ _ h => h) (Bs EU Aa) ?_
   refine Bt 13 rfl (by kernel_rfl) (Hs Dr Aa Aa hoC (by rw [Ph]; omega) rfl (.s <| .s .z) .last fun R3 ho3 => ⟨(fun h => nomatch h), ?_⟩)
   refine AY (by kernel_rfl) ?_ _
   refine Ab <| Ac ?_
   rw [show k * 5 + 2 + 0 = k * 5 + 2 from rfl, SW hlt, Nu hlt] at ho3
   have ho9 := ho3.to (DI (r := r) (b := k)).symm
   refine Bo (σ := ⟨_, _⟩) (by rfl) ho9 (.s <| .s <| .z) .last fun F17 hF18 hz19 => ?_
   replace hr := hr.mono hF18
   have hmb := ho9.sl (fun _ => rfl) hz19 (by rw [DI]; omega)
   have hrm := (⟨hmb, hr.readers, hr.seats, hr.reqs⟩ : RoomR _ _ vr vs vq (measured r k))
   refine Aj fun ds => Ao (Ag 1) <| A5 rfl <| Bb bd_80 Aa AO (Ru hrm hvm) fun v20 F21 hr22 hF23 => ?_
   replace hr := hr.mono hF23
   obtain ⟨b2, c12, c82, c32, xb, xr, xs2, xq, xl, rfl, hX2⟩ := hr22
   refine A5 rfl <| Bb Vp Aa AO (NF hX2 hvm) fun v24 F25 hr26 hF27 => ?_
   replace hr := hr.mono hF27
   obtain ⟨ws2, rfl, hws2, hmem2⟩ := hr26
   refine Aw (Ag 5) <| Ac ?_
   by_cases hw : (askTo (bestP r).2 (fun b => (bestP (measured r b)).2) k).2 < (bestP (measured r k)).2 - (bestP r).2
   ·refine Aj fun ds => Ao (Ag 2) <| Ad rfl (Br Aa Aa rfl (by omega) (by omega)) <| Aw (Ag 2) <| Ah Aa (dT hw) <| Aj fun ds => Ao (Ag 3) <| Ad rfl (Br Aa Aa rfl (by omega) (by omega)) <| Ao (Ag 2) <| Al <| A4 <| Ab <| Bk (fun _ _ h => h.drop (kD <| kK <| .refl _)) <| Aj fun ds => Ad rfl (AJ Aa Aa rfl (by omega) (by omega)) <| Ao (Ag 1) <| Al ?_
    refine Ab ⟨_, m - 1, Off.eq (DG rfl <| Ci rfl <| BF rfl <| BQ rfl <| A3), by omega, ?_⟩
    exact ⟨_, hr, k + 1, by omega, Ba, by rw [MU hw]; exact Ba, by rw [MU hw]; exact Ba, rfl⟩
   refine Aj fun ds => Ao (Ag 2) <| Ad rfl (Br Aa Aa rfl (by omega) (by omega)) <| Aw (Ag 2) <| Ae Aa (dF hw) <| Ak <| A4 <| Ab <| Bk (fun _ _ h => h.drop (kD <| kK <| .refl _)) <| Aj fun ds => Ad rfl (AJ Aa Aa rfl (by omega) (by omega)) <| Ao (Ag 1) <| Al ?_
   refine Ab ⟨_, m - 1, Off.eq (DG rfl <| BI rfl <| BQ rfl <| A3), by omega, ?_⟩
   exact ⟨_, hr, k + 1, by omega, Ba, by rw [P8 hw]; exact Ba, by rw [P8 hw]; exact Ba, rfl⟩
  refine AD (Ag 1) <| Ac <| Ae Aa (by first | rfl | exact dF (by omega)) ?_
  obtain rfl : k = r.books.length := by omega
  by_cases h9 : (askTo (bestP r).2 (fun b => (bestP (measured r b)).2) r.books.length).2 = 0
  ·refine AG ?_
   refine A2 <| A2 <| A8 <| Ab <| Ac <| AD (Ag 2) <| Ah Aa (dT h9) <| AD (Ag 3) <| Au <| Ay <| Am rfl Bi ?_
   rw [Sg h0]; unfold askV; rw [if_pos h9]; rfl
  refine AG ?_
  refine A2 <| A2 <| A8 <| Ab <| Ac <| AD (Ag 2) <| Ae Aa (dF h9) <| Ak <| Ab <| AD (Ag 5) <| Au <| Am rfl Bi ?_
  rw [Sg h0]; unfold askV; rw [if_neg h9]; rfl
 refine Ac <| Aj fun ds => A5 rfl <| AX Aa rfl fun b28 hb28 nb28 => Aw (Ag 3) <| Ax (Ag 1) fun ds => AE rfl (As Es Aa AO (DB hr (Sl.nil : Ints F _ []) (fun h => h0 (BB.symm.trans h))) (fun _ _ h => h)) <| Aw (Ag 5) <| Ac <| AD (Ag 2) <| Ah Aa (by simpa [BB] using h0) <| AD (Ag 4) <| Au <| Ay <| Am rfl Bi ?_
 rw [VF h0, ← BB]; rfl
end
section
open Go.RowKit
def dstB (ops : Array Oper) (j : Nat) : Nat := match (ops[j]?).bind (·.dst) with | some d => d | none => 0
def depB (ops : Array Oper) (i j : Nat) : Bool := match ops[i]? with | some o => o.after.any fun x => Region.binds .any x && x.on == j | none => false
def factB (n : Nat) (ops : Array Oper) (k : Nat) : Bool :=
 (List.range k).all (fun i => match ops[i]? with
   | some o => (match o.dst with | some d => Nat.blt d n | none => false) && o.guard.isNone && o.after.all (fun x => !(Region.binds .any x) || Nat.blt x.on i) && (List.range i).all (fun j => !(Nat.beq (dstB ops j) (dstB ops i)))
   | none => false) &&
 (ops.size == k || (ops.size == k + 1 && (match ops[k]? with
   | some o => o.dst.isNone && o.guard.isNone && o.after.all (fun x => !(Region.binds .any x) || Nat.blt x.on k) && (List.range k).all (depB ops k)
   | none => false)))
def AllTo (H : Nat → Prop) : Nat → Prop
 | 0 => True
 | k + 1 => AllTo H k ∧ H k
theorem AllTo.get {H : Nat → Prop} : ∀ {k : Nat}, AllTo H k → ∀ i, i < k → H i
 | 0, _, i, h => absurd h (by omega)
 | k + 1, h, i, hi => by
   by_cases hk : i = k
   · subst hk; exact h.2
   exact AllTo.get h.1 i (by omega)
section
variable {P : Program} {n : Nat} {B : Base} {e0 : Env} {σ : St}
def Hop (P : Program) (n : Nat) (B : Base) (ops : Array Oper) (k : Nat) (Φ : Nat → Heap → Value → Prop) (e0 : Env) (σ : St) (i : Nat) : Prop :=
 ∀ e F, σ.F.le F → (∀ t, (∀ j, j < k → t ≠ dstB ops j) → e t = e0 t) → (∀ j, depB ops i j = true → j < k → Φ j F (e (dstB ops j))) →
   ∃ d op ty pos af, ops[i]? = some ⟨some d, op, ty, pos, af, none⟩ ∧ OpX P n B ⟨some d, op, ty, pos, af, none⟩ e ⟨F, σ.H⟩ fun v σ' => ∃ F', σ' = ⟨F', σ.H⟩ ∧ F.le F' ∧ Φ i F' v
def Hend (P : Program) (n : Nat) (B : Base) (ops : Array Oper) (k : Nat) (Φ : Nat → Heap → Value → Prop) (e0 : Env) (σ : St) (Q : Exit → Env → St → Prop) : Prop :=
 ∀ e F, σ.F.le F → (∀ t, (∀ j, j < k → t ≠ dstB ops j) → e t = e0 t) → (∀ j, j < k → Φ j F (e (dstB ops j))) →
   (ops.size = k → Q .normal e ⟨F, σ.H⟩) ∧ (ops.size = k + 1 → ∃ op ty pos af, ops[k]? = some ⟨none, op, ty, pos, af, none⟩ ∧ OpX P n B ⟨none, op, ty, pos, af, none⟩ e ⟨F, σ.H⟩ fun _ σ' => Q .normal e σ')
def HendT (P : Program) (n : Nat) (B : Base) (ops : Array Oper) (k : Nat) (Φ : Nat → Heap → Value → Prop) (e0 : Env) (σ : St) (Q : Exit → Env → St → Prop) : Bool → Prop
 | false => ∀ e F, σ.F.le F → (∀ t, (∀ j, j < k → t ≠ dstB ops j) → e t = e0 t) → (∀ j, j < k → Φ j F (e (dstB ops j))) → Q .normal e ⟨F, σ.H⟩
 | true => ∀ e F, σ.F.le F → (∀ t, (∀ j, j < k → t ≠ dstB ops j) → e t = e0 t) → (∀ j, j < k → Φ j F (e (dstB ops j))) → ∃ op ty pos af, ops[k]? = some ⟨none, op, ty, pos, af, none⟩ ∧ OpX P n B ⟨none, op, ty, pos, af, none⟩ e ⟨F, σ.H⟩ fun _ σ' => Q .normal e σ'
theorem HendT.to {ops : Array Oper} {k : Nat} {Φ : Nat → Heap → Value → Prop} {Q : Exit → Env → St → Prop} {tail : Bool} (ht : Nat.beq ops.size (k + 1) = tail) (h : HendT P n B ops k Φ e0 σ Q tail) : Hend P n B ops k Φ e0 σ Q := by
 intro e F h1 h2 h3
 cases tail with
 | false => exact ⟨fun _ => h e F h1 h2 h3, fun hs => by rw [hs] at ht; simp at ht⟩
 | true => exact ⟨fun hs => by rw [hs] at ht; simp at ht, fun _ => h e F h1 h2 h3⟩
def freshB (ops : Array Oper) (k t : Nat) : Bool := (List.range k).all fun j => !(Nat.beq t (dstB ops j))
theorem DM {ops : Array Oper} {k t : Nat} {e : Env} (he : ∀ t, (∀ j, j < k → t ≠ dstB ops j) → e t = e0 t) (h : freshB ops k t = true) : e t = e0 t :=
 he t fun j hj hh => by
   have := List.all_eq_true.1 h j (by simpa using hj)
   rw [← hh] at this
   simp at this
theorem Cr {e : Env} {t : Nat} {v : Value} (h : e t = v) : ev e (.tmp t) = v := h
theorem CY {e e0 : Env} {t : Nat} {v : Value} (h0 : e t = e0 t) (h : ev e0 (.tmp t) = v) : ev e (.tmp t) = v := h0.trans h
theorem EL {o : Oper} {e : Env} {K : Value → St → Prop} (h : OpX P n B o e σ fun v σ' => ∃ b ob, B.w0.heap.size ≤ b ∧ σ' = ⟨σ.F, (b, ob) :: σ.H⟩ ∧ ∀ F', σ.F.le F' → F' b = some ob → K v ⟨F', σ.H⟩) : OpX P n B o e σ K := by
 intro a w ha hw next Qx hnext
 refine h a w ha hw next Qx fun v σ' w' hK hw' => ?_
 obtain ⟨b, ob, hb, rfl, hK⟩ := hK
 have hn := (hw'.own (b, ob) (by simp)).2.1
 have hfz := hw'.freeze (i := 0) rfl hb
 exact hnext v _ w' (hK _ (EF hn) DT) hfz
theorem D0 {α : Type} {F : Heap} {b T s m : Nat} {l : List Value} {enc : α → List Value} {xs : List α} (h : F b = some (bx T l)) (hl : l = xs.flatMap enc) (hm : xs.length = m) (hs : ∀ x, (enc x).length = s) (hlt : m < 281474976710656) : Sl F (.slice (some ⟨b, 0, none⟩) m m) s enc xs := by
 subst hl; subst hm
 exact Own.sl (E := T) (R := [(b, bx T (xs.flatMap enc))]) (FA (Lt hs xs)) hs (fun p hp => by simp at hp; subst hp; exact h) hlt
theorem RK {ops : Array Oper} {i : Nat} {o : Oper} (ho : ops[i]? = some o) {j : Nat} (h : depB ops i j = true) : ∃ x ∈ o.after, Region.binds .any x = true ∧ x.on = j := by
 unfold depB at h
 rw [ho] at h
 obtain ⟨x, hx, hb⟩ := Array.any_eq_true'.1 h
 simp only [Bool.and_eq_true, beq_iff_eq] at hb
 exact ⟨x, hx, hb.1, hb.2⟩
def undone (listed : Array Bool) : Nat := listed.toList.count false
theorem MI : ∀ {l : List Bool} {i : Nat} (hi : i < l.length), l[i] = false → (l.set i true).count false + 1 = l.count false
 | [], i, hi, _ => by simp at hi
 | a :: l, 0, _, hv => by simp at hv; subst hv; simp
 | a :: l, i + 1, hi, hv => by
   have := MI (l := l) (i := i) (by simpa using hi) (by simpa using hv)
   simp only [List.set_cons_succ, List.count_cons]
   omega
theorem PJ {listed : Array Bool} {i : Nat} (h : listed.getD i true = false) : undone (listed.setIfInBounds i true) + 1 = undone listed := by
 have hi : i < listed.size := by
   rcases Nat.lt_or_ge i listed.size with h' | h'
   · exact h'
   simp [Array.getD, Nat.not_lt.2 h'] at h
 have hv : listed.toList[i]'(by simpa using hi) = false := by simpa [Array.getD, hi] using h
 unfold undone
 rw [Array.toList_setIfInBounds]
 exact MI (by simpa using hi) hv
theorem L0 {ops : Array Oper} {k : Nat} (hB : factB n ops k = true) {i : Nat} (hi : i < k) : ∃ o d, ops[i]? = some o ∧ o.dst = some d ∧ d < n ∧ o.guard = none ∧ (∀ x ∈ o.after, Region.binds .any x = true → x.on < i) ∧ ∀ j, j < i → dstB ops j ≠ dstB ops i := by
 unfold factB at hB
 simp only [Bool.and_eq_true] at hB
 have h := List.all_eq_true.1 hB.1 i (by simpa using hi)
 split at h
 · rename_i o ho
   simp only [Bool.and_eq_true] at h
   obtain ⟨⟨⟨h1, h2⟩, h3⟩, h4⟩ := h
   split at h1
   · rename_i d hd
     refine ⟨o, d, ho, hd, by simpa using h1, by simpa using h2, fun x hx hb => ?_, fun j hj he => ?_⟩
     · have := Array.all_eq_true'.1 h3 x hx
       simpa [hb] using this
     have := List.all_eq_true.1 h4 j (by simpa using hj)
     rw [he] at this
     simp at this
   cases h1
 cases h
theorem Jw {ops : Array Oper} {k : Nat} (hB : factB n ops k = true) : ops.size = k ∨ (ops.size = k + 1 ∧ ∃ o, ops[k]? = some o ∧ o.dst = none ∧ o.guard = none ∧ (∀ x ∈ o.after, Region.binds .any x = true → x.on < k) ∧ ∀ j, j < k → depB ops k j = true) := by
 unfold factB at hB
 simp only [Bool.and_eq_true, Bool.or_eq_true, beq_iff_eq] at hB
 rcases hB.2 with h | ⟨h1, h2⟩
 · exact .inl h
 refine .inr ⟨h1, ?_⟩
 split at h2
 · rename_i o ho
   simp only [Bool.and_eq_true] at h2
   obtain ⟨⟨⟨q1, q2⟩, q3⟩, q4⟩ := h2
   refine ⟨o, ho, by simpa using q1, by simpa using q2, fun x hx hb => ?_, fun j hj => ?_⟩
   · have := Array.all_eq_true'.1 q3 x hx
     simpa [hb] using this
   exact List.all_eq_true.1 q4 j (by simpa using hj)
 cases h2
theorem NQ {ops : Array Oper} {k : Nat} {Φ : Nat → Heap → Value → Prop} {Q : Exit → Env → St → Prop} (hB : factB n ops k = true) (hm : ∀ i F F' v, F.le F' → Φ i F v → Φ i F' v)
   (hops : AllTo (Hop P n B ops k Φ e0 σ) k) (hend : Hend P n B ops k Φ e0 σ Q) : ∀ (fuel : Nat) (listed : Array Bool) (a : Act) (w : World) (e : Env) (F : Heap), Fits n B a e → Holds B ⟨F, σ.H⟩ w → σ.F.le F →
     (∀ t, (∀ j, j < k → t ≠ dstB ops j) → e t = e0 t) → (∀ j, j < k → listed.getD j false = true → Φ j F (e (dstB ops j))) → listed.size = ops.size → listed.getD k false = false → undone listed = fuel →
     wpAny P .any ops (lift n B Q) fuel listed a w := by
 have hready : ∀ (listed : Array Bool), listed.size = ops.size → undone listed ≠ 0 → ∃ i, i ∈ Region.ready .any ops listed := by
   intro listed hsz hun
   have hex : ∃ i, i < listed.size ∧ listed.getD i false = false := by
     have : false ∈ listed.toList := by
       rw [← List.count_pos_iff]; unfold undone at hun; omega
     obtain ⟨i, hi, he⟩ := List.mem_iff_getElem.1 this
     exact ⟨i, by simpa using hi, by simp at hi; simp [Array.getD, hi]; simpa using he⟩
   obtain ⟨i, ⟨hi, hli⟩, hmin⟩ := Ez hex
   refine ⟨i, mem_ready.2 ⟨by simp [Array.getD, hi] at hli ⊢; exact hli, ?_⟩⟩
   have hlt : ∀ j, j < i → listed.getD j false = true := fun j hj => by
     cases hc : listed.getD j false with
     | true => rfl
     | false => exact absurd (hmin j ⟨by omega, hc⟩) (by omega)
   by_cases hik : i < k
   · obtain ⟨o, d, h1, -, -, -, h5, -⟩ := L0 hB hik
     exact ⟨o, h1, fun x hx hb => hlt _ (h5 x hx hb)⟩
   rcases Jw hB with h | ⟨h, o, h1, -, -, h4, -⟩
   · omega
   have : i = k := by omega
   subst this
   exact ⟨o, h1, fun x hx hb => hlt _ (h4 x hx hb)⟩
 intro fuel
 induction fuel with
 | zero =>
   intro listed a w e F hf hw hF he hΦ hsz hk0 hun
   have hall : ∀ j, j < listed.size → listed.getD j false = true := fun j hj => by
     cases hc : listed.getD j false with
     | true => rfl
     | false =>
       have h1 : false ∈ listed.toList := List.mem_iff_getElem.2 ⟨j, by simpa using hj, by simp [Array.getD, hj] at hc; simpa using hc⟩
       rw [← List.count_pos_iff] at h1
       unfold undone at hun; omega
   have hsk : ops.size = k := by
     rcases Jw hB with h | ⟨h, -⟩
     · exact h
     have := hall k (by omega); rw [hk0] at this; cases this
   refine ⟨?_, B.ds, e, ⟨F, σ.H⟩, hf, hw, (hend e F hF he fun j hj => hΦ j hj (hall j (by omega))).1 hsk⟩
   cases hr : Region.ready .any ops listed with
   | nil => rfl
   | cons i l =>
     have : i ∈ Region.ready .any ops listed := by rw [hr]; simp
     obtain ⟨h1, o, ho, -⟩ := mem_ready.1 this
     have hi : i < listed.size := by rw [hsz]; exact (Array.getElem?_eq_some_iff.1 ho).1
     have h2 := hall i hi
     simp [Array.getD, hi] at h1 h2
     rw [h1] at h2; cases h2
 | succ fuel ih =>
   intro listed a w e F hf hw hF he hΦ hsz hk0 hun
   obtain ⟨i0, hi0⟩ := hready listed hsz (by omega)
   refine ⟨fun h => (by rw [h] at hi0; cases hi0), fun i hi => ?_⟩
   obtain ⟨h1, o, ho, hdeps⟩ := mem_ready.1 hi
   have hil : i < listed.size := by rw [hsz]; exact (Array.getElem?_eq_some_iff.1 ho).1
   have hun' := PJ h1
   by_cases hik : i < k
   · obtain ⟨o', d', h2, h3, h4, h5, h6, h7⟩ := L0 hB hik
     obtain ⟨d, op, ty, pos, af, q1, q2⟩ := hops.get i hik e F hF he fun j hj hjk => by
       obtain ⟨x, hx, hb, rfl⟩ := RK ho hj
       exact hΦ _ hjk (hdeps x hx hb)
     rw [q1] at ho
     cases ho
     rw [q1] at h2
     cases h2
     have hdd : dstB ops i = d := by unfold dstB; rw [q1]; rfl
     have hdn : d < n := by
       have : d = d' := by simpa using h3
       subst this; exact h4
     unfold wpOp
     simp only [q1]
     rw [if_pos (by simp [Region.wanted])]
     refine .inl (q2 a w hf hw _ _ fun v σ' w' hK hw' => ?_)
     obtain ⟨F', rfl, hle, hφ⟩ := hK
     refine ih (listed.setIfInBounds i true) _ w' (upd e d v) F' (hf.put hdn v) hw' (Heap.le_trans hF hle) (fun t ht => ?_) (fun j hj hlj => ?_) (by simpa using hsz) ?_ (by omega)
     · unfold upd
       rw [if_neg (fun h => ht i hik (by rw [h, hdd]))]
       exact he t ht
     · by_cases hji : j = i
       · subst hji
         rw [hdd]
         simp only [upd, if_true]
         exact hφ
       have hne : dstB ops j ≠ d := by
         rw [← hdd]
         rcases Nat.lt_or_ge j i with h | h
         · exact h7 j h
         obtain ⟨-, -, -, -, -, -, -, h8⟩ := L0 hB hj
         exact (h8 i (by omega)).symm
       simp only [upd, if_neg hne]
       rw [getD_set_ne false (Ne.symm hji)] at hlj
       exact hm _ _ _ _ hle (hΦ j hj hlj)
     rw [getD_set_ne false (by omega)]; exact hk0
   rcases Jw hB with h | ⟨h, o', q1, q2, q3, q4, q5⟩
   · omega
   have hie : i = k := by omega
   subst hie
   rw [q1] at ho
   cases ho
   have hfull : ∀ j, j < i → listed.getD j false = true := fun j hj => by
     obtain ⟨x, hx, hb, rfl⟩ := RK q1 (q5 j hj)
     exact hdeps x hx hb
   obtain ⟨op, ty, pos, af, p1, p2⟩ := (hend e F hF he fun j hj => hΦ j hj (hfull j hj)).2 h
   rw [q1] at p1
   cases p1
   unfold wpOp
   simp only [q1]
   rw [if_pos (by simp [Region.wanted])]
   refine .inl (p2 a w hf hw _ _ fun v σ' w' hK hw' => ?_)
   have hz : fuel = 0 := by
     have hcnt : undone (listed.setIfInBounds i true) = 0 := by
       have hall : ∀ j, j < (listed.setIfInBounds i true).size → (listed.setIfInBounds i true).getD j false = true := fun j hj => by
         by_cases hji : j = i
         · subst hji; simp [Array.getD, hil]
         rw [getD_set_ne false (Ne.symm hji)]
         exact hfull j (by simp at hj; omega)
       unfold undone
       rw [List.count_eq_zero]
       intro hmem
       obtain ⟨j, hj, hje⟩ := List.mem_iff_getElem.1 hmem
       have hj' : j < (listed.setIfInBounds i true).size := by simpa using hj
       have h9 := hall j hj'
       simp only [Array.getD, hj', dif_pos] at h9
       rw [Array.getElem_toList] at hje
       have h10 : (listed.setIfInBounds i true)[j]'hj' = true := h9
       rw [h10] at hje; cases hje
     omega
   subst hz
   refine ⟨?_, B.ds, e, σ', hf, hw', hK⟩
   cases hr : Region.ready .any ops (listed.setIfInBounds i true) with
   | nil => rfl
   | cons q l =>
     have hq : q ∈ Region.ready .any ops (listed.setIfInBounds i true) := by rw [hr]; simp
     obtain ⟨h1q, o, hoq, -⟩ := mem_ready.1 hq
     have hqs : q < listed.size := by rw [hsz]; exact (Array.getElem?_eq_some_iff.1 hoq).1
     by_cases hqi : q = i
     · subst hqi; simp [Array.getD, hil] at h1q
     have h2 := hfull q (by omega)
     rw [getD_set_ne true (Ne.symm hqi)] at h1q
     simp [Array.getD, hqs] at h1q h2
     rw [h1q] at h2; cases h2
def AllMono : List (Heap → Value → Prop) → Prop
 | [] => True
 | p :: l => (∀ F F' v, F.le F' → p F v → p F' v) ∧ AllMono l
def phiOf : List (Heap → Value → Prop) → Nat → Heap → Value → Prop
 | [], _ => fun _ _ => True
 | p :: _, 0 => p
 | _ :: l, i + 1 => phiOf l i
theorem AllMono.phi : ∀ {l : List (Heap → Value → Prop)}, AllMono l → ∀ i F F' v, F.le F' → phiOf l i F v → phiOf l i F' v
 | [], _, _, _, _, _, _, h => h
 | _ :: _, h, 0, _, _, _, hF, hp => h.1 _ _ _ hF hp
 | _ :: _, h, i + 1, _, _, _, hF, hp => h.2.phi i _ _ _ hF hp
theorem PF {id : Nat} {l : List Oper} {Q : Exit → Env → St → Prop} (k : Nat) (hp : Plainly B.ro l) (hO : ∀ e σ, Q .outgrown e σ → False) (hm : P.follows .mixedOrders = true) (hB : factB n l.toArray k = true) (tail : Bool) (ht : Nat.beq l.toArray.size (k + 1) = tail)
   (φs : List (Heap → Value → Prop)) (hmono : AllMono φs)
   (hops : ∀ ds, AllTo (Hop P n (B.at ds) l.toArray k (phiOf φs) e0 σ) k) (hend : ∀ ds, HendT P n (B.at ds) l.toArray k (phiOf φs) e0 σ Q tail) : WC P n B (.region id l.toArray true) Q e0 σ := by
 intro ds a w ha hw
 refine wpIn_region_any hm (Fb (Kr hO) (by simpa using hp.mem) _ _ _ _ ?_)
 have := NQ (P := P) (e0 := e0) (σ := σ) (Q := Q) hB hmono.phi (hops ds) ((hend ds).to ht) l.toArray.size (Array.replicate l.toArray.size false) a _ e0 σ.F ha hw.drew (Heap.le_refl _) (fun _ _ => rfl) (fun j _ h => by simp [Array.getD] at h) (by simp) (by simp [Array.getD]) (by simp [undone])
 exact this
end
end
section
set_option maxRecDepth 100000
open Go.RowKit
theorem MT : Body Tryz.prog 42 := AB (by kernel_rfl)
theorem P5 : Body Tryz.prog 66 := AB (by kernel_rfl)
theorem bt_31 : BuildT Tryz.prog 31 [.slice none 0 0, .slice none 0 0, .slice none 0 0, .slice none 0 0] [(0, 1), (1, 1), (2, 1), (3, 1)] := BG JE (by kernel_rfl) (by decide)
theorem bt_79 : BuildT Tryz.prog 79 [.int .i64 0, .int .i64 0, .int .i64 0, .int .i64 0] [(0, 1), (1, 1), (2, 1), (3, 1)] := BG JC (by kernel_rfl) (by decide)
theorem Ve : BuildT Tryz.prog 56 [.string ⟨#[]⟩, .int .i64 0, .int .i64 0, .int .i64 0, .bool false] [(0, 1), (1, 1), (2, 2), (4, 1)] := BG D8 (by kernel_rfl) (by decide)
theorem Vg : BuildT Tryz.prog 136 [.string ⟨#[]⟩, .int .i64 0] [(0, 1), (1, 1)] := BG MV (by kernel_rfl) (by decide)
theorem Vc : BuildT Tryz.prog 77 [.int .i64 0, .bool false] [(0, 1), (1, 1)] := BG NO (by kernel_rfl) (by decide)
theorem GB {F : Heap} (a b : Int) : Ok Tryz.prog 42 [.int .i64 a, .int .i64 b].toArray F fun r _ => r = .agg #[.int .i64 a, .int .i64 b] := by
 refine Ok.intro Tryz.func42 rfl Tryz.ntmps42 rfl fun w0 => Ac <| Aj fun ds => A5 rfl <| AF GS rfl fun b1 hb1 nb1 => Al <| Ab <| Ax (Ag 2) fun ds => Ad rfl (Bg MO (.cons Aa rfl (.cons Aa rfl .nil)) (.cons rfl rfl (Nat.le_of_ble_eq_true rfl) (.cons (.here) .nil) (.cons rfl rfl (Nat.le_of_ble_eq_true rfl) (.cons (.next <| .here) .nil) .nil))) <| AZ <| AC Gc Aa Aa (i := 0) rfl rfl rfl rfl (by simp [Value.oneCell']) (.here) <| Al <| Ab <| Au <| Am rfl (.agg BP Aa rfl rfl (Bj 0 rfl) .nil) ?_
 rfl
theorem EA {F : Heap} (a b c d : Int) : Ok Tryz.prog 66 [.int .i64 a, .int .i64 b, .int .i64 c, .int .i64 d].toArray F fun r _ => r = .agg #[.int .i64 a, .int .i64 b, .int .i64 c, .int .i64 d] := by
 refine Ok.intro Tryz.func66 rfl Tryz.ntmps66 rfl fun w0 => Ac <| Aj fun ds => A5 rfl <| AF JC rfl fun b1 hb1 nb1 => Al <| Ab <| Ax (Ag 4) fun ds => Ad rfl (Bg bt_79 (.cons Aa rfl (.cons Aa rfl (.cons Aa rfl (.cons Aa rfl .nil)))) (.cons rfl rfl (Nat.le_of_ble_eq_true rfl) (.cons (.here) .nil) (.cons rfl rfl (Nat.le_of_ble_eq_true rfl) (.cons (.next <| .here) .nil) (.cons rfl rfl (Nat.le_of_ble_eq_true rfl) (.cons (.next <| .next <| .here) .nil) (.cons rfl rfl (Nat.le_of_ble_eq_true rfl) (.cons (.next <| .next <| .next <| .here) .nil) .nil))))) <| AZ <| AC Mm Aa Aa (i := 0) rfl rfl rfl rfl (by simp [Value.oneCell']) (.here) <| Al <| Ab <| Au <| Am rfl (.agg Hq Aa rfl rfl (Bj 0 rfl) .nil) ?_
 rfl
theorem Rb {F : Heap} {n : Nat} (hn : n ≤ seats3.length) : Ok Tryz.prog 34 [.int .i64 (n : Int)].toArray F fun u F' => ∃ vb vr vs vq, u = .agg #[vb, vr, vs, vq] ∧ RoomR F' vb vr vs vq (roomX n) := by
 refine Ok.intro Tryz.func34 rfl Tryz.ntmps34 rfl fun w0 => Ac <| Aj fun ds => A5 rfl <| AF JE rfl fun b1 hb1 nb1 => Al <| Ab <| Ac ?_
 refine PF 23 (.inl rfl) (fun _ _ h => h) (by kernel_rfl) (by kernel_rfl) true rfl ([fun F v => v = .agg #[.int .i64 40, .int .i64 60], fun F v => v = .agg (Book.enc bkA).toArray, fun F v => v = .agg #[.int .i64 10, .int .i64 10], fun F v => v = .agg (Book.enc bkP).toArray, fun F v => v = .agg #[.int .i64 200, .int .i64 200], fun F v => v = .agg (Book.enc bkN).toArray, fun F v => Sl F v 5 Book.enc [bkA, bkP, bkN], fun F v => v = .agg (Rdr.enc rdA).toArray, fun F v => v = .agg (Rdr.enc rdB).toArray, fun F v => Sl F v 2 Rdr.enc [rdA, rdB], fun F v => v = .agg (Seat.enc ⟨10, false⟩).toArray, fun F v => v = .agg (Seat.enc ⟨4, true⟩).toArray, fun F v => v = .agg (Seat.enc ⟨5, false⟩).toArray, fun F v => Sl F v 2 Seat.enc seats3, fun F v => v = .int .i64 (n : Int), fun F v => Sl F v 2 Seat.enc (seats3.take n), fun F v => v = .agg #[.int .i64 0, .int .i64 0, .int .i64 6, .int .i64 20], fun F v => v = .agg #[.int .i64 1, .int .i64 1, .int .i64 2, .int .i64 30], fun F v => v = .agg #[.int .i64 0, .int .i64 2, .int .i64 8, .int .i64 10], fun F v => v = .agg #[.int .i64 0, .int .i64 1, .int .i64 1, .int .i64 50], fun F v => v = .agg #[.int .i64 1, .int .i64 0, .int .i64 4, .int .i64 15], fun F v => Sl F v 4 Req.enc reqs5, fun F v => ∃ vb vr vs vq, v = .agg #[vb, vr, vs, vq] ∧ RoomR F vb vr vs vq (roomX n)]) (⟨fun F F2 v hF h => h, fun F F2 v hF h => h, fun F F2 v hF h => h, fun F F2 v hF h => h, fun F F2 v hF h => h, fun F F2 v hF h => h, fun F F2 v hF h => h.mono hF, fun F F2 v hF h => h, fun F F2 v hF h => h, fun F F2 v hF h => h.mono hF, fun F F2 v hF h => h, fun F F2 v hF h => h, fun F F2 v hF h => h, fun F F2 v hF h => h.mono hF, fun F F2 v hF h => h, fun F F2 v hF h => h.mono hF, fun F F2 v hF h => h, fun F F2 v hF h => h, fun F F2 v hF h => h, fun F F2 v hF h => h, fun F F2 v hF h => h, fun F F2 v hF h => h.mono hF, fun F F2 v hF h => h.imp fun vb h => h.imp fun vr h => h.imp fun vs h => h.imp fun vq h => ⟨h.1, h.2.mono hF⟩, trivial⟩) (fun ds => ?_) (fun ds => ?_)
 ·refine ⟨⟨⟨⟨⟨⟨⟨⟨⟨⟨⟨⟨⟨⟨⟨⟨⟨⟨⟨⟨⟨⟨⟨trivial, ?_⟩, ?_⟩, ?_⟩, ?_⟩, ?_⟩, ?_⟩, ?_⟩, ?_⟩, ?_⟩, ?_⟩, ?_⟩, ?_⟩, ?_⟩, ?_⟩, ?_⟩, ?_⟩, ?_⟩, ?_⟩, ?_⟩, ?_⟩, ?_⟩, ?_⟩, ?_⟩
  ·intro e1 F1 hF1 he hj
   refine ⟨_, _, _, _, _, rfl, ?_⟩
   refine AI (As MT Aa AO (GB _ _) (fun _ _ h => h)) ⟨_, rfl, Heap.le_refl _, rfl⟩
  ·intro e1 F1 hF1 he hj
   have g3 : (e1 3) = .agg #[.int .i64 40, .int .i64 60] := hj 0 (by kernel_rfl) (by decide)
   refine ⟨_, _, _, _, _, rfl, ?_⟩
   refine AI (Bg Ve (.cons Aa rfl (.cons Aa rfl (.cons (Cr g3) rfl (.cons Aa rfl .nil)))) (.cons rfl rfl (Nat.le_of_ble_eq_true rfl) (.cons (.here) .nil) (.cons rfl rfl (Nat.le_of_ble_eq_true rfl) (.cons (.next <| .here) .nil) (.cons rfl rfl (Nat.le_of_ble_eq_true rfl) (.cons (.next <| .next <| .here) (.cons (.next <| .next <| .next <| .here) .nil)) (.cons rfl rfl (Nat.le_of_ble_eq_true rfl) (.cons (.next <| .next <| .next <| .next <| .here) .nil) .nil))))).quiet ⟨_, rfl, Heap.le_refl _, rfl⟩
  ·intro e1 F1 hF1 he hj
   have g3 : (e1 3) = .agg #[.int .i64 40, .int .i64 60] := hj 0 (by kernel_rfl) (by decide)
   refine ⟨_, _, _, _, _, rfl, ?_⟩
   refine AI (As MT Aa AO (GB _ _) (fun _ _ h => h)) ⟨_, rfl, Heap.le_refl _, rfl⟩
  ·intro e1 F1 hF1 he hj
   have g5 : (e1 5) = .agg #[.int .i64 10, .int .i64 10] := hj 2 (by kernel_rfl) (by decide)
   refine ⟨_, _, _, _, _, rfl, ?_⟩
   refine AI (Bg Ve (.cons Aa rfl (.cons Aa rfl (.cons (Cr g5) rfl .nil))) (.cons rfl rfl (Nat.le_of_ble_eq_true rfl) (.cons (.here) .nil) (.cons rfl rfl (Nat.le_of_ble_eq_true rfl) (.cons (.next <| .here) .nil) (.cons rfl rfl (Nat.le_of_ble_eq_true rfl) (.cons (.next <| .next <| .here) (.cons (.next <| .next <| .next <| .here) .nil)) .nil)))).quiet ⟨_, rfl, Heap.le_refl _, rfl⟩
  ·intro e1 F1 hF1 he hj
   have g5 : (e1 5) = .agg #[.int .i64 10, .int .i64 10] := hj 2 (by kernel_rfl) (by decide)
   refine ⟨_, _, _, _, _, rfl, ?_⟩
   refine AI (As MT Aa AO (GB _ _) (fun _ _ h => h)) ⟨_, rfl, Heap.le_refl _, rfl⟩
  ·intro e1 F1 hF1 he hj
   have g7 : (e1 7) = .agg #[.int .i64 200, .int .i64 200] := hj 4 (by kernel_rfl) (by decide)
   refine ⟨_, _, _, _, _, rfl, ?_⟩
   refine AI (Bg Ve (.cons Aa rfl (.cons Aa rfl (.cons (Cr g7) rfl .nil))) (.cons rfl rfl (Nat.le_of_ble_eq_true rfl) (.cons (.here) .nil) (.cons rfl rfl (Nat.le_of_ble_eq_true rfl) (.cons (.next <| .here) .nil) (.cons rfl rfl (Nat.le_of_ble_eq_true rfl) (.cons (.next <| .next <| .here) (.cons (.next <| .next <| .next <| .here) .nil)) .nil)))).quiet ⟨_, rfl, Heap.le_refl _, rfl⟩
  ·intro e1 F1 hF1 he hj
   have g4 : (e1 4) = .agg (Book.enc bkA).toArray := hj 1 (by kernel_rfl) (by decide)
   have g6 : (e1 6) = .agg (Book.enc bkP).toArray := hj 3 (by kernel_rfl) (by decide)
   have g8 : (e1 8) = .agg (Book.enc bkN).toArray := hj 5 (by kernel_rfl) (by decide)
   refine ⟨_, _, _, _, _, rfl, ?_⟩
   refine EL (B0 (offs := [(0, 5), (5, 5), (10, 5)]) (zl := [.string ⟨#[]⟩, .int .i64 0, .int .i64 0, .int .i64 0, .bool false, .string ⟨#[]⟩, .int .i64 0, .int .i64 0, .int .i64 0, .bool false, .string ⟨#[]⟩, .int .i64 0, .int .i64 0, .int .i64 0, .bool false]) B4 D8 rfl (.cons (Cr g4) rfl (.cons (Cr g6) rfl (.cons (Cr g8) rfl .nil))) (by intro i p h; rcases i with _ | _ | _ | i <;> simp at h <;> subst h <;> rfl) (.cons rfl rfl (Nat.le_of_ble_eq_true rfl) (.cons (.here) (.cons (.next <| .here) (.cons (.next <| .next <| .here) (.cons (.next <| .next <| .next <| .here) (.cons (.next <| .next <| .next <| .next <| .here) .nil))))) (.cons rfl rfl (Nat.le_of_ble_eq_true rfl) (.cons (.next <| .next <| .next <| .next <| .next <| .here) (.cons (.next <| .next <| .next <| .next <| .next <| .next <| .here) (.cons (.next <| .next <| .next <| .next <| .next <| .next <| .next <| .here) (.cons (.next <| .next <| .next <| .next <| .next <| .next <| .next <| .next <| .here) (.cons (.next <| .next <| .next <| .next <| .next <| .next <| .next <| .next <| .next <| .here) .nil))))) (.cons rfl rfl (Nat.le_of_ble_eq_true rfl) (.cons (.next <| .next <| .next <| .next <| .next <| .next <| .next <| .next <| .next <| .next <| .here) (.cons (.next <| .next <| .next <| .next <| .next <| .next <| .next <| .next <| .next <| .next <| .next <| .here) (.cons (.next <| .next <| .next <| .next <| .next <| .next <| .next <| .next <| .next <| .next <| .next <| .next <| .here) (.cons (.next <| .next <| .next <| .next <| .next <| .next <| .next <| .next <| .next <| .next <| .next <| .next <| .next <| .here) (.cons (.next <| .next <| .next <| .next <| .next <| .next <| .next <| .next <| .next <| .next <| .next <| .next <| .next <| .next <| .here) .nil))))) .nil))) (by decide) (by decide) fun b hb nb => ⟨b, _, hb, rfl, fun F2 hF2 hz => ⟨F2, rfl, hF2, (D0 (xs := [bkA, bkP, bkN]) hz rfl rfl (fun _ => rfl) (by decide))⟩⟩)
  ·intro e1 F1 hF1 he hj
   refine ⟨_, _, _, _, _, rfl, ?_⟩
   refine AI (Bg Vg (.cons Aa rfl (.cons Aa rfl .nil)) (.cons rfl rfl (Nat.le_of_ble_eq_true rfl) (.cons (.here) .nil) (.cons rfl rfl (Nat.le_of_ble_eq_true rfl) (.cons (.next <| .here) .nil) .nil))).quiet ⟨_, rfl, Heap.le_refl _, rfl⟩
  ·intro e1 F1 hF1 he hj
   refine ⟨_, _, _, _, _, rfl, ?_⟩
   refine AI (Bg Vg (.cons Aa rfl (.cons Aa rfl .nil)) (.cons rfl rfl (Nat.le_of_ble_eq_true rfl) (.cons (.here) .nil) (.cons rfl rfl (Nat.le_of_ble_eq_true rfl) (.cons (.next <| .here) .nil) .nil))).quiet ⟨_, rfl, Heap.le_refl _, rfl⟩
  ·intro e1 F1 hF1 he hj
   have g10 : (e1 10) = .agg (Rdr.enc rdA).toArray := hj 7 (by kernel_rfl) (by decide)
   have g11 : (e1 11) = .agg (Rdr.enc rdB).toArray := hj 8 (by kernel_rfl) (by decide)
   refine ⟨_, _, _, _, _, rfl, ?_⟩
   refine EL (B0 (offs := [(0, 2), (2, 2)]) (zl := [.string ⟨#[]⟩, .int .i64 0, .string ⟨#[]⟩, .int .i64 0]) CM MV rfl (.cons (Cr g10) rfl (.cons (Cr g11) rfl .nil)) (by intro i p h; rcases i with _ | _ | i <;> simp at h <;> subst h <;> rfl) (.cons rfl rfl (Nat.le_of_ble_eq_true rfl) (.cons (.here) (.cons (.next <| .here) .nil)) (.cons rfl rfl (Nat.le_of_ble_eq_true rfl) (.cons (.next <| .next <| .here) (.cons (.next <| .next <| .next <| .here) .nil)) .nil)) (by decide) (by decide) fun b hb nb => ⟨b, _, hb, rfl, fun F2 hF2 hz => ⟨F2, rfl, hF2, (D0 (xs := [rdA, rdB]) hz rfl rfl (fun _ => rfl) (by decide))⟩⟩)
  ·intro e1 F1 hF1 he hj
   refine ⟨_, _, _, _, _, rfl, ?_⟩
   refine AI (Bg Vc (.cons Aa rfl .nil) (.cons rfl rfl (Nat.le_of_ble_eq_true rfl) (.cons (.here) .nil) .nil)).quiet ⟨_, rfl, Heap.le_refl _, rfl⟩
  ·intro e1 F1 hF1 he hj
   refine ⟨_, _, _, _, _, rfl, ?_⟩
   refine AI (Bg Vc (.cons Aa rfl (.cons Aa rfl .nil)) (.cons rfl rfl (Nat.le_of_ble_eq_true rfl) (.cons (.here) .nil) (.cons rfl rfl (Nat.le_of_ble_eq_true rfl) (.cons (.next <| .here) .nil) .nil))).quiet ⟨_, rfl, Heap.le_refl _, rfl⟩
  ·intro e1 F1 hF1 he hj
   refine ⟨_, _, _, _, _, rfl, ?_⟩
   refine AI (Bg Vc (.cons Aa rfl .nil) (.cons rfl rfl (Nat.le_of_ble_eq_true rfl) (.cons (.here) .nil) .nil)).quiet ⟨_, rfl, Heap.le_refl _, rfl⟩
  ·intro e1 F1 hF1 he hj
   have g13 : (e1 13) = .agg (Seat.enc ⟨10, false⟩).toArray := hj 10 (by kernel_rfl) (by decide)
   have g14 : (e1 14) = .agg (Seat.enc ⟨4, true⟩).toArray := hj 11 (by kernel_rfl) (by decide)
   have g15 : (e1 15) = .agg (Seat.enc ⟨5, false⟩).toArray := hj 12 (by kernel_rfl) (by decide)
   refine ⟨_, _, _, _, _, rfl, ?_⟩
   refine EL (B0 (offs := [(0, 2), (2, 2), (4, 2)]) (zl := [.int .i64 0, .bool false, .int .i64 0, .bool false, .int .i64 0, .bool false]) Dt NO rfl (.cons (Cr g13) rfl (.cons (Cr g14) rfl (.cons (Cr g15) rfl .nil))) (by intro i p h; rcases i with _ | _ | _ | i <;> simp at h <;> subst h <;> rfl) (.cons rfl rfl (Nat.le_of_ble_eq_true rfl) (.cons (.here) (.cons (.next <| .here) .nil)) (.cons rfl rfl (Nat.le_of_ble_eq_true rfl) (.cons (.next <| .next <| .here) (.cons (.next <| .next <| .next <| .here) .nil)) (.cons rfl rfl (Nat.le_of_ble_eq_true rfl) (.cons (.next <| .next <| .next <| .next <| .here) (.cons (.next <| .next <| .next <| .next <| .next <| .here) .nil)) .nil))) (by decide) (by decide) fun b hb nb => ⟨b, _, hb, rfl, fun F2 hF2 hz => ⟨F2, rfl, hF2, (D0 (xs := seats3) hz rfl rfl (fun _ => rfl) (by decide))⟩⟩)
  ·intro e1 F1 hF1 he hj
   refine ⟨_, _, _, _, _, rfl, ?_⟩
   refine AI (A0 (CY (DM he (by kernel_rfl)) <| Ct rfl <| HE rfl)).quiet ⟨_, rfl, Heap.le_refl _, rfl⟩
  ·intro e1 F1 hF1 he hj
   have g16 : Sl F1 (e1 16) 2 Seat.enc seats3 := hj 13 (by kernel_rfl) (by decide)
   have g17 : (e1 17) = .int .i64 (n : Int) := hj 14 (by kernel_rfl) (by decide)
   refine ⟨_, _, _, _, _, rfl, ?_⟩
   refine AI (D9 Dt (Cr rfl) g16.plain (Cr g17) (k := n) rfl hn).quiet ⟨_, rfl, Heap.le_refl _, (g16.to (k := n) hn)⟩
  ·intro e1 F1 hF1 he hj
   have g7 : (e1 7) = .agg #[.int .i64 200, .int .i64 200] := hj 4 (by kernel_rfl) (by decide)
   refine ⟨_, _, _, _, _, rfl, ?_⟩
   refine AI (As P5 Aa AO (EA _ _ _ _) (fun _ _ h => h)) ⟨_, rfl, Heap.le_refl _, rfl⟩
  ·intro e1 F1 hF1 he hj
   have g19 : (e1 19) = .agg #[.int .i64 0, .int .i64 0, .int .i64 6, .int .i64 20] := hj 16 (by kernel_rfl) (by decide)
   refine ⟨_, _, _, _, _, rfl, ?_⟩
   refine AI (As P5 Aa AO (EA _ _ _ _) (fun _ _ h => h)) ⟨_, rfl, Heap.le_refl _, rfl⟩
  ·intro e1 F1 hF1 he hj
   have g20 : (e1 20) = .agg #[.int .i64 1, .int .i64 1, .int .i64 2, .int .i64 30] := hj 17 (by kernel_rfl) (by decide)
   refine ⟨_, _, _, _, _, rfl, ?_⟩
   refine AI (As P5 Aa AO (EA _ _ _ _) (fun _ _ h => h)) ⟨_, rfl, Heap.le_refl _, rfl⟩
  ·intro e1 F1 hF1 he hj
   have g21 : (e1 21) = .agg #[.int .i64 0, .int .i64 2, .int .i64 8, .int .i64 10] := hj 18 (by kernel_rfl) (by decide)
   refine ⟨_, _, _, _, _, rfl, ?_⟩
   refine AI (As P5 Aa AO (EA _ _ _ _) (fun _ _ h => h)) ⟨_, rfl, Heap.le_refl _, rfl⟩
  ·intro e1 F1 hF1 he hj
   have g22 : (e1 22) = .agg #[.int .i64 0, .int .i64 1, .int .i64 1, .int .i64 50] := hj 19 (by kernel_rfl) (by decide)
   refine ⟨_, _, _, _, _, rfl, ?_⟩
   refine AI (As P5 Aa AO (EA _ _ _ _) (fun _ _ h => h)) ⟨_, rfl, Heap.le_refl _, rfl⟩
  ·intro e1 F1 hF1 he hj
   have g19 : (e1 19) = .agg #[.int .i64 0, .int .i64 0, .int .i64 6, .int .i64 20] := hj 16 (by kernel_rfl) (by decide)
   have g20 : (e1 20) = .agg #[.int .i64 1, .int .i64 1, .int .i64 2, .int .i64 30] := hj 17 (by kernel_rfl) (by decide)
   have g21 : (e1 21) = .agg #[.int .i64 0, .int .i64 2, .int .i64 8, .int .i64 10] := hj 18 (by kernel_rfl) (by decide)
   have g22 : (e1 22) = .agg #[.int .i64 0, .int .i64 1, .int .i64 1, .int .i64 50] := hj 19 (by kernel_rfl) (by decide)
   have g23 : (e1 23) = .agg #[.int .i64 1, .int .i64 0, .int .i64 4, .int .i64 15] := hj 20 (by kernel_rfl) (by decide)
   refine ⟨_, _, _, _, _, rfl, ?_⟩
   refine EL (B0 (offs := [(0, 4), (4, 4), (8, 4), (12, 4), (16, 4)]) (zl := [.int .i64 0, .int .i64 0, .int .i64 0, .int .i64 0, .int .i64 0, .int .i64 0, .int .i64 0, .int .i64 0, .int .i64 0, .int .i64 0, .int .i64 0, .int .i64 0, .int .i64 0, .int .i64 0, .int .i64 0, .int .i64 0, .int .i64 0, .int .i64 0, .int .i64 0, .int .i64 0]) Cw JC rfl (.cons (Cr g19) rfl (.cons (Cr g20) rfl (.cons (Cr g21) rfl (.cons (Cr g22) rfl (.cons (Cr g23) rfl .nil))))) (by intro i p h; rcases i with _ | _ | _ | _ | _ | i <;> simp at h <;> subst h <;> rfl) (.cons rfl rfl (Nat.le_of_ble_eq_true rfl) (.cons (.here) (.cons (.next <| .here) (.cons (.next <| .next <| .here) (.cons (.next <| .next <| .next <| .here) .nil)))) (.cons rfl rfl (Nat.le_of_ble_eq_true rfl) (.cons (.next <| .next <| .next <| .next <| .here) (.cons (.next <| .next <| .next <| .next <| .next <| .here) (.cons (.next <| .next <| .next <| .next <| .next <| .next <| .here) (.cons (.next <| .next <| .next <| .next <| .next <| .next <| .next <| .here) .nil)))) (.cons rfl rfl (Nat.le_of_ble_eq_true rfl) (.cons (.next <| .next <| .next <| .next <| .next <| .next <| .next <| .next <| .here) (.cons (.next <| .next <| .next <| .next <| .next <| .next <| .next <| .next <| .next <| .here) (.cons (.next <| .next <| .next <| .next <| .next <| .next <| .next <| .next <| .next <| .next <| .here) (.cons (.next <| .next <| .next <| .next <| .next <| .next <| .next <| .next <| .next <| .next <| .next <| .here) .nil)))) (.cons rfl rfl (Nat.le_of_ble_eq_true rfl) (.cons (.next <| .next <| .next <| .next <| .next <| .next <| .next <| .next <| .next <| .next <| .next <| .next <| .here) (.cons (.next <| .next <| .next <| .next <| .next <| .next <| .next <| .next <| .next <| .next <| .next <| .next <| .next <| .here) (.cons (.next <| .next <| .next <| .next <| .next <| .next <| .next <| .next <| .next <| .next <| .next <| .next <| .next <| .next <| .here) (.cons (.next <| .next <| .next <| .next <| .next <| .next <| .next <| .next <| .next <| .next <| .next <| .next <| .next <| .next <| .next <| .here) .nil)))) (.cons rfl rfl (Nat.le_of_ble_eq_true rfl) (.cons (.next <| .next <| .next <| .next <| .next <| .next <| .next <| .next <| .next <| .next <| .next <| .next <| .next <| .next <| .next <| .next <| .here) (.cons (.next <| .next <| .next <| .next <| .next <| .next <| .next <| .next <| .next <| .next <| .next <| .next <| .next <| .next <| .next <| .next <| .next <| .here) (.cons (.next <| .next <| .next <| .next <| .next <| .next <| .next <| .next <| .next <| .next <| .next <| .next <| .next <| .next <| .next <| .next <| .next <| .next <| .here) (.cons (.next <| .next <| .next <| .next <| .next <| .next <| .next <| .next <| .next <| .next <| .next <| .next <| .next <| .next <| .next <| .next <| .next <| .next <| .next <| .here) .nil)))) .nil))))) (by decide) (by decide) fun b hb nb => ⟨b, _, hb, rfl, fun F2 hF2 hz => ⟨F2, rfl, hF2, (D0 (xs := reqs5) hz rfl rfl (fun _ => rfl) (by decide))⟩⟩)
  intro e1 F1 hF1 he hj
  have g9 : Sl F1 (e1 9) 5 Book.enc [bkA, bkP, bkN] := hj 6 (by kernel_rfl) (by decide)
  have g12 : Sl F1 (e1 12) 2 Rdr.enc [rdA, rdB] := hj 9 (by kernel_rfl) (by decide)
  have g18 : Sl F1 (e1 18) 2 Seat.enc (seats3.take n) := hj 15 (by kernel_rfl) (by decide)
  have g24 : Sl F1 (e1 24) 4 Req.enc reqs5 := hj 21 (by kernel_rfl) (by decide)
  refine ⟨_, _, _, _, _, rfl, ?_⟩
  refine AI (Bg bt_31 (.cons (Cr rfl) (Cb g9.plain.one) (.cons (Cr rfl) (Cb g12.plain.one) (.cons (Cr rfl) (Cb g18.plain.one) (.cons (Cr rfl) (Cb g24.plain.one) .nil)))) (.cons rfl rfl (Nat.le_of_ble_eq_true rfl) (.cons (.here) .nil) (.cons rfl rfl (Nat.le_of_ble_eq_true rfl) (.cons (.next <| .here) .nil) (.cons rfl rfl (Nat.le_of_ble_eq_true rfl) (.cons (.next <| .next <| .here) .nil) (.cons rfl rfl (Nat.le_of_ble_eq_true rfl) (.cons (.next <| .next <| .next <| .here) .nil) .nil))))).quiet ⟨_, rfl, Heap.le_refl _, ⟨_, _, _, _, rfl, ⟨g9, g12, g18, g24⟩⟩⟩
 intro e5 F2 hF3 he4 hj
 have g3 : (e5 3) = .agg #[.int .i64 40, .int .i64 60] := hj 0 (by decide)
 have g4 : (e5 4) = .agg (Book.enc bkA).toArray := hj 1 (by decide)
 have g5 : (e5 5) = .agg #[.int .i64 10, .int .i64 10] := hj 2 (by decide)
 have g6 : (e5 6) = .agg (Book.enc bkP).toArray := hj 3 (by decide)
 have g7 : (e5 7) = .agg #[.int .i64 200, .int .i64 200] := hj 4 (by decide)
 have g8 : (e5 8) = .agg (Book.enc bkN).toArray := hj 5 (by decide)
 have g9 : Sl F2 (e5 9) 5 Book.enc [bkA, bkP, bkN] := hj 6 (by decide)
 have g10 : (e5 10) = .agg (Rdr.enc rdA).toArray := hj 7 (by decide)
 have g11 : (e5 11) = .agg (Rdr.enc rdB).toArray := hj 8 (by decide)
 have g12 : Sl F2 (e5 12) 2 Rdr.enc [rdA, rdB] := hj 9 (by decide)
 have g13 : (e5 13) = .agg (Seat.enc ⟨10, false⟩).toArray := hj 10 (by decide)
 have g14 : (e5 14) = .agg (Seat.enc ⟨4, true⟩).toArray := hj 11 (by decide)
 have g15 : (e5 15) = .agg (Seat.enc ⟨5, false⟩).toArray := hj 12 (by decide)
 have g16 : Sl F2 (e5 16) 2 Seat.enc seats3 := hj 13 (by decide)
 have g17 : (e5 17) = .int .i64 (n : Int) := hj 14 (by decide)
 have g18 : Sl F2 (e5 18) 2 Seat.enc (seats3.take n) := hj 15 (by decide)
 have g19 : (e5 19) = .agg #[.int .i64 0, .int .i64 0, .int .i64 6, .int .i64 20] := hj 16 (by decide)
 have g20 : (e5 20) = .agg #[.int .i64 1, .int .i64 1, .int .i64 2, .int .i64 30] := hj 17 (by decide)
 have g21 : (e5 21) = .agg #[.int .i64 0, .int .i64 2, .int .i64 8, .int .i64 10] := hj 18 (by decide)
 have g22 : (e5 22) = .agg #[.int .i64 0, .int .i64 1, .int .i64 1, .int .i64 50] := hj 19 (by decide)
 have g23 : (e5 23) = .agg #[.int .i64 1, .int .i64 0, .int .i64 4, .int .i64 15] := hj 20 (by decide)
 have g24 : Sl F2 (e5 24) 4 Req.enc reqs5 := hj 21 (by decide)
 have g25 : ∃ vb vr vs vq, (e5 25) = .agg #[vb, vr, vs, vq] ∧ RoomR F2 vb vr vs vq (roomX n) := hj 22 (by decide)
 obtain ⟨vb, vr, vs, vq, g25, hrm⟩ := g25
 refine ⟨_, _, _, _, rfl, ?_⟩
 refine AC KJ (CY (DM he4 (by kernel_rfl)) <| Bn) (Cr g25) (i := 0) rfl rfl rfl rfl hrm.ones (.here) <| Ab <| Au <| Am rfl (.agg G5 (CY (DM he4 (by kernel_rfl)) <| Bn) rfl rfl (Bj 0 rfl) .nil) ?_
 exact ⟨_, _, _, _, rfl, hrm⟩
end
section
open Go.RowKit
theorem ev_w1 : whyE (roomX 3) 0 0 = (3, 0) := by kernel_rfl
theorem ev_w2 : whyE (roomX 3) 3 1 = (1, 0) := by kernel_rfl
theorem ev_c1 : canV (roomX 3) [0, 1] = .tuple #[.bool true, .int .i64 0] := by kernel_rfl
theorem ev_c2 : canV (roomX 3) [0, 4] = .tuple #[.bool false, .int .i64 0] := by kernel_rfl
theorem ev_s1 : seatsE (roomX 3) [1, 2] = ([2, 1], 42, 0) := by kernel_rfl
theorem ev_l1 : leftE (roomX 3) [0, 1] [2, 1] = ([(10, 30), (2, 2), (200, 200)], 0) := by kernel_rfl
theorem ev_t1 : turnE (roomX 3) = ([0, 1], 0) := by kernel_rfl
theorem ev_b1 : bestE (roomX 3) = ([0, 1], 50, 0) := by kernel_rfl
theorem ev_g1 : givesE (roomX 3) [0, 1] 4 = ([0, 1], 0) := by kernel_rfl
theorem ev_g2 : givesE (roomX 3) [0, 1] 3 = ([], 9) := by kernel_rfl
theorem ev_a1 : askE (roomX 1) = (0, 5, 0) := by kernel_rfl
end
section
set_option maxRecDepth 100000
open Go.RowKit
theorem bd_35 : Body Tryz.prog 35 := AB (by kernel_rfl)
theorem Sf : Body Tryz.prog 11 := AB (by kernel_rfl)
theorem bd_36 : Body Tryz.prog 36 := AB (by kernel_rfl)
theorem G0 : Body Tryz.prog 32 := AB (by kernel_rfl)
theorem bd_37 : Body Tryz.prog 37 := AB (by kernel_rfl)
theorem bd_41 : Body Tryz.prog 41 := AB (by kernel_rfl)
theorem bd_38 : Body Tryz.prog 38 := AB (by kernel_rfl)
theorem V1 : Body Tryz.prog 12 := AB (by kernel_rfl)
theorem bd_39 : Body Tryz.prog 39 := AB (by kernel_rfl)
theorem bd_40 : Body Tryz.prog 40 := AB (by kernel_rfl)
theorem bd_34 : Body Tryz.prog 34 := AB (by kernel_rfl)
theorem PM {F : Heap} {b T : Nat} {a1 a2 b1 b2 c1 c2 : Int} (h : F b = some (bx T [.int .i64 a1, .int .i64 a2, .int .i64 b1, .int .i64 b2, .int .i64 c1, .int .i64 c2])) : Sl F (.slice (some ⟨b, 0, none⟩) 3 3) 2 spanE [(a1, a2), (b1, b2), (c1, c2)] :=
 D0 (xs := [(a1, a2), (b1, b2), (c1, c2)]) h rfl rfl (fun _ => rfl) (by decide)
theorem HZ {F : Heap} : Ok Tryz.prog 7 [].toArray F fun u _ => u = .bool true := by
 refine Ok.intro Tryz.func7 rfl Tryz.ntmps7 rfl fun w0 => AD (Ag 1) <| Ac <| Aj fun ds => A5 rfl <| Bb bd_34 Aa AO (Rb (n := 3) (by decide)) fun v1 F2 hr3 hF4 => ?_
 obtain ⟨vb, vr, vs, vq, rfl, hrm⟩ := hr3
 refine A5 rfl <| AF JE rfl fun b5 hb5 nb5 => AZ <| AC KJ Aa Aa (i := 0) rfl rfl rfl rfl hrm.ones (.here) <| Al <| Ab <| Ax (Ag 1) fun ds => AE rfl (As bd_35 Aa AO (KA hrm 0 0) (fun _ _ h => h.trans (show pairV (whyE (roomX 3) 0 0) = .tuple #[.int .i64 3, .int .i64 0] by rw [ev_w1]; first | done | rfl))) <| Aw (Ag 5) <| Ax (Ag 1) fun ds => AE rfl (As bd_35 Aa AO (KA hrm 3 1) (fun _ _ h => h.trans (show pairV (whyE (roomX 3) 3 1) = .tuple #[.int .i64 1, .int .i64 0] by rw [ev_w2]; first | done | rfl))) <| Aw (Ag 5) <| Ax (Ag 1) fun ds => A5 rfl <| AS AR B3 rfl (.cons Aa (.cons Aa .nil)) rfl rfl (by decide) (by simp [Value.oneCell']) fun b6 hb6 nb6 => AQ (i := 0) rfl hb6 .here fun F7 hF8 hz9 => ?_
 replace hrm := hrm.mono hF8
 have hsl10 := C5 hz9
 refine AE rfl (As Sf Aa AO (FM hrm hsl10) (fun _ _ h => h.trans (show canV (roomX 3) [0, 1] = .tuple #[.bool true, .int .i64 0] from ev_c1))) <| Aw (Ag 5) <| Ax (Ag 1) fun ds => A5 rfl <| AS AR B3 rfl (.cons Aa (.cons Aa .nil)) rfl rfl (by decide) (by simp [Value.oneCell']) fun b11 hb11 nb11 => AQ (i := 0) rfl hb11 .here fun F12 hF13 hz14 => ?_
 replace hrm := hrm.mono hF13
 have hsl15 := C5 hz14
 refine AE rfl (As Sf Aa AO (FM hrm hsl15) (fun _ _ h => h.trans (show canV (roomX 3) [0, 4] = .tuple #[.bool false, .int .i64 0] from ev_c2))) <| Aw (Ag 5) <| Ax (Ag 1) fun ds => A5 rfl <| AS AR B3 rfl (.cons Aa (.cons Aa .nil)) rfl rfl (by decide) (by simp [Value.oneCell']) fun b16 hb16 nb16 => AQ (i := 0) rfl hb16 .here fun F17 hF18 hz19 => ?_
 replace hrm := hrm.mono hF18
 have hsl20 := C5 hz19
 refine A5 rfl <| Bb bd_36 Aa AO ((Nb hrm hsl20).mono fun u F2 _ h => (by rw [ev_s1] at h; exact h : ∃ ws, u = .tuple #[ws, .int .i64 42, .int .i64 0] ∧ Nats F2 ws [2, 1])) fun v21 F22 hr23 hF24 => ?_
 replace hrm := hrm.mono hF24
 obtain ⟨hq1_, rfl, hq1⟩ := hr23
 refine Aw (Ag 7) <| Ax (Ag 1) fun ds => A5 rfl <| AS AR B3 rfl (.cons Aa (.cons Aa .nil)) rfl rfl (by decide) (by simp [Value.oneCell']) fun b25 hb25 nb25 => AQ (i := 0) rfl hb25 .here fun F26 hF27 hz28 => ?_
 replace hrm := hrm.mono hF27
 replace hq1 := hq1.mono hF27
 have hsl29 := C5 hz28
 refine A5 rfl <| AS AR B3 rfl (.cons Aa (.cons Aa .nil)) rfl rfl (by decide) (by simp [Value.oneCell']) fun b30 hb30 nb30 => AQ (i := 0) rfl hb30 .here fun F31 hF32 hz33 => ?_
 replace hrm := hrm.mono hF32
 replace hq1 := hq1.mono hF32
 replace hsl29 := hsl29.mono hF32
 have hsl34 := C5 hz33
 refine A5 rfl <| Bb bd_37 Aa AO ((OQ hrm hsl29 hsl34).mono fun u F2 _ h => (by rw [ev_l1] at h; exact h : ∃ ws, u = .tuple #[ws, .int .i64 0] ∧ Sl F2 ws 2 spanE [(10, 30), (2, 2), (200, 200)])) fun v35 F36 hr37 hF38 => ?_
 replace hrm := hrm.mono hF38
 replace hq1 := hq1.mono hF38
 obtain ⟨hq2_, rfl, hq2⟩ := hr37
 refine Aw (Ag 5) <| Ax (Ag 1) fun ds => A5 rfl <| Bb bd_38 Aa AO ((NU hrm).mono fun u F2 _ h => (by rw [ev_t1] at h; exact h : ∃ ws, u = .tuple #[ws, .int .i64 0] ∧ Nats F2 ws [0, 1])) fun v39 F40 hr41 hF42 => ?_
 replace hrm := hrm.mono hF42
 replace hq1 := hq1.mono hF42
 replace hq2 := hq2.mono hF42
 obtain ⟨hq3_, rfl, hq3⟩ := hr41
 refine Aw (Ag 5) <| Ax (Ag 1) fun ds => A5 rfl <| Bb V1 Aa AO ((Gz hrm).mono fun u F2 _ h => (by rw [ev_b1] at h; exact h : ∃ ws, u = .tuple #[ws, .int .i64 50, .int .i64 0] ∧ Nats F2 ws [0, 1])) fun v43 F44 hr45 hF46 => ?_
 replace hrm := hrm.mono hF46
 replace hq1 := hq1.mono hF46
 replace hq2 := hq2.mono hF46
 replace hq3 := hq3.mono hF46
 obtain ⟨hq4_, rfl, hq4⟩ := hr45
 refine Aw (Ag 7) <| Ax (Ag 1) fun ds => A5 rfl <| AS AR B3 rfl (.cons Aa (.cons Aa .nil)) rfl rfl (by decide) (by simp [Value.oneCell']) fun b47 hb47 nb47 => AQ (i := 0) rfl hb47 .here fun F48 hF49 hz50 => ?_
 replace hrm := hrm.mono hF49
 replace hq1 := hq1.mono hF49
 replace hq2 := hq2.mono hF49
 replace hq3 := hq3.mono hF49
 replace hq4 := hq4.mono hF49
 have hsl51 := C5 hz50
 refine A5 rfl <| Bb bd_39 Aa AO ((HH hrm hsl51 4).mono fun u F2 _ h => (by rw [ev_g1] at h; exact h : ∃ ws, u = .tuple #[ws, .int .i64 0] ∧ Nats F2 ws [0, 1])) fun v52 F53 hr54 hF55 => ?_
 replace hrm := hrm.mono hF55
 replace hq1 := hq1.mono hF55
 replace hq2 := hq2.mono hF55
 replace hq3 := hq3.mono hF55
 replace hq4 := hq4.mono hF55
 obtain ⟨hq5_, rfl, hq5⟩ := hr54
 refine Aw (Ag 5) <| Ax (Ag 1) fun ds => A5 rfl <| AS AR B3 rfl (.cons Aa (.cons Aa .nil)) rfl rfl (by decide) (by simp [Value.oneCell']) fun b56 hb56 nb56 => AQ (i := 0) rfl hb56 .here fun F57 hF58 hz59 => ?_
 replace hrm := hrm.mono hF58
 replace hq1 := hq1.mono hF58
 replace hq2 := hq2.mono hF58
 replace hq3 := hq3.mono hF58
 replace hq4 := hq4.mono hF58
 replace hq5 := hq5.mono hF58
 have hsl60 := C5 hz59
 refine A5 rfl <| Bb bd_39 Aa AO ((HH hrm hsl60 3).mono fun u F2 _ h => (by rw [ev_g2] at h; exact h : ∃ ws, u = .tuple #[ws, .int .i64 9] ∧ Nats F2 ws [])) fun v61 F62 hr63 hF64 => ?_
 replace hq1 := hq1.mono hF64
 replace hq2 := hq2.mono hF64
 replace hq3 := hq3.mono hF64
 replace hq4 := hq4.mono hF64
 replace hq5 := hq5.mono hF64
 obtain ⟨hq6_, rfl, hq6⟩ := hr63
 refine Aw (Ag 5) <| Ac <| Aj fun ds => A5 rfl <| Bb bd_34 Aa AO (Rb (n := 1) (by decide)) fun v65 F66 hr67 hF68 => ?_
 replace hq1 := hq1.mono hF68
 replace hq2 := hq2.mono hF68
 replace hq3 := hq3.mono hF68
 replace hq4 := hq4.mono hF68
 replace hq5 := hq5.mono hF68
 obtain ⟨wb, wr, ws, wq, rfl, hrm1⟩ := hr67
 refine AE rfl (As bd_40 Aa AO (QP hrm1) (fun _ _ h => h.trans (show trip (askE (roomX 1)) = .tuple #[.int .i64 0, .int .i64 5, .int .i64 0] by rw [ev_a1]; first | done | rfl))) <| Aw (Ag 7) <| Ac <| Aj fun ds => Ad rfl (A0 Aa) <| Ad rfl (Cd Aa Aa) <| Ad rfl (A0 Aa) <| Ai rfl rfl Aa (by first | rfl | decide) <| Ad rfl (A0 Aa) <| Ai rfl rfl Aa (by first | rfl | decide) <| Ad rfl (Cd Aa Aa) <| Ad rfl (At Aa (by first | rfl | decide) Aa) <| Ad rfl (A0 Aa) <| Ai rfl rfl Aa (by first | rfl | decide) <| Ad rfl (A0 Aa) <| Ai rfl rfl Aa (by first | rfl | decide) <| Ad rfl (Cd Aa Aa) <| Ad rfl (At Aa (by first | rfl | decide) Aa) <| Ad rfl (A0 Aa) <| Ai rfl rfl Aa (by first | rfl | decide) <| Ad rfl (A0 Aa) <| Ai rfl rfl Aa (by first | rfl | decide) <| Ad rfl (Cd Aa Aa) <| Ad rfl (At Aa (by first | rfl | decide) Aa) <| Ad rfl (A0 Aa) <| Ai rfl rfl Aa (by first | rfl | decide) <| Ad rfl (A0 Aa) <| Ai rfl rfl Aa (by first | rfl | decide) <| Ad rfl (Cd Aa Aa) <| Ad rfl (At Aa (by first | rfl | decide) Aa) <| Ad rfl (A0 Aa) <| Ai rfl rfl Aa (by first | rfl | decide) <| Ad rfl (A0 Aa) <| Ai rfl rfl Aa (by first | rfl | decide) <| Ad rfl (Cd Aa Aa) <| Ad rfl (At Aa (by first | rfl | decide) Aa) <| Ad rfl (A0 Aa) <| Ai rfl rfl Aa (by first | rfl | decide) ?_
 refine Ad rfl (A0 Aa) <| Ai rfl rfl Aa (by first | rfl | decide) <| Ad rfl (Cd Aa Aa) <| Ad rfl (At Aa (by first | rfl | decide) Aa) <| Ad rfl (A0 Aa) <| Ai rfl rfl Aa (by first | rfl | decide) <| Ad rfl (A0 Aa) <| Ai rfl rfl Aa (by first | rfl | decide) <| Ad rfl (Cd Aa Aa) <| Ad rfl (At Aa (by first | rfl | decide) Aa) <| Ad rfl (A0 Aa) <| Ai rfl rfl Aa (by first | rfl | decide) <| Ad rfl (A0 Aa) <| Ai rfl rfl Aa (by first | rfl | decide) <| Ad rfl (Cd Aa Aa) <| Ad rfl (At Aa (by first | rfl | decide) Aa) <| Ad rfl (A0 Aa) <| Ai rfl rfl Aa (by first | rfl | decide) <| Ad rfl (A0 Aa) <| Ai rfl rfl Aa (by first | rfl | decide) <| Ad rfl (Cd Aa Aa) <| Ad rfl (At Aa (by first | rfl | decide) Aa) <| Ad rfl (A0 Aa) <| Ai rfl rfl Aa (by first | rfl | decide) <| Ad rfl (A0 Aa) <| Ai rfl rfl Aa (by first | rfl | decide) <| Ad rfl (Cd Aa Aa) <| Ad rfl (At Aa (by first | rfl | decide) Aa) <| Ad rfl (A0 Aa) <| Ai rfl rfl Aa (by first | rfl | decide) <| Ad rfl (A0 Aa) <| Ai rfl rfl Aa (by first | rfl | decide) <| Ad rfl (Cd Aa Aa) <| Ad rfl (At Aa (by first | rfl | decide) Aa) <| Ad rfl (A0 Aa) <| Ai rfl rfl Aa (by first | rfl | decide) <| Ad rfl (A0 Aa) <| Ai rfl rfl Aa (by first | rfl | decide) <| Ad rfl (Cd Aa Aa) ?_
 refine Ad rfl (At Aa (by first | rfl | decide) Aa) <| Ad rfl (A0 Aa) <| Ai rfl rfl Aa (by first | rfl | decide) <| Ad rfl (A0 Aa) <| Ad rfl (At Aa (by first | rfl | decide) Aa) <| Ad rfl (A0 Aa) <| Ai rfl rfl Aa (by first | rfl | decide) <| Ad rfl (A0 Aa) <| Ai rfl rfl Aa (by first | rfl | decide) <| Ad rfl (EQ Aa) <| Ad rfl (At Aa (by first | rfl | decide) Aa) <| Ad rfl (A0 Aa) <| Ai rfl rfl Aa (by first | rfl | decide) <| Ad rfl (A0 Aa) <| Ai rfl rfl Aa (by first | rfl | decide) <| A5 rfl <| AS AR B3 rfl (.cons Aa (.cons Aa .nil)) rfl rfl (by decide) (by simp [Value.oneCell']) fun b69 hb69 nb69 => AQ (i := 0) rfl hb69 .here fun F70 hF71 hz72 => ?_
 replace hq1 := hq1.mono hF71
 replace hq2 := hq2.mono hF71
 replace hq3 := hq3.mono hF71
 replace hq4 := hq4.mono hF71
 replace hq5 := hq5.mono hF71
 have hsl73 := C5 hz72
 refine Ai rfl rfl Aa (by first | rfl | decide) <| AE rfl (As G0 Aa AO (Cy (Nats.ints hq1) hsl73) (fun _ _ h => h)) <| Ad rfl (At Aa (by first | rfl | decide) Aa) <| Ad rfl (A0 Aa) <| Ai rfl rfl Aa (by first | rfl | decide) <| Ad rfl (A0 Aa) <| Ai rfl rfl Aa (by first | rfl | decide) <| Ad rfl (Cd Aa Aa) <| Ad rfl (At Aa (by first | rfl | decide) Aa) <| Ad rfl (A0 Aa) <| Ai rfl rfl Aa (by first | rfl | decide) <| Ad rfl (A0 Aa) <| Ai rfl rfl Aa (by first | rfl | decide) <| AE rfl (As MT Aa AO (GB _ _) (fun _ _ h => h)) <| Ai rfl rfl Aa (by first | rfl | decide) <| AE rfl (As MT Aa AO (GB _ _) (fun _ _ h => h)) <| Ai rfl rfl Aa (by first | rfl | decide) <| AE rfl (As MT Aa AO (GB _ _) (fun _ _ h => h)) <| Ai rfl rfl Aa (by first | rfl | decide) <| A5 rfl <| B0 (offs := [(0, 2), (2, 2), (4, 2)]) (zl := [.int .i64 0, .int .i64 0, .int .i64 0, .int .i64 0, .int .i64 0, .int .i64 0]) EW GS rfl (.cons Aa rfl (.cons Aa rfl (.cons Aa rfl .nil))) (by intro i p h; rcases i with _ | _ | _ | i <;> simp at h <;> subst h <;> rfl) (.cons rfl rfl (Nat.le_of_ble_eq_true rfl) (.cons (.here) (.cons (.next <| .here) .nil)) (.cons rfl rfl (Nat.le_of_ble_eq_true rfl) (.cons (.next <| .next <| .here) (.cons (.next <| .next <| .next <| .here) .nil)) (.cons rfl rfl (Nat.le_of_ble_eq_true rfl) (.cons (.next <| .next <| .next <| .next <| .here) (.cons (.next <| .next <| .next <| .next <| .next <| .here) .nil)) .nil))) (by decide) (by decide) fun b74 hb74 nb74 => ?_
 refine AQ (i := 0) rfl hb74 .here fun F75 hF76 hz77 => ?_
 replace hq2 := hq2.mono hF76
 replace hq3 := hq3.mono hF76
 replace hq4 := hq4.mono hF76
 replace hq5 := hq5.mono hF76
 have hsl78 := PM hz77
 refine Ai rfl rfl Aa (by first | rfl | decide) <| AE rfl (As bd_41 Aa AO (Ol hq2 hsl78) (fun _ _ h => h)) <| Ad rfl (At Aa (by first | rfl | decide) Aa) <| Ad rfl (A0 Aa) <| Ai rfl rfl Aa (by first | rfl | decide) <| Ad rfl (A0 Aa) <| Ai rfl rfl Aa (by first | rfl | decide) <| A5 rfl <| AS AR B3 rfl (.cons Aa (.cons Aa .nil)) rfl rfl (by decide) (by simp [Value.oneCell']) fun b79 hb79 nb79 => AQ (i := 0) rfl hb79 .here fun F80 hF81 hz82 => ?_
 replace hq3 := hq3.mono hF81
 replace hq4 := hq4.mono hF81
 replace hq5 := hq5.mono hF81
 have hsl83 := C5 hz82
 refine Ai rfl rfl Aa (by first | rfl | decide) <| AE rfl (As G0 Aa AO (Cy (Nats.ints hq3) hsl83) (fun _ _ h => h)) <| Ad rfl (At Aa (by first | rfl | decide) Aa) <| Ad rfl (A0 Aa) <| Ai rfl rfl Aa (by first | rfl | decide) <| Ad rfl (A0 Aa) <| Ai rfl rfl Aa (by first | rfl | decide) <| A5 rfl <| AS AR B3 rfl (.cons Aa (.cons Aa .nil)) rfl rfl (by decide) (by simp [Value.oneCell']) fun b84 hb84 nb84 => AQ (i := 0) rfl hb84 .here fun F85 hF86 hz87 => ?_
 replace hq4 := hq4.mono hF86
 replace hq5 := hq5.mono hF86
 have hsl88 := C5 hz87
 refine Ai rfl rfl Aa (by first | rfl | decide) <| AE rfl (As G0 Aa AO (Cy (Nats.ints hq4) hsl88) (fun _ _ h => h)) <| Ad rfl (At Aa (by first | rfl | decide) Aa) <| Ad rfl (A0 Aa) <| Ai rfl rfl Aa (by first | rfl | decide) <| Ad rfl (A0 Aa) <| Ai rfl rfl Aa (by first | rfl | decide) <| Ad rfl (Cd Aa Aa) <| Ad rfl (At Aa (by first | rfl | decide) Aa) <| Ad rfl (A0 Aa) <| Ai rfl rfl Aa (by first | rfl | decide) <| Ad rfl (A0 Aa) <| Ai rfl rfl Aa (by first | rfl | decide) <| A5 rfl <| AS AR B3 rfl (.cons Aa (.cons Aa .nil)) rfl rfl (by decide) (by simp [Value.oneCell']) fun b89 hb89 nb89 => AQ (i := 0) rfl hb89 .here fun F90 hF91 hz92 => ?_
 replace hq5 := hq5.mono hF91
 have hsl93 := C5 hz92
 refine Ai rfl rfl Aa (by first | rfl | decide) <| AE rfl (As G0 Aa AO (Cy (Nats.ints hq5) hsl93) (fun _ _ h => h)) <| Ad rfl (At Aa (by first | rfl | decide) Aa) <| Ad rfl (A0 Aa) <| Ai rfl rfl Aa (by first | rfl | decide) <| Ad rfl (A0 Aa) <| Ai rfl rfl Aa (by first | rfl | decide) <| Ad rfl (Cd Aa Aa) <| Ad rfl (At Aa (by first | rfl | decide) Aa) <| Ad rfl (A0 Aa) <| Ai rfl rfl Aa (by first | rfl | decide) <| Ad rfl (A0 Aa) <| Ai rfl rfl Aa (by first | rfl | decide) <| Ad rfl (Cd Aa Aa) <| Ad rfl (At Aa (by first | rfl | decide) Aa) <| Ad rfl (AL Aa) <| Al <| Ab <| Au <| Am rfl Bi ?_
 show _ = _
 first | rfl | decide
end
section
set_option maxRecDepth 100000
open Go.RowKit
theorem RX {m k : Nat} : decide ((((m / 2 ^ k : Nat) : Int) % 2) = 1) = m.testBit k := by
 rw [Nat.testBit_eq_decide_div_mod_eq]
 by_cases h : m / 2 ^ k % 2 = 1
 · rw [dT h]; exact dT (by omega)
 rw [dF h]; exact dF (by omega)
theorem Tj {F : Heap} {vb vr vs vq : Value} {r : Room} (hr : RoomR F vb vr vs vq r) {bits : Nat} : Ok Tryz.prog 10 [.agg #[vb, vr, vs, vq], .int .u8 (bits : Int)].toArray F fun u F' => Nats F' u (chosenL r bits) := by
 refine Ok.intro Tryz.func10 rfl Tryz.ntmps10 rfl fun w0 => ?_
 have hL1 := hr.reqs.plain.lt
 refine Ac <| Aj fun ds => A5 rfl <| AX Aa rfl fun b1 hb1 nb1 => Aw (Ag 1) <| AD (Ag 1) <| Ac <| AD (Ag 1) <| Aq ?_
 refine AH [5, 6, 7, 8, 9, 10, 11, 12, 13, 14, 15, 16, 17, 18, 19, 20, 21, 22, 23, 24, 25, 26] (fun m e σ => ∃ k : Nat, m + k = min r.reqs.length 8 ∧ Fct e 6 (.int .i64 k) ∧ ∃ v R, Fct e 5 v ∧ Own 3 1 v (bitsTo bits k).length ((bitsTo bits k).flatMap natE) R ∧ σ = ⟨F, (b1, bx 31 [vb, vr, vs, vq]) :: R⟩) (min r.reqs.length 8) ?_ ?_
 · exact ⟨0, by omega, Ba, _, _, Ba, Own.nil, rfl⟩
 rintro m e _ ⟨k, hm, hs6, v5, R2, hs5, ho, rfl⟩; have hbl := Fa (set := bits) (k := k)
 by_cases hlt : k < r.reqs.length
 ·refine Ac <| Ax (Ag 3) fun ds => Ad rfl (AA Cw Aa hr.reqs.plain) <| Ao (Ag 2) <| Ai rfl rfl Aa (by first | rfl | exact dT (by omega)) <| Ao (Ag 1) <| Ai rfl rfl Aa (by first | rfl | exact dT (by omega)) <| Ao (Ag 1) <| Ad rfl (At Aa (by first | rfl | exact dT (by omega)) Aa) <| Al <| Ab ?_
  by_cases h8 : k < 8
  ·refine Ah Aa (by first | rfl | exact dT (by omega)) ?_
   by_cases hb : bits.testBit k = true
   ·refine Ak <| Ab <| Ac <| Aq <| Ax (Ag 2) fun ds => Ad rfl (FR Aa Aa (k := k) rfl (by show k < 8; omega) EP) <| Ad rfl (Cf Aa Aa (Int.natCast_nonneg _) (by decide)) <| Aw (Ag 1) <| Ah Aa (by rw [RX]; exact hb) <| Aj fun ds => Ao (Ag 2) <| A5 rfl <| AS AR B3 rfl (.cons Aa .nil) rfl rfl (by decide) (by simp [Value.oneCell']) fun b3 hb3 nb3 => A5 rfl <| Bd AR GR Aa ho Aa (Bv (s := 1) 0 rfl rfl (by simp [Value.oneCell'])) (by omega) (by omega) (.s <| .s <| .z) .last fun v4 R5 ho6 => ?_
    have ho2 := ho6.snoc (x := k) rfl rfl
    refine Ao (Ag 1) <| Al <| A4 <| Ab <| Bk (fun _ _ h => h.drop (kD <| kK <| .refl _)) <| Aj fun ds => Ao (Ag 1) <| Ad rfl (AJ Aa Aa rfl (by omega) (by omega)) <| Ao (Ag 1) <| Al ?_
    refine Ab ⟨_, m - 1, Off.eq (Bx rfl <| BI rfl <| BF rfl <| A3), by omega, ?_⟩
    refine ⟨k + 1, by omega, Ba, _, _, Ba, by rw [Em, if_pos hb]; exact ho2, rfl⟩
   refine Ak <| Ab <| Ac <| Aq <| Ax (Ag 2) fun ds => Ad rfl (FR Aa Aa (k := k) rfl (by show k < 8; omega) EP) <| Ad rfl (Cf Aa Aa (Int.natCast_nonneg _) (by decide)) <| Aw (Ag 1) <| Ae Aa (by rw [RX]; simpa using hb) <| Ak <| A4 <| Ab <| Aj fun ds => Ao (Ag 1) <| Ad rfl (AJ Aa Aa rfl (by omega) (by omega)) <| Ao (Ag 1) <| Al ?_
   refine Ab ⟨_, m - 1, Off.eq (Bx rfl <| BQ rfl <| A3), by omega, ?_⟩
   exact ⟨k + 1, by omega, Ba, _, _, Ba, by rw [Em, if_neg hb]; exact ho, rfl⟩
  refine Ae Aa (by first | rfl | exact dF (by omega)) ?_
  obtain rfl : k = min r.reqs.length 8 := by omega
  refine Bo (σ := ⟨_, _⟩) (by rfl) ho (.s <| .z) .last fun F7 hF8 hz9 => ?_
  have hn2 := ho.sl (fun _ => rfl) hz9 (by omega)
  refine AG ?_
  refine A2 <| A2 <| A8 <| Ab <| AD (Ag 2) <| Au <| Am rfl Bi ?_
  exact hn2
 refine Ac <| Ax (Ag 3) fun ds => Ad rfl (AA Cw Aa hr.reqs.plain) <| Ao (Ag 2) <| Ar rfl rfl Aa (.inl (congrArg Value.bool (by first | rfl | exact dF (by omega)))) rfl <| Ar rfl rfl Aa (.inl (congrArg Value.bool (by first | rfl | exact dF (by omega)))) rfl <| Ad rfl (A9 Aa (by first | rfl | exact dF (by omega)) Aa) <| Al <| Ab <| Ae Aa rfl ?_
 obtain rfl : k = min r.reqs.length 8 := by omega
 refine Bo (σ := ⟨_, _⟩) (by rfl) ho (.s <| .z) .last fun F10 hF11 hz12 => ?_
 have hn2 := ho.sl (fun _ => rfl) hz12 (by omega)
 refine AG ?_
 refine A2 <| A2 <| A8 <| Ab <| AD (Ag 2) <| Au <| Am rfl Bi ?_
 exact hn2
end
section
set_option maxRecDepth 100000
open Go.RowKit
theorem Eo : Body Tryz.prog 13 := AB (by kernel_rfl)
theorem CK : Body Tryz.prog 60 := AB (by kernel_rfl)
theorem bd_99 : Body Tryz.prog 99 := AB (by kernel_rfl)
theorem Rh : OneT Tryz.prog 170 := BA (by kernel_rfl)
instance : OneI Tryz.prog 170 := ⟨Rh⟩
theorem Ob : SliceT Tryz.prog 40 170 1 := BO (by kernel_rfl)
instance : SliceI Tryz.prog 40 := ⟨_, _, Ob⟩
theorem C9 {F : Heap} (z lo hi : Int) : Ok Tryz.prog 13 [.int .i64 z, .int .i64 lo, .int .i64 hi].toArray F fun r _ => r = .bool (inB lo hi z) := by
 refine Ok.intro Tryz.func13 rfl Tryz.ntmps13 rfl fun w0 => ?_
 by_cases h1 : lo ≤ z
 ·refine AD (Ag 1) <| Ax (Ag 4) fun ds => Ai rfl rfl Aa (by first | rfl | exact dT (by omega)) <| Ao (Ag 1) <| Ai rfl rfl Aa (by first | rfl | exact dT (by omega)) <| Ao (Ag 1) <| Ai rfl rfl Aa (by first | rfl | exact dT (by omega)) <| Ao (Ag 1) <| Ad rfl (At Aa (by first | rfl | exact dT (by omega)) Aa) <| Aw (Ag 1) ?_
  by_cases h2 : z ≤ hi
  ·refine Au <| Am rfl Bi ?_
   show _ = _; simp [outOf, inB, h1, h2]
  refine Au <| Am rfl Bi ?_
  show _ = _; simp [outOf, inB, h1, h2]
 refine AD (Ag 1) <| Ax (Ag 4) fun ds => Ar rfl rfl Aa (.inl (congrArg Value.bool (by first | rfl | exact dF (by omega)))) rfl <| Ar rfl rfl Aa (.inl (congrArg Value.bool (by first | rfl | exact dF (by omega)))) rfl <| Ar rfl rfl Aa (.inl (congrArg Value.bool (by first | rfl | exact dF (by omega)))) rfl <| Ad rfl (A9 Aa (by first | rfl | exact dF (by omega)) Aa) <| Aw (Ag 1) <| Au <| Am rfl Bi ?_
 show _ = _; simp [outOf, inB, h1]
theorem GI {F : Heap} {b T : Nat} {x y z w : Int} (h : F b = some (bx T [.int .i64 x, .int .i64 y, .int .i64 z, .int .i64 w])) : Ints F (.slice (some ⟨b, 0, none⟩) 4 4) [x, y, z, w] :=
 D0 (xs := [x, y, z, w]) h rfl rfl (fun _ => rfl) (by decide)
theorem Nl {F : Heap} {b1 b2 T1 T2 : Nat} {lo hi : Int} (h1 : F b1 = some (bx T1 [.int .i64 lo])) (h2 : F b2 = some (bx T2 [.int .i64 hi])) (z : Int) : Ok Tryz.prog 99 [.int .i64 z, .pointer (some ⟨b1, 0, none⟩), .pointer (some ⟨b2, 0, none⟩)].toArray F fun r _ => r = .bool (!(inB lo hi z)) := by
 refine Ok.intro Tryz.func99 rfl Tryz.ntmps99 rfl fun w0 => ?_
 by_cases hz : z < lo
 ·refine AD (Ag 1) <| Ax (Ag 1) fun ds => Ad rfl (Ap AM Aa (AP h1 rfl)) <| Ao (Ag 2) <| Ar rfl rfl Aa (.inl (congrArg Value.bool (by first | rfl | exact dT (by omega)))) rfl <| Ar rfl rfl Aa (.inl (congrArg Value.bool (by first | rfl | exact dT (by omega)))) rfl <| Ar rfl rfl Aa (.inl (congrArg Value.bool (by first | rfl | exact dT (by omega)))) rfl <| Ad rfl (At Aa (by first | rfl | exact dT (by omega)) Aa) <| Aw (Ag 1) <| Au <| Am rfl Bi ?_
  show _ = _
  have : ¬ lo ≤ z := by omega
  simp [outOf, inB, this]
 refine AD (Ag 1) <| Ax (Ag 1) fun ds => Ad rfl (Ap AM Aa (AP h1 rfl)) <| Ao (Ag 2) <| Ai rfl rfl Aa (by first | rfl | exact dF (by omega)) <| Ao (Ag 1) <| Ai rfl rfl Aa (by first | rfl | exact dF (by omega)) <| Ad rfl (Ap AM Aa (AP h2 rfl)) <| Ai rfl rfl Aa (by first | rfl | exact dF (by omega)) <| Ao (Ag 1) <| Ad rfl (A9 Aa (by first | rfl | exact dF (by omega)) Aa) <| Aw (Ag 1) ?_
 by_cases hz2 : hi < z
 ·refine Au <| Am rfl Bi ?_
  show _ = _
  have : ¬ z ≤ hi := by omega
  simp [outOf, inB, hz2, this]
 refine Au <| Am rfl Bi ?_
 show _ = _
 have e1 : lo ≤ z := by omega
 have e2 : z ≤ hi := by omega
 simp [outOf, inB, hz2, e1, e2]
theorem Bp {F : Heap} {v : Value} {xs : List Int} (lo hi : Int) (h : Ints F v xs) : Ok Tryz.prog 60 [.int .i64 lo, .int .i64 hi, v].toArray F fun r _ => r = .bool (xs.any fun z => !(inB lo hi z)) := by
 refine Ok.intro Tryz.func60 rfl Tryz.ntmps60 rfl fun w0 => Ac <| Aj fun ds => A5 rfl <| AX Aa rfl fun b1 hb1 nb1 => A5 rfl <| AX Aa rfl fun b2 hb2 nb2 => Aw (Ag 1) <| AN (i := 1) rfl hb1 (.next <| .here) fun F3 hF4 hz1 => ?_
 replace h := h.mono hF4
 refine AN (i := 0) rfl hb2 (.here) fun F5 hF6 hz2 => ?_
 replace h := h.mono hF6
 replace hz1 := hF6 _ _ hz1
 refine Ax (Ag 1) fun ds => Ad rfl (Bm AO) <| AE rfl (As bd_98 Aa AO (Gt h (fun z => !(inB lo hi z)) bd_99 fun k hk => Nl hz1 hz2 _) (fun _ _ h => h)) <| Aw (Ag 1) <| Au <| Am rfl Bi ?_
 rfl
theorem CT {F : Heap} {s : ByteArray} (h4 : s.size ≤ 4) {c : Nat} (hc8 : c < 256) : Ok Tryz.prog 82 [.string s, .int .u8 (c : Int)].toArray F fun r _ => r = .int .i64 (timesN s.toList (UInt8.ofNat c) : Int) := by
 refine Ok.intro Tryz.func82 rfl Tryz.ntmps82 rfl fun w0 => AD (Ag 1) <| AD (Ag 1) <| Ac <| AD (Ag 1) <| Aq ?_
 refine AH [5, 6, 7, 8, 9, 10, 11, 12, 13, 14, 15, 16, 17, 18, 19] (fun m e σ => ∃ k : Nat, m + k = s.size ∧ Fct e 6 (.int .i64 (k : Int)) ∧ Fct e 5 (.int .i64 (timesTo s.toList (UInt8.ofNat c) k : Int)) ∧ σ = ⟨F, []⟩) (s.size) ?_ ?_
 · exact ⟨0, by omega, Ba, BC (congrArg (Value.int .i64) (by rw [Ft]; rfl)), rfl⟩
 rintro m e _ ⟨k, hm, hs6, hs5, rfl⟩
 by_cases hlt : k < s.size
 ·have hb := Fu (s := s.toList) (c := UInt8.ofNat c) (k := k) (n := 4) (by omega)
  refine Ac <| Ax (Ag 2) fun ds => Ad rfl (Cg Tryz.underlying9 Aa) <| Aw (Ag 1) <| Ah Aa (by first | rfl | exact dT (by omega)) ?_
  by_cases hc : s[k] = UInt8.ofNat c
  ·refine Ak <| Ab <| Ac <| Aq <| Ax (Ag 2) fun ds => Ad rfl (BJ Tryz.underlying9 Aa Aa rfl hlt) <| Aw (Ag 2) <| Ah Aa (dT ((Ch hc8).2 hc)) <| Aj fun ds => Ao (Ag 1) <| Ad rfl (BM Aa Aa rfl (by omega) (by omega)) <| Ao (Ag 1) <| Al <| A4 <| Ab <| Aj fun ds => Ao (Ag 1) <| Ad rfl (AJ Aa Aa rfl (by omega) (by omega)) <| Ao (Ag 1) <| Al ?_
   refine Ab ⟨_, m - 1, Off.eq (Ci rfl <| BI rfl <| BF rfl <| BQ rfl <| A3), by omega, ?_⟩
   exact ⟨k + 1, by omega, Ba, BC (congrArg (Value.int .i64) (by rw [Gb hlt hc]; push_cast; rfl)), rfl⟩
  refine Ak <| Ab <| Ac <| Aq <| Ax (Ag 2) fun ds => Ad rfl (BJ Tryz.underlying9 Aa Aa rfl hlt) <| Aw (Ag 2) <| Ae Aa (dF (fun h => hc ((Ch hc8).1 h))) <| Ak <| A4 <| Ab <| Aj fun ds => Ao (Ag 1) <| Ad rfl (AJ Aa Aa rfl (by omega) (by omega)) <| Ao (Ag 1) <| Al ?_
  refine Ab ⟨_, m - 1, Off.eq (Ci rfl <| BI rfl <| A3), by omega, ?_⟩
  exact ⟨k + 1, by omega, Ba, BC (congrArg (Value.int .i64) (by rw [Hk hlt hc])), rfl⟩
 refine Ac <| Ax (Ag 2) fun ds => Ad rfl (Cg Tryz.underlying9 Aa) <| Aw (Ag 1) <| Ae Aa (by first | rfl | exact dF (by omega)) ?_
 obtain rfl : k = s.size := by omega
 refine AG ?_
 refine A2 <| A2 <| A8 <| Ab <| AD (Ag 2) <| Au <| Am rfl Bi ?_
 show Value.int .i64 _ = _
 rw [← EZ, EN]
theorem KD {F : Heap} {s : ByteArray} (h1 : 1 ≤ s.size) (h4 : s.size ≤ 4) : Ok Tryz.prog 89 [.string s].toArray F fun r _ => r = .bool (upB s.toList) := by
 refine Ok.intro Tryz.func89 rfl Tryz.ntmps89 rfl fun w0 => AD (Ag 1) <| Ax (Ag 2) fun ds => Ad rfl (Cg Tryz.underlying9 Aa) <| Ad rfl (Br Aa Aa rfl (by omega) (by omega)) <| Ad rfl (BJ Tryz.underlying9 Aa Aa (show _ = ((s.size - 1 : Nat) : Int) by omega) (show s.size - 1 < s.size by omega)) <| Aw (Ag 2) <| Au <| Am rfl Bi ?_
 show Value.bool _ = Value.bool _
 refine congrArg Value.bool ?_
 unfold upB; rw [HG (by omega)]
 rw [Bool.eq_iff_iff, decide_eq_true_iff, beq_iff_eq]
 exact Ch (n := 120) (by decide)
theorem Cp {F : Heap} {lo hi less slo shi : Int} (h1 : 0 ≤ lo ∧ lo ≤ 2000) (h2 : 0 ≤ less ∧ less ≤ 2000) : Ok Tryz.prog 90 [.int .i64 lo, .int .i64 hi, .int .i64 less, .agg #[.int .i64 slo, .int .i64 shi]].toArray F fun r _ => r = .bool (reachB lo hi less slo shi) := by
 refine Ok.intro Tryz.func90 rfl Tryz.ntmps90 rfl fun w0 => ?_
 by_cases h : lo - less ≤ shi
 ·refine Ac <| Aj fun ds => A5 rfl <| AX Aa rfl fun b1 hb1 nb1 => Aw (Ag 1) <| Ax (Ag 2) fun ds => Ad rfl (Br Aa Aa rfl (by omega) (by omega)) <| Ao (Ag 4) <| Ai rfl rfl Aa (dT h) <| Ao (Ag 1) <| Ai rfl rfl Aa (dT h) <| Ao (Ag 1) <| Ai rfl rfl Aa (dT h) <| Ao (Ag 1) <| Ai rfl rfl Aa (dT h) <| Ao (Ag 1) <| Ad rfl (At Aa (dT h) Aa) <| Aw (Ag 1) <| Au <| Am rfl Bi ?_
  show Value.bool _ = Value.bool _
  unfold reachB; rw [dT h, Bool.true_and]
 refine Ac <| Aj fun ds => A5 rfl <| AX Aa rfl fun b2 hb2 nb2 => Aw (Ag 1) <| Ax (Ag 2) fun ds => Ad rfl (Br Aa Aa rfl (by omega) (by omega)) <| Ao (Ag 4) <| Ar rfl rfl Aa (.inl (congrArg Value.bool (dF h))) rfl <| Ar rfl rfl Aa (.inl (congrArg Value.bool (dF h))) rfl <| Ar rfl rfl Aa (.inl (congrArg Value.bool (dF h))) rfl <| Ar rfl rfl Aa (.inl (congrArg Value.bool (dF h))) rfl <| Ad rfl (A9 Aa (dF h) Aa) <| Aw (Ag 1) <| Au <| Am rfl Bi ?_
 show Value.bool _ = Value.bool _
 unfold reachB; rw [dF h, Bool.false_and]
theorem Cj {F : Heap} (g t : Int) : Ok Tryz.prog 30 [.int .i64 g, .int .i64 t].toArray F fun r _ => r = .agg #[.int .i64 g, .int .i64 t] := by
 refine Ok.intro Tryz.func30 rfl Tryz.ntmps30 rfl fun w0 => Ac <| Aj fun ds => A5 rfl <| AF GS rfl fun b1 hb1 nb1 => Al <| Ab <| Ax (Ag 2) fun ds => Ad rfl (Bg MO (.cons Aa rfl (.cons Aa rfl .nil)) (.cons rfl rfl (Nat.le_of_ble_eq_true rfl) (.cons (.here) .nil) (.cons rfl rfl (Nat.le_of_ble_eq_true rfl) (.cons (.next <| .here) .nil) .nil))) <| AZ <| AC Gc Aa Aa (i := 0) rfl rfl rfl rfl (by simp [Value.oneCell']) (.here) <| Al <| Ab <| Au <| Am rfl (.agg BP Aa rfl rfl (Bj 0 rfl) .nil) ?_
 rfl
theorem B6 {F : Heap} {vx : Value} {xs : List Nat} (hxs : Sl F vx 1 u16F xs) (hxb : ∀ x ∈ xs, x < 65536) {n : Nat} {z : Int} (hz : z = (n : Int)) : Ok Tryz.prog 44 [vx, .int .i64 z].toArray F fun u _ => u = .int .i64 (turnF xs n : Int) := by
 subst hz
 refine Ok.intro Tryz.func44 rfl Tryz.ntmps44 rfl fun w0 => ?_
 have hL := hxs.plain.lt
 by_cases h0 : xs.length = 0
 ·refine AD (Ag 1) <| Ac <| Ax (Ag 1) fun ds => Ad rfl (AA Ob Aa hxs.plain) <| Aw (Ag 1) <| Ah Aa (by first | rfl | exact dT (by omega)) <| AD (Ag 1) <| Au <| Ay <| Am rfl Bi ?_
  show _ = _
  have : xs = [] := List.eq_nil_of_length_eq_zero h0
  subst this
  rw [Sq]; rfl
 refine AD (Ag 1) <| Ac <| Ax (Ag 1) fun ds => Ad rfl (AA Ob Aa hxs.plain) <| Aw (Ag 1) <| Ae Aa (by first | rfl | exact dF (by omega)) ?_
 have hlt : n % xs.length < xs.length := Nat.mod_lt _ (by omega)
 have hb := hxb _ (List.getElem_mem hlt)
 refine Ak <| Ab <| Ax (Ag 3) fun ds => Ad rfl (AA Ob Aa hxs.plain) <| Ad rfl (Cf Aa Aa (Int.natCast_nonneg _) (by omega)) <| Ad rfl (A1 (k := n % xs.length) Ob Aa hxs.plain Aa (by push_cast; rfl) hlt) <| Ad rfl (Ap Rh Aa (hxs.cell1 hlt rfl)) <| Ad rfl (Cl ⟨_, Tryz.underlying170⟩ Tryz.underlying3 Aa (CZ (by omega) (by omega))) <| Aw (Ag 1) <| Au <| Am rfl Bi ?_
 show _ = _
 rw [T4 hlt]; rfl
theorem PB {F : Heap} {lo hi n : Int} (h1 : 0 ≤ lo ∧ lo ≤ hi ∧ hi ≤ 2000) (hn : 0 ≤ n ∧ n < 65536) : Ok Tryz.prog 46 [.agg #[.int .i64 lo, .int .i64 hi], .int .i64 n].toArray F fun r _ => r = .int .i64 (lo + n % (hi - lo + 1)) := by
 refine Ok.intro Tryz.func46 rfl Tryz.ntmps46 rfl fun w0 => ?_
 have hm1 := Int.emod_nonneg n (b := hi - lo + 1) (by omega)
 have hm2 := Int.emod_lt_of_pos n (b := hi - lo + 1) (by omega)
 refine Ac <| Aj fun ds => A5 rfl <| AX Aa rfl fun b1 hb1 nb1 => Aw (Ag 1) <| Ac <| B9 (.inl rfl) (fun _ _ h => h) (by kernel_rfl) (by kernel_rfl) fun ds => Bu (Ag 7) <| Bh rfl (Br Aa Aa rfl (by omega) (by omega)) <| Bh rfl (AJ Aa Aa rfl (by omega) (by omega)) <| Bh rfl (Cf Aa Aa (by omega) (by omega)) <| Bh rfl (AJ Aa Aa rfl (by omega) (by omega)) <| Bu (Ag 1) <| BS <| Ab <| Au <| Am rfl Bi ?_
 rfl
theorem NX {F : Heap} (lo hi a b c d : Int) : Ok Tryz.prog 114 [.int .i64 lo, .int .i64 hi, .agg #[.int .i64 a, .int .i64 b], .agg #[.int .i64 c, .int .i64 d]].toArray F fun r _ => r = .int .i64 (spansE lo hi a b c d) := by
 refine Ok.intro Tryz.func114 rfl Tryz.ntmps114 rfl fun w0 => ?_
 by_cases hy : (inB lo hi a && inB lo hi b && inB lo hi c && inB lo hi d) = true
 ·refine Ac <| Aj fun ds => A5 rfl <| AX Aa rfl fun b1 hb1 nb1 => A5 rfl <| AX Aa rfl fun b2 hb2 nb2 => Aw (Ag 1) <| Ac <| Aq <| Ax (Ag 10) fun ds => A5 rfl <| AS AR B3 rfl (.cons Aa (.cons Aa (.cons Aa (.cons Aa .nil)))) rfl rfl (by decide) (by simp [Value.oneCell']) fun b3 hb3 nb3 => AQ (i := 0) rfl hb3 .here fun F4 hF5 hz6 => ?_
  have hsl7 := GI hz6
  refine AE rfl (As CK Aa AO (Bp _ _ hsl7) (fun _ _ h => h)) <| Aw (Ag 1) <| Ae Aa (by simp only [Bool.and_eq_true] at hy; simp [hy]) ?_
  by_cases h1 : b < a
  ·refine Ax (Ag 6) fun ds => Ar rfl rfl Aa (.inl (congrArg Value.bool (dT h1))) rfl <| Ar rfl rfl Aa (.inl (congrArg Value.bool (dT h1))) rfl <| Ar rfl rfl Aa (.inl (congrArg Value.bool (dT h1))) rfl <| Ar rfl rfl Aa (.inl (congrArg Value.bool (dT h1))) rfl <| Ar rfl rfl Aa (.inl (congrArg Value.bool (dT h1))) rfl <| Ad rfl (At Aa (dT h1) Aa) <| Aw (Ag 1) <| Ah Aa rfl <| AD (Ag 1) <| Au <| A7 <| Ay <| Am rfl Bi ?_
   show Value.int .i64 _ = Value.int .i64 _
   unfold spansE; rw [hy, if_neg (by simp), if_pos (.inl h1)]
  refine Ax (Ag 6) fun ds => Ai rfl rfl Aa (dF h1) <| Ao (Ag 1) <| Ai rfl rfl Aa (dF h1) <| Ao (Ag 1) <| Ai rfl rfl Aa (dF h1) <| Ao (Ag 1) <| Ai rfl rfl Aa (dF h1) <| Ao (Ag 1) <| Ai rfl rfl Aa (dF h1) <| Ao (Ag 1) <| Ad rfl (A9 Aa (dF h1) Aa) <| Aw (Ag 1) ?_
  by_cases h2 : d < c
  ·refine Ah Aa (dT h2) <| AD (Ag 1) <| Au <| A7 <| Ay <| Am rfl Bi ?_
   show Value.int .i64 _ = Value.int .i64 _
   unfold spansE; rw [hy, if_neg (by simp), if_pos (.inr h2)]
  refine Ae Aa (dF h2) <| Ak <| A4 <| Ab <| AD (Ag 1) <| Au <| Am rfl Bi ?_
  show Value.int .i64 _ = Value.int .i64 _
  unfold spansE; rw [hy, if_neg (by simp), if_neg (by omega)]
 replace hy : (inB lo hi a && inB lo hi b && inB lo hi c && inB lo hi d) = false := by simpa using hy
 refine Ac <| Aj fun ds => A5 rfl <| AX Aa rfl fun b8 hb8 nb8 => A5 rfl <| AX Aa rfl fun b9 hb9 nb9 => Aw (Ag 1) <| Ac <| Aq <| Ax (Ag 10) fun ds => A5 rfl <| AS AR B3 rfl (.cons Aa (.cons Aa (.cons Aa (.cons Aa .nil)))) rfl rfl (by decide) (by simp [Value.oneCell']) fun b10 hb10 nb10 => AQ (i := 0) rfl hb10 .here fun F11 hF12 hz13 => ?_
 have hsl14 := GI hz13
 refine AE rfl (As CK Aa AO (Bp _ _ hsl14) (fun _ _ h => h)) <| Aw (Ag 1) <| Ah Aa (by simp only [List.any_cons, List.any_nil, Bool.or_false]; cases h1 : inB lo hi a <;> cases h2 : inB lo hi b <;> cases h3 : inB lo hi c <;> cases h4 : inB lo hi d <;> simp_all) <| AD (Ag 1) <| Au <| A7 <| Ay <| Am rfl Bi ?_
 show Value.int .i64 _ = Value.int .i64 _
 unfold spansE; rw [hy, if_pos rfl]
theorem PV {a b lo hi : Int} : rangeE a b lo hi = 7 ↔ (inB lo hi a && inB lo hi b) = false := by
 unfold rangeE inB
 simp only [Bool.and_eq_false_iff, decide_eq_false_iff_not]
 split
 · simp; omega
 split <;> simp <;> omega
theorem Ni {a b lo hi : Int} (h : ¬ rangeE a b lo hi = 7) : rangeE a b lo hi = if b < a then 2 else 0 := by
 unfold rangeE at h ⊢
 split
 · rename_i h1; rw [if_pos h1] at h; exact absurd rfl h
 rfl
theorem both7 {a b c d lo hi : Int} (h : rangeE a b lo hi = 7 ∨ rangeE c d lo hi = 7) : spansE lo hi a b c d = 7 := by
 rw [PV, PV] at h
 unfold spansE
 rw [if_pos]
 rcases h with h | h
 · rw [h]; rfl
 rw [Bool.and_assoc, h, Bool.and_false]
theorem RV {a b c d lo hi : Int} (h1 : ¬ rangeE a b lo hi = 7) (h2 : ¬ rangeE c d lo hi = 7) : spansE lo hi a b c d = if b < a ∨ d < c then 2 else 0 := by
 rw [PV, Bool.not_eq_false] at h1 h2
 unfold spansE
 rw [if_neg]
 rw [Bool.and_assoc, h1, h2]; simp
theorem both_0 {a b c d lo hi : Int} (h1 : ¬ rangeE a b lo hi = 7) (h2 : ¬ rangeE c d lo hi = 7) (h3 : rangeE a b lo hi = 0) : spansE lo hi a b c d = rangeE c d lo hi := by
 rw [RV h1 h2, Ni h2]
 rw [Ni h1] at h3
 by_cases hb : b < a
 · rw [if_pos hb] at h3; cases h3
 by_cases hd : d < c
 · rw [if_pos (.inr hd), if_pos hd]
 rw [if_neg (by omega), if_neg hd]
theorem both_a {a b c d lo hi : Int} (h1 : ¬ rangeE a b lo hi = 7) (h2 : ¬ rangeE c d lo hi = 7) (h3 : ¬ rangeE a b lo hi = 0) : spansE lo hi a b c d = rangeE a b lo hi := by
 rw [RV h1 h2, Ni h1]
 rw [Ni h1] at h3
 by_cases hb : b < a
 · rw [if_pos (.inl hb), if_pos hb]
 rw [if_neg hb] at h3; exact absurd rfl h3
theorem RU {F : Heap} (lo hi a b c d : Int) : Ok Tryz.prog 16 [.agg #[.int .i64 a, .int .i64 b], .agg #[.int .i64 c, .int .i64 d], .int .i64 lo, .int .i64 hi].toArray F fun r _ => r = .int .i64 (spansE lo hi a b c d) := by
 refine Ok.intro Tryz.func16 rfl Tryz.ntmps16 rfl fun w0 => ?_
 by_cases h1 : rangeE a b lo hi = 7
 ·refine Ac <| Aj fun ds => A5 rfl <| AX Aa rfl fun b1 hb1 nb1 => A5 rfl <| AX Aa rfl fun b2 hb2 nb2 => Aw (Ag 1) <| Ac <| B9 (.inl rfl) (fun _ _ h => h) (by kernel_rfl) (by kernel_rfl) fun ds => Bu (Ag 3) <| E2 rfl (As MS Aa AO (Fi _ _ _ _) (fun _ _ h => h)) <| Bu (Ag 3) <| E2 rfl (As MS Aa AO (Fi _ _ _ _) (fun _ _ h => h)) <| Bu (Ag 2) <| BS <| Ab <| Ac <| Ax (Ag 3) fun ds => Ar rfl rfl Aa (.inl (congrArg Value.bool (dT h1))) rfl <| Ar rfl rfl Aa (.inl (congrArg Value.bool (dT h1))) rfl <| Ad rfl (At Aa (dT h1) Aa) <| Al <| Ab <| Ah Aa rfl <| AD (Ag 1) <| Au <| Ay <| Am rfl Bi ?_
  show Value.int .i64 _ = Value.int .i64 _
  exact congrArg (Value.int .i64) (both7 (.inl h1)).symm
 refine Ac <| Aj fun ds => A5 rfl <| AX Aa rfl fun b3 hb3 nb3 => A5 rfl <| AX Aa rfl fun b4 hb4 nb4 => Aw (Ag 1) <| Ac <| B9 (.inl rfl) (fun _ _ h => h) (by kernel_rfl) (by kernel_rfl) fun ds => Bu (Ag 3) <| E2 rfl (As MS Aa AO (Fi _ _ _ _) (fun _ _ h => h)) <| Bu (Ag 3) <| E2 rfl (As MS Aa AO (Fi _ _ _ _) (fun _ _ h => h)) <| Bu (Ag 2) <| BS <| Ab <| Ac <| Ax (Ag 3) fun ds => Ai rfl rfl Aa (dF h1) <| Ao (Ag 1) <| Ai rfl rfl Aa (dF h1) <| Ao (Ag 1) <| Ad rfl (A9 Aa (dF h1) Aa) <| Al <| Ab ?_
 by_cases h2 : rangeE c d lo hi = 7
 ·refine Ah Aa (dT h2) <| AD (Ag 1) <| Au <| Ay <| Am rfl Bi ?_
  show Value.int .i64 _ = Value.int .i64 _
  exact congrArg (Value.int .i64) (both7 (.inr h2)).symm
 refine Ae Aa (dF h2) ?_
 by_cases h3 : rangeE a b lo hi = 0
 ·refine Ak <| Ab <| Ac <| AD (Ag 2) <| Ae Aa (dF (fun h => h h3)) <| Ak <| Ab <| AD (Ag 2) <| Au <| Am rfl Bi ?_
  show Value.int .i64 _ = Value.int .i64 _
  exact congrArg (Value.int .i64) (both_0 h1 h2 h3).symm
 refine Ak <| Ab <| Ac <| AD (Ag 2) <| Ah Aa (dT h3) <| AD (Ag 2) <| Au <| Ay <| Am rfl Bi ?_
 show Value.int .i64 _ = Value.int .i64 _
 exact congrArg (Value.int .i64) (both_a h1 h2 h3).symm
theorem MC {F : Heap} (s : ByteArray) : Ok Tryz.prog 15 [.string s].toArray F fun r _ => r = .int .i64 (if inB 1 4 s.size = false then 3 else if foldsB s = false then 6 else 0) := by
 refine Ok.intro Tryz.func15 rfl Tryz.ntmps15 rfl fun w0 => ?_
 by_cases hl : inB 1 4 s.size = true
 ·have hlb : 1 ≤ s.size ∧ s.size ≤ 4 := by have h := hl; rw [BZ] at h; omega
  refine AD (Ag 1) <| Ac <| Ax (Ag 1) fun ds => Ad rfl (Cg Tryz.underlying9 Aa) <| AE rfl (As Eo Aa AO (C9 _ _ _) (fun _ _ h => h)) <| Aw (Ag 1) <| Ae Aa (by rw [hl]; rfl) <| Ak <| Ab <| Ac <| AD (Ag 1) <| Aq ?_
  refine AH [2, 3, 8, 9, 10, 11, 12, 13, 14, 15, 16, 17, 18, 19, 20, 21, 22, 23] (fun m e σ => ∃ k : Nat, m + k = s.size ∧ Fct e 3 (.int .i64 (k : Int)) ∧ σ = ⟨F, []⟩ ∧ ∀ j (hj : j < s.size), j < k → s[j] = 120 ∨ s[j] = 121) (s.size) ?_ ?_
  · exact ⟨0, by omega, Ba, rfl, fun j hj h => absurd h (by omega)⟩
  rintro m e _ ⟨k, hm, hs3, rfl, hno⟩
  by_cases hlt : k < s.size
  ·refine Ac <| Ax (Ag 2) fun ds => Ad rfl (Cg Tryz.underlying9 Aa) <| Aw (Ag 1) <| Ah Aa (by first | rfl | exact dT (by omega)) ?_
   by_cases hx : s[k] = 120
   ·refine Ak <| Ab <| Ac <| Aq <| Ax (Ag 2) fun ds => Ad rfl (BJ Tryz.underlying9 Aa Aa rfl hlt) <| Ao (Ag 2) <| Ar rfl rfl Aa (.inl (congrArg Value.bool (dF (fun h => h ((Ch (n := 120) (by decide)).2 hx))))) rfl <| Ar rfl rfl Aa (.inl (congrArg Value.bool (dF (fun h => h ((Ch (n := 120) (by decide)).2 hx))))) rfl <| Ar rfl rfl Aa (.inl (congrArg Value.bool (dF (fun h => h ((Ch (n := 120) (by decide)).2 hx))))) rfl <| Ar rfl rfl Aa (.inl (congrArg Value.bool (dF (fun h => h ((Ch (n := 120) (by decide)).2 hx))))) rfl <| Ad rfl (A9 Aa (dF (fun h => h ((Ch (n := 120) (by decide)).2 hx))) Aa) <| Al <| Ab <| Ae Aa rfl <| Ak <| A4 <| Ab <| Aj fun ds => Ao (Ag 1) <| Ad rfl (AJ Aa Aa rfl (by omega) (by omega)) <| Ao (Ag 1) <| Al ?_
    refine Ab ⟨_, m - 1, Off.eq (Bx rfl <| BQ rfl <| A3), by omega, ?_⟩
    exact ⟨k + 1, by omega, Ba, rfl, fun j hj hjk => (Nat.lt_succ_iff_lt_or_eq.1 hjk).elim (hno j hj) fun e => by subst e; exact .inl hx⟩
   refine Ak <| Ab <| Ac <| Aq <| Ax (Ag 2) fun ds => Ad rfl (BJ Tryz.underlying9 Aa Aa rfl hlt) <| Ao (Ag 2) <| Ai rfl rfl Aa (dT (fun h => hx ((Ch (n := 120) (by decide)).1 h))) <| Ao (Ag 1) <| Ai rfl rfl Aa (dT (fun h => hx ((Ch (n := 120) (by decide)).1 h))) <| Ao (Ag 1) <| Ai rfl rfl Aa (dT (fun h => hx ((Ch (n := 120) (by decide)).1 h))) <| Ad rfl (BJ Tryz.underlying9 Aa Aa rfl hlt) <| Ai rfl rfl Aa (dT (fun h => hx ((Ch (n := 120) (by decide)).1 h))) <| Ao (Ag 1) <| Ad rfl (At Aa (dT (fun h => hx ((Ch (n := 120) (by decide)).1 h))) Aa) <| Al <| Ab ?_
   by_cases hy : s[k] = 121
   ·refine Ae Aa (dF (fun h => h ((Ch (n := 121) (by decide)).2 hy))) <| Ak <| A4 <| Ab <| Aj fun ds => Ao (Ag 1) <| Ad rfl (AJ Aa Aa rfl (by omega) (by omega)) <| Ao (Ag 1) <| Al ?_
    refine Ab ⟨_, m - 1, Off.eq (Bx rfl <| BQ rfl <| A3), by omega, ?_⟩
    exact ⟨k + 1, by omega, Ba, rfl, fun j hj hjk => (Nat.lt_succ_iff_lt_or_eq.1 hjk).elim (hno j hj) fun e => by subst e; exact .inr hy⟩
   refine Ah Aa (dT (fun h => hy ((Ch (n := 121) (by decide)).1 h))) <| AD (Ag 1) <| Au ?_
   refine A7 (Ay (Ay (A7 (Ay ?_))))
   refine Am rfl Bi ?_
   show Value.int .i64 _ = _
   rw [if_neg (by rw [hl]; simp), if_pos (Jt hlt hx hy)]
  refine Ac <| Ax (Ag 2) fun ds => Ad rfl (Cg Tryz.underlying9 Aa) <| Aw (Ag 1) <| Ae Aa (by first | rfl | exact dF (by omega)) ?_
  obtain rfl : k = s.size := by omega
  refine AG ?_
  refine A2 <| A2 <| A8 <| Ab <| AD (Ag 1) <| Au <| Am rfl Bi ?_
  show Value.int .i64 _ = _
  rw [if_neg (by rw [hl]; simp), if_neg (by rw [Lp fun j hj => hno j hj hj]; simp)]
 replace hl : inB 1 4 s.size = false := by simpa using hl
 refine AD (Ag 1) <| Ac <| Ax (Ag 1) fun ds => Ad rfl (Cg Tryz.underlying9 Aa) <| AE rfl (As Eo Aa AO (C9 _ _ _) (fun _ _ h => h)) <| Aw (Ag 1) <| Ah Aa (by rw [hl]; rfl) <| AD (Ag 1) <| Au <| Ay <| Am rfl Bi ?_
 show Value.int .i64 _ = _
 rw [if_pos hl]
end
section
open Go.RowKit
def HeldG (w : World) (H : List (Nat × Obj)) (w' : World) (F' : Heap) (H' : List (Nat × Obj)) : Prop := (∀ p ∈ H', w'.heap[p.1]? = some p.2 ∧ F' p.1 = none ∧ (p.1 ∈ keys H ∨ w.heap.size ≤ p.1)) ∧ (keys H').Nodup
def OkG (P : Program) (f : FuncId) (args : Array Value) (F : Heap) (H : List (Nat × Obj)) (R : Value → Heap → List (Nat × Obj) → Prop) : Prop :=
 ∀ w, Sub F w → (∀ p ∈ H, w.heap[p.1]? = some p.2 ∧ F p.1 = none) → (keys H).Nodup →
   Calls P f args w fun r w' => ∃ v F' H', r = .returned v ∧ Grow w F (keys H) w' F' ∧ HeldG w H w' F' H' ∧ R v F' H'
theorem OkG.mono {P : Program} {f : FuncId} {args : Array Value} {F : Heap} {H : List (Nat × Obj)} {R R' : Value → Heap → List (Nat × Obj) → Prop} (h : OkG P f args F H R)
   (hr : ∀ v F' H', F.le F' → R v F' H' → R' v F' H') : OkG P f args F H R' := by
 intro w h1 h2 h3
 refine (h w h1 h2 h3).mono fun r w' hq => ?_
 obtain ⟨v, F', H', q1, q2, q3, q4⟩ := hq
 exact ⟨v, F', H', q1, q2, q3, hr v F' H' q2.le q4⟩
def OkYG (P : Program) (l : Nat) (args : List Value) (F : Heap) (H : List (Nat × Obj)) (R : Value → Heap → List (Nat × Obj) → Prop) : Prop :=
 ∀ w, Sub F w → (∀ p ∈ H, w.heap[p.1]? = some p.2 ∧ F p.1 = none) → (keys H).Nodup →
   ∃ fn tmps assign body, (Instr.yield l args.toArray).run P w = .ok (.round l fn tmps assign body) w ∧
     RoundIn Fence.wide 0 P l fn tmps assign body w fun r w' => ∃ v F' H', r = .returned v ∧ Grow w F (keys H) w' F' ∧ HeldG w H w' F' H' ∧ R v F' H'
theorem OkYG.mono {P : Program} {l : Nat} {args : List Value} {F : Heap} {H : List (Nat × Obj)} {R R' : Value → Heap → List (Nat × Obj) → Prop} (h : OkYG P l args F H R) (hr : ∀ v F' H', F.le F' → R v F' H' → R' v F' H') : OkYG P l args F H R' := by
 intro w h1 h2 h3
 obtain ⟨fn, tm, as1, bo, hy, hR⟩ := h w h1 h2 h3
 refine ⟨fn, tm, as1, bo, hy, hR.mono fun r w' hq => ?_⟩
 obtain ⟨v, F', H', q1, q2, q3, q4⟩ := hq
 exact ⟨v, F', H', q1, q2, q3, hr v F' H' q2.le q4⟩
section
variable {P : Program} {n : Nat} {B : Base} {e : Env} {σ : St} {ty : TypeId} {pos : String} {af : Array Edge}
theorem Holds.growG {w : World} (h : Holds B σ w) {Hc rest : List (Nat × Obj)} {w' : World} {F' : Heap} {H' : List (Nat × Obj)} (hH : σ.H = Hc ++ rest)
   (hg : Grow w σ.F (keys Hc) w' F') (hh : HeldG w Hc w' F' H') : Holds B ⟨F', H' ++ rest⟩ w' := by
 obtain ⟨hh1, hh2⟩ := hh
 have hin : ∀ p ∈ H', (∃ q ∈ Hc, q.1 = p.1) ∨ w.heap.size ≤ p.1 := fun p hp => (hh1 p hp).2.2.imp (fun hk => by
   obtain ⟨q, hq, he⟩ := List.mem_map.1 hk
   exact ⟨q, hq, he⟩) id
 have hnd := h.nodup
 rw [hH, List.map_append, List.nodup_append] at hnd
 refine ⟨hg.os.trans h.os, hg.tape.trans h.tape, hg.output.trans h.output, Nat.le_trans h.size hg.size, ?_, hg.sub, ?_, ?_, ?_, Heap.le_trans h.le hg.le, fun D hD => ?_, h.dnodup⟩
 · intro b hb hM
   have hnot : b ∉ keys Hc := by
     intro hm
     obtain ⟨p, hp, rfl⟩ := List.mem_map.1 hm
     rcases (h.own p (by rw [hH]; exact List.mem_append_left _ hp)).2.2 with h1 | h1
     · omega
     exact hM h1
   rw [hg.old b (by have := h.size; omega) hnot]; exact h.old b hb hM
 · intro p hp
   rcases List.mem_append.1 hp with hp | hp
   · obtain ⟨h1, h2, -⟩ := hh1 p hp
     refine ⟨h1, h2, ?_⟩
     rcases hin p hp with ⟨q, hq, he⟩ | hnew
     · have := (h.own q (by rw [hH]; exact List.mem_append_left _ hq)).2.2
       rw [he] at this; exact this
     exact .inl (Nat.le_trans h.size hnew)
   have hp' : p ∈ σ.H := by rw [hH]; exact List.mem_append_right _ hp
   obtain ⟨h1, h2, h3⟩ := h.own p hp'
   have hlt := h.lt hp'
   have hnot : p.1 ∉ keys Hc := fun hm => hnd.2.2 _ hm _ (List.mem_map_of_mem hp) rfl
   exact ⟨by rw [hg.old _ hlt hnot]; exact h1, (hg.ext _ hlt).trans h2, h3⟩
 · rw [List.map_append, List.nodup_append]
   refine ⟨hh2, hnd.2.1, fun a ha b hb he => ?_⟩
   obtain ⟨p, hp, rfl⟩ := List.mem_map.1 ha
   obtain ⟨q, hq, rfl⟩ := List.mem_map.1 hb
   rcases hin p hp with ⟨r, hr, hre⟩ | hnew
   · exact hnd.2.2 _ (List.mem_map_of_mem hr) _ (List.mem_map_of_mem hq) (hre.trans he)
   have := h.lt (p := q) (by rw [hH]; exact List.mem_append_right _ hq)
   omega
 · intro b hb
   exact (hg.ext b (by have := h.size; omega)).trans (h.ext b hb)
 obtain ⟨h1, h2, h3, h4⟩ := h.marks D hD
 have hlt := (Array.getElem?_eq_some_iff.1 h1).1
 have hnot : D ∉ keys Hc := fun hm => h4 (by rw [hH, List.map_append]; exact List.mem_append_left _ hm)
 refine ⟨by rw [hg.old _ hlt hnot]; exact h1, (hg.ext _ hlt).trans h2, h3, fun hm => ?_⟩
 rw [List.map_append] at hm
 rcases List.mem_append.1 hm with hm | hm
 · obtain ⟨p, hp, he⟩ := List.mem_map.1 hm
   rcases hin p hp with ⟨r, hr, hre⟩ | hnew
   · exact hnot (by rw [← he, ← hre]; exact List.mem_map_of_mem hr)
   omega
 exact h4 (by rw [hH, List.map_append]; exact List.mem_append_right _ hm)
def PostG (P : Program) (fn : Func) (B : Base) (R : Value → Heap → List (Nat × Obj) → Prop) : Exit → Env → St → Prop
 | .normal, e, σ | .ret, e, σ => ∃ rs vs F' H', fn.results = List.toArray rs ∧ Rv P e σ rs vs ∧ (∀ ds w, Holds (B.at ds) σ w → Holds (B.at ds) ⟨F', H'⟩ w) ∧ R (outOf vs) F' H'
 | _, _, _ => False
theorem OkG.intro {f : FuncId} {fn : Func} {c : Code} {args : List Value} {F : Heap} {H : List (Nat × Obj)} {R : Value → Heap → List (Nat × Obj) → Prop} (hf : P.funcs[f]? = some fn) (hb : fn.body = some c) (hn : fn.ntmps = n) (hsz : Nat.ble args.length n = true)
   (h : ∀ w, WC P n ⟨w, keys H, F, [], none⟩ c (PostG P fn ⟨w, keys H, F, [], none⟩ R) (fun t => args.getD t undef) ⟨F, H⟩) : OkG P f args.toArray F H R := by
 intro w hs hH hnd
 refine (callsIn_wide (n := 0)).1 (callsIn_of_wp_marks (F := fence none) hf hb trivial (wpIn_mono (h w [] _ _ ?_ ?_) fun x a' w' hq => ?_))
 · refine ⟨?_, rfl, fun t => ?_⟩
   · have : args.length ≤ n := by simpa using hsz
     simp [hn]; omega
   have hl : args.length ≤ n := by simpa using hsz
   by_cases ht : t < args.length
   · simp [Array.getElem?_append_left, ht]
   simp only [Array.getD_eq_getD_getElem?, List.getD_eq_getElem?_getD]
   rw [Array.getElem?_append_right (by simp; omega), List.getElem?_eq_none (by omega)]
   simp only [List.size_toArray, Array.getElem?_replicate]
   split <;> rfl
 · exact ⟨rfl, rfl, rfl, Nat.le_refl _, fun _ _ _ => rfl, hs, fun p hp => ⟨(hH p hp).1, (hH p hp).2, .inr (List.mem_map_of_mem hp)⟩, hnd, fun _ _ => rfl, Heap.le_refl _, (fun D hD => nomatch hD), List.nodup_nil⟩
 obtain ⟨ds, e', σ', h1, h2, h3⟩ := hq
 have fin : ∀ rs vs F' H', fn.results = List.toArray rs → Rv P e' σ' rs vs → (∀ ds w2, Holds (Base.at ⟨w, keys H, F, [], none⟩ ds) σ' w2 → Holds (Base.at ⟨w, keys H, F, [], none⟩ ds) ⟨F', H'⟩ w2) → R (outOf vs) F' H' →
     LeavesInM (fence none) 0 P fn a'.tmps (fun r w' => ∃ v F' H', r = .returned v ∧ Grow w F (keys H) w' F' ∧ HeldG w H w' F' H' ∧ R v F' H') a'.defers .returning w' := by
   intro rs vs F' H' q1 q2 q3 q5
   rw [h1.defers]
   refine GF (B := ⟨w, keys H, F, [], none⟩) ds w' h2 fun w2 hw2 => ?_
   have h2' := q3 [] w2 hw2
   exact ⟨_, Gf q1 q2 h1 hw2, _, F', H', rfl, ⟨h2'.os, h2'.tape, h2'.output, h2'.size, h2'.old, h2'.le, h2'.sub, h2'.ext⟩, ⟨fun p hp => ⟨(h2'.own p hp).1, (h2'.own p hp).2.1, (h2'.own p hp).2.2.symm⟩, h2'.nodup⟩, q5⟩
 cases x with
 | normal => obtain ⟨rs, vs, F', H', q1, q2, q3, q5⟩ := h3; exact fin rs vs F' H' q1 q2 q3 q5
 | ret => obtain ⟨rs, vs, F', H', q1, q2, q3, q5⟩ := h3; exact fin rs vs F' H' q1 q2 q3 q5
 | exit id => exact h3.elim
 | goto l => exact h3.elim
 | panic ch => exact h3.elim
 | outgrown => exact h3.elim
theorem Jp {fn : Func} {R : Value → Heap → List (Nat × Obj) → Prop} {rs : List ResultVar} {vs : List Value} {H' : List (Nat × Obj)} (hr : fn.results = rs.toArray) (hv : Rv P e σ rs vs) (hp : Pick σ.H H') (hR : R (outOf vs) σ.F H') :
   PostG P fn B R .normal e σ := ⟨rs, vs, σ.F, H', hr, hv, fun _ _ h => h.pick hp, hR⟩
theorem Me {Q : Exit → Env → St → Prop} {g : Operand} {ps : Array Tmp} {assign body : Code} {gf : FuncId} {cs : List Value} (hro : B.ro = none) (hg : ev e g = .func (.func gf) #[] cs.toArray) (hb : Body P gf)
   (J : Heap → List (Nat × Obj) → Prop) (Jx : Code → Heap → List (Nat × Obj) → Prop)
   (h : ∀ L D fn tm, tm.size = n → (∀ t, tm.getD t undef = e t) → OkG P gf (.func (.yield L) #[] #[] :: cs).toArray σ.F ((L, loopO fn tm ps assign body D .ready none) :: (D, openO) :: σ.H) fun _ F' H' =>
     ∃ H1, H' = (L, loopO fn tm ps assign body D .ready none) :: (D, openO) :: H1 ∧ J F' H1 ∨ ∃ c, H' = (L, loopO fn tm ps assign body D .done (some c)) :: (D, openO) :: H1 ∧ Jx c F' H1)
   (hx : ∀ c F' H1, σ.F.le F' → Jx c F' H1 → WC P n B c Q e ⟨F', H1⟩)
   (hn : ∀ F' H1, σ.F.le F' → J F' H1 → Q .normal e ⟨F', H1⟩) : WC P n B (.rangeFunc g ps assign body) Q e σ := by
 intro ds a w ha hw
 rw [hro]
 refine wpIn_rangeFunc fun fn _ => ?_
 let W1 := (w.alloc openO).alloc (loopO fn a.tmps ps assign body w.heap.size .ready none)
 have hsz1 : (w.alloc openO).heap.size = w.heap.size + 1 := by simp
 have hW1 : Holds (B.at ds) ⟨σ.F, (w.heap.size + 1, loopO fn a.tmps ps assign body w.heap.size .ready none) :: (w.heap.size, openO) :: σ.H⟩ W1 := by
   have := (hw.alloc openO).alloc (loopO fn a.tmps ps assign body w.heap.size .ready none)
   rw [hsz1] at this
   exact this
 refine ⟨w.heap.size + 1, [mark w.heap.size], W1, { target := .fn (.func gf) cs.toArray, args := #[.func (.yield (w.heap.size + 1)) #[] #[]] }, W1, gf, (.func (.yield (w.heap.size + 1)) #[] #[] :: cs).toArray, W1, ?_, ?_, fun _ _ => trivial, ?_, fun h => by simp [fence] at h, trivial, ?_⟩
 · exact run_enterLoop_outer fn a.tmps ps assign body
 · simp only [resolve, ha.ev, hg]
   simp [go_sem]
   rfl
 · simp only [invoke]
   have := Ev hb (#[.func (.yield (w.heap.size + 1)) #[] #[]] ++ cs.toArray) W1
   simpa using this
 refine ((EY (ro := none) (k := 0 - 1)).2 (((h (w.heap.size + 1) w.heap.size fn a.tmps ha.size ha.get) W1 hW1.sub (fun p hp => ⟨(hW1.own p hp).1, (hW1.own p hp).2.1⟩) hW1.nodup).mono ?_)).2
 rintro r W2 ⟨v, F', H', rfl, hg', hh, hR⟩
 have hw2 := hW1.growG (Hc := (w.heap.size + 1, loopO fn a.tmps ps assign body w.heap.size .ready none) :: (w.heap.size, openO) :: σ.H) (rest := []) (by simp) hg' hh
 rw [List.append_nil] at hw2
 have hD : (B.at ds).w0.heap.size ≤ w.heap.size := hw.size
 have hfit : Fits n (B.at (w.heap.size :: ds)) { a with defers := [mark w.heap.size] ++ a.defers } e := ⟨ha.size, by show [mark w.heap.size] ++ a.defers = _; rw [ha.defers]; rfl, ha.get⟩
 have fin : ∀ st pe H1, H' = (w.heap.size + 1, loopO fn a.tmps ps assign body w.heap.size st pe) :: (w.heap.size, openO) :: H1 → st ≠ .busy →
     ∃ W4, (Instr.endLoop (w.heap.size + 1)).run P W2 = .ok pe W4 ∧ Holds (B.at (w.heap.size :: ds)) ⟨F', H1⟩ W4 := by
   intro st pe H1 he hst
   subst he
   have hl := (hw2.own (w.heap.size + 1, loopO fn a.tmps ps assign body w.heap.size st pe) (by simp)).1
   refine ⟨_, run_endLoop hl hst, ?_⟩
   have h4 := hw2.setObj (i := 0) (o' := loopO fn a.tmps ps assign body w.heap.size .exhausted pe) rfl
   have h5 : Holds (B.at ds) ⟨F', (w.heap.size, openO) :: H1⟩ (W2.putObj (w.heap.size + 1) (loopO fn a.tmps ps assign body w.heap.size .exhausted pe)) := Holds.drop (σ := ⟨F', _⟩) h4 (by simp)
   exact h5.toMark hD
 obtain ⟨H1, hR | ⟨c, hR⟩⟩ := hR
 · obtain ⟨he, hJ⟩ := hR
   obtain ⟨W4, h1, h2⟩ := fin _ _ _ he (by simp)
   exact ⟨none, W4, h1, w.heap.size :: ds, e, ⟨F', H1⟩, hfit, h2, hn F' H1 hg'.le hJ⟩
 obtain ⟨he, hJ⟩ := hR
 obtain ⟨W4, h1, h2⟩ := fin _ _ _ he (by simp)
 have := hx c F' H1 hg'.le hJ (w.heap.size :: ds) _ W4 hfit h2
 rw [hro] at this
 exact ⟨some c, W4, h1, this⟩
def RoundEG (B : Base) (L : Nat) (lo : LoopState → Option Code → Obj) (R : Value → Heap → List (Nat × Obj) → Prop) : Exit → Env → St → Prop := fun x _ σ =>
 let fin (v : Value) (st : LoopState) (pe : Option Code) := ∃ F' H2, (∀ ds w, Holds (B.at ds) σ w → Holds (B.at ds) ⟨F', (L, lo .busy none) :: H2⟩ w) ∧ R v F' ((L, lo st pe) :: H2)
 match x with
 | .normal => fin (.bool true) .ready none
 | .ret => fin (.bool false) .done (some .ret)
 | .exit id => fin (.bool false) .done (some (.exit id))
 | _ => False
theorem Qf {L D : Nat} {fn : FuncId} {tm : Array Value} {ps : List Tmp} {assign body : Code} {args : List Value} {F : Heap} {H : List (Nat × Obj)} {R : Value → Heap → List (Nat × Obj) → Prop}
   (hsz : tm.size = n) (htm : ∀ t, tm.getD t undef = e t) (hlen : args.length = ps.length) (hps : (ps.zip args).all (fun p => Nat.blt p.1 n) = true)
   (h : ∀ w0, WC P n ⟨w0, L :: keys H, F, [], some L⟩ assign (thenE (fun e' σ' => ∃ H2, σ'.H = (L, loopO fn tm ps.toArray assign body D .ready none) :: H2 ∧
       WC P n ⟨w0, L :: keys H, F, [], some L⟩ body (RoundEG ⟨w0, L :: keys H, F, [], some L⟩ L (loopO fn tm ps.toArray assign body D) R) e' ⟨σ'.F, (L, loopO fn tm ps.toArray assign body D .busy none) :: H2⟩) (fun _ _ _ => False))
     (updL e (ps.zip args)) ⟨F, (L, loopO fn tm ps.toArray assign body D .ready none) :: H⟩) :
   OkYG P L args F ((L, loopO fn tm ps.toArray assign body D .ready none) :: H) R := by
 intro w hs hH hnd
 have hl := (hH (L, loopO fn tm ps.toArray assign body D .ready none) (by simp)).1
 refine ⟨fn, _, assign, body, run_yield hl (by simpa using hlen), roundIn_of_wpIn trivial ?_⟩
 have hfit := Jv (n := n) (B := ⟨w, L :: keys H, F, [], some L⟩) (ps.zip args) tm e hsz htm hps
 have hkeys : keys ((L, loopO fn tm ps.toArray assign body D .ready none) :: H) = L :: keys H := rfl
 have hw0 : Holds (Base.at ⟨w, L :: keys H, F, [], some L⟩ []) ⟨F, (L, loopO fn tm ps.toArray assign body D .ready none) :: H⟩ w :=
   ⟨rfl, rfl, rfl, Nat.le_refl _, fun _ _ _ => rfl, hs, fun p hp => ⟨(hH p hp).1, (hH p hp).2, .inr (List.mem_map_of_mem (f := Prod.fst) hp)⟩, hnd, fun _ _ => rfl, Heap.le_refl _, (fun D hD => nomatch hD), List.nodup_nil⟩
 have hzip : ((ps.toArray.zip args.toArray).foldl (fun tmps (t, a) => tmps.setIfInBounds t a) tm) = (ps.zip args).foldl (fun tm p => tm.setIfInBounds p.1 p.2) tm := by
   rw [show ps.toArray.zip args.toArray = (ps.zip args).toArray by simp, List.foldl_toArray]
 refine wpIn_mono (h w [] _ w ⟨?_, rfl, ?_⟩ hw0) ?_
 · show ((ps.toArray.zip args.toArray).foldl (fun tmps (t, a) => tmps.setIfInBounds t a) tm).size = n
   rw [hzip]; exact hfit.1
 · intro t
   show ((ps.toArray.zip args.toArray).foldl (fun tmps (t, a) => tmps.setIfInBounds t a) tm).getD t undef = _
   rw [hzip]; exact hfit.2 t
 rintro x a1 w1 ⟨ds1, e1, σ1, hf1, hh1, hq⟩
 cases x with
 | normal =>
   obtain ⟨H2, hσ, hbody⟩ := hq
   have hh1' : Holds (Base.at ⟨w, L :: keys H, F, [], some L⟩ ds1) ⟨σ1.F, (L, loopO fn tm ps.toArray assign body D .ready none) :: H2⟩ w1 := by rw [← hσ]; exact hh1
   have hl1 := (hh1'.own (L, loopO fn tm ps.toArray assign body D .ready none) (by simp)).1
   refine ⟨_, run_beginRound hl1 rfl, ?_⟩
   have hset := hh1'.setObj (i := 0) (o' := loopO fn tm ps.toArray assign body D .busy none) rfl
   refine wpIn_mono (hbody ds1 a1 _ hf1 hset) ?_
   rintro x a2 w2 ⟨ds2, e2, σ2, hf2, hh2, hq2⟩
   have fin : ∀ (v : Value) (st : LoopState) (pe : Option Code), (v = .bool pe.isNone ∧ st = if pe.isNone then .ready else .done) → (∃ F' H2, (∀ ds w', Holds (Base.at ⟨w, L :: keys H, F, [], some L⟩ ds) σ2 w' → Holds (Base.at ⟨w, L :: keys H, F, [], some L⟩ ds) ⟨F', (L, loopO fn tm ps.toArray assign body D .busy none) :: H2⟩ w') ∧ R v F' ((L, loopO fn tm ps.toArray assign body D st pe) :: H2)) →
       ∃ v' w', (Instr.endRound L pe).run P w2 = .ok v' w' ∧ ∃ v F' H', Ending.returned v' = .returned v ∧ Grow w F (L :: keys H) w' F' ∧ HeldG w ((L, loopO fn tm ps.toArray assign body D .ready none) :: H) w' F' H' ∧ R v F' H' := by
     rintro v st pe ⟨rfl, rfl⟩ ⟨F', H3, q1, q3⟩
     have h3 := q1 ds2 w2 hh2
     have hl3 := (h3.own (L, loopO fn tm ps.toArray assign body D .busy none) (by simp)).1
     have h4 := h3.setObj (i := 0) (o' := loopO fn tm ps.toArray assign body D (if pe.isNone then .ready else .done) pe) rfl
     exact ⟨_, _, run_endRound pe hl3, _, F', (L, loopO fn tm ps.toArray assign body D (if pe.isNone then .ready else .done) pe) :: H3, rfl, ⟨h4.os, h4.tape, h4.output, h4.size, h4.old, h4.le, h4.sub, h4.ext⟩, ⟨fun p hp => ⟨(h4.own p hp).1, (h4.own p hp).2.1, (h4.own p hp).2.2.symm⟩, h4.nodup⟩, q3⟩
   cases x with
   | normal => exact fin (.bool true) .ready none ⟨rfl, rfl⟩ hq2
   | ret => exact fin (.bool false) .done (some .ret) ⟨rfl, rfl⟩ hq2
   | exit id => exact fin (.bool false) .done (some (.exit id)) ⟨rfl, rfl⟩ hq2
   | goto l => exact hq2.elim
   | panic ch => exact hq2.elim
   | outgrown => exact hq2.elim
 | exit id => exact hq.elim
 | goto l => exact hq.elim
 | ret => exact hq.elim
 | panic ch => exact hq.elim
 | outgrown => exact hq.elim
def IterG {α : Type} (P : Program) (gf : FuncId) (cs : List Value) (F0 : Heap) (A : α → Heap → List Value → Prop) (xs : List α) : Prop :=
 ∀ (L : Nat) (J : List α → Heap → List (Nat × Obj) → Prop) (Jx : Heap → List (Nat × Obj) → Prop) (F : Heap) (H : List (Nat × Obj)), F0.le F →
   (∀ pre F F' H, F.le F' → J pre F H → J pre F' H) → (∀ F F' H, F.le F' → Jx F H → Jx F' H) →
   (∀ pre x rest F H vs, xs = pre ++ x :: rest → F0.le F → J pre F H → A x F vs → OkYG P L vs F H fun v F' H' => v = .bool true ∧ J (pre ++ [x]) F' H' ∨ v = .bool false ∧ Jx F' H') →
   J [] F H → OkG P gf (.func (.yield L) #[] #[] :: cs).toArray F H fun _ F' H' => J xs F' H' ∨ Jx F' H'
theorem JB {α : Type} {Q : Exit → Env → St → Prop} {g : Operand} {ps : List Tmp} {assign body : Code} {gf : FuncId} {cs : List Value} {F0 : Heap} {A : α → Heap → List Value → Prop} {xs : List α}
   (hro : B.ro = none) (hg : ev e g = .func (.func gf) #[] cs.toArray) (hb : Body P gf) (hit : IterG P gf cs F0 A xs) (hF : F0.le σ.F)
   (J : List α → Heap → List (Nat × Obj) → Prop) (Jx : Code → Heap → List (Nat × Obj) → Prop) (hm : ∀ pre F F' H, F.le F' → J pre F H → J pre F' H) (hmx : ∀ c F F' H, F.le F' → Jx c F H → Jx c F' H)
   (h0 : J [] σ.F σ.H)
   (hround : ∀ L D fn tm pre x rest G H1 vs, xs = pre ++ x :: rest → σ.F.le G → J pre G H1 → A x G vs → vs.length = ps.length ∧ (ps.zip vs).all (fun p => Nat.blt p.1 n) = true ∧
     ∀ w0, WC P n ⟨w0, L :: D :: keys H1, G, [], some L⟩ assign (thenE (fun e' σ' => ∃ H2, σ'.H = (L, loopO fn tm ps.toArray assign body D .ready none) :: H2 ∧
       WC P n ⟨w0, L :: D :: keys H1, G, [], some L⟩ body (RoundEG ⟨w0, L :: D :: keys H1, G, [], some L⟩ L (loopO fn tm ps.toArray assign body D) (RoundR σ.F L D (loopO fn tm ps.toArray assign body D) J Jx (pre ++ [x]))) e' ⟨σ'.F, (L, loopO fn tm ps.toArray assign body D .busy none) :: H2⟩) (fun _ _ _ => False))
     (updL e (ps.zip vs)) ⟨G, (L, loopO fn tm ps.toArray assign body D .ready none) :: (D, openO) :: H1⟩)
   (hx : ∀ c F' H1, σ.F.le F' → Jx c F' H1 → WC P n B c Q e ⟨F', H1⟩)
   (hn : ∀ F' H1, σ.F.le F' → J xs F' H1 → Q .normal e ⟨F', H1⟩) : WC P n B (.rangeFunc g ps.toArray assign body) Q e σ := by
 refine Me hro hg hb (J xs) Jx (fun L D fn tm hsz htm => ?_) hx hn
 refine OkG.mono (hit L (fun pre F H => σ.F.le F ∧ ∃ H1, H = (L, loopO fn tm ps.toArray assign body D .ready none) :: (D, openO) :: H1 ∧ J pre F H1)
   (fun F H => σ.F.le F ∧ ∃ c H1, H = (L, loopO fn tm ps.toArray assign body D .done (some c)) :: (D, openO) :: H1 ∧ Jx c F H1) σ.F _ hF ?_ ?_ ?_ ⟨Heap.le_refl _, _, rfl, h0⟩) ?_
 · rintro pre F F' H hFF ⟨h1, H1, h2, h3⟩
   exact ⟨Heap.le_trans h1 hFF, H1, h2, hm _ _ _ _ hFF h3⟩
 · rintro F F' H hFF ⟨h1, c, H1, h2, h3⟩
   exact ⟨Heap.le_trans h1 hFF, c, H1, h2, hmx _ _ _ _ hFF h3⟩
 · rintro pre x rest G H vs hxs hG ⟨h1, H1, rfl, h3⟩ hA
   obtain ⟨q1, q2, q3⟩ := hround L D fn tm pre x rest G H1 vs hxs h1 h3 hA
   refine (Qf (R := RoundR σ.F L D (loopO fn tm ps.toArray assign body D) J Jx (pre ++ [x])) hsz htm q1 q2 q3).mono fun v F' H' _ hR => ?_
   rcases hR with ⟨rfl, H2, k1, k2, k3⟩ | ⟨rfl, c, H2, k1, k2, k3⟩
   · exact .inl ⟨rfl, k2, H2, k1, k3⟩
   exact .inr ⟨rfl, k2, c, H2, k1, k3⟩
 rintro v F' H' _ (⟨h1, H1, rfl, h3⟩ | ⟨h1, c, H1, rfl, h3⟩)
 · exact ⟨H1, .inl ⟨rfl, h3⟩⟩
 exact ⟨H1, .inr ⟨c, rfl, h3⟩⟩
theorem E9 {L D : Nat} {lo : LoopState → Option Code → Obj} {R : Value → Heap → List (Nat × Obj) → Prop} {H2 : List (Nat × Obj)} (hp : PickB σ.H ((L, lo .busy none) :: (D, openO) :: H2)) (hR : R (.bool true) σ.F ((L, lo .ready none) :: (D, openO) :: H2)) : RoundEG B L lo R .normal e σ :=
 ⟨σ.F, _, fun _ _ h => h.pickB hp, hR⟩
theorem TM {L D : Nat} {lo : LoopState → Option Code → Obj} {R : Value → Heap → List (Nat × Obj) → Prop} {H2 : List (Nat × Obj)} (hp : PickB σ.H ((L, lo .busy none) :: (D, openO) :: H2)) (hR : R (.bool false) σ.F ((L, lo .done (some .ret)) :: (D, openO) :: H2)) : RoundEG B L lo R .ret e σ :=
 ⟨σ.F, _, fun _ _ h => h.pickB hp, hR⟩
theorem Tv {ops : Array Oper} {Q : Exit → Env → St → Prop} {l : List Oper} {H' : List (Nat × Obj)} (hp : PickB σ.H H') (h : WL P n B ops Q l e ⟨σ.F, H'⟩) : WL P n B ops Q l e σ := VL (fun _ hw => hw.pickB hp) h
theorem Cell.joined {w : World} (hw : Holds B σ w) {a : Addr} {v : Value} (h : Cell σ a v) : Cell ⟨Go.Proofs.YtkjfmibiinfhfaaGreat.joined σ, []⟩ a v := by
 obtain ⟨hs, c, T, fr, hc, hv⟩ := h
 refine ⟨hs, c, T, fr, ?_, hv⟩
 rcases hc with hc | hc
 · exact .inl (M6 hw _ _ hc)
 exact .inl (Lh hw hc)
theorem Src.joined {w : World} (hw : Holds B σ w) {v : Value} {k s : Nat} {cs : List Value} (h : Src σ v k cs s) : Src ⟨Go.Proofs.YtkjfmibiinfhfaaGreat.joined σ, []⟩ v k cs s := by
 obtain ⟨h1, h2, a, c, h3, h4, h5⟩ := h
 exact ⟨h1, h2, a, c, h3, h4, fun x hx => ⟨(h5 x hx).1, fun j u hj => ((h5 x hx).2 j u hj).joined hw⟩⟩
end
end
section
open Go.RowKit
section
variable {P : Program} {n : Nat} {B : Base} {e : Env} {σ : St}
theorem Grow.keysLe {w w' : World} {F F' : Heap} {M M' : List Nat} (h : Grow w F M w' F') (hm : ∀ b, b ∈ M → b ∈ M') : Grow w F M' w' F' :=
 ⟨h.os, h.tape, h.output, h.size, fun b hb hM => h.old b hb (fun q => hM (hm b q)), h.le, h.sub, h.ext⟩
theorem GG {H H1 : List (Nat × Obj)} (hp : H.Perm H1) : (keys H).Perm (keys H1) := hp.map _
theorem OkYG.perm {L : Nat} {args : List Value} {F : Heap} {H H1 : List (Nat × Obj)} {R R' : Value → Heap → List (Nat × Obj) → Prop} (hp : H.Perm H1) (h : OkYG P L args F H R)
   (hR : ∀ v F' H', R v F' H' → ∃ H'', H'.Perm H'' ∧ R' v F' H'') : OkYG P L args F H1 R' := by
 intro w h1 h2 h3
 obtain ⟨fn, tm, as1, bo, hy, hq⟩ := h w h1 (fun p hp' => h2 p (hp.mem_iff.1 hp')) ((GG hp).nodup_iff.2 h3)
 refine ⟨fn, tm, as1, bo, hy, hq.mono fun r w' hq => ?_⟩
 obtain ⟨v, F', H', q1, q2, ⟨q3, q5⟩, q4⟩ := hq
 obtain ⟨H'', r1, r2⟩ := hR v F' H' q4
 exact ⟨v, F', H'', q1, q2.keysLe (fun b hb => (GG hp).mem_iff.1 hb), ⟨fun p hp' => by
   obtain ⟨s1, s2, s3⟩ := q3 p (r1.mem_iff.2 hp')
   exact ⟨s1, s2, s3.imp (fun k => (GG hp).mem_iff.1 k) id⟩, (GG r1).nodup_iff.1 q5⟩, r2⟩
theorem OkYG.frame {L : Nat} {args : List Value} {F : Heap} {H : List (Nat × Obj)} {R : Value → Heap → List (Nat × Obj) → Prop} (Hf : List (Nat × Obj)) (h : OkYG P L args F H R) :
   OkYG P L args F (Hf ++ H) fun v F' H' => ∃ H2, H' = Hf ++ H2 ∧ R v F' H2 := by
 intro w h1 h2 h3
 have h3' : (keys Hf ++ keys H).Nodup := by have h9 := h3; unfold keys at h9 ⊢; rwa [List.map_append] at h9
 rw [List.nodup_append] at h3'
 obtain ⟨n1, n2, n3⟩ := h3'
 obtain ⟨fn, tm, as1, bo, hy, hq⟩ := h w h1 (fun p hp => h2 p (List.mem_append_right _ hp)) n2
 refine ⟨fn, tm, as1, bo, hy, hq.mono fun r w' hq => ?_⟩
 obtain ⟨v, F', H', q1, q2, ⟨q3, q5⟩, q4⟩ := hq
 have hlt : ∀ p ∈ Hf, p.1 < w.heap.size := fun p hp => (Array.getElem?_eq_some_iff.1 (h2 p (List.mem_append_left _ hp)).1).1
 refine ⟨v, F', Hf ++ H', q1, q2.keysLe (fun b hb => ?_), ⟨fun p hp => ?_, ?_⟩, H', rfl, q4⟩
 · show b ∈ (Hf ++ H).map (·.1)
   rw [List.map_append]; exact List.mem_append_right _ hb
 · rcases List.mem_append.1 hp with hp | hp
   · have hk := List.mem_map_of_mem (f := Prod.fst) hp
     obtain ⟨s1, s2⟩ := h2 p (List.mem_append_left _ hp)
     refine ⟨by rw [q2.old _ (hlt p hp) (fun q => n3 _ hk _ q rfl)]; exact s1, (q2.ext _ (hlt p hp)).trans s2, .inl ?_⟩
     show p.1 ∈ (Hf ++ H).map (·.1)
     rw [List.map_append]; exact List.mem_append_left _ hk
   obtain ⟨s1, s2, s3⟩ := q3 p hp
   refine ⟨s1, s2, s3.imp (fun k => ?_) id⟩
   show p.1 ∈ (Hf ++ H).map (·.1)
   rw [List.map_append]; exact List.mem_append_right _ k
 show ((Hf ++ H').map (·.1)).Nodup
 rw [List.map_append, List.nodup_append]
 refine ⟨n1, q5, fun a ha b hb he => ?_⟩
 obtain ⟨p, hp, rfl⟩ := List.mem_map.1 ha
 obtain ⟨q, hq, rfl⟩ := List.mem_map.1 hb
 rcases (q3 q hq).2.2 with hk | hk
 · exact n3 _ ha _ hk he
 have := hlt p hp; omega
end
end
section
open Go.RowKit
section
variable {P : Program} {n : Nat} {B : Base} {e : Env} {σ : St} {ty : TypeId} {pos : String} {af : Array Edge} {gd : Option (Nat × Bool)} {d : Option Nat}
theorem Own.cut {E s k m : Nat} {v : Value} {cs ds : List Value} {R : List (Nat × Obj)} (h : Own E s v m (cs ++ ds) R) (hk : cs.length = k * s) (hm : k ≤ m) : Own E s (subslice v 0 k s) k cs R := by
 match R, h with
 | [], ⟨h1, h2, h3⟩ =>
   obtain ⟨rfl, -⟩ := List.append_eq_nil_iff.1 h3
   obtain rfl : k = 0 := by omega
   subst h1
   exact ⟨rfl, rfl, rfl⟩
 | [(b, o)], ⟨cap, spare, h1, h2, h3, h4, h5⟩ =>
   subst h1
   refine ⟨cap, ds ++ spare, ?_, by rw [h2, List.append_assoc], hk, by rw [← List.append_assoc]; exact h4, by omega⟩
   unfold subslice
   by_cases hc : cap = 0
   · subst hc; rfl
   show Value.slice (if cap = 0 then _ else _) _ _ = _
   rw [if_neg hc]; simp [addc]
end
end
section
open Go.RowKit
section
variable {P : Program} {n : Nat} {B : Base} {e : Env} {σ : St} {ty : TypeId} {pos : String} {af : Array Edge}
theorem QS {ops : Array Oper} {Q : Exit → Env → St → Prop} {rest : List Oper} {d : Nat} {f : Operand} {l : Nat} {xs : List Operand} {vs : List Value} {at_ : Array TypeId} {p : Nat × Obj} {Hc : List (Nat × Obj)} {R : Value → Heap → List (Nat × Obj) → Prop}
   (hd : Nat.blt d n = true) (hf : ev e f = .func (.yield l) #[] #[]) (hx : Av e xs vs) (hH : σ.H = p :: Hc) (hok : OkYG P l vs σ.F Hc R)
   (hn : ∀ v F' H', R v F' H' → σ.F.le F' → WI P n B ops Q rest (upd e d v) ⟨F', p :: H'⟩) : WI P n B ops Q (⟨some d, .call ⟨.value f, xs.toArray, at_⟩, ty, pos, af, none⟩ :: rest) e σ := by
 intro a w ha hw0
 have hw : Holds B ⟨σ.F, Hc ++ [p]⟩ w := by
   have h1 : Holds B ⟨σ.F, [p] ++ Hc⟩ w := by
     have : σ = ⟨σ.F, [p] ++ Hc⟩ := by cases σ with | mk F H => simp only at hH; rw [hH]; rfl
     rw [← this]; exact hw0
   exact h1.rot
 have hnd := hw.nodup
 rw [List.map_append, List.nodup_append] at hnd
 obtain ⟨fn, tm, as1, bo, hy, hR⟩ := hok w hw.sub (fun q hq => ⟨(hw.own q (List.mem_append_left _ hq)).1, (hw.own q (List.mem_append_left _ hq)).2.1⟩) hnd.1
 unfold wpListIn
 rw [if_pos (by simp [Region.wanted])]
 refine ⟨fun _ _ => trivial, ?_⟩
 have hrun : (execOp (ev e) ⟨some d, .call ⟨.value f, xs.toArray, at_⟩, ty, pos, af, none⟩).run P w = .ok (.round l fn tm as1 bo) w := by
   have hm := hx.map
   simp [execOp, resolve, invoke, Deferred.ofValue, hf, hm, hy]
 rw [show (fence B.ro).round = B.ro from rfl, semAt_eq (.inr rfl), ha.ev, hrun]
 refine ⟨fun h => by simp [fence] at h, RoundIn.mono (F := fence B.ro) (show RoundIn (fence B.ro) 0 P l fn tm as1 bo w _ from hR) fun r w' hq => ?_⟩
 obtain ⟨v, F', H', rfl, q2, q3, q5⟩ := hq
 have h3 := hw.growG (Hc := Hc) (rest := [p]) rfl q2 q3
 exact hn v F' H' q5 q2.le _ _ (ha.put (by simpa using hd) v) h3.rot
theorem Jo {fn : Func} {R : Value → Heap → List (Nat × Obj) → Prop} {rs : List ResultVar} {vs : List Value} {H' : List (Nat × Obj)} (hr : fn.results = rs.toArray) (hv : Rv P e σ rs vs) (hp : H'.Sublist σ.H) (hR : R (outOf vs) σ.F H') :
   PostG P fn B R .ret e σ := ⟨rs, vs, σ.F, H', hr, hv, fun _ _ h => h.drop hp, hR⟩
end
end
section
set_option maxRecDepth 100000
open Go.RowKit
theorem Jh : ZeroT Tryz.prog 117 (.agg #[.int .i64 0, .bool false]) := Bw (by kernel_rfl)
theorem zr_35 : ZeroT Tryz.prog 35 (.int .i64 0) := Bw (by kernel_rfl)
theorem NP : ZeroT Tryz.prog 58 (.agg #[.string ⟨#[]⟩, .string ⟨#[]⟩]) := Bw (by kernel_rfl)
theorem JD : ZeroT Tryz.prog 71 (.agg #[.string ⟨#[]⟩, .int .i64 0, .int .i64 0, .int .i64 0, .int .i64 0]) := Bw (by kernel_rfl)
theorem Jf : AggT Tryz.prog 117 2 := C2 (by kernel_rfl)
instance : AggI Tryz.prog 117 2 := ⟨Jf⟩
theorem NL : AggT Tryz.prog 58 2 := C2 (by kernel_rfl)
instance : AggI Tryz.prog 58 2 := ⟨NL⟩
theorem JA : AggT Tryz.prog 71 5 := C2 (by kernel_rfl)
instance : AggI Tryz.prog 71 5 := ⟨JA⟩
theorem NB : FieldT Tryz.prog 25 0 0 := AU (by kernel_rfl)
instance : FieldI Tryz.prog 25 0 0 := ⟨NB⟩
theorem Kz : FieldT Tryz.prog 25 1 1 := AU (by kernel_rfl)
instance : FieldI Tryz.prog 25 1 1 := ⟨Kz⟩
theorem RE : FieldT Tryz.prog 58 0 0 := AU (by kernel_rfl)
instance : FieldI Tryz.prog 58 0 0 := ⟨RE⟩
theorem RD : FieldT Tryz.prog 71 0 0 := AU (by kernel_rfl)
instance : FieldI Tryz.prog 71 0 0 := ⟨RD⟩
theorem EB : OneT Tryz.prog 22 := BA (by kernel_rfl)
instance : OneI Tryz.prog 22 := ⟨EB⟩
theorem DQ : OneT Tryz.prog 23 := BA (by kernel_rfl)
instance : OneI Tryz.prog 23 := ⟨DQ⟩
theorem Nn : OneT Tryz.prog 35 := BA (by kernel_rfl)
instance : OneI Tryz.prog 35 := ⟨Nn⟩
theorem Cc : SliceT Tryz.prog 22 58 2 := BO (by kernel_rfl)
instance : SliceI Tryz.prog 22 := ⟨_, _, Cc⟩
theorem Cx : SliceT Tryz.prog 23 71 5 := BO (by kernel_rfl)
instance : SliceI Tryz.prog 23 := ⟨_, _, Cx⟩
theorem GU : SliceT Tryz.prog 45 117 2 := BO (by kernel_rfl)
instance : SliceI Tryz.prog 45 := ⟨_, _, GU⟩
theorem MZ : SizeT Tryz.prog 117 2 := B1 (by kernel_rfl)
theorem TC : SizeT Tryz.prog 35 1 := B1 (by kernel_rfl)
theorem TA : SizeT Tryz.prog 58 2 := B1 (by kernel_rfl)
theorem Mn : SizeT Tryz.prog 71 5 := B1 (by kernel_rfl)
theorem KH {α β : Type} (f : α → β) {l : List α} {i k : Nat} (hi : i < l.length) (hik : i < k) : (l.take k).map f = (l.take i).map f ++ f l[i] :: ((l.take k).drop (i + 1)).map f := by
 have hlt : i < (l.take k).length := by rw [List.length_take]; omega
 have h : l.take k = l.take i ++ l[i] :: (l.take k).drop (i + 1) := by
   have h1 := List.take_append_drop i (l.take k)
   rw [List.drop_eq_getElem_cons hlt, List.take_take, Nat.min_eq_left (by omega), List.getElem_take] at h1
   exact h1.symm
 rw [← List.map_cons, ← List.map_append, ← h]
abbrev NmA (x : ByteArray) (_G : Heap) (vs : List Value) : Prop := vs = [.string x]
theorem PrsR.ones {F : Heap} {vf vp : Value} {p : Prs} (hr : PrsR F vf vp p) : ∀ u ∈ [vf, vp, .int .i64 p.trim, .int .i64 p.sheets], u.oneCell' = true := by
 intro u hu
 simp only [List.mem_cons, List.not_mem_nil, or_false] at hu
 rcases hu with rfl | rfl | rfl | rfl
 · exact hr.formats.plain.one
 · exact hr.papers.plain.one
 · rfl
 rfl
theorem ME {n : Nat} {f : Nat → Int} : firstQ n f = (0, 0) ∨ ∃ i e, firstQ n f = (i, e) ∧ e ≠ 0 := by
 by_cases h : (firstQ n f).2 = 0
 · left; exact DA (Ek h)
 right; exact ⟨_, _, rfl, h⟩
theorem Q0 {s : ByteArray} {xs : List ByteArray} (h : nameOk s = false) : freshE s xs = 6 := by unfold freshE; rw [if_pos h]
theorem Qz {s : ByteArray} {xs : List ByteArray} (h : nameOk s = true) (h2 : xs.any (fun x => sameS x s) = true) : freshE s xs = 5 := by unfold freshE; rw [if_neg (by rw [h]; simp), if_pos h2]
theorem ST {s : ByteArray} {xs : List ByteArray} (h : nameOk s = true) (h2 : xs.any (fun x => sameS x s) = false) : freshE s xs = 0 := by unfold freshE; rw [if_neg (by rw [h]; simp), if_neg (by rw [h2]; simp)]
theorem Pa {a b : Bool} {z : Int} : (if a = false then (6 : Int) else if b = true then 5 else z) = if (if a = false then (6 : Int) else if b = true then 5 else 0) ≠ 0 then (if a = false then 6 else if b = true then 5 else 0) else z := by
 cases a <;> cases b <;> simp
theorem Do {p : Prs} {k : Nat} (hk : k < p.formats.length) : fmtErr p k = if freshE p.formats[k].name ((p.formats.take k).map (·.name)) ≠ 0 then freshE p.formats[k].name ((p.formats.take k).map (·.name)) else if inB 1 4 p.formats[k].folds.size = false then 3 else if foldsB p.formats[k].folds = false then 6 else 0 := by
 unfold fmtErr
 rw [List.getElem?_eq_getElem hk]
 have hany : ((p.formats.take k).map (·.name)).any (fun x => sameS x p.formats[k].name) = (p.formats.take k).any fun y => sameS y.name p.formats[k].name := by rw [List.any_map]; rfl
 unfold freshE
 rw [hany]
 exact Pa
theorem Fz {p : Prs} {k : Nat} (hk : k < p.papers.length) : pprErr p k = if freshE p.papers[k].name ((p.papers.take k).map (·.name)) ≠ 0 then freshE p.papers[k].name ((p.papers.take k).map (·.name)) else spansE 1 2000 p.papers[k].wlo p.papers[k].whi p.papers[k].hlo p.papers[k].hhi := by
 unfold pprErr
 rw [List.getElem?_eq_getElem hk]
 have hany : ((p.papers.take k).map (·.name)).any (fun x => sameS x p.papers[k].name) = (p.papers.take k).any fun y => sameS y.name p.papers[k].name := by rw [List.any_map]; rfl
 unfold freshE
 rw [hany]
 exact Pa
theorem JW {F : Heap} {v : Value} {xs : List Fmt} (h : Sl F v 2 Fmt.enc xs) (f : Nat → Int) {g : FuncId} {cs : List Value} (hg : Body Tryz.prog g) (hp : ∀ k (hk : k < xs.length), (∀ j, j < k → f j = 0) → Ok Tryz.prog g ([Value.int .i64 (k : Int), Value.agg (Fmt.enc xs[k]).toArray] ++ cs).toArray F fun r _ => r = .int .i64 (f k)) : Ok Tryz.prog 122 [v, .func (.func g) #[] cs.toArray].toArray F fun r _ => r = .tuple #[.int .i64 (firstQ xs.length f).1, .int .i64 (firstQ xs.length f).2] := by
 refine Ok.intro Tryz.func122 rfl Tryz.ntmps122 rfl fun w0 => ?_
 have hlen := h.plain.lt
 refine AD (Ag 2) <| Ac <| Ax (Ag 1) fun ds => Ad rfl (AA Cc Aa h.plain) <| Aw (Ag 1) <| Aq ?_
 refine AH [4, 5, 6, 7, 8, 11, 12, 13, 14, 15, 16, 17, 18, 19, 20, 21, 22, 23, 24] (fun m e σ => ∃ k : Nat, m + k = xs.length ∧ Fct e 11 (.int .i64 (k : Int)) ∧ σ = ⟨F, []⟩ ∧ ∀ j, j < k → f j = 0) (xs.length) ?_ ?_
 · exact ⟨0, by omega, Ba, rfl, fun j h => absurd h (by omega)⟩
 rintro m e _ ⟨k, hm, hs11, rfl, hno⟩
 by_cases hlt : k < xs.length
 ·refine AD (Ag 1) <| Ac <| Ah Aa (by first | rfl | exact dT (by omega)) ?_
  by_cases hfk : f k = 0
  ·refine Ak <| Ab <| Ac <| Aq <| Ax (Ag 1) fun ds => Ad rfl (A1  Cc Aa h.plain Aa rfl (by omega)) <| Ad rfl (A6 NL Aa rfl rfl (h.whole (by omega))) <| A5 rfl <| AF NP rfl fun b2 hb2 nb2 => Ao (Ag 1) <| AZ <| AC TA Aa Aa (i := 0) rfl rfl rfl rfl Fmt.enc_one (.here) <| Al <| Ab <| Ax (Ag 3) fun ds => AE rfl (As hg Aa AO (hp k hlt hno) (fun _ _ h => h)) <| Aw (Ag 1) <| AD (Ag 2) <| Ae Aa (dF (fun h => h hfk)) <| Ak <| A4 <| Ab <| Bk (fun _ _ h => h.drop (kD <| .refl _)) <| Aj fun ds => Ad rfl (AJ Aa Aa rfl (by omega) (by omega)) <| Ao (Ag 1) <| Al ?_
   refine Ab ⟨_, m - 1, Off.eq (Ci rfl <| BI rfl <| BF rfl <| BQ rfl <| A3), by omega, ?_⟩
   refine ⟨k + 1, by omega, Ba, rfl, fun j hjk => ?_⟩
   rcases Nat.lt_succ_iff_lt_or_eq.1 hjk with hjk | rfl
   · exact hno j hjk
   exact hfk
  refine Ak <| Ab <| Ac <| Aq <| Ax (Ag 1) fun ds => Ad rfl (A1  Cc Aa h.plain Aa rfl (by omega)) <| Ad rfl (A6 NL Aa rfl rfl (h.whole (by omega))) <| A5 rfl <| AF NP rfl fun b3 hb3 nb3 => Ao (Ag 1) <| AZ <| AC TA Aa Aa (i := 0) rfl rfl rfl rfl Fmt.enc_one (.here) <| Al <| Ab <| Ax (Ag 3) fun ds => AE rfl (As hg Aa AO (hp k hlt hno) (fun _ _ h => h)) <| Aw (Ag 1) <| AD (Ag 2) <| Ah Aa (dT hfk) <| AD (Ag 4) <| Au ?_
  refine A7 (Ay (Ay (A7 (Ay ?_))))
  refine Am rfl Bi ?_
  show _ = _
  rw [D7 hlt hno hfk]; rfl
 refine AD (Ag 1) <| Ac <| Ae Aa (by first | rfl | exact dF (by omega)) <| AG ?_
 refine A2 <| A2 <| A8 <| Ab <| AD (Ag 2) <| Au <| Am rfl Bi ?_
 show _ = _
 rw [DA fun j hj => hno j (by omega)]; rfl
theorem JV {F : Heap} {v : Value} {xs : List Ppr} (h : Sl F v 5 Ppr.enc xs) (f : Nat → Int) {g : FuncId} {cs : List Value} (hg : Body Tryz.prog g) (hp : ∀ k (hk : k < xs.length), (∀ j, j < k → f j = 0) → Ok Tryz.prog g ([Value.int .i64 (k : Int), Value.agg (Ppr.enc xs[k]).toArray] ++ cs).toArray F fun r _ => r = .int .i64 (f k)) : Ok Tryz.prog 126 [v, .func (.func g) #[] cs.toArray].toArray F fun r _ => r = .tuple #[.int .i64 (firstQ xs.length f).1, .int .i64 (firstQ xs.length f).2] := by
 refine Ok.intro Tryz.func126 rfl Tryz.ntmps126 rfl fun w0 => ?_
 have hlen := h.plain.lt
 refine AD (Ag 2) <| Ac <| Ax (Ag 1) fun ds => Ad rfl (AA Cx Aa h.plain) <| Aw (Ag 1) <| Aq ?_
 refine AH [4, 5, 6, 7, 8, 11, 12, 13, 14, 15, 16, 17, 18, 19, 20, 21, 22, 23, 24] (fun m e σ => ∃ k : Nat, m + k = xs.length ∧ Fct e 11 (.int .i64 (k : Int)) ∧ σ = ⟨F, []⟩ ∧ ∀ j, j < k → f j = 0) (xs.length) ?_ ?_
 · exact ⟨0, by omega, Ba, rfl, fun j h => absurd h (by omega)⟩
 rintro m e _ ⟨k, hm, hs11, rfl, hno⟩
 by_cases hlt : k < xs.length
 ·refine AD (Ag 1) <| Ac <| Ah Aa (by first | rfl | exact dT (by omega)) ?_
  by_cases hfk : f k = 0
  ·refine Ak <| Ab <| Ac <| Aq <| Ax (Ag 1) fun ds => Ad rfl (A1  Cx Aa h.plain Aa rfl (by omega)) <| Ad rfl (A6 JA Aa rfl rfl (h.whole (by omega))) <| A5 rfl <| AF JD rfl fun b2 hb2 nb2 => Ao (Ag 1) <| AZ <| AC Mn Aa Aa (i := 0) rfl rfl rfl rfl Ppr.enc_one (.here) <| Al <| Ab <| Ax (Ag 3) fun ds => AE rfl (As hg Aa AO (hp k hlt hno) (fun _ _ h => h)) <| Aw (Ag 1) <| AD (Ag 2) <| Ae Aa (dF (fun h => h hfk)) <| Ak <| A4 <| Ab <| Bk (fun _ _ h => h.drop (kD <| .refl _)) <| Aj fun ds => Ad rfl (AJ Aa Aa rfl (by omega) (by omega)) <| Ao (Ag 1) <| Al ?_
   refine Ab ⟨_, m - 1, Off.eq (Ci rfl <| BI rfl <| BF rfl <| BQ rfl <| A3), by omega, ?_⟩
   refine ⟨k + 1, by omega, Ba, rfl, fun j hjk => ?_⟩
   rcases Nat.lt_succ_iff_lt_or_eq.1 hjk with hjk | rfl
   · exact hno j hjk
   exact hfk
  refine Ak <| Ab <| Ac <| Aq <| Ax (Ag 1) fun ds => Ad rfl (A1  Cx Aa h.plain Aa rfl (by omega)) <| Ad rfl (A6 JA Aa rfl rfl (h.whole (by omega))) <| A5 rfl <| AF JD rfl fun b3 hb3 nb3 => Ao (Ag 1) <| AZ <| AC Mn Aa Aa (i := 0) rfl rfl rfl rfl Ppr.enc_one (.here) <| Al <| Ab <| Ax (Ag 3) fun ds => AE rfl (As hg Aa AO (hp k hlt hno) (fun _ _ h => h)) <| Aw (Ag 1) <| AD (Ag 2) <| Ah Aa (dT hfk) <| AD (Ag 4) <| Au ?_
  refine A7 (Ay (Ay (A7 (Ay ?_))))
  refine Am rfl Bi ?_
  show _ = _
  rw [D7 hlt hno hfk]; rfl
 refine AD (Ag 1) <| Ac <| Ae Aa (by first | rfl | exact dF (by omega)) <| AG ?_
 refine A2 <| A2 <| A8 <| Ab <| AD (Ag 2) <| Au <| Am rfl Bi ?_
 show _ = _
 rw [DA fun j hj => hno j (by omega)]; rfl
theorem Pj {F : Heap} {v : Value} {xs : List Mrk} (h : Sl F v 2 Mrk.enc xs) (f : Nat → Int) {g : FuncId} {cs : List Value} (hg : Body Tryz.prog g) (hp : ∀ k (hk : k < xs.length), (∀ j, j < k → f j = 0) → Ok Tryz.prog g ([Value.int .i64 (k : Int), Value.agg (Mrk.enc xs[k]).toArray] ++ cs).toArray F fun r _ => r = .int .i64 (f k)) : Ok Tryz.prog 115 [v, .func (.func g) #[] cs.toArray].toArray F fun r _ => r = .tuple #[.int .i64 (firstQ xs.length f).1, .int .i64 (firstQ xs.length f).2] := by
 refine Ok.intro Tryz.func115 rfl Tryz.ntmps115 rfl fun w0 => ?_
 have hlen := h.plain.lt
 refine AD (Ag 2) <| Ac <| Ax (Ag 1) fun ds => Ad rfl (AA GU Aa h.plain) <| Aw (Ag 1) <| Aq ?_
 refine AH [4, 5, 6, 7, 8, 11, 12, 13, 14, 15, 16, 17, 18, 19, 20, 21, 22, 23, 24] (fun m e σ => ∃ k : Nat, m + k = xs.length ∧ Fct e 11 (.int .i64 (k : Int)) ∧ σ = ⟨F, []⟩ ∧ ∀ j, j < k → f j = 0) (xs.length) ?_ ?_
 · exact ⟨0, by omega, Ba, rfl, fun j h => absurd h (by omega)⟩
 rintro m e _ ⟨k, hm, hs11, rfl, hno⟩
 by_cases hlt : k < xs.length
 ·refine AD (Ag 1) <| Ac <| Ah Aa (by first | rfl | exact dT (by omega)) ?_
  by_cases hfk : f k = 0
  ·refine Ak <| Ab <| Ac <| Aq <| Ax (Ag 1) fun ds => Ad rfl (A1  GU Aa h.plain Aa rfl (by omega)) <| Ad rfl (A6 Jf Aa rfl rfl (h.whole (by omega))) <| A5 rfl <| AF Jh rfl fun b2 hb2 nb2 => Ao (Ag 1) <| AZ <| AC MZ Aa Aa (i := 0) rfl rfl rfl rfl Mrk.enc_one (.here) <| Al <| Ab <| Ax (Ag 3) fun ds => AE rfl (As hg Aa AO (hp k hlt hno) (fun _ _ h => h)) <| Aw (Ag 1) <| AD (Ag 2) <| Ae Aa (dF (fun h => h hfk)) <| Ak <| A4 <| Ab <| Bk (fun _ _ h => h.drop (kD <| .refl _)) <| Aj fun ds => Ad rfl (AJ Aa Aa rfl (by omega) (by omega)) <| Ao (Ag 1) <| Al ?_
   refine Ab ⟨_, m - 1, Off.eq (Ci rfl <| BI rfl <| BF rfl <| BQ rfl <| A3), by omega, ?_⟩
   refine ⟨k + 1, by omega, Ba, rfl, fun j hjk => ?_⟩
   rcases Nat.lt_succ_iff_lt_or_eq.1 hjk with hjk | rfl
   · exact hno j hjk
   exact hfk
  refine Ak <| Ab <| Ac <| Aq <| Ax (Ag 1) fun ds => Ad rfl (A1  GU Aa h.plain Aa rfl (by omega)) <| Ad rfl (A6 Jf Aa rfl rfl (h.whole (by omega))) <| A5 rfl <| AF Jh rfl fun b3 hb3 nb3 => Ao (Ag 1) <| AZ <| AC MZ Aa Aa (i := 0) rfl rfl rfl rfl Mrk.enc_one (.here) <| Al <| Ab <| Ax (Ag 3) fun ds => AE rfl (As hg Aa AO (hp k hlt hno) (fun _ _ h => h)) <| Aw (Ag 1) <| AD (Ag 2) <| Ah Aa (dT hfk) <| AD (Ag 4) <| Au ?_
  refine A7 (Ay (Ay (A7 (Ay ?_))))
  refine Am rfl Bi ?_
  show _ = _
  rw [D7 hlt hno hfk]; rfl
 refine AD (Ag 1) <| Ac <| Ae Aa (by first | rfl | exact dF (by omega)) <| AG ?_
 refine A2 <| A2 <| A8 <| Ab <| AD (Ag 2) <| Au <| Am rfl Bi ?_
 show _ = _
 rw [DA fun j hj => hno j (by omega)]; rfl
theorem OC {F : Heap} {s : ByteArray} {g : FuncId} {cs : List Value} (hg : Body Tryz.prog g) {xs : List ByteArray} (hit : IterG Tryz.prog g cs F NmA xs) : Ok Tryz.prog 124 [.string s, .func (.func g) #[] cs.toArray].toArray F fun r _ => r = .int .i64 (freshE s xs) := by
 refine Ok.intro Tryz.func124 rfl Tryz.ntmps124 rfl fun w0 => ?_
 by_cases hn : nameOk s = true
 ·refine Ac <| Aj fun ds => A5 rfl <| AX Aa rfl fun b1 hb1 nb1 => A5 rfl <| AF zr_35 rfl fun b2 hb2 nb2 => Al <| Ab <| Ac <| Ax (Ag 1) fun ds => AE rfl (As J7 Aa AO (Dk _) (fun _ _ h => h)) <| Aw (Ag 1) <| Ae Aa (by rw [hn]; rfl) <| Ak <| Ab <| Ac <| AD (Ag 1) <| Aq ?_
  refine JB rfl Aa hg hit (Heap.le_refl _) (fun pre _ H => pre.any (fun x => sameS x s) = false ∧ H = [(b2, bx 35 [.int .i64 0]), (b1, bx 9 [.string s])]) (fun cd _ H => cd = .ret ∧ xs.any (fun x => sameS x s) = true ∧ H = [(b2, bx 35 [.int .i64 5]), (b1, bx 9 [.string s])]) (fun _ _ _ _ _ h => h) (fun _ _ _ _ _ h => h) ⟨rfl, rfl⟩ (fun L D fn tm pre x rest G1 H1 vs hxs hle1 hJ hA => ?_) (fun c F2 H1 hF2 hJ => ?_) (fun F2 H1 hF2 hJ => ?_)
  ·obtain ⟨hpre, rfl⟩ := hJ
   obtain rfl := hA
   refine ⟨rfl, rfl, fun w1 => ?_⟩
   refine Sm (e' := (upd _ 10 (.string x))) rfl rfl <| B8 (.inr (by kernel_rfl)) (fun _ _ h => h) fun ds => Ao (Ag 1) <| Al ?_
   refine Ab ⟨_, rfl, ?_⟩
   by_cases hxx : sameS x s = true
   ·refine Aq <| Ac <| B8 (.inr (by kernel_rfl)) (fun _ _ h => h) fun ds => Aw (Ag 3) <| Ah Aa hxx <| Ac <| B8 (.inr (by kernel_rfl)) (fun _ _ h => h) fun ds => AZ <| AW TC Aa Aa (i := 2) rfl (.here) rfl (.next <| .next <| .here) <| Al <| Ab <| Au <| A7 <| TM (.one (.here) <| .one (.here) <| .one (.here) <| .one (.here) <| .nil) ?_
    refine .inr ⟨rfl, _, _, rfl, hle1, ?_⟩
    exact ⟨rfl, by rw [hxs, List.any_append, List.any_cons, hxx]; simp, rfl⟩
   replace hxx : sameS x s = false := by simpa using hxx
   refine Aq <| Ac <| B8 (.inr (by kernel_rfl)) (fun _ _ h => h) fun ds => Aw (Ag 3) <| Ae Aa hxx <| Ak <| A4 <| E9 (.one (.here) <| .one (.here) <| .one (.here) <| .one (.here) <| .nil) ?_
   refine .inl ⟨rfl, _, rfl, hle1, ?_⟩
   exact ⟨by rw [List.any_append, hpre]; simp [hxx], rfl⟩
  ·obtain ⟨rfl, hyes, rfl⟩ := hJ
   refine Au <| A7 <| Ay <| Am rfl (.one Nn Aa (Cell.own 0 rfl rfl) .nil) ?_
   show Value.int .i64 _ = _
   rw [Qz hn hyes]
  obtain ⟨hall, rfl⟩ := hJ
  refine A4 <| Ab <| Ac <| Aj fun ds => AZ <| AW TC Aa Aa (i := 0) rfl (.here) rfl (.here) <| Al <| Ab <| Au <| Am rfl (.one Nn Aa (Cell.own 0 rfl rfl) .nil) ?_
  show Value.int .i64 _ = _
  rw [ST hn hall]
 replace hn : nameOk s = false := by simpa using hn
 refine Ac <| Aj fun ds => A5 rfl <| AX Aa rfl fun b3 hb3 nb3 => A5 rfl <| AF zr_35 rfl fun b4 hb4 nb4 => Al <| Ab <| Ac <| Ax (Ag 1) fun ds => AE rfl (As J7 Aa AO (Dk _) (fun _ _ h => h)) <| Aw (Ag 1) <| Ah Aa (by rw [hn]; rfl) <| Ac <| Aj fun ds => AZ <| AW TC Aa Aa (i := 0) rfl (.here) rfl (.here) <| Al <| Ab <| Au <| Ay <| Am rfl (.one Nn Aa (Cell.own 0 rfl rfl) .nil) ?_
 show Value.int .i64 _ = _
 rw [Q0 hn]
theorem OB {F0 : Heap} {vf vp : Value} {p : Prs} (hr0 : PrsR F0 vf vp p) {d1 d2 k : Nat} (hk : k ≤ p.formats.length) (z01 : F0 d1 = some (bx 25 [vf, vp, .int .i64 p.trim, .int .i64 p.sheets])) (z02 : F0 d2 = some (bx 3 [.int .i64 (k : Int)])) : IterG Tryz.prog 125 [.pointer (some ⟨d1, 0, none⟩), .pointer (some ⟨d2, 0, none⟩)] F0 NmA ((p.formats.take k).map (·.name)) := by
 intro L J Jx F RH hF hm hmx hy h0
 have hr := hr0.mono hF
 have z1 := hF _ _ z01
 have z2 := hF _ _ z02
 refine OkG.intro Tryz.func125 rfl Tryz.ntmps125 rfl fun w0 => ?_
 have hts := hr.formats.to (k := k) hk
 have hL := hr.formats.plain.lt
 refine Ax (Ag 1) fun ds => Ad rfl (Ap EB Aa (AP z1 rfl)) <| Ad rfl (Ap AM Aa (AP z2 rfl)) <| Ad rfl (D9 Cc Aa hr.formats.plain Aa (k := k) rfl hk) <| Ad rfl (AA Cc Aa hts.plain) <| Aw (Ag 1) <| Aq ?_
 refine AH [5, 11, 12, 13, 14, 15, 16, 17, 18, 19, 20] (fun m e σ => ∃ G RH, F0.le G ∧ F.le G ∧ ∃ i : Nat, m + i = (p.formats.take k).length ∧ Fct e 11 (.int .i64 (i : Int)) ∧ J ((p.formats.take i).map (·.name)) G RH ∧ σ = ⟨G, RH⟩) ((p.formats.take k).length) ?_ ?_
 · exact ⟨_, _, hF, Heap.le_refl _, 0, by omega, Ba, h0, rfl⟩
 rintro m e _ ⟨G, RH, hG, hFG, i, hm1, hs11, hJ, rfl⟩; replace hr := hr.mono hFG; replace hts := hts.mono hFG; replace z1 := hFG _ _ z1; replace z2 := hFG _ _ z2
 by_cases hlt : i < (p.formats.take k).length
 ·have hil : i < p.formats.length := by rw [List.length_take] at hlt; omega
  have hik : i < k := by rw [List.length_take] at hlt; omega
  have hie : (p.formats.take k)[i] = p.formats[i] := by rw [List.getElem_take]
  have hsp := KH (fun x : Fmt => x.name) hil hik
  refine AD (Ag 1) <| Ac <| Ah Aa (by first | rfl | exact dT (by omega)) <| Ak <| Ab <| Ac <| Aq <| Ac <| Aj fun ds => Ad rfl (A1 (k := i) Cc Aa hts.plain Aa rfl hlt) <| Ad rfl (A6 NL Aa rfl rfl (hts.whole hlt)) <| A5 rfl <| AF NP rfl fun b2 hb2 nb2 => AZ <| AC TA Aa Aa (i := 0) rfl rfl rfl rfl Fmt.enc_one (.here) <| Al <| Ab <| Ac <| EK fun ds => Ep rfl rfl (A0 Aa) <| Ep rfl rfl (Az RE Aa) <| Ep rfl rfl (Ap BU Aa (Cell.own 0 rfl rfl)) <| QS rfl Aa AO rfl (hy _ p.formats[i].name _ _ _ _ hsp hG hJ (by rw [← hie])) fun v7 F8 RH9 hr9 hF10 => ?_
  replace hG := Heap.le_trans hG hF10
  replace hFG := Heap.le_trans hFG hF10
  replace hJ := hm _ _ _ _ hF10 hJ
  obtain ⟨yb, rfl, hyb⟩ := MW hr9
  refine Ep rfl rfl (EQ Aa) <| LT <| Ab ?_
  rcases hyb with ⟨rfl, hJ2⟩ | ⟨rfl, hJx⟩
  ·refine Ae Aa rfl <| Ak <| A4 <| Ab <| Bk (fun _ _ h => h.drop (kD <| .refl _)) <| Aj fun ds => Ad rfl (AJ Aa Aa rfl (by omega) (by omega)) <| Ao (Ag 1) <| Al ?_
   refine Ab ⟨_, m - 1, Off.eq (Ci rfl <| BF rfl <| BQ rfl <| A3), by omega, ?_⟩
   exact ⟨_, _, hG, hFG, i + 1, by omega, Ba, by rw [List.take_succ_eq_append_getElem (by omega), List.map_append]; exact hJ2, rfl⟩
  refine Ah Aa rfl <| Au ?_
  refine A7 (Ay (Ay (A7 ?_)))
  refine Jo rfl .nil (.cons _ (.refl _)) ?_
  exact .inr hJx
 refine AD (Ag 1) <| Ac <| Ae Aa (by first | rfl | exact dF (by omega)) ?_
 have hil : i = (p.formats.take k).length := by omega
 have hte : p.formats.take i = p.formats.take k := by rw [List.length_take] at hil; rw [hil]; rw [Nat.min_eq_left (by omega)]
 rw [hte] at hJ
 refine AG ?_
 refine A2 <| A2 <| A8 <| Jp rfl .nil .all ?_
 exact .inl hJ
theorem OA {F0 : Heap} {vf vp : Value} {p : Prs} (hr0 : PrsR F0 vf vp p) {d1 d2 k : Nat} (hk : k ≤ p.papers.length) (z01 : F0 d1 = some (bx 25 [vf, vp, .int .i64 p.trim, .int .i64 p.sheets])) (z02 : F0 d2 = some (bx 3 [.int .i64 (k : Int)])) : IterG Tryz.prog 128 [.pointer (some ⟨d1, 0, none⟩), .pointer (some ⟨d2, 0, none⟩)] F0 NmA ((p.papers.take k).map (·.name)) := by
 intro L J Jx F RH hF hm hmx hy h0
 have hr := hr0.mono hF
 have z1 := hF _ _ z01
 have z2 := hF _ _ z02
 refine OkG.intro Tryz.func128 rfl Tryz.ntmps128 rfl fun w0 => ?_
 have hts := hr.papers.to (k := k) hk
 have hL := hr.papers.plain.lt
 refine Ax (Ag 1) fun ds => Ad rfl (Ap DQ Aa (AP z1 rfl)) <| Ad rfl (Ap AM Aa (AP z2 rfl)) <| Ad rfl (D9 Cx Aa hr.papers.plain Aa (k := k) rfl hk) <| Ad rfl (AA Cx Aa hts.plain) <| Aw (Ag 1) <| Aq ?_
 refine AH [5, 11, 12, 13, 14, 15, 16, 17, 18, 19, 20] (fun m e σ => ∃ G RH, F0.le G ∧ F.le G ∧ ∃ i : Nat, m + i = (p.papers.take k).length ∧ Fct e 11 (.int .i64 (i : Int)) ∧ J ((p.papers.take i).map (·.name)) G RH ∧ σ = ⟨G, RH⟩) ((p.papers.take k).length) ?_ ?_
 · exact ⟨_, _, hF, Heap.le_refl _, 0, by omega, Ba, h0, rfl⟩
 rintro m e _ ⟨G, RH, hG, hFG, i, hm1, hs11, hJ, rfl⟩; replace hr := hr.mono hFG; replace hts := hts.mono hFG; replace z1 := hFG _ _ z1; replace z2 := hFG _ _ z2
 by_cases hlt : i < (p.papers.take k).length
 ·have hil : i < p.papers.length := by rw [List.length_take] at hlt; omega
  have hik : i < k := by rw [List.length_take] at hlt; omega
  have hie : (p.papers.take k)[i] = p.papers[i] := by rw [List.getElem_take]
  have hsp := KH (fun x : Ppr => x.name) hil hik
  refine AD (Ag 1) <| Ac <| Ah Aa (by first | rfl | exact dT (by omega)) <| Ak <| Ab <| Ac <| Aq <| Ac <| Aj fun ds => Ad rfl (A1 (k := i) Cx Aa hts.plain Aa rfl hlt) <| Ad rfl (A6 JA Aa rfl rfl (hts.whole hlt)) <| A5 rfl <| AF JD rfl fun b2 hb2 nb2 => AZ <| AC Mn Aa Aa (i := 0) rfl rfl rfl rfl Ppr.enc_one (.here) <| Al <| Ab <| Ac <| EK fun ds => Ep rfl rfl (A0 Aa) <| Ep rfl rfl (Az RD Aa) <| Ep rfl rfl (Ap BU Aa (Cell.own 0 rfl rfl)) <| QS rfl Aa AO rfl (hy _ p.papers[i].name _ _ _ _ hsp hG hJ (by rw [← hie])) fun v7 F8 RH9 hr9 hF10 => ?_
  replace hG := Heap.le_trans hG hF10
  replace hFG := Heap.le_trans hFG hF10
  replace hJ := hm _ _ _ _ hF10 hJ
  obtain ⟨yb, rfl, hyb⟩ := MW hr9
  refine Ep rfl rfl (EQ Aa) <| LT <| Ab ?_
  rcases hyb with ⟨rfl, hJ2⟩ | ⟨rfl, hJx⟩
  ·refine Ae Aa rfl <| Ak <| A4 <| Ab <| Bk (fun _ _ h => h.drop (kD <| .refl _)) <| Aj fun ds => Ad rfl (AJ Aa Aa rfl (by omega) (by omega)) <| Ao (Ag 1) <| Al ?_
   refine Ab ⟨_, m - 1, Off.eq (Ci rfl <| BF rfl <| BQ rfl <| A3), by omega, ?_⟩
   exact ⟨_, _, hG, hFG, i + 1, by omega, Ba, by rw [List.take_succ_eq_append_getElem (by omega), List.map_append]; exact hJ2, rfl⟩
  refine Ah Aa rfl <| Au ?_
  refine A7 (Ay (Ay (A7 ?_)))
  refine Jo rfl .nil (.cons _ (.refl _)) ?_
  exact .inr hJx
 refine AD (Ag 1) <| Ac <| Ae Aa (by first | rfl | exact dF (by omega)) ?_
 have hil : i = (p.papers.take k).length := by omega
 have hte : p.papers.take i = p.papers.take k := by rw [List.length_take] at hil; rw [hil]; rw [Nat.min_eq_left (by omega)]
 rw [hte] at hJ
 refine AG ?_
 refine A2 <| A2 <| A8 <| Jp rfl .nil .all ?_
 exact .inl hJ
end
section
open Go.RowKit
theorem Ca {F : Heap} {H : List (Nat × Obj)} {b T o n : Nat} {l vs : List Value} (hz : F b = some (bx T l)) (hv : (l.drop o).take n = vs) : ∀ j v, vs[j]? = some v → Cell ⟨F, H⟩ (addc ⟨b, o, none⟩ j) v := fun j v h => by
 subst hv
 have h2 : l[o + j]? = some v := by
   rw [List.getElem?_take] at h
   split at h
   · rw [List.getElem?_drop] at h; exact h
   cases h
 exact (CellF.own hz h2).cell
end
section
set_option maxRecDepth 100000
open Go.RowKit
theorem V4 : Body Tryz.prog 114 := AB (by kernel_rfl)
theorem Vy : Body Tryz.prog 122 := AB (by kernel_rfl)
theorem Vx : Body Tryz.prog 123 := AB (by kernel_rfl)
theorem Vw : Body Tryz.prog 124 := AB (by kernel_rfl)
theorem bd_125 : Body Tryz.prog 125 := AB (by kernel_rfl)
theorem Vv : Body Tryz.prog 126 := AB (by kernel_rfl)
theorem Vu : Body Tryz.prog 127 := AB (by kernel_rfl)
theorem bd_128 : Body Tryz.prog 128 := AB (by kernel_rfl)
instance : FieldI Tryz.prog 25 2 2 := ⟨AU (by kernel_rfl)⟩
instance : FieldI Tryz.prog 25 3 3 := ⟨AU (by kernel_rfl)⟩
theorem N6 : FieldT Tryz.prog 58 1 1 := AU (by kernel_rfl)
instance : FieldI Tryz.prog 58 1 1 := ⟨N6⟩
theorem HL : FieldT Tryz.prog 71 1 1 := AU (by kernel_rfl)
instance : FieldI Tryz.prog 71 1 1 := ⟨HL⟩
theorem HK : FieldT Tryz.prog 71 2 3 := AU (by kernel_rfl)
instance : FieldI Tryz.prog 71 2 3 := ⟨HK⟩
theorem LB {F : Heap} {vf vp : Value} {p : Prs} (hr : PrsR F vf vp p) {c : Nat} (hc : F c = some (bx 25 [vf, vp, .int .i64 p.trim, .int .i64 p.sheets])) {k : Nat} (hk : k < p.formats.length) : Ok Tryz.prog 123 [.int .i64 (k : Int), .agg (Fmt.enc p.formats[k]).toArray, .pointer (some ⟨c, 0, none⟩)].toArray F fun r _ => r = .int .i64 (fmtErr p k) := by
 refine Ok.intro Tryz.func123 rfl Tryz.ntmps123 rfl fun w0 => Ac <| Aj fun ds => A5 rfl <| AX Aa rfl fun b1 hb1 nb1 => A5 rfl <| AX Aa rfl fun b2 hb2 nb2 => Aw (Ag 1) <| Ac <| AN (i := 1) rfl hb1 (.next <| .here) fun F3 hF4 hz3 => ?_
 replace hr := hr.mono hF4
 replace hc := hF4 _ _ hc
 refine AN (i := 0) rfl hb2 (.here) fun F5 hF6 hz4 => ?_
 replace hr := hr.mono hF6
 replace hc := hF6 _ _ hc
 replace hz3 := hF6 _ _ hz3
 refine Aj fun ds => Ao (Ag 1) <| Ad rfl (Ap BU Aa (AP hz4 rfl)) <| Ad rfl (Bm AO) <| AE rfl (As Vw Aa AO (OC bd_125 (OB hr (Nat.le_of_lt hk) hc hz3)) (fun _ _ h => h)) <| Aw (Ag 1) <| Ac <| Aq <| Ac ?_
 by_cases hf : freshE p.formats[k].name ((p.formats.take k).map (·.name)) = 0
 ·refine Aj fun ds => Aw (Ag 3) <| Ae Aa (dF (fun h => h hf)) ?_
  by_cases hl : inB 1 4 p.formats[k].folds.size = true
  ·refine Ax (Ag 1) fun ds => Ad rfl (Ap BU Aa (AP hz4 rfl)) <| Ad rfl (Cg Tryz.underlying9 Aa) <| A5 rfl <| AS AR B3 rfl (.cons Aa .nil) rfl rfl (by decide) (by simp [Value.oneCell']) fun b7 hb7 nb7 => AQ (i := 0) rfl hb7 .here fun F8 hF9 hz10 => ?_
   replace hz4 := hF9 _ _ hz4
   have hsl11 := Be hz10
   refine AE rfl (As CK Aa AO (Bp _ _ hsl11) (fun _ _ h => h)) <| Aw (Ag 1) <| Ae Aa (by simp [hl]) <| Ak <| A4 <| Ab <| Ac <| Ax (Ag 1) fun ds => Ad rfl (Ap BU Aa (AP hz4 rfl)) <| A5 rfl <| Ht Tryz.underlying9 Aa fun b12 hb12 nb12 => Al <| Ab <| Aq ?_
   refine AH [5, 8, 26, 27, 28, 29, 30, 31, 32, 33, 34] (fun m e σ => ∃ j : Nat, m + j = p.formats[k].folds.size ∧ σ = ⟨F8, [(b12, .stringIter p.formats[k].folds j)]⟩ ∧ ∀ i (hi : i < p.formats[k].folds.size), i < j → p.formats[k].folds[i] = 120 ∨ p.formats[k].folds[i] = 121) (p.formats[k].folds.size) ?_ ?_
   · exact ⟨0, by omega, rfl, fun i hi h => absurd h (by omega)⟩
   rintro m e _ ⟨j, hm, rfl, hno⟩
   by_cases hlt : j < p.formats[k].folds.size
   ·by_cases ha : p.formats[k].folds[j].toNat < 128
    ·have hdec := decode_ascii p.formats[k].folds j hlt ha
     refine Ac <| Aj fun ds => A5 rfl <| G7 Aa (i := 0) rfl hlt hdec (.here) <| Aw (Ag 1) <| Ac <| Ah Aa rfl ?_
     by_cases hx : p.formats[k].folds[j] = 120
     ·refine Ak <| Ab <| Aq <| AD (Ag 2) <| Ax (Ag 3) fun ds => Ar rfl rfl Aa (.inl (congrArg Value.bool (dF (fun h => h ((Ch (n := 120) (by decide)).2 hx))))) rfl <| Ar rfl rfl Aa (.inl (congrArg Value.bool (dF (fun h => h ((Ch (n := 120) (by decide)).2 hx))))) rfl <| Ad rfl (A9 Aa (dF (fun h => h ((Ch (n := 120) (by decide)).2 hx))) Aa) <| Al <| Ab <| Ae Aa rfl <| Ak <| A4 ?_
      refine Ab ⟨_, m - 1, Off.eq (Ci rfl <| BF rfl <| A3), by omega, ?_⟩
      exact ⟨j + 1, by omega, rfl, fun i hi hij => (Nat.lt_succ_iff_lt_or_eq.1 hij).elim (hno i hi) fun e => by subst e; exact .inl hx⟩
     refine Ak <| Ab <| Aq <| AD (Ag 2) <| Ax (Ag 3) fun ds => Ai rfl rfl Aa (dT (fun h => hx ((Ch (n := 120) (by decide)).1 h))) <| Ao (Ag 1) <| Ai rfl rfl Aa (dT (fun h => hx ((Ch (n := 120) (by decide)).1 h))) <| Ao (Ag 1) <| Ad rfl (At Aa (dT (fun h => hx ((Ch (n := 120) (by decide)).1 h))) Aa) <| Al <| Ab ?_
     by_cases hy : p.formats[k].folds[j] = 121
     ·refine Ae Aa (dF (fun h => h ((Ch (n := 121) (by decide)).2 hy))) <| Ak <| A4 ?_
      refine Ab ⟨_, m - 1, Off.eq (Ci rfl <| BF rfl <| A3), by omega, ?_⟩
      exact ⟨j + 1, by omega, rfl, fun i hi hij => (Nat.lt_succ_iff_lt_or_eq.1 hij).elim (hno i hi) fun e => by subst e; exact .inr hy⟩
     refine Ah Aa (dT (fun h => hy ((Ch (n := 121) (by decide)).1 h))) <| AD (Ag 1) <| Au ?_
     refine A7 (Ay (A7 (Ay ?_)))
     refine Am rfl Bi ?_
     show Value.int .i64 _ = Value.int .i64 _
     rw [Do hk, if_neg (fun h => h hf), if_neg (by rw [hl]; simp), if_pos (Jt hlt hx hy)]
    obtain ⟨rc, wd, hdec⟩ : ∃ rc wd, Utf8.decode p.formats[k].folds j = (rc, wd) := ⟨_, _, rfl⟩
    have hrc : 128 ≤ rc := by have := JY p.formats[k].folds j hlt (by omega); rw [hdec] at this; exact this
    have hx : ¬ p.formats[k].folds[j] = 120 := fun e => ha (by rw [e]; decide)
    have hy : ¬ p.formats[k].folds[j] = 121 := fun e => ha (by rw [e]; decide)
    refine Ac <| Aj fun ds => A5 rfl <| G7 Aa (i := 0) rfl hlt hdec (.here) <| Aw (Ag 1) <| Ac <| Ah Aa rfl <| Ak <| Ab <| Aq <| AD (Ag 2) <| Ax (Ag 3) fun ds => Ai rfl rfl Aa (dT (by omega)) <| Ao (Ag 1) <| Ai rfl rfl Aa (dT (by omega)) <| Ao (Ag 1) <| Ad rfl (At Aa (dT (by omega)) Aa) <| Al <| Ab <| Ah Aa (dT (by omega)) <| AD (Ag 1) <| Au ?_
    refine A7 (Ay (A7 (Ay ?_)))
    refine Am rfl Bi ?_
    show Value.int .i64 _ = Value.int .i64 _
    rw [Do hk, if_neg (fun h => h hf), if_neg (by rw [hl]; simp), if_pos (Jt hlt hx hy)]
   refine Ac <| Aj fun ds => A5 rfl <| Ki Aa (i := 0) rfl hlt <| Aw (Ag 1) <| Ac <| Ae Aa rfl <| AG ?_
   refine A2 <| A2 <| A8 <| Ab <| AD (Ag 1) <| Au <| Am rfl Bi ?_
   show Value.int .i64 _ = Value.int .i64 _
   rw [Do hk, if_neg (fun h => h hf), if_neg (by rw [hl]; simp), if_neg (by rw [Lp fun i hi => hno i hi (by omega)]; simp)]
  replace hl : inB 1 4 p.formats[k].folds.size = false := by simpa using hl
  refine Ax (Ag 1) fun ds => Ad rfl (Ap BU Aa (AP hz4 rfl)) <| Ad rfl (Cg Tryz.underlying9 Aa) <| A5 rfl <| AS AR B3 rfl (.cons Aa .nil) rfl rfl (by decide) (by simp [Value.oneCell']) fun b14 hb14 nb14 => AQ (i := 0) rfl hb14 .here fun F15 hF16 hz17 => ?_
  have hsl18 := Be hz17
  refine AE rfl (As CK Aa AO (Bp _ _ hsl18) (fun _ _ h => h)) <| Aw (Ag 1) <| Ah Aa (by simp [hl]) <| AD (Ag 1) <| Au <| A7 <| Ay <| Am rfl Bi ?_
  show Value.int .i64 _ = Value.int .i64 _
  rw [Do hk, if_neg (fun h => h hf), if_pos hl]
 refine Aj fun ds => Aw (Ag 3) <| Ah Aa (dT hf) <| AD (Ag 2) <| Au <| A7 <| Ay <| Am rfl Bi ?_
 show Value.int .i64 _ = Value.int .i64 _
 rw [Do hk, if_pos hf]
theorem LA {F : Heap} {vf vp : Value} {p : Prs} (hr : PrsR F vf vp p) {c : Nat} (hc : F c = some (bx 25 [vf, vp, .int .i64 p.trim, .int .i64 p.sheets])) {k : Nat} (hk : k < p.papers.length) : Ok Tryz.prog 127 [.int .i64 (k : Int), .agg (Ppr.enc p.papers[k]).toArray, .pointer (some ⟨c, 0, none⟩)].toArray F fun r _ => r = .int .i64 (pprErr p k) := by
 refine Ok.intro Tryz.func127 rfl Tryz.ntmps127 rfl fun w0 => Ac <| Aj fun ds => A5 rfl <| AX Aa rfl fun b1 hb1 nb1 => A5 rfl <| AX Aa rfl fun b2 hb2 nb2 => Aw (Ag 1) <| Ac <| AN (i := 1) rfl hb1 (.next <| .here) fun F3 hF4 hz3 => ?_
 replace hr := hr.mono hF4
 replace hc := hF4 _ _ hc
 refine AN (i := 0) rfl hb2 (.here) fun F5 hF6 hz4 => ?_
 replace hr := hr.mono hF6
 replace hc := hF6 _ _ hc
 replace hz3 := hF6 _ _ hz3
 refine Aj fun ds => Ao (Ag 1) <| Ad rfl (Ap BU Aa (AP hz4 rfl)) <| Ad rfl (Bm AO) <| AE rfl (As Vw Aa AO (OC bd_128 (OA hr (Nat.le_of_lt hk) hc hz3)) (fun _ _ h => h)) <| Aw (Ag 1) <| Ac <| Ac ?_
 by_cases hf : freshE p.papers[k].name ((p.papers.take k).map (·.name)) = 0
 ·refine Aj fun ds => Aw (Ag 2) <| Ae Aa (dF (fun h => h hf)) <| Ak <| Ab <| Ax (Ag 1) fun ds => Ad rfl (A6 (vs := [.int .i64 p.papers[k].wlo, .int .i64 p.papers[k].whi]) BP Aa rfl rfl (Ca hz4 (n := 2) rfl)) <| Ao (Ag 1) <| Ad rfl (A6 (vs := [.int .i64 p.papers[k].hlo, .int .i64 p.papers[k].hhi]) BP Aa rfl rfl (Ca hz4 (n := 2) rfl)) <| AE rfl (As V4 Aa AO (NX _ _ _ _ _ _) (fun _ _ h => h)) <| Aw (Ag 1) <| Au <| Am rfl Bi ?_
  show Value.int .i64 _ = Value.int .i64 _
  rw [Fz hk, if_neg (fun h => h hf)]
 refine Aj fun ds => Aw (Ag 2) <| Ah Aa (dT hf) <| AD (Ag 2) <| Au <| Ay <| Am rfl Bi ?_
 show Value.int .i64 _ = Value.int .i64 _
 rw [Fz hk, if_pos hf]
theorem ML {F : Heap} {vf vp : Value} {p : Prs} (hr : PrsR F vf vp p) : Ok Tryz.prog 96 [prsV vf vp p].toArray F fun r _ => r = checkFV p := by
 refine Ok.intro Tryz.func96 rfl Tryz.ntmps96 rfl fun w0 => ?_
 have hL1 := hr.formats.plain.lt
 have hL2 := hr.papers.plain.lt
 by_cases h1 : inB 1 6 p.formats.length = true
 ·refine Ac <| Aj fun ds => A5 rfl <| AX Aa rfl fun b1 hb1 nb1 => Aw (Ag 3) <| Ac <| Ax (Ag 2) fun ds => Ad rfl (AA Cc Aa hr.formats.plain) <| A5 rfl <| AS AR B3 rfl (.cons Aa .nil) rfl rfl (by decide) (by simp [Value.oneCell']) fun b2 hb2 nb2 => AQ (i := 0) rfl hb2 .here fun F3 hF4 hz5 => ?_
  replace hr := hr.mono hF4
  have hsl6 := Be hz5
  refine AE rfl (As CK Aa AO (Bp _ _ hsl6) (fun _ _ h => h)) <| Al <| Ab <| Ae Aa (by simp [h1]) <| Ak <| Ab <| Ac <| AN (i := 0) rfl hb1 (.here) fun F7 hF8 hc1 => ?_
  replace hr := hr.mono hF8
  rcases ME (n := p.formats.length) (f := fmtErr p) with h2 | ⟨i2, e2, h2, he2⟩
  ·refine Aj fun ds => Ao (Ag 1) <| Ad rfl (Ap EB Aa (AP hc1 rfl)) <| Ad rfl (Bm AO) <| AE rfl (As Vy Aa AO (JW hr.formats (fmtErr p) Vx fun k hk _ => LB hr hc1 hk) (fun _ _ h => h.trans (show Value.tuple #[.int .i64 (firstQ p.formats.length (fmtErr p)).1, .int .i64 (firstQ p.formats.length (fmtErr p)).2] = Value.tuple #[.int .i64 0, .int .i64 0] by rw [h2]))) <| Aw (Ag 5) <| Ac <| AD (Ag 2) <| Ae Aa (by first | rfl | decide) ?_
   by_cases h3 : inB 1 4 p.papers.length = true
   ·refine Ak <| Ab <| Ac <| Ax (Ag 1) fun ds => Ad rfl (Ap DQ Aa (AP hc1 rfl)) <| Ad rfl (AA Cx Aa hr.papers.plain) <| A5 rfl <| AS AR B3 rfl (.cons Aa .nil) rfl rfl (by decide) (by simp [Value.oneCell']) fun b9 hb9 nb9 => AQ (i := 0) rfl hb9 .here fun F10 hF11 hz12 => ?_
    replace hr := hr.mono hF11
    replace hc1 := hF11 _ _ hc1
    have hsl13 := Be hz12
    refine AE rfl (As CK Aa AO (Bp _ _ hsl13) (fun _ _ h => h)) <| Al <| Ab <| Ae Aa (by simp [h3]) ?_
    rcases ME (n := p.papers.length) (f := pprErr p) with h4 | ⟨i4, e4, h4, he4⟩
    ·refine Ak <| Ab <| Ax (Ag 1) fun ds => Ad rfl (Ap DQ Aa (AP hc1 rfl)) <| Ad rfl (Bm AO) <| AE rfl (As Vv Aa AO (JV hr.papers (pprErr p) Vu fun k hk _ => LA hr hc1 hk) (fun _ _ h => h.trans (show Value.tuple #[.int .i64 (firstQ p.papers.length (pprErr p)).1, .int .i64 (firstQ p.papers.length (pprErr p)).2] = Value.tuple #[.int .i64 0, .int .i64 0] by rw [h4]))) <| Aw (Ag 5) <| Ac <| Aq <| AD (Ag 3) <| Ae Aa (by first | rfl | decide) ?_
     by_cases ht : inB 0 60 p.trim = true
     ·refine Ax (Ag 1) fun ds => Ad rfl (Ap AM Aa (AP hc1 rfl)) <| A5 rfl <| AS AR B3 rfl (.cons Aa .nil) rfl rfl (by decide) (by simp [Value.oneCell']) fun b14 hb14 nb14 => AQ (i := 0) rfl hb14 .here fun F15 hF16 hz17 => ?_
      replace hc1 := hF16 _ _ hc1
      have hsl18 := Be hz17
      refine AE rfl (As CK Aa AO (Bp _ _ hsl18) (fun _ _ h => h)) <| Ao (Ag 1) <| Ai rfl rfl Aa (by simp [ht]) <| Ao (Ag 1) <| Ai rfl rfl Aa (by simp [ht]) <| Ad rfl (Ap AM Aa (AP hc1 rfl)) <| Ai rfl rfl Aa (by simp [ht]) <| A5 rfl <| AS AR B3 rfl (.cons Aa .nil) rfl rfl (by decide) (by simp [Value.oneCell']) fun b19 hb19 nb19 => AQ (i := 0) rfl hb19 .here fun F20 hF21 hz22 => ?_
      have hsl23 := Be hz22
      refine Ai rfl rfl Aa (by simp [ht]) <| AE rfl (As CK Aa AO (Bp _ _ hsl23) (fun _ _ h => h)) <| Ad rfl (A9 Aa (by simp [ht]) Aa) <| Aw (Ag 1) ?_
      by_cases hs : inB 1 4 p.sheets = true
      ·refine Ae Aa (by simp [hs]) <| Ak <| A4 <| Ab <| AD (Ag 3) <| Au <| Am rfl Bi ?_
       exact (Px h1 h2 h3 h4 (by rw [ht, hs]; rfl)).symm
      replace hs : inB 1 4 p.sheets = false := by simpa using hs
      refine Ah Aa (by simp [hs]) <| AD (Ag 3) <| Au <| A7 <| Ay <| Am rfl Bi ?_
      exact (HT h1 h2 h3 h4 (by rw [ht, hs]; rfl)).symm
     replace ht : inB 0 60 p.trim = false := by simpa using ht
     refine Ax (Ag 1) fun ds => Ad rfl (Ap AM Aa (AP hc1 rfl)) <| A5 rfl <| AS AR B3 rfl (.cons Aa .nil) rfl rfl (by decide) (by simp [Value.oneCell']) fun b24 hb24 nb24 => AQ (i := 0) rfl hb24 .here fun F25 hF26 hz27 => ?_
     have hsl28 := Be hz27
     refine AE rfl (As CK Aa AO (Bp _ _ hsl28) (fun _ _ h => h)) <| Ao (Ag 1) <| Ar rfl rfl Aa (.inl (congrArg Value.bool (by simp [ht]))) rfl <| Ar rfl rfl Aa (.inl (congrArg Value.bool (by simp [ht]))) rfl <| Ar rfl rfl Aa (.inl (congrArg Value.bool (by simp [ht]))) rfl <| Ar rfl rfl Aa (.inl (congrArg Value.bool (by simp [ht]))) rfl <| Ad rfl (At Aa (by simp [ht]) Aa) <| Aw (Ag 1) <| Ah Aa rfl <| AD (Ag 3) <| Au <| A7 <| Ay <| Am rfl Bi ?_
     exact (HT h1 h2 h3 h4 (by rw [ht]; rfl)).symm
    refine Ak <| Ab <| Ax (Ag 1) fun ds => Ad rfl (Ap DQ Aa (AP hc1 rfl)) <| Ad rfl (Bm AO) <| AE rfl (As Vv Aa AO (JV hr.papers (pprErr p) Vu fun k hk _ => LA hr hc1 hk) (fun _ _ h => h.trans (show Value.tuple #[.int .i64 (firstQ p.papers.length (pprErr p)).1, .int .i64 (firstQ p.papers.length (pprErr p)).2] = Value.tuple #[.int .i64 i4, .int .i64 e4] by rw [h4]))) <| Aw (Ag 5) <| Ac <| Aq <| AD (Ag 3) <| Ah Aa (dT he4) <| AD (Ag 5) <| Au <| A7 <| Ay <| Am rfl Bi ?_
    exact (L8 h1 h2 h3 h4 he4).symm
   replace h3 : inB 1 4 p.papers.length = false := by simpa using h3
   refine Ak <| Ab <| Ac <| Ax (Ag 1) fun ds => Ad rfl (Ap DQ Aa (AP hc1 rfl)) <| Ad rfl (AA Cx Aa hr.papers.plain) <| A5 rfl <| AS AR B3 rfl (.cons Aa .nil) rfl rfl (by decide) (by simp [Value.oneCell']) fun b29 hb29 nb29 => AQ (i := 0) rfl hb29 .here fun F30 hF31 hz32 => ?_
   have hsl33 := Be hz32
   refine AE rfl (As CK Aa AO (Bp _ _ hsl33) (fun _ _ h => h)) <| Al <| Ab <| Ah Aa (by simp [h3]) <| AD (Ag 3) <| Au <| Ay <| Am rfl Bi ?_
   exact (Pu h1 h2 h3).symm
  refine Aj fun ds => Ao (Ag 1) <| Ad rfl (Ap EB Aa (AP hc1 rfl)) <| Ad rfl (Bm AO) <| AE rfl (As Vy Aa AO (JW hr.formats (fmtErr p) Vx fun k hk _ => LB hr hc1 hk) (fun _ _ h => h.trans (show Value.tuple #[.int .i64 (firstQ p.formats.length (fmtErr p)).1, .int .i64 (firstQ p.formats.length (fmtErr p)).2] = Value.tuple #[.int .i64 i2, .int .i64 e2] by rw [h2]))) <| Aw (Ag 5) <| Ac <| AD (Ag 2) <| Ah Aa (dT he2) <| AD (Ag 5) <| Au <| Ay <| Am rfl Bi ?_
  exact (L9 h1 h2 he2).symm
 replace h1 : inB 1 6 p.formats.length = false := by simpa using h1
 refine Ac <| Aj fun ds => A5 rfl <| AX Aa rfl fun b34 hb34 nb34 => Aw (Ag 3) <| Ac <| Ax (Ag 2) fun ds => Ad rfl (AA Cc Aa hr.formats.plain) <| A5 rfl <| AS AR B3 rfl (.cons Aa .nil) rfl rfl (by decide) (by simp [Value.oneCell']) fun b35 hb35 nb35 => AQ (i := 0) rfl hb35 .here fun F36 hF37 hz38 => ?_
 have hsl39 := Be hz38
 refine AE rfl (As CK Aa AO (Bp _ _ hsl39) (fun _ _ h => h)) <| Al <| Ab <| Ah Aa (by simp [h1]) <| AD (Ag 3) <| Au <| Ay <| Am rfl Bi ?_
 exact (Pw h1).symm
end
end Go.Proofs.YtkjfmibiinfhfaaGreat
