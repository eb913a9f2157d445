/-
  A part of a proof: TopFolios returns true of any press, any room and whatever is shelved, and leaves what it is handed as it was.
-/
import Derived.Test.YtkjfmibiinfhfaaGreatPae
namespace Go.Proofs.YtkjfmibiinfhfaaGreat
set_option synthInstance.maxSize 4000
set_option synthInstance.maxHeartbeats 1000000
section
theorem Jr {p : Prs} {k : Nat} (h : mkErr p (mkN p k) = 0) : mksTo p (k + 1) = mksTo p k ++ [mkN p k] := by unfold mksTo; rw [List.range_succ, List.map_append, List.filter_append]; simp [h]
theorem OF {p : Prs} {k : Nat} (h : ¬ mkErr p (mkN p k) = 0) : mksTo p (k + 1) = mksTo p k := by unfold mksTo; rw [List.range_succ, List.map_append, List.filter_append]; simp [h]
theorem OE {p : Prs} {k m : Nat} (h : k < m) (hk : mkErr p (mkN p k) = 0) : ∃ rest, mksTo p m = mksTo p k ++ mkN p k :: rest := by
 obtain ⟨d, rfl⟩ : ∃ d, m = (k + 1) + d := ⟨m - (k + 1), by omega⟩
 clear h
 induction d with
 | zero => exact ⟨[], by rw [Nat.add_zero, Jr hk]⟩
 | succ d ih =>
   obtain ⟨rest, hr⟩ := ih
   rw [show k + 1 + (d + 1) = (k + 1 + d) + 1 by omega]
   by_cases hh : mkErr p (mkN p (k + 1 + d)) = 0
   · exact ⟨rest ++ [mkN p (k + 1 + d)], by rw [Jr hh, hr]; simp⟩
   exact ⟨rest, by rw [OF hh, hr]⟩
end
section
set_option maxRecDepth 100000
open Go.RowKit
theorem mkN_f {p : Prs} {n S : Nat} (hS : p.sheets = (S : Int)) : (n : Int) / (2 * p.sheets) / (p.papers.length : Int) = (mkN p n).fmt := by
 have h : (n : Int) / (2 * (S : Int)) / (p.papers.length : Int) = ((n / (2 * S) / p.papers.length : Nat) : Int) := by push_cast; rfl
 unfold mkN; rw [hS, Int.toNat_natCast, h, ← Nat.div_div_eq_div_mul]
theorem mkN_p {p : Prs} {n S : Nat} (hS : p.sheets = (S : Int)) : (n : Int) / (2 * p.sheets) % (p.papers.length : Int) = (mkN p n).ppr := by
 have h : (n : Int) / (2 * (S : Int)) % (p.papers.length : Int) = ((n / (2 * S) % p.papers.length : Nat) : Int) := by push_cast; rfl
 unfold mkN; rw [hS, Int.toNat_natCast, h, ← Nat.div_div_eq_div_mul]
theorem mkN_s {p : Prs} {n S : Nat} (hS : p.sheets = (S : Int)) : (n : Int) / 2 % p.sheets + 1 = (mkN p n).sheets := by
 unfold mkN; rw [hS, Int.toNat_natCast]; push_cast; rfl
theorem mkN_h {p : Prs} {n : Nat} : decide ((n : Int) % 2 = 1) = (mkN p n).half := by
 show _ = (n % 2 == 1)
 rw [Bool.eq_iff_iff, decide_eq_true_iff, beq_iff_eq]; omega
abbrev MkA (m : Mk) (_G : Heap) (vs : List Value) : Prop := vs = [mkV m]
theorem JR {F0 : Heap} {vf vp : Value} {p : Prs} (hr0 : PrsR F0 vf vp p) (hv : ValidF p) {d1 : Nat} (z0 : F0 d1 = some (bx 119 [vf, vp, .int .i64 p.trim, .int .i64 p.sheets])) : IterG Tryz.prog 87 [.pointer (some ⟨d1, 0, none⟩)] F0 MkA (mksL p) := by
 intro L J Jx F RH hF hm hmx hy h0
 have hr := hr0.mono hF
 have z1 := hF _ _ z0
 refine OkG.intro Tryz.func87 rfl Tryz.ntmps87 rfl fun w0 => ?_
 have hL1 := hr.formats.plain.lt
 have hL2 := hr.papers.plain.lt
 obtain ⟨S, hS⟩ := Int.eq_ofNat_of_zero_le (show 0 ≤ p.sheets by have := hv.sheets; omega)
 have hST : p.sheets.toNat = S := by omega
 have hmL : mksL p = mksTo p (p.formats.length * p.papers.length * S * 2) := by unfold mksL; rw [hST]
 have hvs := hv.sheets
 have hvf := hv.nf
 have hvp := hv.np
 have hb1 : p.formats.length * p.papers.length ≤ 6 * 4 := Nat.mul_le_mul hvf.2 hvp.2
 have hb2 : p.formats.length * p.papers.length * S ≤ 24 * 4 := Nat.mul_le_mul hb1 (by omega)
 have hb3 : ((p.formats.length * p.papers.length * S : Nat) : Int) = (p.formats.length : Int) * (p.papers.length : Int) * (S : Int) := by push_cast; rfl
 have hb4 : ((p.formats.length * p.papers.length : Nat) : Int) = (p.formats.length : Int) * (p.papers.length : Int) := by push_cast; rfl
 refine Ax (Ag 2) fun ds => Ad rfl (Ap EB Aa (AP z1 rfl)) <| Ad rfl (AA Cc Aa hr.formats.plain) <| Ao (Ag 2) <| Ad rfl (Ap DQ Aa (AP z1 rfl)) <| Ad rfl (AA Cx Aa hr.papers.plain) <| Ad rfl (BM Aa Aa rfl (by omega) (by omega)) <| Ao (Ag 2) <| Ad rfl (Ap AM Aa (AP z1 rfl)) <| Ad rfl (BM Aa Aa (show (p.formats.length : Int) * (p.papers.length : Int) * p.sheets = ((p.formats.length * p.papers.length * S : Nat) : Int) by rw [hb3, hS]) (by omega) (by omega)) <| Ad rfl (BM Aa Aa rfl (by omega) (by omega)) <| Aw (Ag 1) <| Aq ?_
 refine AH [3, 4, 19, 20, 21, 22, 23, 24, 25, 26, 27, 28, 29, 30, 31, 32, 33, 34, 35, 36, 37, 38, 39, 40, 41, 42, 43, 44, 45, 46, 47, 48, 49, 50, 51, 52, 53, 54, 55, 56, 57, 58, 59, 60, 61, 62, 63] (fun m e σ => ∃ G RH, F0.le G ∧ F.le G ∧ ∃ n : Nat, m + n = (p.formats.length * p.papers.length * S * 2) ∧ Fct e 19 (.int .i64 (n : Int)) ∧ J (mksTo p n) G RH ∧ σ = ⟨G, RH⟩) ((p.formats.length * p.papers.length * S * 2)) ?_ ?_
 · exact ⟨_, _, hF, Heap.le_refl _, 0, by omega, Ba, h0, rfl⟩
 rintro m e _ ⟨G, RH, hG, hFG, n, hm1, hs19, hJ, rfl⟩; replace hr := hr.mono hFG; replace z1 := hFG _ _ z1
 by_cases hlt : n < (p.formats.length * p.papers.length * S * 2)
 ·have hmd1 := Int.emod_nonneg ((n : Int) / 2) (b := p.sheets) (by omega)
  have hmd2 := Int.emod_lt_of_pos ((n : Int) / 2) (b := p.sheets) (by omega)
  refine AD (Ag 1) <| Ac <| Ah Aa (by first | rfl | exact dT (by omega)) <| Ak <| Ab <| Ac <| Aq <| AD (Ag 2) <| Ax (Ag 1) fun ds => Ad rfl (CE Aa Aa (by omega) (by omega) (by decide)) <| Ao (Ag 2) <| Ad rfl (Ap AM Aa (AP z1 rfl)) <| Ad rfl (Cf Aa Aa (by omega) (by omega)) <| Ad rfl (AJ Aa Aa rfl (by omega) (by omega)) <| Ao (Ag 1) <| Ad rfl (Cf Aa Aa (by omega) (by decide)) <| Ao (Ag 1) <| Ad rfl (Bg LF (.cons Aa rfl (.cons Aa rfl .nil)) (.cons rfl rfl (Nat.le_of_ble_eq_true rfl) (.cons (.next <| .next <| .here) .nil) (.cons rfl rfl (Nat.le_of_ble_eq_true rfl) (.cons (.next <| .next <| .next <| .here) .nil) .nil))) <| A5 rfl <| AF Ee rfl fun b2 hb2 nb2 => AZ <| AC Fe Aa Aa (i := 0) rfl rfl rfl rfl (by simp [Value.oneCell']) (.here) <| Al <| Ab <| Ax (Ag 3) fun ds => Ad rfl (Ap AM Aa (AP z1 rfl)) <| Ad rfl (BM Aa Aa rfl (by omega) (by omega)) <| Ad rfl (CE Aa Aa (by omega) (by omega) (by omega)) <| Aw (Ag 1) <| Ac <| Bf (.inl rfl) (fun _ _ h => h) (kD <| .refl _) [15] (by kernel_rfl) fun ds => Af 0 rfl (by kernel_rfl) (by kernel_rfl) (by kernel_rfl) (by kernel_rfl) rfl rfl (fun _ h => h.drop (kD <| .refl _)) (fun _ _ _ h => h) (A0 Aa) <| Af 1 rfl (by kernel_rfl) (by kernel_rfl) (by kernel_rfl) (by kernel_rfl) rfl rfl (fun _ h => h.drop (kD <| .refl _)) (fun _ _ _ h => h) (Az HO Aa) ?_
  refine Af 2 rfl (by kernel_rfl) (by kernel_rfl) (by kernel_rfl) (by kernel_rfl) rfl rfl (fun _ h => h.drop (kD <| .refl _)) (fun _ _ _ h => h) (Az Kz Aa) <| Af 3 rfl (by kernel_rfl) (by kernel_rfl) (by kernel_rfl) (by kernel_rfl) rfl rfl (fun _ h => h.drop (kD <| .refl _)) (fun _ _ _ h => h) (Ap DQ Aa (AP z1 rfl)) <| Af 4 rfl (by kernel_rfl) (by kernel_rfl) (by kernel_rfl) (by kernel_rfl) rfl rfl (fun _ h => h.drop (kD <| .refl _)) (fun _ _ _ h => h) (AA Cx Aa hr.papers.plain) <| Af 5 rfl (by kernel_rfl) (by kernel_rfl) (by kernel_rfl) (by kernel_rfl) rfl rfl (fun _ h => h.drop (kD <| .refl _)) (fun _ _ _ h => h) (Cf Aa Aa (Int.ediv_nonneg (by omega) (by omega)) (by omega)) <| Af 6 rfl (by kernel_rfl) (by kernel_rfl) (by kernel_rfl) (by kernel_rfl) rfl rfl (fun _ h => h.drop (kD <| .refl _)) (fun _ _ _ h => h) (A0 Aa) <| Af 7 rfl (by kernel_rfl) (by kernel_rfl) (by kernel_rfl) (by kernel_rfl) rfl rfl (fun _ h => h.drop (kD <| .refl _)) (fun _ _ _ h => h) (Az HO Aa) <| Af 8 rfl (by kernel_rfl) (by kernel_rfl) (by kernel_rfl) (by kernel_rfl) rfl rfl (fun _ h => h.drop (kD <| .refl _)) (fun _ _ _ h => h) (Az Kz Aa) <| Af 9 rfl (by kernel_rfl) (by kernel_rfl) (by kernel_rfl) (by kernel_rfl) rfl rfl (fun _ h => h.drop (kD <| .refl _)) (fun _ _ _ h => h) (Ap DQ Aa (AP z1 rfl)) <| Af 10 rfl (by kernel_rfl) (by kernel_rfl) (by kernel_rfl) (by kernel_rfl) rfl rfl (fun _ h => h.drop (kD <| .refl _)) (fun _ _ _ h => h) (AA Cx Aa hr.papers.plain) ?_
  refine Af 11 rfl (by kernel_rfl) (by kernel_rfl) (by kernel_rfl) (by kernel_rfl) rfl rfl (fun _ h => h.drop (kD <| .refl _)) (fun _ _ _ h => h) (CE Aa Aa (Int.ediv_nonneg (by omega) (by omega)) (Int.le_trans (Int.ediv_le_self _ (by omega)) (by omega)) (by omega)) <| Af 12 rfl (by kernel_rfl) (by kernel_rfl) (by kernel_rfl) (by kernel_rfl) rfl rfl (fun _ h => h.drop (kD <| .refl _)) (fun _ _ _ h => h) (Az N8 Aa) ?_
  refine Bt 13 rfl (by kernel_rfl) (AW Dr Aa Aa (i := 0) rfl (.next <| .here) rfl (.here) ⟨fun _ _ => (fun _ h => h.drop (kD <| .refl _)), ?_⟩)
  refine Af 14 rfl (by kernel_rfl) (by kernel_rfl) (by kernel_rfl) (by kernel_rfl) rfl rfl (fun _ h => h.drop (kD <| .refl _)) (fun _ _ _ h => h) (Az Ky Aa) ?_
  refine Bt 15 rfl (by kernel_rfl) (AW Dr Aa Aa (i := 0) rfl (.here) rfl (.here) ⟨(fun h => nomatch h), ?_⟩)
  refine AY (by kernel_rfl) ?_ _
  refine Ab <| Ac ?_
  rw [mkN_f hS, mkN_p hS, mkN_s hS, mkN_h]
  by_cases he : mkErr p (mkN p n) = 0
  ·obtain ⟨rest, hsp⟩ := OE (m := (p.formats.length * p.papers.length * S * 2)) hlt he
   refine EK fun ds => Ep rfl rfl (A6 Cn Aa rfl rfl (AK z1)) <| Ep rfl rfl (A6 BD Aa rfl rfl (Bj 0 rfl)) <| WI_c rfl rfl (As Vl Aa AO (J2 hr) (fun _ _ h => h)) <| Ep rfl rfl (Cd Aa Aa) <| Ep rfl rfl (A0 Aa) <| K4 rfl rfl Aa (dT he) <| Ep rfl rfl (A0 Aa) <| K4 rfl rfl Aa (dT he) <| Ep rfl rfl (A6 BD Aa rfl rfl (Bj 0 rfl)) <| K4 rfl rfl Aa (dT he) <| QS rfl Aa AO rfl (hy _ (mkN p n) rest _ _ _ (hmL.trans hsp) hG hJ rfl) fun v7 F8 RH9 hr9 hF10 => ?_
   replace hG := Heap.le_trans hG hF10
   replace hFG := Heap.le_trans hFG hF10
   replace hJ := hm _ _ _ _ hF10 hJ
   obtain ⟨yb, rfl, hyb⟩ := MW hr9
   refine K4 rfl rfl Aa (dT he) <| Ep rfl rfl (EQ Aa) <| Ep rfl rfl (At Aa (dT he) Aa) <| LT <| Ab ?_
   rcases hyb with ⟨rfl, hJ2⟩ | ⟨rfl, hJx⟩
   ·refine Ae Aa rfl <| Ak <| A4 <| Ab <| Bk (fun _ _ h => h.drop (kD <| .refl _)) <| Aj fun ds => Ad rfl (AJ Aa Aa rfl (by omega) (by omega)) <| Ao (Ag 1) <| Al ?_
    refine Ab ⟨_, m - 1, Off.eq (DG rfl <| Bx rfl <| A3), by omega, ?_⟩
    exact ⟨_, _, hG, hFG, n + 1, by omega, Ba, by rw [Jr he]; exact hJ2, rfl⟩
   refine Ah Aa rfl <| Au ?_
   refine A7 (Ay (Ay (A7 ?_)))
   refine Jo rfl .nil (.cons _ (.refl _)) ?_
   exact .inr hJx
  refine EK fun ds => Ep rfl rfl (A6 Cn Aa rfl rfl (AK z1)) <| Ep rfl rfl (A6 BD Aa rfl rfl (Bj 0 rfl)) <| WI_c rfl rfl (As Vl Aa AO (J2 hr) (fun _ _ h => h)) <| Ep rfl rfl (Cd Aa Aa) <| Ep rfl rfl (A0 Aa) <| K5 rfl rfl Aa (.inl (congrArg Value.bool (dF he))) rfl <| K5 rfl rfl Aa (.inl (congrArg Value.bool (dF he))) rfl <| K5 rfl rfl Aa (.inl (congrArg Value.bool (dF he))) rfl <| K5 rfl rfl Aa (.inl (congrArg Value.bool (dF he))) rfl <| Ep rfl rfl (A9 Aa (dF he) Aa) <| LT <| Ab <| Ae Aa rfl <| Ak <| A4 <| Ab <| Bk (fun _ _ h => h.drop (kD <| .refl _)) <| Aj fun ds => Ad rfl (AJ Aa Aa rfl (by omega) (by omega)) <| Ao (Ag 1) <| Al ?_
  refine Ab ⟨_, m - 1, Off.eq (DG rfl <| Bx rfl <| A3), by omega, ?_⟩
  exact ⟨_, _, hG, hFG, n + 1, by omega, Ba, by rw [OF he]; exact hJ, rfl⟩
 refine AD (Ag 1) <| Ac <| Ae Aa (by first | rfl | exact dF (by omega)) ?_
 obtain rfl : n = (p.formats.length * p.papers.length * S * 2) := by omega
 refine AG ?_
 refine A2 <| A2 <| A8 <| Jp rfl .nil .all ?_
 exact .inl (by unfold mksL; rw [hST]; exact hJ)
end
section
set_option maxRecDepth 100000
open Go.RowKit
theorem zr_52 : ZeroT Tryz.prog 52 (.slice none 0 0) := Bw (by kernel_rfl)
theorem bd_49 : Body Tryz.prog 49 := AB (by kernel_rfl)
theorem bd_50 : Body Tryz.prog 50 := AB (by kernel_rfl)
theorem Sd : Body Tryz.prog 51 := AB (by kernel_rfl)
theorem bd_87 : Body Tryz.prog 87 := AB (by kernel_rfl)
theorem el_49 : ElemT Tryz.prog 49 4 32 (.agg #[.int .i64 0, .int .i64 0, .int .i64 0, .bool false]) := Dx (by kernel_rfl) rfl (by decide)
theorem Uf : OneT Tryz.prog 52 := BA (by kernel_rfl)
instance : OneI Tryz.prog 52 := ⟨Uf⟩
theorem C3 : SliceT Tryz.prog 52 49 4 := BO (by kernel_rfl)
instance : SliceI Tryz.prog 52 := ⟨_, _, C3⟩
theorem sz_52 : SizeT Tryz.prog 52 1 := B1 (by kernel_rfl)
theorem J9 {F : Heap} {vf vp : Value} {p : Prs} (hr : PrsR F vf vp p) {b : Bok} {vm : Value} (hm : Sl F vm 2 Mrk.enc b.marks) (hb : (checkB p b).2.2 = 0) : Ok Tryz.prog 9 [prsV vf vp p, bokV vm b].toArray F fun u F' => ∃ v, u = .tuple #[v, .int .i64 0] ∧ Sl F' v 4 Mk.enc (agreeL p b) := by
 have hvb := LG hb
 have hv := hvb.valid
 have hmr0 : ∀ m : Mk, ((leavesP p m).length : Int) = b.leaves → ∀ k, k < b.marks.length → 0 ≤ (b.mr k).leaf ∧ (b.mr k).leaf < ((leavesP p m).length : Int) := fun m e k hk => by rw [e]; exact hvb.marks k hk
 refine Ok.intro Tryz.func9 rfl Tryz.ntmps9 rfl fun w0 => Ac <| Aj fun ds => A5 rfl <| AX Aa rfl fun b1 hb1 nb1 => A5 rfl <| AX Aa rfl fun b2 hb2 nb2 => A5 rfl <| AF zr_52 rfl fun b3 hb3 nb3 => Aw (Ag 1) <| Ax (Ag 2) fun ds => AE rfl (As bd_49 Aa AO (OM hr hm hb) (fun _ _ h => h)) <| Ao (Ag 3) <| A5 rfl <| AF EV rfl fun b4 hb4 nb4 => AZ <| AC Fv Aa Aa (i := 0) rfl rfl rfl rfl hr.ones (.here) <| Aw (Ag 1) <| Ac <| AD (Ag 2) <| Ae Aa rfl <| AN (i := 3) rfl hb1 (.next <| .next <| .next <| .here) fun F5 hF6 hz2 => ?_
 replace hr := hr.mono hF6
 replace hm := hm.mono hF6
 refine AN (i := 2) rfl hb2 (.next <| .next <| .here) fun F7 hF8 hz3 => ?_
 replace hr := hr.mono hF8
 replace hm := hm.mono hF8
 refine AN (i := 0) rfl hb4 (.here) fun F9 hF10 hz6 => ?_
 replace hr := hr.mono hF10
 replace hm := hm.mono hF10
 replace hz3 := hF10 _ _ hz3
 refine Ak <| Ab <| Ac <| Ac <| Aj fun ds => Ad rfl (A6 Cn Aa rfl rfl (AK hz6)) <| A5 rfl <| Bb bd_50 Aa AO (M4 hr) fun v11 F12 hr13 hF14 => ?_
 replace hr := hr.mono hF14
 replace hm := hm.mono hF14
 replace hz3 := hF14 _ _ hz3
 replace hz6 := hF14 _ _ hz6
 obtain ⟨dk, rfl, hzk⟩ := hr13
 refine Al <| Ab <| Aq ?_
 refine JB rfl Aa (bd_87) (JR hr hv hzk) (Heap.le_refl _) (fun pre _ H => ∃ v3 R3, H = (b3, bx 52 [v3]) :: R3 ∧ Own 49 4 v3 (pre.filter (fun m => offP p m b == 0)).length ((pre.filter (fun m => offP p m b == 0)).flatMap Mk.enc) R3) (fun _ _ _ => False) (fun _ _ _ _ _ h => h) (fun _ _ _ _ _ h => h) ⟨_, [], rfl, BV⟩ (fun L D fn1 tm1 pre1 x1 rest1 G1 RH1 vs1 hxs1 hle1 hJ1 hA1 => ?_) (fun _ _ _ _ h => h.elim) (fun F2 H1 hF2 hJ => ?_)
 ·replace hr := hr.mono hle1
  replace hm := hm.mono hle1
  replace hz3 := hle1 _ _ hz3
  replace hz6 := hle1 _ _ hz6
  obtain rfl := hA1
  obtain ⟨v3, R3, rfl, ho3⟩ := hJ1
  refine ⟨rfl, rfl, fun w1 => ?_⟩
  refine Sm (e' := (upd _ 19 (mkV x1))) rfl rfl <| B8 (.inr (by kernel_rfl)) (fun _ _ h => h) fun ds => A5 rfl <| AF Ee rfl fun b15 hb15 nb15 => AZ <| AC Fe Aa Aa (i := 0) rfl rfl rfl rfl Mk.enc_one (.here) <| Tv (.one (.next <| .here) <| .one (.next <| .here) <| .one (.here) <| .one (.here) <| .lastb (.last)) <| Al ?_
  refine Ab ⟨_, rfl, ?_⟩
  refine AN (i := 2) rfl hb15 (.next <| .next <| .here) fun F16 hF17 hz7 => ?_
  replace hr := hr.mono hF17
  replace hm := hm.mono hF17
  replace hle1 := hle1.mono hF17
  replace hz3 := hF17 _ _ hz3
  replace hz6 := hF17 _ _ hz6
  have hokm : MkOk p x1 := Ns (by rw [hxs1]; simp)
  have hfl : ((pre1.filter (fun m => offP p m b == 0)).length : Int) ≤ 192 := by have h1 := List.length_filter_le (fun m => offP p m b == 0) pre1; have h2 := OG hv; rw [hxs1] at h2; simp at h2; omega
  by_cases ho : offP p x1 b = 0
  ·refine Aq <| Ac <| B8 (.inr (by kernel_rfl)) (fun _ _ h => h) fun ds => Ad rfl (A6 Cn Aa rfl rfl (AK hz6)) <| Ad rfl (A6 BD Aa rfl rfl (AK hz7)) <| Ad rfl (A6 FP Aa rfl rfl (AK hz3)) <| AE rfl (As Sd Aa AO (Kn hr hv hokm hm hvb.many (hmr0 x1)) (fun _ _ h => h)) <| Aw (Ag 1) <| Ah Aa (dT ho) <| B8 (.inr (by kernel_rfl)) (fun _ _ h => h) fun ds => Ao (Ag 1) <| Ad rfl (A6 BD Aa rfl rfl (AK hz7)) <| A5 rfl <| B0 (offs := [(0, 4)]) (zl := [.int .i64 0, .int .i64 0, .int .i64 0, .bool false]) C3 Ee rfl (.cons Aa rfl .nil) (by intro i p h; rcases i with _ | i <;> simp at h <;> subst h <;> rfl) (.cons rfl rfl (Nat.le_of_ble_eq_true rfl) (.cons (.here) (.cons (.next <| .here) (.cons (.next <| .next <| .here) (.cons (.next <| .next <| .next <| .here) .nil)))) .nil) (by decide) (by decide) fun b18 hb18 nb18 => A5 rfl <| Bd C3 el_49 Aa ho3 Aa (Bv (s := 4) 0 rfl rfl (by simp [Value.oneCell'])) (by omega) (by omega) (.s <| .s <| .s <| .s <| .z) .last fun v19 R20 ho21 => ?_
   have ho28 : Own 49 4 v19 ((pre1 ++ [x1]).filter (fun m => offP p m b == 0)).length (((pre1 ++ [x1]).filter (fun m => offP p m b == 0)).flatMap Mk.enc) R20 := by have h9 := ho21; rw [List.filter_append, show [x1].filter (fun m => offP p m b == 0) = [x1] by simp [ho]]; exact Own.snoc h9 rfl rfl
   refine AZ <| AW sz_52 Aa Aa (i := 3) rfl (.here) ho28.one (.next <| .next <| .next <| .here) <| Al <| A4 <| E9 (.one (.next <| .here) <| .one (.next <| .here) <| .one (.next <| .here) <| .lastb (.next <| .last)) ?_
   refine .inl ⟨rfl, _, rfl, hle1, ?_⟩
   exact ⟨_, _, rfl, ho28⟩
  refine Aq <| Ac <| B8 (.inr (by kernel_rfl)) (fun _ _ h => h) fun ds => Ad rfl (A6 Cn Aa rfl rfl (AK hz6)) <| Ad rfl (A6 BD Aa rfl rfl (AK hz7)) <| Ad rfl (A6 FP Aa rfl rfl (AK hz3)) <| AE rfl (As Sd Aa AO (Kn hr hv hokm hm hvb.many (hmr0 x1)) (fun _ _ h => h)) <| Aw (Ag 1) <| Ae Aa (dF ho) <| Ak <| A4 <| E9 (.one (.here) <| .one (.here) <| .one (.here) <| .lastb (.last)) ?_
  refine .inl ⟨rfl, _, rfl, hle1, ?_⟩
  exact ⟨_, _, rfl, by rw [List.filter_append]; simpa [ho] using ho3⟩
 obtain ⟨v3, R3, rfl, ho3⟩ := hJ
 refine A4 <| Ab ?_
 have hal : (agreeL p b).length ≤ 192 := J8 hv
 refine Ax (Ag 1) fun ds => AZ <| AW sz_52 Aa Aa (i := 0) rfl (.here) ho3.one (.here) <| Aw (Ag 1) <| Bo (σ := ⟨_, _⟩) (by rfl) ho3 (.s <| .z) .last fun F22 hF23 hz24 => ?_
 have hsl := ho3.sl (fun _ => rfl) hz24 (by show (agreeL p b).length < _; omega)
 refine Au <| Am rfl (.one Uf Aa (Cell.own 0 rfl rfl) Bi) ?_
 exact ⟨_, rfl, hsl⟩
end
section
open Go.RowKit
inductive FlatE (P : Program) (xs ys : Array Value) : List Field → Bool → Prop
 | nil : FlatE P xs ys [] true
 | int {f : Field} {fs : List Field} {r : Bool} {k q : IntKind} {a b : Int} (hn : f.name ≠ "_") (hu : P.underlying f.type = some (.int k)) (ho : OneT P f.type) (hx : xs[f.offset]? = some (.int q a)) (hy : ys[f.offset]? = some (.int q b)) (h : FlatE P xs ys fs r) : FlatE P xs ys (f :: fs) ((a == b) && r)
 | bool {f : Field} {fs : List Field} {r : Bool} {a b : Bool} (hn : f.name ≠ "_") (hu : P.underlying f.type = some .bool) (ho : OneT P f.type) (hx : xs[f.offset]? = some (.bool a)) (hy : ys[f.offset]? = some (.bool b)) (h : FlatE P xs ys fs r) : FlatE P xs ys (f :: fs) ((a == b) && r)
section
variable {P : Program} {n : Nat} {B : Base} {e : Env} {σ : St} {d : Option Nat} {ty : TypeId} {pos : String} {af : Array Edge} {gd : Option (Nat × Bool)}
theorem Sw {w : World} {xs ys : Array Value} {fs : List Field} {r : Bool} (h : FlatE P xs ys fs r) : (Op.eqFields 9999 xs ys fs).run P w = .ok r w := by
 induction h with
 | nil => simp [Op.eqFields]
 | @int f fs r k q a b hn hu ho hx hy h ih =>
   have p0 : ∀ cs : Array Value, ∀ v, cs[f.offset]? = some v → (part f.type cs f.offset).run P w = .ok v w := fun cs v hv => by simp [part, Eu ho, hv]
   simp only [Op.eqFields, ne_eq, hn, not_false_eq_true, if_true, Sem.run_bind, p0 _ _ hx, p0 _ _ hy, Result.andThen_ok, run_equalIn_int w 9998 f.type q k a b hu]
   cases hab : (a == b) with
   | false => simp
   | true => simp [ih]
 | @bool f fs r a b hn hu ho hx hy h ih =>
   have p0 : ∀ cs : Array Value, ∀ v, cs[f.offset]? = some v → (part f.type cs f.offset).run P w = .ok v w := fun cs v hv => by simp [part, Eu ho, hv]
   simp only [Op.eqFields, ne_eq, hn, not_false_eq_true, if_true, Sem.run_bind, p0 _ _ hx, p0 _ _ hy, Result.andThen_ok, run_equalIn_bool' w 9998 f.type a b hu]
   cases hab : (a == b) with
   | false => simp
   | true => simp [ih]
theorem TR {T : Nat} {x y : Operand} {u : TypeId} {fs : Array Field} {xs ys : Array Value} {r : Bool} (hu : P.underlying T = some (.struct fs)) (hst : P.stoodInHeld T = false) (hg : P.eqGuardType P.depth T = false) (hfl : FlatE P xs ys fs.toList r) (hx : ev e x = .agg xs) (hy : ev e y = .agg ys) :
   OpR P B ⟨d, .binOp .neq T x y u, ty, pos, af, gd⟩ e σ (.bool (!r)) := fun w _ => by
 have hf : P.fieldsOf T = fs := by simp [Program.fieldsOf, hu]
 have hu' : P.underlying T = some (.struct (P.fieldsOf T)) := by rw [hf]; exact hu
 have he := run_neq_struct (P := P) w T xs ys
 rw [run_equalIn_struct w 9999 T _ _ hu' hst, hf, Sw hfl] at he
 have hgd := run_eqGuard_agg (P := P) w .neq T x y xs ys hg
 simp only [execOp, hx, hy, Sem.run_bind, hgd, Result.andThen_ok, he]
 simp
theorem OW {K d : Nat} {f0 f1 f2 : Field} (hu : P.underlying K = some (.struct #[f0, f1, f2])) (hk : P.keyType K = true) (hc : P.cellsOf K = 3) (c0 : P.cellsOf f0.type = 1) (c1 : P.cellsOf f1.type = 1) (c2 : P.cellsOf f2.type = 1) (hs : P.types.size = d)
   (o0 : f0.offset = 0) (o1 : f1.offset = 1) (o2 : f2.offset = 2) (n0 : (f0.name != "_") = true) (n1 : (f1.name != "_") = true) (n2 : (f2.name != "_") = true) {a b c : Value} {la lb lc : List Lit} (ha : P.keyLits d f0.type [a] = some la) (hb : P.keyLits d f1.type [b] = some lb) (hcc : P.keyLits d f2.type [c] = some lc) : IsK P K (.agg #[a, b, c]) := by
 have h : (P.keyLits (P.types.size + 1) K [a, b, c]) = some (la ++ (lb ++ lc)) := by
   rw [hs]
   unfold Program.keyLits
   rw [hu]
   simp only [hc]
   have hall : (#[f0, f1, f2] : Array Field).all (·.name != "_") = true := by simp [n0, n1, n2]
   rw [if_pos ⟨rfl, hall⟩]
   simp [o0, o1, o2, c0, c1, c2, ha, hb, hcc]
 refine ⟨.string (keyBytes (la ++ (lb ++ lc))), ?_⟩
 unfold keyOf
 rw [hu]
 have hf : (Value.agg #[a, b, c]).formed P K = true := by simp [Value.formed, hu, hc]
 simp only [hk, hf, Bool.and_self, if_true]
 show (P.keyLits (P.types.size + 1) K [a, b, c]).map _ = _
 rw [h]; rfl
end
end
section
open Go.RowKit
section
variable {P : Program} {n : Nat} {B : Base} {e : Env} {σ : St} {ty : TypeId} {pos : String} {af : Array Edge}
theorem Re {d : Option Nat} {g : FuncId} {f : Operand} {fs cs vs : List Value} {xs : List Operand} {at_ : Array TypeId} {R : Value → Heap → Prop} {v : Value} (hg : Body P g) (hf : ev e f = .func (.func g) fs.toArray cs.toArray) (hx : Av e xs vs)
   (hok : Ok P g (fs ++ vs ++ cs).toArray σ.F R) (hR : ∀ u F', R u F' → u = v) : OpQ P n B ⟨d, .call ⟨.value f, xs.toArray, at_⟩, ty, pos, af, none⟩ e σ v :=
 KR hf hx ⟨g, fs, cs, rfl, hg, hok⟩ hR
end
theorem Pg {α : Type} {enc : α → List Value} {s : Nat} (hs : ∀ x, (enc x).length = s) {j : Nat} {u : Value} {x : α} (hj : j < s) : ∀ (l : List α) (i : Nat) (hi : i < l.length), enc x = (enc l[i]).set j u →
   (l.flatMap enc).set (i * s + j) u = (l.set i x).flatMap enc
 | [], i, hi, _ => absurd hi (by simp)
 | a :: l, 0, hi, h => by
   simp only [List.flatMap_cons, List.set_cons_zero, List.getElem_cons_zero, Nat.zero_mul, Nat.zero_add] at h ⊢
   rw [List.set_append_left _ _ (by rw [hs]; exact hj), h]
 | a :: l, i + 1, hi, h => by
   simp only [List.flatMap_cons, List.set_cons_succ, List.getElem_cons_succ] at h ⊢
   rw [List.set_append_right _ _ (by rw [hs, Nat.add_mul, Nat.one_mul]; omega)]
   rw [show (i + 1) * s + j - (enc a).length = i * s + j by rw [hs, Nat.add_mul, Nat.one_mul]; omega]
   rw [Pg hs hj l i (by simpa using hi) h]
end
section
set_option maxRecDepth 100000
open Go.RowKit
theorem Nj {B : Base} {e : Env} {σ : St} {d : Option Nat} {ty : TypeId} {pos : String} {af : Array Edge} {gd : Option (Nat × Bool)} {x y : Operand} {u : TypeId} {a b : Lf} (hx : ev e x = .agg a.enc.toArray) (hy : ev e y = .agg b.enc.toArray) :
   OpR Tryz.prog B ⟨d, .binOp .neq 97 x y u, ty, pos, af, gd⟩ e σ (.bool (decide (a ≠ b))) := by
 have h := TR (P := Tryz.prog) (B := B) (σ := σ) (d := d) (u := u) (ty := ty) (pos := pos) (af := af) (gd := gd) Tryz.underlying97 (show Tryz.prog.stoodInHeld 97 = false by kernel_rfl) (show Tryz.prog.eqGuardType Tryz.prog.depth 97 = false by kernel_rfl) (.int (by decide) Tryz.underlying3 (AM) rfl rfl (.int (by decide) Tryz.underlying3 (AM) rfl rfl (.int (by decide) Tryz.underlying3 (AM) rfl rfl (.bool (by decide) Tryz.underlying4 (GX) rfl rfl (.bool (by decide) Tryz.underlying4 (GX) rfl rfl (.nil)))))) hx hy
 refine cast (congrArg _ (congrArg Value.bool ?_)) h
 rw [Bool.eq_iff_iff, decide_eq_true_iff]
 cases a; cases b
 simp [Lf.mk.injEq] <;> grind
theorem M2 {F : Heap} {vf vp : Value} {p : Prs} (hr : PrsR F vf vp p) {m : Mk} (h0 : (checkF p).2.2 = 0) (hok : MkOk p m) {leaf : Nat} (hl : leaf < (leavesP p m).length) : Ok Tryz.prog 24 [prsV vf vp p, mkV m, .int .i64 (leaf : Int)].toArray F fun u F' => ∃ v, u = .tuple #[v, .int .i64 (((leavesP p m).length : Int) - 1 - (leaf : Int)), .int .i64 0] ∧ Nats F' v (matesP p m leaf) := by
 have hv := Di h0
 have he := Du.2 hok
 have hll := hok.len hv
 have hin : inB 0 (((leavesP p m).length : Int) - 1) (leaf : Int) = true := BZ.2 (by omega)
 refine Ok.intro Tryz.func24 rfl Tryz.ntmps24 rfl fun w0 => Ac <| Aj fun ds => A5 rfl <| AX Aa rfl fun b1 hb1 nb1 => A5 rfl <| AX Aa rfl fun b2 hb2 nb2 => Aw (Ag 3) <| Ax (Ag 2) fun ds => AE rfl (As Sb Aa AO (GM hr h0) (fun _ _ h => h)) <| Ao (Ag 3) <| A5 rfl <| AF EV rfl fun b3 hb3 nb3 => AZ <| AC Fv Aa Aa (i := 0) rfl rfl rfl rfl hr.ones (.here) <| Aw (Ag 1) <| Ac <| AD (Ag 2) <| Ae Aa (by rw [he]; rfl) <| Ak <| Ab <| Ax (Ag 2) fun ds => A5 rfl <| Bb P6 Aa AO (EC hr hv hok) fun v4 F5 hr6 hF7 => ?_
 have hsl := hr6
 refine Aw (Ag 1) <| Ac <| Ax (Ag 1) fun ds => Ad rfl (AA Bz Aa hsl.plain) <| Ad rfl (Br Aa Aa rfl (by omega) (by omega)) <| Ao (Ag 1) <| A5 rfl <| AS AR B3 rfl (.cons Aa .nil) rfl rfl (by decide) (by simp [Value.oneCell']) fun b8 hb8 nb8 => AQ (i := 0) rfl hb8 .here fun F9 hF10 hz11 => ?_
 replace hsl := hsl.mono hF10
 have hsl12 := Be hz11
 refine AE rfl (As CK Aa AO (Bp _ _ hsl12) (fun _ _ h => h)) <| Al <| Ab <| Ae Aa (by show (!(inB _ _ _) || false) = false; rw [hin]; rfl) <| AN (i := 2) rfl hb1 (.next <| .next <| .here) fun F13 hF14 hz3 => ?_
 replace hsl := hsl.mono hF14
 refine AN (i := 1) rfl hb2 (.next <| .here) fun F15 hF16 hz4 => ?_
 replace hsl := hsl.mono hF16
 refine AN (i := 0) rfl hb3 (.here) fun F17 hF18 hz9 => ?_
 replace hsl := hsl.mono hF18
 refine Ak <| Ab <| Ac <| Ax (Ag 1) fun ds => Ad rfl (AA Bz Aa hsl.plain) <| Aw (Ag 1) <| Aq ?_
 refine AH [6, 11, 12, 33, 34, 35, 36, 37, 38, 39, 40, 41, 42, 43, 44, 45, 46, 47, 48, 49, 50, 51, 52, 53, 54, 55, 56, 57, 58] (fun m2 e σ => ∃ i : Nat, m2 + i = (leavesP p m).length ∧ Fct e 33 (.int .i64 (i : Int)) ∧ ∃ (v : Value) (R : List (Nat × Obj)), Fct e 6 v ∧ Own 3 1 v (matesTo p m leaf i).length ((matesTo p m leaf i).flatMap natE) R ∧ σ = ⟨F17, R⟩) ((leavesP p m).length) ?_ ?_
 · exact ⟨0, by omega, Ba, _, _, Ba, BV, rfl⟩
 rintro m1 e _ ⟨i, hm1, hs33, v6, R6, hs6, ho, rfl⟩
 by_cases hlt : i < (leavesP p m).length
 ·refine AD (Ag 1) <| Ac <| Ah Aa (by first | rfl | exact dT (by omega)) ?_
  have hge : (leavesP p m)[i] = lfN p m i := Gl hlt
  have hgl : (leavesP p m)[leaf] = lfN p m leaf := Gl hl
  have hml : (matesTo p m leaf i).length ≤ i := CX _ _
  by_cases hs : (leavesP p m)[i].sheet = (leavesP p m)[leaf].sheet
  ·refine Ak <| Ab <| Ac <| Aq <| Ax (Ag 1) fun ds => Ad rfl (A1 (k := i) Bz Aa hsl.plain Aa rfl hlt) <| Ad rfl (A6 CP Aa rfl rfl (hsl.whole hlt)) <| A5 rfl <| AF E6 rfl fun b20 hb20 nb20 => Ao (Ag 1) <| AZ <| AC Fd Aa Aa (i := 0) rfl rfl rfl rfl Lf.enc_one (.here) <| Al <| Ab <| Ac <| B9 (.inl rfl) (fun _ _ h => h) (by kernel_rfl) (by kernel_rfl) fun ds => Bu (Ag 4) <| Bh rfl (A1 (k := leaf) Bz Aa hsl.plain Aa rfl hl) <| Bu (Ag 1) <| Bh rfl (Ap AM Aa (hsl.cell hl rfl)) <| Bu (Ag 2) <| B5 rfl rfl Aa (dT hs) <| Bh rfl (A6 (vs := (Lf.enc (leavesP p m)[i])) CP Aa rfl rfl (Bj 0 rfl)) <| B5 rfl rfl Aa (dT hs) <| Bu (Ag 1) <| B5 rfl rfl Aa (dT hs) <| Bu (Ag 1) <| B5 rfl rfl Aa (dT hs) <| Bh rfl (A1 (k := leaf) Bz Aa hsl.plain Aa rfl hl) <| B5 rfl rfl Aa (dT hs) <| Bh rfl (A6 (vs := (Lf.enc (leavesP p m)[leaf])) CP Aa rfl rfl (hsl.whole hl)) <| B5 rfl rfl Aa (dT hs) <| Bh rfl (Nj Aa Aa) <| Bh rfl (At Aa (dT hs) Aa) <| BS <| Ab ?_
   by_cases hne : (leavesP p m)[i] ≠ (leavesP p m)[leaf]
   ·have hmb : mateB p m leaf i = true := by unfold mateB; rw [← hge, ← hgl, dT hs, dT hne]; rfl
    refine Ah Aa (dT hne) <| Aj fun ds => Ao (Ag 2) <| A5 rfl <| AS AR B3 rfl (.cons Aa .nil) rfl rfl (by decide) (by simp [Value.oneCell']) fun b21 hb21 nb21 => A5 rfl <| Bd AR GR Aa ho Aa (Bv (s := 1) 0 rfl rfl (by simp [Value.oneCell'])) (by omega) (by omega) (.s <| .s <| .z) .last fun v22 R23 ho24 => ?_
    have ho57 : Own 3 1 v22 (matesTo p m leaf i ++ [i]).length ((matesTo p m leaf i ++ [i]).flatMap natE) R23 := Own.snoc ho24 rfl rfl
    refine Ao (Ag 1) <| Al <| A4 <| Ab <| Bk (fun _ _ h => h.drop (kD <| kD <| .refl _)) <| Aj fun ds => Ad rfl (AJ Aa Aa rfl (by omega) (by omega)) <| Ao (Ag 1) <| Al ?_
    refine Ab ⟨_, m1 - 1, Off.eq (Bx rfl <| Ci rfl <| BI rfl <| BQ rfl <| A3), by omega, ?_⟩
    exact ⟨i + 1, by omega, Ba, _, _, Ba, by rw [show matesTo p m leaf (i + 1) = matesTo p m leaf i ++ [i] from DW hmb]; exact ho57, rfl⟩
   have hmb : mateB p m leaf i = false := by unfold mateB; rw [← hge, ← hgl, dF hne, Bool.and_false]
   refine Ae Aa (dF hne) <| Ak <| A4 <| Ab <| Bk (fun _ _ h => h.drop (kD <| .refl _)) <| Aj fun ds => Ad rfl (AJ Aa Aa rfl (by omega) (by omega)) <| Ao (Ag 1) <| Al ?_
   refine Ab ⟨_, m1 - 1, Off.eq (Bx rfl <| Ci rfl <| A3), by omega, ?_⟩
   exact ⟨i + 1, by omega, Ba, _, _, Ba, by rw [show matesTo p m leaf (i + 1) = matesTo p m leaf i from DX (hmb)]; exact ho, rfl⟩
  have hmb : mateB p m leaf i = false := by unfold mateB; rw [← hge, ← hgl, dF hs, Bool.false_and]
  refine Ak <| Ab <| Ac <| Aq <| Ax (Ag 1) fun ds => Ad rfl (A1 (k := i) Bz Aa hsl.plain Aa rfl hlt) <| Ad rfl (A6 CP Aa rfl rfl (hsl.whole hlt)) <| A5 rfl <| AF E6 rfl fun b25 hb25 nb25 => Ao (Ag 1) <| AZ <| AC Fd Aa Aa (i := 0) rfl rfl rfl rfl Lf.enc_one (.here) <| Al <| Ab <| Ac <| B9 (.inl rfl) (fun _ _ h => h) (by kernel_rfl) (by kernel_rfl) fun ds => Bu (Ag 4) <| Bh rfl (A1 (k := leaf) Bz Aa hsl.plain Aa rfl hl) <| Bu (Ag 1) <| Bh rfl (Ap AM Aa (hsl.cell hl rfl)) <| Bu (Ag 2) <| BN rfl rfl Aa (.inl (congrArg Value.bool (dF hs))) rfl <| BN rfl rfl Aa (.inl (congrArg Value.bool (dF hs))) rfl <| BN rfl rfl Aa (.inl (congrArg Value.bool (dF hs))) rfl <| BN rfl rfl Aa (.inl (congrArg Value.bool (dF hs))) rfl <| BN rfl rfl Aa (.inl (congrArg Value.bool (dF hs))) rfl <| BN rfl rfl Aa (.inl (congrArg Value.bool (dF hs))) rfl <| Bh rfl (A9 Aa (dF hs) Aa) <| BS <| Ab <| Ae Aa rfl <| Ak <| A4 <| Ab <| Bk (fun _ _ h => h.drop (kD <| .refl _)) <| Aj fun ds => Ad rfl (AJ Aa Aa rfl (by omega) (by omega)) <| Ao (Ag 1) <| Al ?_
  refine Ab ⟨_, m1 - 1, Off.eq (Bx rfl <| Ci rfl <| A3), by omega, ?_⟩
  exact ⟨i + 1, by omega, Ba, _, _, Ba, by rw [show matesTo p m leaf (i + 1) = matesTo p m leaf i from DX (hmb)]; exact ho, rfl⟩
 refine AD (Ag 1) <| Ac <| Ae Aa (by first | rfl | exact dF (by omega)) ?_
 obtain rfl : i = (leavesP p m).length := by omega
 have hml : (matesTo p m leaf (leavesP p m).length).length ≤ (leavesP p m).length := CX _ _
 refine AG ?_
 refine A2 <| A2 <| A8 <| Ab <| Ax (Ag 2) fun ds => Ad rfl (AA Bz Aa hsl.plain) <| Ad rfl (Br Aa Aa rfl (by omega) (by omega)) <| Ao (Ag 1) <| Ad rfl (Br Aa Aa rfl (by omega) (by omega)) <| Aw (Ag 3) <| Bo (σ := ⟨_, _⟩) (by rfl) ho (.z) .last fun F26 hF27 hz28 => ?_
 have hre := ho.sl (fun _ => rfl) hz28 (by omega)
 refine Au <| Am rfl Bi ?_
 exact ⟨_, rfl, hre⟩
theorem Ql {F : Heap} {vf vp : Value} {p : Prs} (hr : PrsR F vf vp p) {m : Mk} (h0 : (checkF p).2.2 = 0) (hok : MkOk p m) {vh : Value} {hs : List Int} (hh : Ints F vh hs) (hhl : (hs.length : Int) = m.sheets) (h01 : ∀ z ∈ hs, z = 0 ∨ z = 1) : Ok Tryz.prog 25 [prsV vf vp p, mkV m, vh].toArray F fun u F' => ∃ v, u = .tuple #[v, .int .i64 0] ∧ Nats F' v (markedP p m hs) := by
 have hv := Di h0
 have he := Du.2 hok
 have hll := hok.len hv
 refine Ok.intro Tryz.func25 rfl Tryz.ntmps25 rfl fun w0 => Ac <| Aj fun ds => A5 rfl <| AX Aa rfl fun b1 hb1 nb1 => A5 rfl <| AX Aa rfl fun b2 hb2 nb2 => Aw (Ag 2) <| Ax (Ag 2) fun ds => AE rfl (As Sb Aa AO (GM hr h0) (fun _ _ h => h)) <| Ao (Ag 3) <| A5 rfl <| AF EV rfl fun b3 hb3 nb3 => AZ <| AC Fv Aa Aa (i := 0) rfl rfl rfl rfl hr.ones (.here) <| Aw (Ag 1) <| Ac <| Aq <| AD (Ag 3) <| Ae Aa (by rw [he]; rfl) <| Ax (Ag 1) fun ds => Ad rfl (AA AR Aa hh.plain) <| Aw (Ag 4) <| Ae Aa (dF (fun h => h hhl)) <| Ax (Ag 1) fun ds => AE rfl (As CK Aa AO (Bp _ _ hh) (fun _ _ h => h)) <| Aw (Ag 1) <| Ae Aa (List.any_eq_false.2 fun z hz => by rw [show inB 0 1 z = true from BZ.2 (by have := h01 z hz; omega)]; simp) <| AN (i := 2) rfl hb1 (.next <| .next <| .here) fun F4 hF5 hz3 => ?_
 replace hr := hr.mono hF5
 replace hh := hh.mono hF5
 refine AN (i := 1) rfl hb2 (.next <| .here) fun F6 hF7 hz4 => ?_
 replace hr := hr.mono hF7
 replace hh := hh.mono hF7
 refine AN (i := 0) rfl hb3 (.here) fun F8 hF9 hz8 => ?_
 replace hr := hr.mono hF9
 replace hh := hh.mono hF9
 replace hz4 := hF9 _ _ hz4
 refine Ak <| A4 <| Ab <| Ac <| Aj fun ds => Ad rfl (A6 Cn Aa rfl rfl (AK hz8)) <| Ad rfl (JP AO .nil) <| Aw (Ag 1) <| Ac <| Ac <| Aj fun ds => Ad rfl (A6 Cn Aa rfl rfl (AK hz8)) <| Ad rfl (A6 BD Aa rfl rfl (AK hz4)) <| A5 rfl <| Bb P6 Aa AO (EC hr hv hok) fun v10 F11 hr12 hF13 => ?_
 replace hr := hr.mono hF13
 replace hh := hh.mono hF13
 replace hz4 := hF13 _ _ hz4
 have hsl := hr12
 refine Ad rfl (AA Bz Aa hsl.plain) <| Aw (Ag 1) <| Aq ?_
 refine AH [6, 10, 11, 37, 38, 39, 40, 41, 42, 43, 44, 45, 46, 47, 48, 49, 50, 51, 52, 53, 54, 55] (fun m2 e σ => ∃ i : Nat, m2 + i = (leavesP p m).length ∧ Fct e 37 (.int .i64 (i : Int)) ∧ ∃ (v : Value) (R : List (Nat × Obj)), Fct e 6 v ∧ Own 3 1 v (markedTo p m hs i).length ((markedTo p m hs i).flatMap natE) R ∧ σ = ⟨F11, R⟩) ((leavesP p m).length) ?_ ?_
 · exact ⟨0, by omega, Ba, _, _, Ba, BV, rfl⟩
 rintro m1 e _ ⟨i, hm1, hs37, v6, R6, hs6, ho, rfl⟩
 by_cases hlt : i < (leavesP p m).length
 ·refine AD (Ag 1) <| Ac <| Ah Aa (by first | rfl | exact dT (by omega)) ?_
  have hge : (leavesP p m)[i] = lfN p m i := Gl hlt
  have hml : (markedTo p m hs i).length ≤ i := CX _ _
  have hxb := ED hv hok (List.getElem_mem hlt)
  have hxs := FG (List.getElem_mem hlt) hok.sheets.1
  have hsl2 : (leavesP p m)[i].sheet.toNat < hs.length := by omega
  have hh01 : hs[(leavesP p m)[i].sheet.toNat] = 0 ∨ hs[(leavesP p m)[i].sheet.toNat] = 1 := h01 _ (List.getElem_mem hsl2)
  have hmb0 : markB p m hs i = hasB p m (leavesP p m)[i] hs[(leavesP p m)[i].sheet.toNat] := by unfold markB; rw [← hge, List.getElem?_eq_getElem hsl2]; rfl
  by_cases hmk : hasB p m (leavesP p m)[i] hs[(leavesP p m)[i].sheet.toNat] = true
  ·rw [hmk] at hmb0
   refine Ak <| Ab <| Ac <| Aq <| Ax (Ag 1) fun ds => Ad rfl (A1 (k := i) Bz Aa hsl.plain Aa rfl hlt) <| Ad rfl (A6 CP Aa rfl rfl (hsl.whole hlt)) <| A5 rfl <| AF E6 rfl fun b15 hb15 nb15 => Ao (Ag 1) <| AZ <| AC Fd Aa Aa (i := 0) rfl rfl rfl rfl Lf.enc_one (.here) <| Al <| Ab <| Ac <| B9 (.inl rfl) (fun _ _ h => h) (by kernel_rfl) (by kernel_rfl) fun ds => Bu (Ag 1) <| Bh rfl (A6 BD Aa rfl rfl (AK hz4)) <| Bu (Ag 4) <| Bh rfl (A1 (k := (leavesP p m)[i].sheet.toNat) AR Aa hh.plain Aa (by omega) hsl2) <| Bh rfl (Ap AM Aa (hh.cell1 hsl2 rfl)) <| E2 rfl (Re Vo Aa AO (Lb hr hv hok hxb hh01) (fun _ _ h => h)) <| BS <| Ab <| Ah Aa hmk <| Aj fun ds => Ao (Ag 2) <| A5 rfl <| AS AR B3 rfl (.cons Aa .nil) rfl rfl (by decide) (by simp [Value.oneCell']) fun b16 hb16 nb16 => A5 rfl <| Bd AR GR Aa ho Aa (Bv (s := 1) 0 rfl rfl (by simp [Value.oneCell'])) (by omega) (by omega) (.s <| .s <| .z) .last fun v17 R18 ho19 => ?_
   have ho54 : Own 3 1 v17 (markedTo p m hs i ++ [i]).length ((markedTo p m hs i ++ [i]).flatMap natE) R18 := Own.snoc ho19 rfl rfl
   refine Ao (Ag 1) <| Al <| A4 <| Ab <| Bk (fun _ _ h => h.drop (kD <| kD <| .refl _)) <| Aj fun ds => Ad rfl (AJ Aa Aa rfl (by omega) (by omega)) <| Ao (Ag 1) <| Al ?_
   refine Ab ⟨_, m1 - 1, Off.eq (Bx rfl <| BI rfl <| BF rfl <| A3), by omega, ?_⟩
   exact ⟨i + 1, by omega, Ba, _, _, Ba, by rw [show markedTo p m hs (i + 1) = markedTo p m hs i ++ [i] from DW hmb0]; exact ho54, rfl⟩
  replace hmk : hasB p m (leavesP p m)[i] hs[(leavesP p m)[i].sheet.toNat] = false := by simpa using hmk
  rw [hmk] at hmb0
  refine Ak <| Ab <| Ac <| Aq <| Ax (Ag 1) fun ds => Ad rfl (A1 (k := i) Bz Aa hsl.plain Aa rfl hlt) <| Ad rfl (A6 CP Aa rfl rfl (hsl.whole hlt)) <| A5 rfl <| AF E6 rfl fun b20 hb20 nb20 => Ao (Ag 1) <| AZ <| AC Fd Aa Aa (i := 0) rfl rfl rfl rfl Lf.enc_one (.here) <| Al <| Ab <| Ac <| B9 (.inl rfl) (fun _ _ h => h) (by kernel_rfl) (by kernel_rfl) fun ds => Bu (Ag 1) <| Bh rfl (A6 BD Aa rfl rfl (AK hz4)) <| Bu (Ag 4) <| Bh rfl (A1 (k := (leavesP p m)[i].sheet.toNat) AR Aa hh.plain Aa (by omega) hsl2) <| Bh rfl (Ap AM Aa (hh.cell1 hsl2 rfl)) <| E2 rfl (Re Vo Aa AO (Lb hr hv hok hxb hh01) (fun _ _ h => h)) <| BS <| Ab <| Ae Aa hmk <| Ak <| A4 <| Ab <| Bk (fun _ _ h => h.drop (kD <| .refl _)) <| Aj fun ds => Ad rfl (AJ Aa Aa rfl (by omega) (by omega)) <| Ao (Ag 1) <| Al ?_
  refine Ab ⟨_, m1 - 1, Off.eq (Bx rfl <| BQ rfl <| A3), by omega, ?_⟩
  exact ⟨i + 1, by omega, Ba, _, _, Ba, by rw [show markedTo p m hs (i + 1) = markedTo p m hs i from DX (hmb0)]; exact ho, rfl⟩
 refine AD (Ag 1) <| Ac <| Ae Aa (by first | rfl | exact dF (by omega)) ?_
 obtain rfl : i = (leavesP p m).length := by omega
 have hml : (markedTo p m hs (leavesP p m).length).length ≤ (leavesP p m).length := CX _ _
 refine AG ?_
 refine A2 <| A2 <| A8 <| Ab <| AD (Ag 3) <| Bo (σ := ⟨_, _⟩) (by rfl) ho (.z) .last fun F21 hF22 hz23 => ?_
 have hre := ho.sl (fun _ => rfl) hz23 (by omega)
 refine Au <| Am rfl Bi ?_
 exact ⟨_, rfl, hre⟩
end
section
open Go.RowKit
section
variable {P : Program} {B : Base} {e : Env} {σ : St} {d : Option Nat} {ty : TypeId} {pos : String} {af : Array Edge} {gd : Option (Nat × Bool)}
theorem q_neg {x : Operand} {a : Int} {t : TypeId} (hx : ev e x = .int .i64 a) (h1 : -9223372036854775807 ≤ a) (h2 : a ≤ 9223372036854775807) : OpR P B ⟨d, .unOp .neg t x, ty, pos, af, gd⟩ e σ (.int .i64 (-a)) := fun w _ => by
 have hw : IntKind.i64.wrap (-a) = -a := CZ (by omega) (by omega)
 simp [execOp, hx, Op.unary, Op.intArith, hw]
end
def placV (k : Int × Int × Int) : Value := .agg #[.int .i64 k.1, .int .i64 k.2.1, .int .i64 k.2.2]
theorem Mx {a b : Int × Int × Int} (h : placV a = placV b) : a = b := by
 obtain ⟨a1, a2, a3⟩ := a
 obtain ⟨b1, b2, b3⟩ := b
 simp [placV] at h
 simp [h]
def fesTo (p : Prs) (m : Mk) (inner : Bool) (k : Nat) : List (Value × Value) := (List.range k).map fun i => (placV (placeF (lfN p m i)), .int .i64 (pageV inner i (lfN p m i)))
section
variable {p : Prs} {m : Mk} {inner : Bool}
theorem Gp {k : Nat} : fesTo p m inner (k + 1) = fesTo p m inner k ++ [(placV (placeF (lfN p m k)), .int .i64 (pageV inner k (lfN p m k)))] := by unfold fesTo; rw [List.range_succ, List.map_append]; rfl
theorem Mw (hnd : ((leavesP p m).map placeF).Nodup) {i j : Nat} (hi : i < (leavesP p m).length) (hj : j < (leavesP p m).length) (h : placeF (lfN p m i) = placeF (lfN p m j)) : i = j := by
 have h1 : ((leavesP p m).map placeF)[i]? = some (placeF (lfN p m i)) := by rw [List.getElem?_map, List.getElem?_eq_getElem hi, Gl hi]; rfl
 have h2 : ((leavesP p m).map placeF)[j]? = some (placeF (lfN p m j)) := by rw [List.getElem?_map, List.getElem?_eq_getElem hj, Gl hj]; rfl
 exact (List.getElem?_inj (by rw [List.length_map]; exact hi) hnd).1 (by rw [h1, h2, h])
theorem Lu (hnd : ((leavesP p m).map placeF).Nodup) {k : Nat} (hk : k < (leavesP p m).length) : ∀ q ∈ fesTo p m inner k, q.1 ≠ placV (placeF (lfN p m k)) := by
 intro q hq he
 unfold fesTo at hq
 obtain ⟨i, hi, rfl⟩ := List.mem_map.1 hq
 have hi2 := List.mem_range.1 hi
 have := Mw hnd (by omega) hk (Mx he)
 omega
theorem MF (hnd : ((leavesP p m).map placeF).Nodup) : ∀ k, k ≤ (leavesP p m).length → ((fesTo p m inner k).map (·.1)).Nodup
 | 0, _ => by simp [fesTo]
 | k + 1, h => by
   rw [Gp]
   exact Da (MF hnd k (by omega)) (Lu hnd (by omega))
theorem U5 (hnd : ((leavesP p m).map placeF).Nodup) (k : Int × Int × Int) : (∀ q ∈ fesTo p m inner (leavesP p m).length, q.1 ≠ placV k) ∧ pageAt p m inner k = none ∨
   ∃ (j : Nat) (z : Int), (fesTo p m inner (leavesP p m).length)[j]? = some (placV k, .int .i64 z) ∧ pageAt p m inner k = some z := by
 by_cases h : ∃ j, j < (leavesP p m).length ∧ placeF (lfN p m j) = k
 · obtain ⟨j, hj, hk⟩ := h
   refine .inr ⟨j, pageV inner j (lfN p m j), ?_, O3 hj hk fun i hi he => Mw hnd hi hj (he.trans hk.symm)⟩
   unfold fesTo
   rw [List.getElem?_map, List.getElem?_range hj, ← hk]; rfl
 have h2 : ∀ i, i < (leavesP p m).length → placeF (lfN p m i) ≠ k := fun i hi he => h ⟨i, hi, he⟩
 refine .inl ⟨fun q hq he => ?_, O4 h2⟩
 unfold fesTo at hq
 obtain ⟨i, hi, rfl⟩ := List.mem_map.1 hq
 exact h2 i (List.mem_range.1 hi) (Mx he)
end
theorem nat_at {xs : List Nat} {i : Nat} (h : i < xs.length) : (xs.flatMap natE)[i * 1]? = some (.int .i64 (xs[i] : Int)) := Kt (enc := natE) (s := 1) (fun _ => rfl) (j := 0) xs i h rfl
theorem Tl {l : List Nat} {i : Nat} (h : i < l.length) : (l.flatMap natE).set (i * 1) (.int .i64 ((l[i] : Int) + 1)) = (bump l i).flatMap natE := by
 unfold bump
 rw [List.getElem?_eq_getElem h]
 exact Pg (enc := natE) (s := 1) (fun _ => rfl) (j := 0) (by omega) l i h rfl
theorem Rl {p : Prs} {m : Mk} {b : Bok} (h : ∀ s, offTo p m b s < 2048) : -1 ≤ offP p m b ∧ offP p m b < 2048 := by
 unfold offP
 split
 · omega
 have := h m.sheets.toNat; omega
theorem Mg {p : Prs} {b : Bok} (h : ∀ (m : Mk) (s : Nat), offTo p m b s < 2048) (l : List Mk) : -1 ≤ wrongL p b l ∧ wrongL p b l < 2048 := by
 unfold wrongL
 have key : ∀ (l : List Mk) (z : Int), -1 ≤ z ∧ z < 2048 → -1 ≤ l.foldl (wrongS p b) z ∧ l.foldl (wrongS p b) z < 2048 := by
   intro l
   induction l with
   | nil => intro z hz; exact hz
   | cons m l ih =>
     intro z hz
     refine ih _ ?_
     unfold wrongS
     split
     · exact hz
     exact Rl (h m)
 exact key l (-1) (by omega)
theorem NJ {p : Prs} {b : Bok} {m : Mk} (h : m ∈ agreeL p b) : ((leavesP p m).length : Int) = b.leaves := by
 have h1 := (List.mem_filter.1 h).2
 have h2 : offP p m b = 0 := by simpa using h1
 unfold offP at h2
 split at h2
 · exact absurd h2 (by decide)
 rename_i h3; exact Classical.not_not.1 h3
end
section
set_option maxRecDepth 100000
open Go.RowKit
theorem zr_142 : ZeroT Tryz.prog 142 (.agg #[.int .i64 0, .int .i64 0, .int .i64 0]) := Bw (by kernel_rfl)
theorem J4 : BuildT Tryz.prog 142 [.int .i64 0, .int .i64 0, .int .i64 0] [(0, 1), (1, 1), (2, 1)] := BG zr_142 (by kernel_rfl) (by decide)
theorem laidF : laidOutB Tryz.prog = true := by kernel_rfl
theorem SA : MapT Tryz.prog 140 142 3 (.int .i64 0) := ⟨Tryz.underlying140, Bw (by kernel_rfl), Go.Maps.Keyed.of_law (deep_law_laid laidF (m := 5) (by omega) (Nat.le_of_ble_eq_true (by kernel_rfl)) (by kernel_rfl) (by kernel_rfl))⟩
theorem isKF {a b c : Int} (ha : 0 ≤ a ∧ a ≤ 100) (hb : 0 ≤ b ∧ b ≤ 100) (hc : 0 ≤ c ∧ c ≤ 100) : IsK Tryz.prog 142 (placV (a, b, c)) :=
 show IsK Tryz.prog 142 (.agg #[.int .i64 a, .int .i64 b, .int .i64 c]) from OW (d := Tryz.prog.types.size - 1 + 1) Tryz.underlying142 (by kernel_rfl) (by kernel_rfl) (by kernel_rfl) (by kernel_rfl) (by kernel_rfl) (by kernel_rfl) rfl rfl rfl (by decide) (by decide) (by decide) (HF Tryz.underlying3 (wf64 (by omega) (by omega))) (HF Tryz.underlying3 (wf64 (by omega) (by omega))) (HF Tryz.underlying3 (wf64 (by omega) (by omega)))
theorem MB {F : Heap} {vf vp : Value} {p : Prs} (hr : PrsR F vf vp p) {m : Mk} (h0 : (checkF p).2.2 = 0) (hok : MkOk p m) (hnd : ((leavesP p m).map placeF).Nodup) {s : Int} (hs0 : 0 ≤ s ∧ s < m.sheets) {inner : Bool} : Ok Tryz.prog 23 [prsV vf vp p, mkV m, .int .i64 s, .bool inner].toArray F fun u F' => ∃ v, u = .tuple #[v, .int .i64 0] ∧ Ints F' v (formeL p m inner s) := by
 have hv := Di h0
 have he := Du.2 hok
 have hll := hok.len hv
 have hfi := hok.fmt
 have hfm := hv.fm (i := m.fmt.toNat) (by omega)
 have hin0 : inB 0 (m.sheets - 1) s = true := BZ.2 (by omega)
 have hms := hok.sheets
 have hvs := hv.sheets
 obtain ⟨C, hC⟩ : ∃ C, C = colN p m := ⟨_, rfl⟩
 obtain ⟨Rn, hRn⟩ : ∃ C, C = rowN p m := ⟨_, rfl⟩
 have hcb : 1 ≤ colN p m ∧ colN p m ≤ 16 := BT (s := p.fold m) (c := 120) (hok.fold hv).1.2
 have hrb : 1 ≤ rowN p m ∧ rowN p m ≤ 16 := BT (s := p.fold m) (c := 121) (hok.fold hv).1.2
 have hKs : ∀ k, k ≤ (leavesP p m).length → ∀ q ∈ fesTo p m inner k, IsK Tryz.prog 142 q.1 := fun k hk q hq => by
   unfold fesTo at hq
   obtain ⟨i, hi, rfl⟩ := List.mem_map.1 hq
   have hi2 : i < (leavesP p m).length := by have := List.mem_range.1 hi; omega
   have h1 := ED hv hok (List.getElem_mem hi2)
   have h2 := FG (List.getElem_mem hi2) hok.sheets.1
   rw [Gl hi2] at h1 h2
   exact isKF (by omega) (by omega) (by omega)
 refine Ok.intro Tryz.func23 rfl Tryz.ntmps23 rfl fun w0 => Ac <| Aj fun ds => A5 rfl <| AX Aa rfl fun b1 hb1 nb1 => A5 rfl <| AX Aa rfl fun b2 hb2 nb2 => Aw (Ag 2) <| Ax (Ag 2) fun ds => AE rfl (As Sb Aa AO (GM hr h0) (fun _ _ h => h)) <| Ao (Ag 3) <| A5 rfl <| AF EV rfl fun b3 hb3 nb3 => AZ <| AC Fv Aa Aa (i := 0) rfl rfl rfl rfl hr.ones (.here) <| Aw (Ag 1) <| Ac <| Aq <| AD (Ag 3) <| Ae Aa (by rw [he]; rfl) <| Ax (Ag 2) fun ds => Ad rfl (Br Aa Aa rfl (by omega) (by omega)) <| Ao (Ag 1) <| A5 rfl <| AS AR B3 rfl (.cons Aa .nil) rfl rfl (by decide) (by simp [Value.oneCell']) fun b4 hb4 nb4 => AQ (i := 0) rfl hb4 .here fun F5 hF6 hz7 => ?_
 replace hr := hr.mono hF6
 have hsl8 := Be hz7
 refine AE rfl (As CK Aa AO (Bp _ _ hsl8) (fun _ _ h => h)) <| Aw (Ag 1) <| Ae Aa (by show (!(inB _ _ _) || false) = false; rw [hin0]; rfl) <| AN (i := 2) rfl hb1 (.next <| .next <| .here) fun F9 hF10 hz4 => ?_
 replace hr := hr.mono hF10
 refine AN (i := 1) rfl hb2 (.next <| .here) fun F11 hF12 hz5 => ?_
 replace hr := hr.mono hF12
 refine AN (i := 0) rfl hb3 (.here) fun F13 hF14 hz10 => ?_
 replace hr := hr.mono hF14
 replace hz5 := hF14 _ _ hz5
 refine Ak <| A4 <| Ab <| Ac <| Aj fun ds => A5 rfl <| Mf fun b15 hb15 nb15 => Aw (Ag 1) <| Ac <| Ac <| Aj fun ds => Ad rfl (A6 Cn Aa rfl rfl (AK hz10)) <| Ad rfl (A6 BD Aa rfl rfl (AK hz5)) <| A5 rfl <| Bb P6 Aa AO (EC hr hv hok) fun v16 F17 hr18 hF19 => ?_
 replace hr := hr.mono hF19
 replace hz5 := hF19 _ _ hz5
 replace hz10 := hF19 _ _ hz10
 have hsl := hr18
 refine Ad rfl (AA Bz Aa hsl.plain) <| Aw (Ag 1) <| Aq ?_
 refine AH [12, 13, 14, 43, 44, 45, 46, 47, 48, 49, 50, 51, 52, 53, 54, 55, 56, 57, 58, 59, 60, 61, 62, 63, 64, 65, 66, 67, 68, 69, 70] (fun m2 e σ => ∃ i : Nat, m2 + i = (leavesP p m).length ∧ Fct e 43 (.int .i64 (i : Int)) ∧ σ = ⟨F17, [(b15, mapO (fesTo p m inner (i)))]⟩) ((leavesP p m).length) ?_ ?_
 · exact ⟨0, by omega, Ba, rfl⟩
 rintro m1 e _ ⟨i, hm1, hu43, rfl⟩
 by_cases hlt : i < (leavesP p m).length
 ·refine AD (Ag 1) <| Ac <| Ah Aa (by first | rfl | exact dT (by omega)) ?_
  have hge : (leavesP p m)[i] = lfN p m i := Gl hlt
  have hxb := ED hv hok (List.getElem_mem hlt)
  have hxs := FG (List.getElem_mem hlt) hok.sheets.1
  have hK := hKs i (by omega)
  have hkX : IsK Tryz.prog 142 (placV (placeF (leavesP p m)[i])) := isKF (a := (leavesP p m)[i].sheet) (b := (leavesP p m)[i].col) (c := (leavesP p m)[i].row) (by omega) (by omega) (by omega)
  by_cases hin : ((leavesP p m)[i].inner != inner) = true
  ·refine Ak <| Ab <| Ac <| Aq <| Ax (Ag 1) fun ds => Ad rfl (A1 (k := i) Bz Aa hsl.plain Aa rfl hlt) <| Ad rfl (A6 CP Aa rfl rfl (hsl.whole hlt)) <| A5 rfl <| AF E6 rfl fun b21 hb21 nb21 => Ao (Ag 1) <| AZ <| AC Fd Aa Aa (i := 0) rfl rfl rfl rfl Lf.enc_one (.here) <| Al <| Ab <| Ax (Ag 1) fun ds => Ad rfl (BM Aa Aa rfl (by omega) (by omega)) <| Ad rfl (AJ Aa Aa rfl (by omega) (by omega)) <| Aw (Ag 1) <| Ac <| Ax (Ag 3) fun ds => Ad rfl (Oo Tryz.underlying4 Aa Aa) <| Al <| Ab <| Ah Aa hin ?_
   by_cases ht : (leavesP p m)[i].turned = true
   ·refine Aj fun ds => Ao (Ag 1) <| Ad rfl (AJ Aa Aa rfl (by omega) (by omega)) <| Aw (Ag 1) <| Ac <| AD (Ag 2) <| Ah Aa ht <| Aj fun ds => Ao (Ag 1) <| Ad rfl (q_neg Aa (by omega) (by omega)) <| Aw (Ag 1) <| Aj fun ds => Ao (Ag 7) <| Ad rfl (Bg J4 (.cons Aa rfl (.cons Aa rfl (.cons Aa rfl .nil))) (.cons rfl rfl (Nat.le_of_ble_eq_true rfl) (.cons (.here) .nil) (.cons rfl rfl (Nat.le_of_ble_eq_true rfl) (.cons (.next <| .here) .nil) (.cons rfl rfl (Nat.le_of_ble_eq_true rfl) (.cons (.next <| .next <| .here) .nil) .nil)))) <| Ao (Ag 1) <| AZ <| G6 SA Aa Aa Aa (i := 1) rfl hkX hK (hge ▸ Lu (inner := inner) hnd hlt) (.next <| .here) <| Al <| A4 <| Ab <| Bk (fun _ _ h => h.drop (kD <| kK <| .refl _)) <| Aj fun ds => Ad rfl (AJ Aa Aa rfl (by omega) (by omega)) <| Ao (Ag 1) <| Al ?_
    refine Ab ⟨_, m1 - 1, Off.eq (DG rfl <| BQ rfl <| A3), by omega, ?_⟩
    refine ⟨i + 1, by omega, Ba, ?_⟩
    rw [Gp, ← hge]
    unfold pageV
    rw [if_pos ht, if_pos (bne_iff_ne.1 hin)]
    rfl
   replace ht : (leavesP p m)[i].turned = false := by simpa using ht
   refine Aj fun ds => Ao (Ag 1) <| Ad rfl (AJ Aa Aa rfl (by omega) (by omega)) <| Aw (Ag 1) <| Ac <| AD (Ag 2) <| Ae Aa ht <| Ak <| Ab <| Aj fun ds => Ao (Ag 7) <| Ad rfl (Bg J4 (.cons Aa rfl (.cons Aa rfl (.cons Aa rfl .nil))) (.cons rfl rfl (Nat.le_of_ble_eq_true rfl) (.cons (.here) .nil) (.cons rfl rfl (Nat.le_of_ble_eq_true rfl) (.cons (.next <| .here) .nil) (.cons rfl rfl (Nat.le_of_ble_eq_true rfl) (.cons (.next <| .next <| .here) .nil) .nil)))) <| Ao (Ag 1) <| AZ <| G6 SA Aa Aa Aa (i := 1) rfl hkX hK (hge ▸ Lu (inner := inner) hnd hlt) (.next <| .here) <| Al <| A4 <| Ab <| Bk (fun _ _ h => h.drop (kD <| kK <| .refl _)) <| Aj fun ds => Ad rfl (AJ Aa Aa rfl (by omega) (by omega)) <| Ao (Ag 1) <| Al ?_
   refine Ab ⟨_, m1 - 1, Off.eq (Bx rfl <| Ci rfl <| BI rfl <| BF rfl <| A3), by omega, ?_⟩
   refine ⟨i + 1, by omega, Ba, ?_⟩
   rw [Gp, ← hge]
   unfold pageV
   rw [if_neg (by rw [ht]; simp), if_pos (bne_iff_ne.1 hin)]
   rfl
  replace hin : ((leavesP p m)[i].inner != inner) = false := by simpa using hin
  refine Ak <| Ab <| Ac <| Aq <| Ax (Ag 1) fun ds => Ad rfl (A1 (k := i) Bz Aa hsl.plain Aa rfl hlt) <| Ad rfl (A6 CP Aa rfl rfl (hsl.whole hlt)) <| A5 rfl <| AF E6 rfl fun b22 hb22 nb22 => Ao (Ag 1) <| AZ <| AC Fd Aa Aa (i := 0) rfl rfl rfl rfl Lf.enc_one (.here) <| Al <| Ab <| Ax (Ag 1) fun ds => Ad rfl (BM Aa Aa rfl (by omega) (by omega)) <| Ad rfl (AJ Aa Aa rfl (by omega) (by omega)) <| Aw (Ag 1) <| Ac <| Ax (Ag 3) fun ds => Ad rfl (Oo Tryz.underlying4 Aa Aa) <| Al <| Ab <| Ae Aa hin ?_
  by_cases ht : (leavesP p m)[i].turned = true
  ·refine Ak <| Ab <| Ac <| AD (Ag 2) <| Ah Aa ht <| Aj fun ds => Ao (Ag 1) <| Ad rfl (q_neg Aa (by omega) (by omega)) <| Aw (Ag 1) <| Aj fun ds => Ao (Ag 7) <| Ad rfl (Bg J4 (.cons Aa rfl (.cons Aa rfl (.cons Aa rfl .nil))) (.cons rfl rfl (Nat.le_of_ble_eq_true rfl) (.cons (.here) .nil) (.cons rfl rfl (Nat.le_of_ble_eq_true rfl) (.cons (.next <| .here) .nil) (.cons rfl rfl (Nat.le_of_ble_eq_true rfl) (.cons (.next <| .next <| .here) .nil) .nil)))) <| Ao (Ag 1) <| AZ <| G6 SA Aa Aa Aa (i := 1) rfl hkX hK (hge ▸ Lu (inner := inner) hnd hlt) (.next <| .here) <| Al <| A4 <| Ab <| Bk (fun _ _ h => h.drop (kD <| kK <| .refl _)) <| Aj fun ds => Ad rfl (AJ Aa Aa rfl (by omega) (by omega)) <| Ao (Ag 1) <| Al ?_
   refine Ab ⟨_, m1 - 1, Off.eq (Bx rfl <| Ci rfl <| BI rfl <| BF rfl <| A3), by omega, ?_⟩
   refine ⟨i + 1, by omega, Ba, ?_⟩
   rw [Gp, ← hge]
   unfold pageV
   rw [if_pos ht, if_neg (fun h => by rw [bne_iff_ne.2 h] at hin; cases hin)]
   rfl
  replace ht : (leavesP p m)[i].turned = false := by simpa using ht
  refine Ak <| Ab <| Ac <| AD (Ag 2) <| Ae Aa ht <| Ak <| Ab <| Aj fun ds => Ao (Ag 7) <| Ad rfl (Bg J4 (.cons Aa rfl (.cons Aa rfl (.cons Aa rfl .nil))) (.cons rfl rfl (Nat.le_of_ble_eq_true rfl) (.cons (.here) .nil) (.cons rfl rfl (Nat.le_of_ble_eq_true rfl) (.cons (.next <| .here) .nil) (.cons rfl rfl (Nat.le_of_ble_eq_true rfl) (.cons (.next <| .next <| .here) .nil) .nil)))) <| Ao (Ag 1) <| AZ <| G6 SA Aa Aa Aa (i := 1) rfl hkX hK (hge ▸ Lu (inner := inner) hnd hlt) (.next <| .here) <| Al <| A4 <| Ab <| Bk (fun _ _ h => h.drop (kD <| kK <| .refl _)) <| Aj fun ds => Ad rfl (AJ Aa Aa rfl (by omega) (by omega)) <| Ao (Ag 1) <| Al ?_
  refine Ab ⟨_, m1 - 1, Off.eq (Bx rfl <| Ci rfl <| BF rfl <| BQ rfl <| A3), by omega, ?_⟩
  refine ⟨i + 1, by omega, Ba, ?_⟩
  rw [Gp, ← hge]
  unfold pageV
  rw [if_neg (by rw [ht]; simp), if_neg (fun h => by rw [bne_iff_ne.2 h] at hin; cases hin)]
  rfl
 refine AD (Ag 1) <| Ac <| Ae Aa (by first | rfl | exact dF (by omega)) ?_
 obtain rfl : i = (leavesP p m).length := by omega
 refine AG ?_
 refine A2 <| A2 <| A8 <| Ab <| Ac <| Aj fun ds => Ad rfl (A6 Cn Aa rfl rfl (AK hz10)) <| Ad rfl (A6 BD Aa rfl rfl (AK hz5)) <| AE rfl (As LM Aa AO (DU hr hfi) (fun _ _ h => h)) <| AE rfl (As MR Aa AO (Fm hfm.2.1.2 hfm.2.2) (fun _ _ h => h.trans (show _ = Value.tuple #[.int .i64 (C : Int), .int .i64 (Rn : Int)] by rw [hC, hRn]; rfl))) <| Aw (Ag 5) <| Ac <| AD (Ag 2) <| Aq ?_
 refine AH [8, 17, 18, 19, 20, 79, 80, 81, 82, 83, 84, 85, 86, 87, 88, 89, 90, 91, 92, 93, 94, 95, 96, 97, 98, 99, 100, 101] (fun m3 e σ => ∃ r : Nat, m3 + r = Rn ∧ Fct e 79 (.int .i64 (r : Int)) ∧ ∃ (v : Value) (R : List (Nat × Obj)), Fct e 8 v ∧ Own 3 1 v (formeR p m inner s r).length ((formeR p m inner s r).flatMap intE) R ∧ σ = ⟨F17, (b15, mapO (fesTo p m inner ((leavesP p m).length))) :: R⟩) (Rn) ?_ ?_
 · exact ⟨0, by omega, (Ba), _, _, Ba, BV, rfl⟩
 rintro m1 e1 _ ⟨r, hm1, hs79, v8, R8, hs8, ho, rfl⟩
 by_cases hr2 : r < Rn
 ·refine AD (Ag 1) <| Ac <| Ah Aa (by first | rfl | exact dT (by omega)) <| Ak <| Ab <| Ac <| Aq <| AD (Ag 2) <| AD (Ag 2) <| Aq ?_
  refine AH [8, 18, 19, 20, 83, 84, 85, 86, 87, 88, 89, 90, 91, 92, 93, 94, 95, 96, 97, 98, 99, 100] (fun m3 e σ => ∃ c : Nat, m3 + c = C ∧ Fct e 83 (.int .i64 (c : Int)) ∧ ∃ (v : Value) (R : List (Nat × Obj)), Fct e 8 v ∧ Own 3 1 v (formeR p m inner s r ++ formeC p m inner s r c).length ((formeR p m inner s r ++ formeC p m inner s r c).flatMap intE) R ∧ σ = ⟨F17, (b15, mapO (fesTo p m inner ((leavesP p m).length))) :: R⟩) (C) ?_ ?_
  · exact ⟨0, by omega, Ba, _, _, Ba, by simpa [formeC] using ho, rfl⟩
  rintro m2 e2 _ ⟨c, hm2, ht83, v9, R9, ht8, ho2, rfl⟩
  by_cases hc : c < C
  ·refine AD (Ag 1) <| Ac <| Ah Aa (by first | rfl | exact dT (by omega)) ?_
   have hl1 := Hp (p := p) (m := m) (inner := inner) (s := s) r
   have hl2 := Lo (p := p) (m := m) (inner := inner) (s := s) (r := r) (c := c)
   have hl3 : r * colN p m ≤ 16 * 16 := Nat.mul_le_mul (by omega) (by omega)
   have hK := hKs (leavesP p m).length (Nat.le_refl _)
   have hkX : IsK Tryz.prog 142 (placV (s, (c : Int), (r : Int))) := isKF (by omega) (by omega) (by omega)
   rcases U5 (inner := inner) hnd (s, (c : Int), (r : Int)) with ⟨hno, hnn⟩ | ⟨j, z, hj, hss⟩
   ·refine Ak <| Ab <| Ac <| Aq <| AD (Ag 2) <| Ax (Ag 4) fun ds => Ad rfl (Bg J4 (.cons Aa rfl (.cons Aa rfl (.cons Aa rfl .nil))) (.cons rfl rfl (Nat.le_of_ble_eq_true rfl) (.cons (.here) .nil) (.cons rfl rfl (Nat.le_of_ble_eq_true rfl) (.cons (.next <| .here) .nil) (.cons rfl rfl (Nat.le_of_ble_eq_true rfl) (.cons (.next <| .next <| .here) .nil) .nil)))) <| Ad rfl (PX SA Aa Aa (i := 0) rfl hkX hK hno) <| Aw (Ag 5) <| AD (Ag 1) <| Ae Aa rfl <| Ak <| A4 <| Ab <| Aj fun ds => Ad rfl (AJ Aa Aa rfl (by omega) (by omega)) <| Ao (Ag 1) <| Al ?_
    refine Ab ⟨_, m2 - 1, Off.eq (Bx rfl <| BQ rfl <| A3), by omega, ?_⟩
    exact ⟨c + 1, by omega, Ba, _, _, Ba, by rw [Pc hnn]; exact ho2, rfl⟩
   refine Ak <| Ab <| Ac <| Aq <| AD (Ag 2) <| Ax (Ag 4) fun ds => Ad rfl (Bg J4 (.cons Aa rfl (.cons Aa rfl (.cons Aa rfl .nil))) (.cons rfl rfl (Nat.le_of_ble_eq_true rfl) (.cons (.here) .nil) (.cons rfl rfl (Nat.le_of_ble_eq_true rfl) (.cons (.next <| .here) .nil) (.cons rfl rfl (Nat.le_of_ble_eq_true rfl) (.cons (.next <| .next <| .here) .nil) .nil)))) <| Ad rfl (PW SA Aa Aa (i := 0) rfl hkX hK (MF hnd _ (Nat.le_refl _)) hj) <| Aw (Ag 5) <| AD (Ag 1) <| Ah Aa rfl <| Aj fun ds => Ao (Ag 2) <| A5 rfl <| AS AR B3 rfl (.cons Aa .nil) rfl rfl (by decide) (by simp [Value.oneCell']) fun b25 hb25 nb25 => A5 rfl <| Bd AR GR Aa ho2 Aa (Bv (s := 1) 0 rfl rfl (by simp [Value.oneCell'])) (by rw [List.length_append]; omega) (by rw [List.length_append]; omega) (.s <| .s <| .z) .last fun v26 R27 ho28 => ?_
   have ho99 : Own 3 1 v26 ((formeR p m inner s r ++ formeC p m inner s r c) ++ [z]).length (((formeR p m inner s r ++ formeC p m inner s r c) ++ [z]).flatMap intE) R27 := Own.snoc ho28 rfl rfl
   refine Ao (Ag 1) <| Al <| A4 <| Ab <| Bk (fun _ _ h => h.drop (kD <| kK <| .refl _)) <| Aj fun ds => Ad rfl (AJ Aa Aa rfl (by omega) (by omega)) <| Ao (Ag 1) <| Al ?_
   refine Ab ⟨_, m2 - 1, Off.eq (Bx rfl <| BI rfl <| BF rfl <| A3), by omega, ?_⟩
   exact ⟨c + 1, by omega, Ba, _, _, Ba, by rw [Pb hss, ← List.append_assoc]; exact ho99, rfl⟩
  refine AD (Ag 1) <| Ac <| Ae Aa (by first | rfl | exact dF (by omega)) ?_
  obtain rfl : c = C := by omega
  refine AG ?_
  refine A2 <| A2 <| A8 <| A4 <| Ab <| Aj fun ds => Ad rfl (AJ Aa Aa rfl (by omega) (by omega)) <| Ao (Ag 1) <| Al ?_
  refine Ab ⟨_, m1 - 1, Off.eq (BF rfl <| BQ rfl <| B7 rfl <| BI rfl <| BQ rfl <| A3), by omega, ?_⟩
  exact ⟨r + 1, by omega, Ba, _, _, Ba, by rw [JT, ← hC]; exact ho2, rfl⟩
 refine AD (Ag 1) <| Ac <| Ae Aa (by first | rfl | exact dF (by omega)) ?_
 obtain rfl : r = Rn := by omega
 have hl1 := Hp (p := p) (m := m) (inner := inner) (s := s) r
 have hl3 : r * colN p m ≤ 16 * 16 := Nat.mul_le_mul (by omega) (by omega)
 refine AG ?_
 refine A2 <| A2 <| A8 <| Ab <| AD (Ag 3) <| Bo (σ := ⟨_, _⟩) (by rfl) ho (.s <| .z) .last fun F29 hF30 hz31 => ?_
 have hre := ho.sl (fun _ => rfl) hz31 (by omega)
 refine Au <| Am rfl Bi ?_
 exact ⟨_, rfl, by unfold formeL; rw [← hRn]; exact hre⟩
end
section
set_option maxHeartbeats 2000000
set_option maxRecDepth 100000
open Go.RowKit
theorem bd_24 : Body Tryz.prog 24 := AB (by kernel_rfl)
theorem bd_9 : Body Tryz.prog 9 := AB (by kernel_rfl)
theorem Mh {F : Heap} {vf vp : Value} {p : Prs} (hr : PrsR F vf vp p) {b : Bok} {vm : Value} (hm : Sl F vm 2 Mrk.enc b.marks) (hb : (checkB p b).2.2 = 0) : Ok Tryz.prog 29 [prsV vf vp p, bokV vm b].toArray F fun u F' => ∃ v, u = .tuple #[v, .int .i64 (if (wrongL p b (mksL p)) < 0 then 9 else 0)] ∧ (0 ≤ (wrongL p b (mksL p)) → Nats F' v (bitsF (wrongL p b (mksL p)).toNat)) := by
 have hvb := LG hb
 have hv := hvb.valid
 have hmr0 : ∀ m : Mk, ((leavesP p m).length : Int) = b.leaves → ∀ k, k < b.marks.length → 0 ≤ (b.mr k).leaf ∧ (b.mr k).leaf < ((leavesP p m).length : Int) := fun m e k hk => by rw [e]; exact hvb.marks k hk
 have hof : ∀ (m : Mk) (s : Nat), offTo p m b s < 2048 := fun m s => Eh hvb.many s
 refine Ok.intro Tryz.func29 rfl Tryz.ntmps29 rfl fun w0 => Ac <| Aj fun ds => A5 rfl <| AX Aa rfl fun b1 hb1 nb1 => A5 rfl <| AX Aa rfl fun b2 hb2 nb2 => Aw (Ag 2) <| PD <| Ax (Ag 2) fun ds => AE rfl (As bd_49 Aa AO (OM hr hm hb) (fun _ _ h => h)) <| Ao (Ag 3) <| A5 rfl <| AF EV rfl fun b3 hb3 nb3 => AZ <| AC Fv Aa Aa (i := 0) rfl rfl rfl rfl hr.ones (.here) <| Aw (Ag 1) <| Ac <| AD (Ag 2) <| Ae Aa rfl <| AN (i := 2) rfl hb1 (.next <| .next <| .here) fun F4 hF5 hz2 => ?_
 replace hr := hr.mono hF5
 replace hm := hm.mono hF5
 refine AN (i := 1) rfl hb2 (.next <| .here) fun F6 hF7 hz3 => ?_
 replace hr := hr.mono hF7
 replace hm := hm.mono hF7
 refine AN (i := 0) rfl hb3 (.here) fun F8 hF9 hz6 => ?_
 replace hr := hr.mono hF9
 replace hm := hm.mono hF9
 replace hz3 := hF9 _ _ hz3
 refine Ak <| Ab <| Ac <| Aj fun ds => A5 rfl <| AF B3 rfl fun b10 hb10 nb10 => AZ <| AW Dr Aa Aa (i := 0) rfl (.here) rfl (.here) <| Al <| Ab <| Ac <| PE <| Ab <| Ac <| Ac <| Aj fun ds => Ad rfl (A6 Cn Aa rfl rfl (AK hz6)) <| A5 rfl <| Bb bd_50 Aa AO (M4 hr) fun v11 F12 hr13 hF14 => ?_
 replace hr := hr.mono hF14
 replace hm := hm.mono hF14
 replace hz3 := hF14 _ _ hz3
 replace hz6 := hF14 _ _ hz6
 obtain ⟨dk, rfl, hzk⟩ := hr13
 refine Al <| Ab <| Aq ?_
 refine JB rfl Aa (bd_87) (JR hr hv hzk) (Heap.le_refl _) (fun pre _ H => H = [(b10, bx 3 [.int .i64 (wrongL p b pre)])]) (fun _ _ _ => False) (fun _ _ _ _ _ h => h) (fun _ _ _ _ _ h => h) rfl (fun L D fn1 tm1 pre1 x1 rest1 G1 RH1 vs1 hxs1 hle1 hJ1 hA1 => ?_) (fun _ _ _ _ h => h.elim) (fun F2 H1 hF2 hJ => ?_)
 ·replace hr := hr.mono hle1
  replace hm := hm.mono hle1
  replace hz3 := hle1 _ _ hz3
  replace hz6 := hle1 _ _ hz6
  obtain rfl := hA1
  obtain rfl := hJ1
  refine ⟨rfl, rfl, fun w1 => ?_⟩
  refine Sm (e' := (upd _ 22 (mkV x1))) rfl rfl <| B8 (.inr (by kernel_rfl)) (fun _ _ h => h) fun ds => A5 rfl <| AF Ee rfl fun b15 hb15 nb15 => AZ <| AC Fe Aa Aa (i := 0) rfl rfl rfl rfl Mk.enc_one (.here) <| VK (.cons (.next <| .here) <| .cons (.next <| .here) <| .cons (.here) <| .cons (.here) <| .nil) <| Al ?_
  refine Ab ⟨_, rfl, ?_⟩
  refine AN (i := 2) rfl hb15 (.next <| .next <| .here) fun F16 hF17 hz9 => ?_
  replace hr := hr.mono hF17
  replace hm := hm.mono hF17
  replace hle1 := hle1.mono hF17
  replace hz3 := hF17 _ _ hz3
  replace hz6 := hF17 _ _ hz6
  have hokm : MkOk p x1 := Ns (by rw [hxs1]; simp)
  have hb2 := Rl (hof x1)
  have hw2 := Mg hof pre1
  by_cases h1 : offP p x1 b < 0
  ·refine Aq <| Ac <| B8 (.inr (by kernel_rfl)) (fun _ _ h => h) fun ds => Ad rfl (A6 Cn Aa rfl rfl (AK hz6)) <| Ad rfl (A6 BD Aa rfl rfl (AK hz9)) <| Ad rfl (A6 FP Aa rfl rfl (AK hz3)) <| AE rfl (As Sd Aa AO (Kn hr hv hokm hm hvb.many (hmr0 x1)) (fun _ _ h => h)) <| Aw (Ag 1) <| Ac <| Ac <| B8 (.inr (by kernel_rfl)) (fun _ _ h => h) fun ds => Ao (Ag 3) <| Ar rfl rfl Aa (.inl (congrArg Value.bool (dT h1))) rfl <| Ar rfl rfl Aa (.inl (congrArg Value.bool (dT h1))) rfl <| Ar rfl rfl Aa (.inl (congrArg Value.bool (dT h1))) rfl <| Ar rfl rfl Aa (.inr rfl) rfl <| Ar rfl rfl Aa (.inr rfl) rfl <| Ar rfl rfl Aa (.inr rfl) rfl <| Ar rfl rfl Aa (.inr rfl) rfl <| Ar rfl rfl Aa (.inl (congrArg Value.bool (dT h1))) rfl <| Ad rfl (At Aa (dT h1) Aa) <| Al <| Ab <| Ah Aa rfl <| AG <| A2 <| A8 <| E9 (.one (.here) <| .one (.here) <| .one (.here) <| .nil) ?_
   refine .inl ⟨rfl, _, rfl, hle1, ?_⟩
   show _ = [(_, bx 3 [Value.int .i64 (wrongL p b (pre1 ++ [x1]))])]
   rw [EM, show wrongS p b (wrongL p b pre1) x1 = _ from if_pos (.inl h1)]
  refine Aq <| Ac <| B8 (.inr (by kernel_rfl)) (fun _ _ h => h) fun ds => Ad rfl (A6 Cn Aa rfl rfl (AK hz6)) <| Ad rfl (A6 BD Aa rfl rfl (AK hz9)) <| Ad rfl (A6 FP Aa rfl rfl (AK hz3)) <| AE rfl (As Sd Aa AO (Kn hr hv hokm hm hvb.many (hmr0 x1)) (fun _ _ h => h)) <| Aw (Ag 1) <| Ac <| Ac <| B8 (.inr (by kernel_rfl)) (fun _ _ h => h) fun ds => Ao (Ag 3) <| Ai rfl rfl Aa (dF h1) <| Ao (Ag 1) <| Ai rfl rfl Aa (dF h1) <| Ao (Ag 1) <| Ai rfl rfl Aa (dF h1) <| Ao (Ag 1) ?_
  by_cases h2 : 0 ≤ wrongL p b pre1
  ·refine Ai rfl rfl Aa (dT h2) <| Ao (Ag 1) <| Ai rfl rfl Aa (dT h2) <| Ao (Ag 1) <| Ai rfl rfl Aa (dT h2) <| AE rfl (As Fq Aa AO (by have h := Cv (F := F16) (a := (offP p x1 b).toNat) (b := (wrongL p b pre1).toNat) (by omega) (by omega); rwa [Int.toNat_of_nonneg (by omega), Int.toNat_of_nonneg (by omega)] at h) (fun _ _ h => h)) <| Ai rfl rfl Aa (dT h2) <| Ao (Ag 1) <| Ai rfl rfl Aa (dF h1) <| Ad rfl (At Aa (dT h2) Aa) <| Ad rfl (A9 Aa (dF h1) Aa) <| Al <| Ab ?_
   by_cases h3 : fewF (offP p x1 b).toNat (wrongL p b pre1).toNat = true
   ·refine Ae Aa (by rw [h3]; rfl) <| Ak <| Ab <| B8 (.inr (by kernel_rfl)) (fun _ _ h => h) fun ds => Ao (Ag 1) <| AZ <| AW Dr Aa Aa (i := 2) rfl (.here) rfl (.next <| .next <| .here) <| Al <| A4 <| E9 (.one (.here) <| .one (.here) <| .one (.here) <| .nil) ?_
    refine .inl ⟨rfl, _, rfl, hle1, ?_⟩
    show _ = [(_, bx 3 [Value.int .i64 (wrongL p b (pre1 ++ [x1]))])]
    rw [EM, show wrongS p b (wrongL p b pre1) x1 = _ from if_neg (fun h => h.elim h1 fun h => by rw [h3] at h; cases h.2)]
   replace h3 : fewF (offP p x1 b).toNat (wrongL p b pre1).toNat = false := by simpa using h3
   refine Ah Aa (by rw [h3]; rfl) <| AG <| A2 <| A8 <| E9 (.one (.here) <| .one (.here) <| .one (.here) <| .nil) ?_
   refine .inl ⟨rfl, _, rfl, hle1, ?_⟩
   show _ = [(_, bx 3 [Value.int .i64 (wrongL p b (pre1 ++ [x1]))])]
   rw [EM, show wrongS p b (wrongL p b pre1) x1 = _ from if_pos (.inr ⟨h2, h3⟩)]
  refine Ar rfl rfl Aa (.inl (congrArg Value.bool (dF h2))) rfl <| Ar rfl rfl Aa (.inl (congrArg Value.bool (dF h2))) rfl <| Ar rfl rfl Aa (.inl (congrArg Value.bool (dF h2))) rfl <| Ar rfl rfl Aa (.inl (congrArg Value.bool (dF h2))) rfl <| Ai rfl rfl Aa (dF h1) <| Ad rfl (A9 Aa (dF h2) Aa) <| Ad rfl (A9 Aa (dF h1) Aa) <| Al <| Ab <| Ae Aa rfl <| Ak <| Ab <| B8 (.inr (by kernel_rfl)) (fun _ _ h => h) fun ds => Ao (Ag 1) <| AZ <| AW Dr Aa Aa (i := 2) rfl (.here) rfl (.next <| .next <| .here) <| Al <| A4 <| E9 (.one (.here) <| .one (.here) <| .one (.here) <| .nil) ?_
  refine .inl ⟨rfl, _, rfl, hle1, ?_⟩
  show _ = [(_, bx 3 [Value.int .i64 (wrongL p b (pre1 ++ [x1]))])]
  rw [EM, show wrongS p b (wrongL p b pre1) x1 = _ from if_neg (fun h => h.elim h1 fun h => h2 h.1)]
 obtain rfl := hJ
 refine A4 <| Ab ?_
 have hw3 := Mg hof (mksL p)
 by_cases h0 : (wrongL p b (mksL p)) < 0
 ·refine Ac <| AD (Ag 2) <| Ah Aa (dT h0) <| AD (Ag 2) <| Au <| Ay <| Nd <| Am rfl Bi ?_
  exact ⟨_, by rw [if_pos h0]; rfl, fun h => absurd h (by omega)⟩
 refine Ac <| AD (Ag 2) <| Ae Aa (dF h0) ?_
 have hls : ∀ F, Ok Tryz.prog 65 #[.int .i64 (wrongL p b (mksL p))] F fun u F' => Nats F' u (bitsF (wrongL p b (mksL p)).toNat) := fun F => by have h := Ld (F := F) (n := (wrongL p b (mksL p)).toNat) (by omega); rwa [Int.toNat_of_nonneg (by omega)] at h
 refine Ak <| Ab <| Ax (Ag 1) fun ds => A5 rfl <| Bb Vn Aa AO (hls _) fun v18 F19 hr20 hF21 => ?_
 have hbl := hr20
 refine Aw (Ag 2) <| Au <| Nd <| Am rfl Bi ?_
 exact ⟨_, by rw [if_neg h0]; rfl, fun _ => hbl⟩
theorem Hy {F : Heap} {vf vp : Value} {p : Prs} (hr : PrsR F vf vp p) {b : Bok} {vm : Value} (hm : Sl F vm 2 Mrk.enc b.marks) (hb : (checkB p b).2.2 = 0) {leaf : Nat} (hl : (leaf : Int) < b.leaves) : Ok Tryz.prog 28 [prsV vf vp p, bokV vm b, .int .i64 (leaf : Int)].toArray F fun u F' => ∃ v1 v2, u = .tuple #[v1, v2, .int .i64 (if (agreeL p b) = [] then 8 else 0)] ∧ ((agreeL p b) ≠ [] → Nats F' v1 (mustTo p b leaf b.leaves.toNat) ∧ Nats F' v2 (mayTo p b leaf b.leaves.toNat)) := by
 have hvb := LG hb
 have hv := hvb.valid
 have hmr0 : ∀ m : Mk, ((leavesP p m).length : Int) = b.leaves → ∀ k, k < b.marks.length → 0 ≤ (b.mr k).leaf ∧ (b.mr k).leaf < ((leavesP p m).length : Int) := fun m e k hk => by rw [e]; exact hvb.marks k hk
 have hin : inB 0 (b.leaves - 1) (leaf : Int) = true := BZ.2 (by omega)
 have hbl1 := hvb.leaves
 obtain ⟨L, hL⟩ := Int.eq_ofNat_of_zero_le (show 0 ≤ b.leaves by omega)
 have hLL : b.leaves.toNat = L := by omega
 refine Ok.intro Tryz.func28 rfl Tryz.ntmps28 rfl fun w0 => ?_
 have hal := J8 (b := b) hv
 refine Ac <| Aj fun ds => A5 rfl <| AX Aa rfl fun b1 hb1 nb1 => A5 rfl <| AX Aa rfl fun b2 hb2 nb2 => Aw (Ag 3) <| Ax (Ag 2) fun ds => A5 rfl <| Bb bd_9 Aa AO (J9 hr hm hb) fun v3 F4 hr5 hF6 => ?_
 replace hr := hr.mono hF6
 replace hm := hm.mono hF6
 obtain ⟨va, rfl, hag⟩ := hr5
 refine Aw (Ag 5) <| Ac <| Aq <| AD (Ag 3) <| Ae Aa rfl <| Ax (Ag 2) fun ds => Ad rfl (Br Aa Aa rfl (by omega) (by omega)) <| Ao (Ag 1) <| A5 rfl <| AS AR B3 rfl (.cons Aa .nil) rfl rfl (by decide) (by simp [Value.oneCell']) fun b7 hb7 nb7 => AQ (i := 0) rfl hb7 .here fun F8 hF9 hz10 => ?_
 replace hr := hr.mono hF9
 replace hm := hm.mono hF9
 replace hag := hag.mono hF9
 have hsl11 := Be hz10
 refine AE rfl (As CK Aa AO (Bp _ _ hsl11) (fun _ _ h => h)) <| Aw (Ag 1) <| Ae Aa (by show (!(inB _ _ _) || false) = false; rw [hin]; rfl) ?_
 by_cases hne : (agreeL p b) = []
 ·refine Ax (Ag 1) fun ds => Ad rfl (AA C3 Aa hag.plain) <| Aw (Ag 2) <| Ah Aa (dT (by rw [hne]; rfl)) <| AD (Ag 3) <| Au <| A7 <| Ay <| Am rfl Bi ?_
  exact ⟨_, _, by rw [if_pos hne]; rfl, fun h => absurd hne h⟩
 have hpos : 0 < (agreeL p b).length := List.length_pos_iff.2 hne
 refine Ax (Ag 1) fun ds => Ad rfl (AA C3 Aa hag.plain) <| Aw (Ag 2) <| Ae Aa (dF (by omega)) <| AN (i := 1) rfl hb1 (.next <| .here) fun F12 hF13 hz3 => ?_
 replace hr := hr.mono hF13
 replace hm := hm.mono hF13
 replace hag := hag.mono hF13
 refine AN (i := 0) rfl hb2 (.here) fun F14 hF15 hz4 => ?_
 replace hr := hr.mono hF15
 replace hm := hm.mono hF15
 replace hag := hag.mono hF15
 replace hz3 := hF15 _ _ hz3
 refine Ak <| A4 <| Ab <| Ax (Ag 1) fun ds => Ad rfl (Ap AM Aa (AP hz4 rfl)) <| A5 rfl <| K7 (enc := natE) (x0 := 0) (k := L) rfl AR GR rfl rfl (fun _ => rfl) (by decide) Aa Aa hL (by omega) (by omega) fun v16 R17 ho43 => ?_
 obtain ⟨v10, hv10⟩ : ∃ y, y = v16 := ⟨_, rfl⟩
 subst hv10
 obtain ⟨R_, hR_⟩ : ∃ y, y = R17 := ⟨_, rfl⟩
 subst hR_
 refine Aw (Ag 1) <| Ac <| Ax (Ag 1) fun ds => Ad rfl (AA C3 Aa hag.plain) <| Aw (Ag 1) <| Aq ?_
 refine AH [12, 13, 14, 15, 17, 46, 47, 48, 49, 50, 51, 52, 53, 54, 55, 56, 57, 58, 59, 60, 61, 62, 63, 64, 65, 66, 67, 68, 69, 70, 71] (fun m3 e σ => ∃ j : Nat, m3 + j = (agreeL p b).length ∧ Fct e 46 (.int .i64 (j : Int)) ∧ ∃ G R, F14.le G ∧ Own 3 1 v10 (manyL p leaf L ((agreeL p b).take j)).length ((manyL p leaf L ((agreeL p b).take j)).flatMap natE) R ∧ σ = ⟨G, R⟩) ((agreeL p b).length) ?_ ?_
 · exact ⟨0, by omega, Ba, _, _, Heap.le_refl _, (by exact ho43), rfl⟩
 rintro m1 e _ ⟨j, hm1, hs46, G, R7, hFG, ho, rfl⟩; replace hr := hr.mono hFG; replace hm := hm.mono hFG; replace hag := hag.mono hFG; replace hz3 := hFG _ _ hz3; replace hz4 := hFG _ _ hz4
 by_cases hj : j < (agreeL p b).length
 ·refine AD (Ag 1) <| Ac <| Ah Aa (by first | rfl | exact dT (by omega)) ?_
  have hmj : (agreeL p b)[j] ∈ (agreeL p b) := List.getElem_mem hj
  have hokm := Jb hmj
  have hlm := NJ hmj
  have hll := hokm.len hv
  obtain ⟨mc, hmc⟩ : ∃ x, x = manyL p leaf L ((agreeL p b).take j) := ⟨_, rfl⟩
  rw [← hmc] at ho
  obtain ⟨js, hjse⟩ : ∃ x, x = matesP p (agreeL p b)[j] leaf := ⟨_, rfl⟩
  have hlen2 : js.length ≤ 64 := by rw [hjse]; exact Nat.le_trans (CX _ _) hll.2
  have hjm : ∀ x ∈ js, x < (leavesP p (agreeL p b)[j]).length := fun x hx => by rw [hjse] at hx; exact SY hx
  have hmcl : mc.length = L := by rw [hmc]; exact M3 _
  have hmb : ∀ x ∈ mc, x ≤ 64 * 192 := fun x hx => by have h1 := OK (l := (agreeL p b).take j) (fun m hm => ((Jb (List.mem_of_mem_take hm)).len hv).2) x (by rw [← hmc]; exact hx); have h2 : ((agreeL p b).take j).length ≤ 192 := (by rw [List.length_take]; omega); omega
  refine Ak <| Ab <| Ac <| Aq <| Ac <| Aj fun ds => Ad rfl (A1 (k := j) C3 Aa hag.plain Aa rfl hj) <| Ad rfl (A6 (vs := (Mk.enc (agreeL p b)[j])) BD Aa rfl rfl (hag.whole hj)) <| A5 rfl <| AF Ee rfl fun b19 hb19 nb19 => AZ <| AC Fe Aa Aa (i := 0) rfl rfl rfl rfl Mk.enc_one (.here) <| Al <| Ab <| Ac <| AN (i := 0) rfl hb19 (.here) fun F20 hF21 hz12 => ?_
  replace hr := hr.mono hF21
  replace hFG := Heap.le_trans hFG hF21
  replace hz3 := hF21 _ _ hz3
  refine Aj fun ds => Ad rfl (A6 Cq Aa rfl rfl (AK hz3)) <| Ad rfl (A6 (vs := (Mk.enc (agreeL p b)[j])) BD Aa rfl rfl (AK hz12)) <| Ao (Ag 1) <| A5 rfl <| Bb bd_24 Aa AO (M2 hr hvb.prs hokm (leaf := leaf) (by omega)) fun v22 F23 hr24 hF25 => ?_
  replace hFG := Heap.le_trans hFG hF25
  obtain ⟨vj, rfl, hjs⟩ := hr24
  rw [← hjse] at hjs
  refine Aw (Ag 7) <| Ax (Ag 1) fun ds => Ad rfl (AA AR Aa hjs.plain) <| Aw (Ag 1) <| Aq ?_
  refine AH [17, 60, 61, 62, 63, 64, 65, 66, 67, 68, 69, 70] (fun m3 e σ => ∃ k : Nat, m3 + k = js.length ∧ Fct e 60 (.int .i64 (k : Int)) ∧ ∃ R, Own 3 1 v10 (bumps mc (js.take k)).length ((bumps mc (js.take k)).flatMap natE) R ∧ σ = ⟨F23, R⟩) (js.length) ?_ ?_
  · exact ⟨0, by omega, Ba, _, (by rw [List.take_zero]; exact ho), rfl⟩
  rintro m2 e2 _ ⟨k, hm2, ht60, R8, ho2, rfl⟩
  by_cases hk : k < js.length
  ·refine AD (Ag 1) <| Ac <| Ah Aa (by first | rfl | exact dT (by omega)) ?_
   have hkL : js[k] < L := by have h1 := hjm _ (List.getElem_mem hk); omega
   have hbl : (bumps mc (js.take k)).length = L := by rw [J3, hmcl]
   have hkl2 : js[k] < (bumps mc (js.take k)).length := by omega
   have hbd : (bumps mc (js.take k))[js[k]] ≤ 64 * 192 + 64 := by have h1 := LD (js := js.take k) hmb _ (List.getElem_mem hkl2); have h2 : (js.take k).length ≤ 64 := (by rw [List.length_take]; omega); omega
   refine Ak <| Ab <| Ac <| Aq <| Ac <| Aj fun ds => Ad rfl (A1 (k := k) AR Aa hjs.plain Aa rfl hk) <| Ad rfl (Ap AM Aa (hjs.cell1 hk rfl)) <| Aw (Ag 1) <| Aj fun ds => Ao (Ag 2) <| Ad rfl (A1 (k := js[k]) AR Aa (ho2.plain (by omega)) Aa rfl hkl2) <| Ad rfl (Ap AM Aa (HA ho2 (fun p hp => hp) (nat_at hkl2))) <| Ad rfl (AJ Aa Aa rfl (by omega) (by omega)) <| Ad rfl (A1 (k := js[k]) AR Aa (ho2.plain (by omega)) Aa rfl hkl2) <| AZ <| Hs Dr Aa Aa ho2 (by rw [CW (enc := natE) (s := 1) (fun _ => rfl)]; omega) rfl (.z) .last fun R27 ho28 => ?_
   have ho9 : Own 3 1 v10 (bumps mc (js.take (k + 1))).length ((bumps mc (js.take (k + 1))).flatMap natE) R27 := by have h9 := ho28; rw [Tl hkl2] at h9; rw [List.take_succ_eq_append_getElem hk, QG]; exact h9.to P1.symm
   refine Al <| A4 <| Ab <| Aj fun ds => Ad rfl (AJ Aa Aa rfl (by omega) (by omega)) <| Ao (Ag 1) <| Al ?_
   refine Ab ⟨_, m2 - 1, Off.eq (Ci rfl <| BI rfl <| A3), by omega, ?_⟩
   exact ⟨k + 1, by omega, Ba, _, ho9, rfl⟩
  refine AD (Ag 1) <| Ac <| Ae Aa (by first | rfl | exact dF (by omega)) ?_
  obtain rfl : k = js.length := by omega
  refine AG ?_
  refine A2 <| A2 <| A8 <| A4 <| Ab <| Aj fun ds => Ad rfl (AJ Aa Aa rfl (by omega) (by omega)) <| Ao (Ag 1) <| Al ?_
  refine Ab ⟨_, m1 - 1, Off.eq (BF rfl <| BQ rfl <| B7 rfl <| Bx rfl <| BF rfl <| A3), by omega, ?_⟩
  refine ⟨j + 1, by omega, Ba, _, _, hFG, ?_, rfl⟩
  have h9 := ho2
  rw [List.take_length] at h9
  rw [List.take_succ_eq_append_getElem hj, Qm, ← hmc, ← hjse]
  exact h9
 refine AD (Ag 1) <| Ac <| Ae Aa (by first | rfl | exact dF (by omega)) ?_
 obtain rfl : j = (agreeL p b).length := by omega
 rw [List.take_length] at ho
 have hmb : ∀ x ∈ manyL p leaf L (agreeL p b), x ≤ 64 * 192 := fun x hx => by have h1 := OK (l := (agreeL p b)) (fun m hm => ((Jb hm).len hv).2) x hx; omega
 have hML : (manyL p leaf L (agreeL p b)).length = L := M3 _
 obtain ⟨mc, hmc⟩ : ∃ x, x = manyL p leaf L (agreeL p b) := ⟨_, rfl⟩
 rw [← hmc] at ho hmb hML
 refine Bo (σ := ⟨_, _⟩) (by rfl) ho (.z) .last fun F29 hF30 hz31 => ?_
 replace hag := hag.mono hF30
 have hcs := ho.sl (fun _ => rfl) hz31 (by omega)
 refine AG ?_
 refine A2 <| A2 <| A8 <| Ab <| Ac <| Ax (Ag 1) fun ds => Ad rfl (AA AR Aa hcs.plain) <| Aw (Ag 1) <| Aq ?_
 refine AH [6, 7, 18, 19, 74, 75, 76, 77, 78, 79, 80, 81, 82, 83, 84, 85, 86, 87, 88, 89, 90, 91, 92, 93] (fun m3 e σ => ∃ i : Nat, m3 + i = L ∧ Fct e 74 (.int .i64 (i : Int)) ∧ ∃ (v6 v7 : Value) (R6 R7 : List (Nat × Obj)), Fct e 6 v6 ∧ Fct e 7 v7 ∧ Own 3 1 v6 (mustTo p b leaf i).length ((mustTo p b leaf i).flatMap natE) R6 ∧ Own 3 1 v7 (mayTo p b leaf i).length ((mayTo p b leaf i).flatMap natE) R7 ∧ σ = ⟨F29, R6 ++ R7⟩) (L) ?_ ?_
 · exact ⟨0, by omega, Ba, _, _, [], [], Ba, Ba, BV, BV, rfl⟩
 rintro m1 e1 _ ⟨i, hm1, hu74, v6, v7, R6, R7, hu6, hu7, hox, hoy, rfl⟩
 by_cases hlt : i < L
 ·refine AD (Ag 1) <| Ac <| Ah Aa (by first | rfl | exact dT (by omega)) ?_
  have hiL : i < mc.length := by omega
  have hci : mc[i]?.getD 0 = mc[i] := by rw [List.getElem?_eq_getElem hiL]; rfl
  have hl6 : (mustTo p b leaf i).length ≤ i := CX _ _
  have hl7 : (mayTo p b leaf i).length ≤ i := CX _ _
  by_cases h1 : mc[i] = (agreeL p b).length
  ·have hq1 : decide ((manyL p leaf b.leaves.toNat (agreeL p b))[i]?.getD 0 = (agreeL p b).length) = true := by rw [hLL, ← hmc, hci]; exact dT h1
   refine Ak <| Ab <| Ac <| Aq <| Ax (Ag 1) fun ds => Ad rfl (A1 (k := i) AR Aa hcs.plain Aa rfl hiL) <| Ad rfl (Ap AM Aa (hcs.cell1 hiL rfl)) <| Aw (Ag 2) <| Ac <| Ax (Ag 2) fun ds => Ad rfl (AA C3 Aa hag.plain) <| Aw (Ag 1) <| Ah Aa (dT (by omega)) ?_
   by_cases h2 : 0 < mc[i]
   ·have hq2 : decide (0 < (manyL p leaf b.leaves.toNat (agreeL p b))[i]?.getD 0) = true := by rw [hLL, ← hmc, hci]; exact dT h2
    refine Aj fun ds => Ao (Ag 2) <| A5 rfl <| AS AR B3 rfl (.cons Aa .nil) rfl rfl (by decide) (by simp [Value.oneCell']) fun b33 hb33 nb33 => A5 rfl <| Bd AR GR Aa hox Aa (Bv (s := 1) 0 rfl rfl (by simp [Value.oneCell'])) (by omega) (by omega) (.s <| .z) .more fun v34 R35 ho36 => ?_
    have ho86 : Own 3 1 v34 (mustTo p b leaf i ++ [i]).length ((mustTo p b leaf i ++ [i]).flatMap natE) R35 := Own.snoc ho36 rfl rfl
    refine Aw (Ag 1) <| AD (Ag 2) <| Ah Aa (dT (by omega)) <| Aj fun ds => Ao (Ag 2) <| A5 rfl <| AS AR B3 rfl (.cons Aa .nil) rfl rfl (by decide) (by simp [Value.oneCell']) fun b37 hb37 nb37 => A5 rfl <| Bd AR GR Aa hoy Aa (Bv (s := 1) 0 rfl rfl (by simp [Value.oneCell'])) (by omega) (by omega) (.s <| .s <| .k <| .z) .last fun v38 R39 ho40 => ?_
    have ho92 : Own 3 1 v38 (mayTo p b leaf i ++ [i]).length ((mayTo p b leaf i ++ [i]).flatMap natE) R39 := Own.snoc ho40 rfl rfl
    refine Ao (Ag 1) <| Al <| A4 <| Ab <| Bk (fun _ _ h => h.drop (kD <| kD <| .refl _)) <| Aj fun ds => Ad rfl (AJ Aa Aa rfl (by omega) (by omega)) <| Ao (Ag 1) <| Al ?_
    refine Ab ⟨_, m1 - 1, Off.eq (Bx rfl <| Ci rfl <| A3), by omega, ?_⟩
    exact ⟨i + 1, by omega, Ba, _, _, _, _, Ba, Ba, by rw [(show mustTo p b leaf (i + 1) = mustTo p b leaf i ++ [i] from DW hq1)]; exact ho86, by rw [(show mayTo p b leaf (i + 1) = mayTo p b leaf i ++ [i] from DW hq2)]; exact ho92, rfl⟩
   have hq2 : decide (0 < (manyL p leaf b.leaves.toNat (agreeL p b))[i]?.getD 0) = false := by rw [hLL, ← hmc, hci]; exact dF h2
   refine Aj fun ds => Ao (Ag 2) <| A5 rfl <| AS AR B3 rfl (.cons Aa .nil) rfl rfl (by decide) (by simp [Value.oneCell']) fun b41 hb41 nb41 => A5 rfl <| Bd AR GR Aa hox Aa (Bv (s := 1) 0 rfl rfl (by simp [Value.oneCell'])) (by omega) (by omega) (.s <| .z) .more fun v42 R43 ho44 => ?_
   have ho86 : Own 3 1 v42 (mustTo p b leaf i ++ [i]).length ((mustTo p b leaf i ++ [i]).flatMap natE) R43 := Own.snoc ho44 rfl rfl
   refine Aw (Ag 1) <| AD (Ag 2) <| Ae Aa (dF (by omega)) <| Ak <| A4 <| Ab <| Bk (fun _ _ h => h.drop (kD <| .refl _)) <| Aj fun ds => Ad rfl (AJ Aa Aa rfl (by omega) (by omega)) <| Ao (Ag 1) <| Al ?_
   refine Ab ⟨_, m1 - 1, Off.eq (Bx rfl <| BF rfl <| BQ rfl <| A3), by omega, ?_⟩
   exact ⟨i + 1, by omega, Ba, _, _, _, _, Ba, Ba, by rw [(show mustTo p b leaf (i + 1) = mustTo p b leaf i ++ [i] from DW hq1)]; exact ho86, by rw [(show mayTo p b leaf (i + 1) = mayTo p b leaf i from DX hq2)]; exact hoy, rfl⟩
  have hq1 : decide ((manyL p leaf b.leaves.toNat (agreeL p b))[i]?.getD 0 = (agreeL p b).length) = false := by rw [hLL, ← hmc, hci]; exact dF h1
  refine Ak <| Ab <| Ac <| Aq <| Ax (Ag 1) fun ds => Ad rfl (A1 (k := i) AR Aa hcs.plain Aa rfl hiL) <| Ad rfl (Ap AM Aa (hcs.cell1 hiL rfl)) <| Aw (Ag 2) <| Ac <| Ax (Ag 2) fun ds => Ad rfl (AA C3 Aa hag.plain) <| Aw (Ag 1) <| Ae Aa (dF (by omega)) ?_
  by_cases h2 : 0 < mc[i]
  ·have hq2 : decide (0 < (manyL p leaf b.leaves.toNat (agreeL p b))[i]?.getD 0) = true := by rw [hLL, ← hmc, hci]; exact dT h2
   refine Ak <| Ab <| AD (Ag 2) <| Ah Aa (dT (by omega)) <| Aj fun ds => Ao (Ag 2) <| A5 rfl <| AS AR B3 rfl (.cons Aa .nil) rfl rfl (by decide) (by simp [Value.oneCell']) fun b45 hb45 nb45 => A5 rfl <| Bd AR GR Aa hoy Aa (Bv (s := 1) 0 rfl rfl (by simp [Value.oneCell'])) (by omega) (by omega) (.s <| .k <| .z) .last fun v46 R47 ho48 => ?_
   have ho92 : Own 3 1 v46 (mayTo p b leaf i ++ [i]).length ((mayTo p b leaf i ++ [i]).flatMap natE) R47 := Own.snoc ho48 rfl rfl
   refine Ao (Ag 1) <| Al <| A4 <| Ab <| Bk (fun _ _ h => h.drop (kD <| .refl _)) <| Aj fun ds => Ad rfl (AJ Aa Aa rfl (by omega) (by omega)) <| Ao (Ag 1) <| Al ?_
   refine Ab ⟨_, m1 - 1, Off.eq (Bx rfl <| BF rfl <| BQ rfl <| A3), by omega, ?_⟩
   exact ⟨i + 1, by omega, Ba, _, _, _, _, Ba, Ba, by rw [(show mustTo p b leaf (i + 1) = mustTo p b leaf i from DX hq1)]; exact hox, by rw [(show mayTo p b leaf (i + 1) = mayTo p b leaf i ++ [i] from DW hq2)]; exact ho92, rfl⟩
  have hq2 : decide (0 < (manyL p leaf b.leaves.toNat (agreeL p b))[i]?.getD 0) = false := by rw [hLL, ← hmc, hci]; exact dF h2
  refine Ak <| Ab <| AD (Ag 2) <| Ae Aa (dF (by omega)) <| Ak <| A4 <| Ab <| Aj fun ds => Ad rfl (AJ Aa Aa rfl (by omega) (by omega)) <| Ao (Ag 1) <| Al ?_
  refine Ab ⟨_, m1 - 1, Off.eq (Ci rfl <| BI rfl <| BF rfl <| A3), by omega, ?_⟩
  exact ⟨i + 1, by omega, Ba, _, _, _, _, Ba, Ba, by rw [(show mustTo p b leaf (i + 1) = mustTo p b leaf i from DX hq1)]; exact hox, by rw [(show mayTo p b leaf (i + 1) = mayTo p b leaf i from DX hq2)]; exact hoy, rfl⟩
 refine AD (Ag 1) <| Ac <| Ae Aa (by first | rfl | exact dF (by omega)) ?_
 obtain rfl : i = L := by omega
 have hl6 : (mustTo p b leaf i).length ≤ i := CX _ _
 have hl7 : (mayTo p b leaf i).length ≤ i := CX _ _
 refine AG ?_
 refine A2 <| A2 <| A8 <| Ab <| AD (Ag 5) <| Bo (σ := ⟨_, _⟩) (by rfl) hox (.z) .more fun F49 hF50 hz51 => ?_
 have hr6 := hox.sl (fun _ => rfl) hz51 (by omega)
 refine Bo (σ := ⟨_, _⟩) (by rfl) hoy (.z) .last fun F52 hF53 hz54 => ?_
 replace hr6 := hr6.mono hF53
 have hr7 := hoy.sl (fun _ => rfl) hz54 (by omega)
 refine Au <| Am rfl Bi ?_
 exact ⟨_, _, by rw [if_neg hne]; rfl, fun _ => by rw [hLL]; exact ⟨hr6, hr7⟩⟩
end
section
open Go.RowKit
@[reducible] def Ln.enc (l : Ln) : List Value := [.int .i64 l.col, .int .i64 l.row, .int .i64 l.x, .int .i64 l.y]
theorem Ln.enc_one {b : Ln} : ∀ u ∈ b.enc, u.oneCell' = true := by simp [Ln.enc, Value.oneCell']
@[reducible] def hE {α : Type} (x : Value × α) : List Value := [x.1]
def PileR (F : Heap) (v : Value) (l : List Ln) : Prop := Sl F v 4 Ln.enc l
def RowsR (F : Heap) (qs : List (Value × List Ln)) : Prop := ∀ x ∈ qs, PileR F x.1 x.2
def RowR (F : Heap) (v : Value) (l : List (List Ln)) : Prop := ∃ qs : List (Value × List Ln), Sl F v 1 hE qs ∧ RowsR F qs ∧ qs.map (·.2) = l
def AllR (F : Heap) (qs : List (Value × List (List Ln))) : Prop := ∀ x ∈ qs, RowR F x.1 x.2
def CubeR (F : Heap) (v : Value) (p : List (List (List Ln))) : Prop := ∃ qs : List (Value × List (List Ln)), Sl F v 1 hE qs ∧ AllR F qs ∧ qs.map (·.2) = p
section
variable {F F' : Heap}
theorem RowsR.mono {qs : List (Value × List Ln)} (h : RowsR F qs) (hF : F.le F') : RowsR F' qs := fun x hx => (h x hx).mono hF
theorem RowR.mono {v : Value} {l : List (List Ln)} (h : RowR F v l) (hF : F.le F') : RowR F' v l := by
 obtain ⟨qs, a, b, c⟩ := h; exact ⟨qs, a.mono hF, b.mono hF, c⟩
theorem AllR.mono {qs : List (Value × List (List Ln))} (h : AllR F qs) (hF : F.le F') : AllR F' qs := fun x hx => (h x hx).mono hF
theorem CubeR.mono {v : Value} {p : List (List (List Ln))} (h : CubeR F v p) (hF : F.le F') : CubeR F' v p := by
 obtain ⟨qs, a, b, c⟩ := h; exact ⟨qs, a.mono hF, b.mono hF, c⟩
theorem RowsR.nil : RowsR F [] := fun _ h => nomatch h
theorem AllR.nil : AllR F [] := fun _ h => nomatch h
theorem RowsR.snoc {qs : List (Value × List Ln)} (h : RowsR F qs) {v : Value} {l : List Ln} (hl : PileR F v l) : RowsR F (qs ++ [(v, l)]) := fun x hx => by
 rcases List.mem_append.1 hx with h1 | h1
 · exact h x h1
 obtain rfl := List.mem_singleton.1 h1; exact hl
theorem AllR.snoc {qs : List (Value × List (List Ln))} (h : AllR F qs) {v : Value} {l : List (List Ln)} (hl : RowR F v l) : AllR F (qs ++ [(v, l)]) := fun x hx => by
 rcases List.mem_append.1 hx with h1 | h1
 · exact h x h1
 obtain rfl := List.mem_singleton.1 h1; exact hl
theorem Ub {p : List (List (List Ln))} {r c : Nat} (hr : r < p.length) (hc : c < p[r].length) : pAt p r c = p[r][c] := by
 unfold pAt; rw [List.getElem?_eq_getElem hr]; simp [hc]
theorem GN {qs : List (Value × List (List Ln))} {p : List (List (List Ln))} (ha : AllR F qs) (hp : qs.map (·.2) = p) {r : Nat} (hr : r < qs.length) : ∃ ps : List (Value × List Ln), Sl F qs[r].1 1 hE ps ∧ RowsR F ps ∧ (∀ c (hc : c < ps.length), ps[c].2 = pAt p r c) ∧ ps.length = (p[r]?.getD []).length := by
 obtain ⟨ps, h1, h2, h3⟩ := ha _ (List.getElem_mem hr)
 have hrp : r < p.length := by rw [← hp, List.length_map]; exact hr
 have e : p[r] = qs[r].2 := by simp only [← hp, List.getElem_map]
 have e2 : ps.length = p[r].length := by rw [e, ← h3, List.length_map]
 refine ⟨ps, h1, h2, fun c hc => ?_, by rw [List.getElem?_eq_getElem hrp]; exact e2⟩
 rw [Ub hrp (by omega)]
 simp only [e, ← h3, List.getElem_map]
end
theorem Dj {l : List Ln} {c : UInt8} : (turnL l c).length = l.length := by simp [turnL]
def flipTo (l : List Ln) (c : UInt8) (k : Nat) : List Ln := (turnL l c).take k
theorem Ls {l : List Ln} {c : UInt8} {k : Nat} (h : k ≤ l.length) : (flipTo l c k).length = k := by unfold flipTo; rw [List.length_take, Dj]; omega
theorem JU {l : List Ln} {c : UInt8} {k : Nat} (h : k < l.length) : flipTo l c (k + 1) = flipTo l c k ++ [l[l.length - 1 - k].turn c] := by
 unfold flipTo
 rw [List.take_succ_eq_append_getElem (by rw [Dj]; exact h)]
 congr 2
 simp [turnL, List.getElem_reverse]
theorem Q4 {l : List Ln} {c : UInt8} : flipTo l c l.length = turnL l c := by unfold flipTo; rw [← Dj (c := c), List.take_length]
end
section
set_option maxRecDepth 100000
open Go.RowKit
theorem Jg : ZeroT Tryz.prog 175 (.agg #[.int .i64 0, .int .i64 0, .int .i64 0, .int .i64 0]) := Bw (by kernel_rfl)
theorem Jd : AggT Tryz.prog 175 4 := C2 (by kernel_rfl)
instance : AggI Tryz.prog 175 4 := ⟨Jd⟩
theorem Jz : ElemT Tryz.prog 175 4 32 (.agg #[.int .i64 0, .int .i64 0, .int .i64 0, .int .i64 0]) := Dx (by kernel_rfl) rfl (by decide)
theorem Lw : FieldT Tryz.prog 175 2 2 := AU (by kernel_rfl)
instance : FieldI Tryz.prog 175 2 2 := ⟨Lw⟩
theorem Lv : FieldT Tryz.prog 175 3 3 := AU (by kernel_rfl)
instance : FieldI Tryz.prog 175 3 3 := ⟨Lv⟩
theorem Ce : SliceT Tryz.prog 172 175 4 := BO (by kernel_rfl)
instance : SliceI Tryz.prog 172 := ⟨_, _, Ce⟩
theorem TD : SizeT Tryz.prog 175 4 := B1 (by kernel_rfl)
theorem Rc {B : Base} {e : Env} {σ : St} {d : Option Nat} {ty : TypeId} {pos : String} {af : Array Edge} {gd : Option (Nat × Bool)} {x y : Operand} {u : TypeId} {a b : Mk} (hx : ev e x = .agg a.enc.toArray) (hy : ev e y = .agg b.enc.toArray) :
   OpR Tryz.prog B ⟨d, .binOp .neq 49 x y u, ty, pos, af, gd⟩ e σ (.bool (decide (a ≠ b))) := by
 have h := TR (P := Tryz.prog) (B := B) (σ := σ) (d := d) (u := u) (ty := ty) (pos := pos) (af := af) (gd := gd) Tryz.underlying49 (show Tryz.prog.stoodInHeld 49 = false by kernel_rfl) (show Tryz.prog.eqGuardType Tryz.prog.depth 49 = false by kernel_rfl) (.int (by decide) Tryz.underlying3 (AM) rfl rfl (.int (by decide) Tryz.underlying3 (AM) rfl rfl (.int (by decide) Tryz.underlying3 (AM) rfl rfl (.bool (by decide) Tryz.underlying4 (GX) rfl rfl (.nil))))) hx hy
 refine cast (congrArg _ (congrArg Value.bool ?_)) h
 rw [Bool.eq_iff_iff, decide_eq_true_iff]
 cases a; cases b
 simp [Mk.mk.injEq] <;> grind
theorem TK {F : Heap} {v u : Value} {xs ys : List Lf} (hx : Sl F v 5 Lf.enc xs) (hy : Sl F u 5 Lf.enc ys) : Ok Tryz.prog 31 [v, u].toArray F fun r _ => r = .bool (decide (xs = ys)) := by
 refine Ok.intro Tryz.func31 rfl Tryz.ntmps31 rfl fun w0 => ?_
 have hlen := hx.plain.lt
 have hlen2 := hy.plain.lt
 by_cases hll : xs.length = ys.length
 ·refine AD (Ag 1) <| Ac <| Ax (Ag 1) fun ds => Ad rfl (AA Bz Aa hx.plain) <| Ao (Ag 1) <| Ad rfl (AA Bz Aa hy.plain) <| Aw (Ag 1) <| Ae Aa (dF (fun h => h (by omega))) <| Ak <| Ab <| Ac <| AD (Ag 1) <| Aq ?_
  refine AH [4, 5, 11, 12, 13, 14, 15, 16, 17, 18, 19, 20, 21, 22, 23, 24, 25] (fun m e σ => ∃ k : Nat, m + k = xs.length ∧ Fct e 5 (.int .i64 (k : Int)) ∧ σ = ⟨F, []⟩ ∧ xs.take k = ys.take k) (xs.length) ?_ ?_
  · exact ⟨0, by omega, Ba, rfl, rfl⟩
  rintro m e _ ⟨k, hm, hs5, rfl, htk⟩
  by_cases hlt : k < xs.length
  ·have hlt2 : k < ys.length := by omega
   refine Ac <| Ax (Ag 2) fun ds => Ad rfl (AA Bz Aa hx.plain) <| Aw (Ag 1) <| Ah Aa (by first | rfl | exact dT (by omega)) ?_
   by_cases hne : xs[k] ≠ ys[k]
   ·refine Ak <| Ab <| Ac <| Aq <| Ac <| B9 (.inl rfl) (fun _ _ h => h) (by kernel_rfl) (by kernel_rfl) fun ds => Bu (Ag 2) <| Bh rfl (A1 (k := k) Bz Aa hx.plain Aa rfl hlt) <| Bh rfl (A6 (vs := (Lf.enc xs[k])) CP Aa rfl rfl (hx.whole hlt)) <| Bu (Ag 2) <| Bh rfl (A1 (k := k) Bz Aa hy.plain Aa rfl hlt2) <| Bh rfl (A6 (vs := (Lf.enc ys[k])) CP Aa rfl rfl (hy.whole hlt2)) <| Bh rfl (Nj Aa Aa) <| BS <| Ab <| Ah Aa (dT hne) <| AD (Ag 1) <| Au ?_
    refine A7 (Ay (Ay (A7 (Ay ?_))))
    refine Am rfl Bi ?_
    show _ = _
    rw [dF (Ro hlt hlt2 hne)]; rfl
   refine Ak <| Ab <| Ac <| Aq <| Ac <| B9 (.inl rfl) (fun _ _ h => h) (by kernel_rfl) (by kernel_rfl) fun ds => Bu (Ag 2) <| Bh rfl (A1 (k := k) Bz Aa hx.plain Aa rfl hlt) <| Bh rfl (A6 (vs := (Lf.enc xs[k])) CP Aa rfl rfl (hx.whole hlt)) <| Bu (Ag 2) <| Bh rfl (A1 (k := k) Bz Aa hy.plain Aa rfl hlt2) <| Bh rfl (A6 (vs := (Lf.enc ys[k])) CP Aa rfl rfl (hy.whole hlt2)) <| Bh rfl (Nj Aa Aa) <| BS <| Ab <| Ae Aa (dF hne) <| Ak <| A4 <| Ab <| Aj fun ds => Ao (Ag 1) <| Ad rfl (AJ Aa Aa rfl (by omega) (by omega)) <| Ao (Ag 1) <| Al ?_
   refine Ab ⟨_, m - 1, Off.eq (Bx rfl <| A3), by omega, ?_⟩
   exact ⟨k + 1, by omega, Ba, rfl, DF hlt hlt2 htk (Classical.not_not.1 hne)⟩
  refine Ac <| Ax (Ag 2) fun ds => Ad rfl (AA Bz Aa hx.plain) <| Aw (Ag 1) <| Ae Aa (by first | rfl | exact dF (by omega)) ?_
  obtain rfl : k = xs.length := by omega
  refine AG ?_
  refine A2 <| A2 <| A8 <| Ab <| AD (Ag 1) <| Au <| Am rfl Bi ?_
  show _ = _
  rw [dT (FK hll htk)]; rfl
 refine AD (Ag 1) <| Ac <| Ax (Ag 1) fun ds => Ad rfl (AA Bz Aa hx.plain) <| Ao (Ag 1) <| Ad rfl (AA Bz Aa hy.plain) <| Aw (Ag 1) <| Ah Aa (dT (by omega)) <| AD (Ag 1) <| Au <| Ay <| Am rfl Bi ?_
 show _ = _
 rw [dF (fun h => hll (by rw [h]))]; rfl
theorem Tt {F : Heap} {v u : Value} {xs ys : List Mk} (hx : Sl F v 4 Mk.enc xs) (hy : Sl F u 4 Mk.enc ys) : Ok Tryz.prog 33 [v, u].toArray F fun r _ => r = .bool (decide (xs = ys)) := by
 refine Ok.intro Tryz.func33 rfl Tryz.ntmps33 rfl fun w0 => ?_
 have hlen := hx.plain.lt
 have hlen2 := hy.plain.lt
 by_cases hll : xs.length = ys.length
 ·refine AD (Ag 1) <| Ac <| Ax (Ag 1) fun ds => Ad rfl (AA C3 Aa hx.plain) <| Ao (Ag 1) <| Ad rfl (AA C3 Aa hy.plain) <| Aw (Ag 1) <| Ae Aa (dF (fun h => h (by omega))) <| Ak <| Ab <| Ac <| AD (Ag 1) <| Aq ?_
  refine AH [4, 5, 11, 12, 13, 14, 15, 16, 17, 18, 19, 20, 21, 22, 23, 24, 25] (fun m e σ => ∃ k : Nat, m + k = xs.length ∧ Fct e 5 (.int .i64 (k : Int)) ∧ σ = ⟨F, []⟩ ∧ xs.take k = ys.take k) (xs.length) ?_ ?_
  · exact ⟨0, by omega, Ba, rfl, rfl⟩
  rintro m e _ ⟨k, hm, hs5, rfl, htk⟩
  by_cases hlt : k < xs.length
  ·have hlt2 : k < ys.length := by omega
   refine Ac <| Ax (Ag 2) fun ds => Ad rfl (AA C3 Aa hx.plain) <| Aw (Ag 1) <| Ah Aa (by first | rfl | exact dT (by omega)) ?_
   by_cases hne : xs[k] ≠ ys[k]
   ·refine Ak <| Ab <| Ac <| Aq <| Ac <| B9 (.inl rfl) (fun _ _ h => h) (by kernel_rfl) (by kernel_rfl) fun ds => Bu (Ag 2) <| Bh rfl (A1 (k := k) C3 Aa hx.plain Aa rfl hlt) <| Bh rfl (A6 (vs := (Mk.enc xs[k])) BD Aa rfl rfl (hx.whole hlt)) <| Bu (Ag 2) <| Bh rfl (A1 (k := k) C3 Aa hy.plain Aa rfl hlt2) <| Bh rfl (A6 (vs := (Mk.enc ys[k])) BD Aa rfl rfl (hy.whole hlt2)) <| Bh rfl (Rc Aa Aa) <| BS <| Ab <| Ah Aa (dT hne) <| AD (Ag 1) <| Au ?_
    refine A7 (Ay (Ay (A7 (Ay ?_))))
    refine Am rfl Bi ?_
    show _ = _
    rw [dF (Ro hlt hlt2 hne)]; rfl
   refine Ak <| Ab <| Ac <| Aq <| Ac <| B9 (.inl rfl) (fun _ _ h => h) (by kernel_rfl) (by kernel_rfl) fun ds => Bu (Ag 2) <| Bh rfl (A1 (k := k) C3 Aa hx.plain Aa rfl hlt) <| Bh rfl (A6 (vs := (Mk.enc xs[k])) BD Aa rfl rfl (hx.whole hlt)) <| Bu (Ag 2) <| Bh rfl (A1 (k := k) C3 Aa hy.plain Aa rfl hlt2) <| Bh rfl (A6 (vs := (Mk.enc ys[k])) BD Aa rfl rfl (hy.whole hlt2)) <| Bh rfl (Rc Aa Aa) <| BS <| Ab <| Ae Aa (dF hne) <| Ak <| A4 <| Ab <| Aj fun ds => Ao (Ag 1) <| Ad rfl (AJ Aa Aa rfl (by omega) (by omega)) <| Ao (Ag 1) <| Al ?_
   refine Ab ⟨_, m - 1, Off.eq (Bx rfl <| A3), by omega, ?_⟩
   exact ⟨k + 1, by omega, Ba, rfl, DF hlt hlt2 htk (Classical.not_not.1 hne)⟩
  refine Ac <| Ax (Ag 2) fun ds => Ad rfl (AA C3 Aa hx.plain) <| Aw (Ag 1) <| Ae Aa (by first | rfl | exact dF (by omega)) ?_
  obtain rfl : k = xs.length := by omega
  refine AG ?_
  refine A2 <| A2 <| A8 <| Ab <| AD (Ag 1) <| Au <| Am rfl Bi ?_
  show _ = _
  rw [dT (FK hll htk)]; rfl
 refine AD (Ag 1) <| Ac <| Ax (Ag 1) fun ds => Ad rfl (AA C3 Aa hx.plain) <| Ao (Ag 1) <| Ad rfl (AA C3 Aa hy.plain) <| Aw (Ag 1) <| Ah Aa (dT (by omega)) <| AD (Ag 1) <| Au <| Ay <| Am rfl Bi ?_
 show _ = _
 rw [dF (fun h => hll (by rw [h]))]; rfl
theorem u8_x {c : UInt8} (h : ((c.toNat : Nat) : Int) = 120) : c = 120 := by
 apply UInt8.toNat_inj.1
 have : c.toNat = 120 := by omega
 rw [this]; rfl
theorem KE {F : Heap} {v : Value} {l : List Ln} (hl : PileR F v l) (h16 : l.length ≤ 16) (hb : ∀ q ∈ l, q.x ≤ 8 ∧ q.y ≤ 8) {c : UInt8} : Ok Tryz.prog 136 [v, .int .u8 (c.toNat : Int)].toArray F fun u F' => PileR F' u (turnL l c) := by
 replace hl : Sl F v 4 Ln.enc l := hl
 refine Ok.intro Tryz.func136 rfl Tryz.ntmps136 rfl fun w0 => AD (Ag 1) <| AD (Ag 1) <| Ac <| Ax (Ag 1) fun ds => Ad rfl (AA Ce Aa hl.plain) <| Ad rfl (Br Aa Aa rfl (by omega) (by omega)) <| Aw (Ag 1) <| Aq ?_
 refine AH [5, 6, 7, 11, 12, 13, 14, 15, 16, 17, 18, 19, 20, 21, 22, 23, 24, 25, 26, 27, 28, 29, 30, 31, 32] (fun m e σ => ∃ k : Nat, m + k = l.length ∧ Fct e 6 (.int .i64 ((l.length : Int) - 1 - (k : Int))) ∧ ∃ (v : Value) (R : List (Nat × Obj)), Fct e 5 v ∧ Own 175 4 v (flipTo l c k).length ((flipTo l c k).flatMap Ln.enc) R ∧ σ = ⟨F, R⟩) (l.length) ?_ ?_
 · exact ⟨0, by omega, BC (by simp), _, _, Ba, BV, rfl⟩
 rintro m e _ ⟨k, hm, hs6, v5, R5, hs5, ho, rfl⟩
 by_cases hlt : k < l.length
 ·have hjl : l.length - 1 - k < l.length := by omega
  have htl := Ls (c := c) (show k ≤ l.length by omega)
  have hbx := hb _ (List.getElem_mem hjl)
  refine Ac <| AD (Ag 2) <| Ah Aa (dT (by omega)) ?_
  by_cases hc : c = 120
  ·refine Ak <| Ab <| Ac <| Aq <| Ax (Ag 2) fun ds => Ad rfl (A1 (k := l.length - 1 - k) Ce Aa hl.plain Aa (by omega) hjl) <| Ad rfl (A6 (vs := (Ln.enc l[l.length - 1 - k])) Jd Aa rfl rfl (hl.whole hjl)) <| A5 rfl <| AF Jg rfl fun b2 hb2 nb2 => AZ <| AC TD Aa Aa (i := 0) rfl rfl rfl rfl Ln.enc_one (.here) <| Al <| Ab <| Ac <| AD (Ag 2) <| Ah Aa (by rw [hc]; rfl) <| Aj fun ds => Ao (Ag 2) <| Ad rfl (AJ Aa Aa rfl (by omega) (by omega)) <| Ao (Ag 1) <| AZ <| AW Dr Aa Aa (i := 0) rfl (.next <| .next <| .here) rfl (.here) <| Al <| Ab <| Aj fun ds => Ao (Ag 1) <| Ad rfl (A6 (vs := (({ l[l.length - 1 - k] with x := l[l.length - 1 - k].x + 1 } : Ln).enc)) Jd Aa rfl rfl (Bj 0 rfl)) <| A5 rfl <| B0 (offs := [(0, 4)]) (zl := [.int .i64 0, .int .i64 0, .int .i64 0, .int .i64 0]) Ce Jg rfl (.cons Aa rfl .nil) (by intro i p h; rcases i with _ | i <;> simp at h <;> subst h <;> rfl) (.cons rfl rfl (Nat.le_of_ble_eq_true rfl) (.cons (.here) (.cons (.next <| .here) (.cons (.next <| .next <| .here) (.cons (.next <| .next <| .next <| .here) .nil)))) .nil) (by decide) (by decide) fun b3 hb3 nb3 => A5 rfl <| Bd Ce Jz Aa ho Aa (Bv (s := 4) 0 rfl rfl (by simp [Value.oneCell'])) (by omega) (by omega) (.s <| .s <| .z) .last fun v4 R5 ho6 => ?_
   have ho32 : Own 175 4 v4 (flipTo l c k ++ [({ l[l.length - 1 - k] with x := l[l.length - 1 - k].x + 1 } : Ln)]).length ((flipTo l c k ++ [({ l[l.length - 1 - k] with x := l[l.length - 1 - k].x + 1 } : Ln)]).flatMap Ln.enc) R5 := Own.snoc ho6 rfl rfl
   refine Ao (Ag 1) <| Al <| A4 <| Ab <| Bk (fun _ _ h => h.drop (kD <| kD <| .refl _)) <| Aj fun ds => Ao (Ag 1) <| Ad rfl (Br Aa Aa (show _ = (l.length : Int) - 1 - ((k + 1 : Nat) : Int) by push_cast; omega) (by omega) (by omega)) <| Ao (Ag 1) <| Al ?_
   refine Ab ⟨_, m - 1, Off.eq (Bx rfl <| BI rfl <| BQ rfl <| A3), by omega, ?_⟩
   refine ⟨k + 1, by omega, Ba, _, _, Ba, ?_, rfl⟩
   rw [JU hlt]
   unfold Ln.turn
   rw [if_pos hc]
   exact ho32
  refine Ak <| Ab <| Ac <| Aq <| Ax (Ag 2) fun ds => Ad rfl (A1 (k := l.length - 1 - k) Ce Aa hl.plain Aa (by omega) hjl) <| Ad rfl (A6 (vs := (Ln.enc l[l.length - 1 - k])) Jd Aa rfl rfl (hl.whole hjl)) <| A5 rfl <| AF Jg rfl fun b7 hb7 nb7 => AZ <| AC TD Aa Aa (i := 0) rfl rfl rfl rfl Ln.enc_one (.here) <| Al <| Ab <| Ac <| AD (Ag 2) <| Ae Aa (dF (fun h => hc (u8_x h))) <| Aj fun ds => Ao (Ag 2) <| Ad rfl (AJ Aa Aa rfl (by omega) (by omega)) <| Ao (Ag 1) <| AZ <| AW Dr Aa Aa (i := 0) rfl (.next <| .next <| .next <| .here) rfl (.here) <| Al <| Ab <| Aj fun ds => Ao (Ag 1) <| Ad rfl (A6 (vs := (({ l[l.length - 1 - k] with y := l[l.length - 1 - k].y + 1 } : Ln).enc)) Jd Aa rfl rfl (Bj 0 rfl)) <| A5 rfl <| B0 (offs := [(0, 4)]) (zl := [.int .i64 0, .int .i64 0, .int .i64 0, .int .i64 0]) Ce Jg rfl (.cons Aa rfl .nil) (by intro i p h; rcases i with _ | i <;> simp at h <;> subst h <;> rfl) (.cons rfl rfl (Nat.le_of_ble_eq_true rfl) (.cons (.here) (.cons (.next <| .here) (.cons (.next <| .next <| .here) (.cons (.next <| .next <| .next <| .here) .nil)))) .nil) (by decide) (by decide) fun b8 hb8 nb8 => A5 rfl <| Bd Ce Jz Aa ho Aa (Bv (s := 4) 0 rfl rfl (by simp [Value.oneCell'])) (by omega) (by omega) (.s <| .s <| .z) .last fun v9 R10 ho11 => ?_
  have ho32 : Own 175 4 v9 (flipTo l c k ++ [({ l[l.length - 1 - k] with y := l[l.length - 1 - k].y + 1 } : Ln)]).length ((flipTo l c k ++ [({ l[l.length - 1 - k] with y := l[l.length - 1 - k].y + 1 } : Ln)]).flatMap Ln.enc) R10 := Own.snoc ho11 rfl rfl
  refine Ao (Ag 1) <| Al <| A4 <| Ab <| Bk (fun _ _ h => h.drop (kD <| kD <| .refl _)) <| Aj fun ds => Ao (Ag 1) <| Ad rfl (Br Aa Aa (show _ = (l.length : Int) - 1 - ((k + 1 : Nat) : Int) by push_cast; omega) (by omega) (by omega)) <| Ao (Ag 1) <| Al ?_
  refine Ab ⟨_, m - 1, Off.eq (Bx rfl <| BI rfl <| BQ rfl <| A3), by omega, ?_⟩
  refine ⟨k + 1, by omega, Ba, _, _, Ba, ?_, rfl⟩
  rw [JU hlt]
  unfold Ln.turn
  rw [if_neg hc]
  exact ho32
 refine Ac <| AD (Ag 2) <| Ae Aa (dF (by omega)) ?_
 obtain rfl : k = l.length := by omega
 have htl := Ls (c := c) (Nat.le_refl l.length)
 refine AG ?_
 refine A2 <| A2 <| A8 <| Ab <| AD (Ag 2) <| Bo (σ := ⟨_, _⟩) (by rfl) ho (.z) .last fun F12 hF13 hz14 => ?_
 have hre := ho.sl (fun _ => rfl) hz14 (by omega)
 refine Au <| Am rfl Bi ?_
 show PileR _ _ _
 rw [← Q4]; exact hre
end
section
abbrev colP (p : List (List (List Ln))) : Nat := (p[0]?.getD []).length
structure CubeP (p : List (List (List Ln))) : Prop where
 rows : 1 ≤ p.length ∧ p.length ≤ 16
 cols : 1 ≤ colP p ∧ colP p ≤ 16
 len : ∀ r, r < p.length → (p[r]?.getD []).length = colP p
 pile : ∀ r c, r < p.length → c < colP p → (pAt p r c).length ≤ 16 ∧ ∀ q ∈ pAt p r c, (q.x ≤ 8 ∧ q.y ≤ 8) ∧ q.col ≤ 16 ∧ q.row ≤ 16
def lnB (q : Ln) : Bool := decide (q.x ≤ 8) && decide (q.y ≤ 8) && decide (q.col ≤ 16) && decide (q.row ≤ 16)
def pileB (l : List Ln) : Bool := decide (l.length ≤ 16) && l.all lnB
def cubeB (p : List (List (List Ln))) : Bool :=
 decide (1 ≤ p.length) && decide (p.length ≤ 16) && decide (1 ≤ colP p) && decide (colP p ≤ 16) && p.all fun row => (row.length == colP p) && row.all pileB
theorem Pr {p : List (List (List Ln))} (h : cubeB p = true) : CubeP p := by
 unfold cubeB at h
 simp only [Bool.and_eq_true, decide_eq_true_eq] at h
 obtain ⟨⟨⟨⟨h1, h2⟩, h3⟩, h4⟩, h5⟩ := h
 have h6 : ∀ r (hr : r < p.length), (p[r].length = colP p) ∧ p[r].all pileB = true := fun r hr => by
   have := List.all_eq_true.1 h5 _ (List.getElem_mem hr)
   simpa only [Bool.and_eq_true, beq_iff_eq] using this
 refine ⟨⟨h1, h2⟩, ⟨h3, h4⟩, fun r hr => ?_, fun r c hr hc => ?_⟩
 · rw [List.getElem?_eq_getElem hr]; exact (h6 r hr).1
 obtain ⟨a, b⟩ := h6 r hr
 rw [Ub hr (by omega)]
 have h7 := List.all_eq_true.1 b _ (List.getElem_mem (show c < p[r].length by omega))
 unfold pileB at h7
 rw [Bool.and_eq_true, decide_eq_true_eq] at h7
 refine ⟨h7.1, fun q hq => ?_⟩
 have h8 := List.all_eq_true.1 h7.2 q hq
 unfold lnB at h8
 simp only [Bool.and_eq_true, decide_eq_true_eq] at h8
 omega
def cubesB (k : Nat) : Bool := (words k).all fun w => (List.range (k + 1)).all fun j => cubeB (pilesR w false j) && (decide (k < 2) || cubeB (pilesR w true j))
theorem cubes_1 : cubesB 1 = true := by kernel_rfl
theorem cubes_2 : cubesB 2 = true := by kernel_rfl
theorem cubes_3 : cubesB 3 = true := by kernel_rfl
theorem cubes_4 : cubesB 4 = true := by kernel_rfl
theorem L4 {s : List UInt8} (h : 1 ≤ s.length ∧ s.length ≤ 4) (hc : ∀ c ∈ s, c = 120 ∨ c = 121) {half : Bool} (hh : half = true → 2 ≤ s.length) {j : Nat} (hj : j ≤ s.length) : CubeP (pilesR s half j) := by
 have key : ∀ k, cubesB k = true → s.length = k → CubeP (pilesR s half j) := by
   intro k hk hl
   have h1 := List.all_eq_true.1 hk s (GE hl hc)
   have h2 := List.all_eq_true.1 h1 j (List.mem_range.2 (by omega))
   simp only [Bool.and_eq_true, Bool.or_eq_true, decide_eq_true_eq] at h2
   cases half with
   | false => exact Pr h2.1
   | true => exact Pr (h2.2.resolve_left (by have := hh rfl; omega))
 have : s.length = 1 ∨ s.length = 2 ∨ s.length = 3 ∨ s.length = 4 := by omega
 rcases this with e | e | e | e
 · exact key 1 cubes_1 e
 · exact key 2 cubes_2 e
 · exact key 3 cubes_3 e
 exact key 4 cubes_4 e
theorem Mq {p : List (List (List Ln))} {x : UInt8} {rows cols r k : Nat} : rowL p x rows cols r (k + 1) = rowL p x rows cols r k ++ [pAt p r k ++ turnL (if x = 120 then pAt p r (cols - 1 - k) else pAt p (rows - 1 - r) k) x] := by
 unfold rowL; rw [List.range_succ, List.map_append]; rfl
theorem H5 {p : List (List (List Ln))} {x : UInt8} {rows cols r k : Nat} : (rowL p x rows cols r k).length = k := by simp [rowL]
def foldedTo (p : List (List (List Ln))) (x : UInt8) (k : Nat) : List (List (List Ln)) := (List.range k).map fun r => rowL p x p.length (colP p) r (if x = 120 then colP p / 2 else colP p)
theorem GZ {p : List (List (List Ln))} {x : UInt8} {k : Nat} : foldedTo p x (k + 1) = foldedTo p x k ++ [rowL p x p.length (colP p) k (if x = 120 then colP p / 2 else colP p)] := by
 unfold foldedTo; rw [List.range_succ, List.map_append]; rfl
theorem E0 {p : List (List (List Ln))} {x : UInt8} {k : Nat} : (foldedTo p x k).length = k := by simp [foldedTo]
theorem HI {p : List (List (List Ln))} {x : UInt8} : foldedL p x = foldedTo p x (if x = 121 then p.length / 2 else p.length) := rfl
end
section
set_option maxHeartbeats 2000000
set_option maxRecDepth 100000
open Go.RowKit
theorem PH : ZeroT Tryz.prog 172 (.slice none 0 0) := Bw (by kernel_rfl)
theorem PG : ZeroT Tryz.prog 199 (.slice none 0 0) := Bw (by kernel_rfl)
theorem Vr : Body Tryz.prog 136 := AB (by kernel_rfl)
theorem Q9 : ElemT Tryz.prog 172 1 24 (.slice none 0 0) := Dx (by kernel_rfl) rfl (by decide)
theorem Q8 : ElemT Tryz.prog 199 1 24 (.slice none 0 0) := Dx (by kernel_rfl) rfl (by decide)
theorem FD : OneT Tryz.prog 172 := BA (by kernel_rfl)
instance : OneI Tryz.prog 172 := ⟨FD⟩
theorem Ex : OneT Tryz.prog 199 := BA (by kernel_rfl)
instance : OneI Tryz.prog 199 := ⟨Ex⟩
theorem Dc : SliceT Tryz.prog 198 199 1 := BO (by kernel_rfl)
instance : SliceI Tryz.prog 198 := ⟨_, _, Dc⟩
theorem D1 : SliceT Tryz.prog 199 172 1 := BO (by kernel_rfl)
instance : SliceI Tryz.prog 199 := ⟨_, _, D1⟩
theorem Q2 {F : Heap} {v : Value} {p : List (List (List Ln))} (hcu : CubeR F v p) (hok : CubeP p) {x : UInt8} (hxy : x = 120 ∨ x = 121) : Ok Tryz.prog 113 [v, .int .u8 (x.toNat : Int)].toArray F fun u F' => CubeR F' u (foldedL p x) := by
 obtain ⟨qs0, hq, ha, hp⟩ := hcu
 have hql : qs0.length = p.length := by rw [← hp, List.length_map]
 have hrb := hok.rows
 have hcb := hok.cols
 obtain ⟨ps0, hs0, -, -, hl0⟩ := GN ha hp (r := 0) (by omega)
 have hl0c : ps0.length = colP p := hl0
 refine Ok.intro Tryz.func113 rfl Tryz.ntmps113 rfl fun w0 => ?_
 rcases hxy with hx | hx
 ·refine AD (Ag 1) <| Ac <| B9 (.inl rfl) (fun _ _ h => h) (by kernel_rfl) (by kernel_rfl) fun ds => Bu (Ag 1) <| Bh rfl (AA Dc Aa hq.plain) <| Bu (Ag 1) <| Bh rfl (A1 (k := 0) Dc Aa hq.plain Aa rfl (by omega)) <| Bh rfl (Ap Ex Aa (hq.cell1 (by omega) rfl)) <| Bh rfl (AA D1 Aa hs0.plain) <| Bu (Ag 2) <| BS <| Ab <| AD (Ag 1) <| Ac <| AD (Ag 1) <| Aq ?_
  refine AH [7, 8, 9, 10, 11, 18, 19, 20, 21, 22, 23, 24, 25, 26, 27, 28, 29, 30, 31, 32, 33, 34, 35, 36, 37, 38, 39, 40, 41, 42, 43, 44, 45, 46, 47, 48, 49, 50, 51, 52, 53, 54, 55, 56, 57, 58, 59, 60, 61, 62, 63, 64, 65, 66, 67, 68, 69, 70, 71, 72, 73, 74, 75, 76, 77, 78, 79, 80, 81, 82, 83, 84, 85] (fun m3 e σ => ∃ r : Nat, m3 + r = p.length ∧ Fct e 8 (.int .i64 (r : Int)) ∧ ∃ (G : Heap) (v7 : Value) (qs : List (Value × List (List Ln))) (R7 : List (Nat × Obj)), F.le G ∧ Fct e 7 v7 ∧ Own 199 1 v7 qs.length (qs.flatMap hE) R7 ∧ AllR G qs ∧ qs.map (·.2) = foldedTo p x r ∧ σ = ⟨G, R7⟩) (p.length) ?_ ?_
  · exact ⟨0, by omega, Ba, _, _, [], [], Heap.le_refl _, Ba, BV, AllR.nil, rfl, rfl⟩
  rintro m1 e1 _ ⟨r, hm1, hs8, G, v7, qs, R7, hG, hs7, ho7, hqa, hqm, rfl⟩; replace hq := hq.mono hG; replace ha := ha.mono hG; replace hs0 := hs0.mono hG
  by_cases hr : r < p.length
  ·refine Ac <| AD (Ag 3) <| Ah Aa (dT (by omega)) <| Ak <| Ab <| Ac <| Aq <| Ac <| Ax (Ag 3) fun ds => Ar rfl rfl Aa (.inl (congrArg Value.bool (by rw [hx]; rfl))) rfl <| Ar rfl rfl Aa (.inl (congrArg Value.bool (by rw [hx]; rfl))) rfl <| Ar rfl rfl Aa (.inl (congrArg Value.bool (by rw [hx]; rfl))) rfl <| Ar rfl rfl Aa (.inl (congrArg Value.bool (by rw [hx]; rfl))) rfl <| Ad rfl (A9 Aa (by rw [hx]; rfl) Aa) <| Al <| Ab <| Ae Aa rfl <| Ak <| Ab <| AD (Ag 1) <| Ac <| AD (Ag 1) <| Aq ?_
   refine AH [9, 10, 11, 31, 32, 33, 34, 35, 36, 37, 38, 39, 40, 41, 42, 43, 44, 45, 46, 47, 48, 49, 50, 51, 52, 53, 54, 55, 56, 57, 58, 59, 60, 61, 62, 63, 64, 65, 66, 67, 68, 69, 70, 71, 72, 73, 74, 75, 76, 77, 78, 79, 80, 81] (fun m3 e σ => ∃ k : Nat, m3 + k = (colP p / 2) ∧ Fct e 10 (.int .i64 (k : Int)) ∧ ∃ (G2 : Heap) (v9 : Value) (ps : List (Value × List Ln)) (R9 : List (Nat × Obj)), F.le G2 ∧ G.le G2 ∧ Fct e 9 v9 ∧ Own 172 1 v9 ps.length (ps.flatMap hE) R9 ∧ RowsR G2 ps ∧ ps.map (·.2) = rowL p x p.length (colP p) r k ∧ σ = ⟨G2, R7 ++ R9⟩) ((colP p / 2)) ?_ ?_
   · exact ⟨0, by omega, Ba, _, _, [], [], hG, Heap.le_refl _, Ba, BV, RowsR.nil, rfl, (by rw [List.append_nil])⟩
   rintro m2 e2 _ ⟨k, hm2, ht10, G2, v9, ps, R9, hG2, hGG, ht9, ho9, hpr, hpm, rfl⟩; replace hq := hq.mono hGG; replace ha := ha.mono hGG; replace hs0 := hs0.mono hGG; replace hqa := hqa.mono hGG
   by_cases hk : k < (colP p / 2)
   ·obtain ⟨ps1, hs1, hr1, he1, hl1⟩ := GN ha hp (r := p.length - 1 - r) (by omega)
    obtain ⟨ps2, hs2, hr2, he2, hl2⟩ := GN ha hp (r := r) (by omega)
    rw [hok.len _ (by omega)] at hl1 hl2
    have hp2 : PileR G2 ps2[k].1 ps2[k].2 := hr2 _ (List.getElem_mem (by omega))
    have hpo : PileR G2 ps2[colP p - 1 - k].1 ps2[colP p - 1 - k].2 := hr2 _ (List.getElem_mem (by omega))
    have hb2 := hok.pile r k (by omega) (by omega)
    rw [← he2 k (by omega)] at hb2
    have hbo := hok.pile r (colP p - 1 - k) (by omega) (by omega)
    rw [← he2 (colP p - 1 - k) (by omega)] at hbo
    have hpl9 : ps.length = k := by have h9 := congrArg List.length hpm; rw [List.length_map, H5] at h9; exact h9
    refine Ac <| AD (Ag 3) <| Ah Aa (dT (by omega)) <| Ak <| Ab <| Ac <| Aq <| Ac <| Ax (Ag 3) fun ds => Ai rfl rfl Aa (by rw [hx]; rfl) <| Ao (Ag 1) <| Ai rfl rfl Aa (by rw [hx]; rfl) <| Ao (Ag 1) <| Ai rfl rfl Aa (by rw [hx]; rfl) <| Ad rfl (CE Aa Aa (by omega) (by omega) (by omega)) <| Ai rfl rfl Aa (by rw [hx]; rfl) <| Ao (Ag 1) <| Ad rfl (At Aa (by rw [hx]; rfl) Aa) <| Al <| Ab <| Ae Aa (dF (by omega)) <| Ak <| Ab <| Ax (Ag 2) fun ds => Ad rfl (Br Aa Aa rfl (by omega) (by omega)) <| Ao (Ag 1) <| Ad rfl (Br Aa Aa rfl (by omega) (by omega)) <| Ad rfl (A1 (k := p.length - 1 - r) Dc Aa hq.plain Aa (by omega) (by omega)) <| Ad rfl (Ap Ex Aa (hq.cell1 (by omega) rfl)) <| Ao (Ag 1) <| Ad rfl (A1 (k := k) D1 Aa hs1.plain Aa rfl (by omega)) <| Ad rfl (Ap FD Aa (hs1.cell1 (by omega) rfl)) <| Aw (Ag 1) <| Ac <| AD (Ag 2) <| Ah Aa (by rw [hx]; rfl) <| Aj fun ds => Ao (Ag 2) <| Ad rfl (A1 (k := r) Dc Aa hq.plain Aa rfl (by omega)) <| Ad rfl (Ap Ex Aa (hq.cell1 (by omega) rfl)) <| Ao (Ag 1) <| Ad rfl (Br Aa Aa rfl (by omega) (by omega)) <| Ao (Ag 1) <| Ad rfl (Br Aa Aa rfl (by omega) (by omega)) <| Ad rfl (A1 (k := colP p - 1 - k) D1 Aa hs2.plain Aa (by omega) (by omega)) <| Ad rfl (Ap FD Aa (hs2.cell1 (by omega) rfl)) ?_
    refine Aw (Ag 1) <| Aj fun ds => Ao (Ag 1) <| A5 rfl <| Hw Ce fun b3 hb3 nb3 => Ao (Ag 2) <| Ad rfl (A1 (k := r) Dc Aa hq.plain Aa rfl (by omega)) <| Ad rfl (Ap Ex Aa (hq.cell1 (by omega) rfl)) <| Ao (Ag 1) <| Ad rfl (A1 (k := k) D1 Aa hs2.plain Aa rfl (by omega)) <| Ad rfl (Ap FD Aa (hs2.cell1 (by omega) rfl)) <| A5 rfl <| Bd Ce Jz Aa (FA rfl) Aa (Sl.src hp2 (fun _ => rfl) (fun _ => Ln.enc_one)) (by omega) (by omega) (.z) .box fun v4 R5 ho6 => ?_
    have ho75 : Own 175 4 v4 ps2[k].2.length (ps2[k].2.flatMap Ln.enc) R5 := by simpa using ho6
    refine Ao (Ag 2) <| A5 rfl <| Bb Vr Aa AO (KE hpo hbo.1 (fun q hq => (hbo.2 q hq).1)) fun v7 F8 hr9 hF10 => ?_
    replace hpr := hpr.mono hF10
    replace hG2 := Heap.le_trans hG2 hF10
    replace hGG := Heap.le_trans hGG hF10
    have htd : Sl F8 _ 4 Ln.enc (turnL ps2[colP p - 1 - k].2 x) := hr9
    refine A5 rfl <| Bd Ce Jz Aa ho75 Aa (Sl.src htd (fun _ => rfl) (fun _ => Ln.enc_one)) (by rw [Dj]; omega) (by rw [Dj]; omega) (.z) .more fun v11 R12 ho13 => ?_
    have ho79 : Own 175 4 v11 (ps2[k].2 ++ turnL ps2[colP p - 1 - k].2 x).length ((ps2[k].2 ++ turnL ps2[colP p - 1 - k].2 x).flatMap Ln.enc) R12 := by rw [List.flatMap_append, List.length_append]; exact ho13
    obtain ⟨v79_, hv79⟩ : ∃ v, v = v11 := ⟨_, rfl⟩
    subst hv79
    refine LS (σ := ⟨_, _⟩) (by rfl) ho79 (.z) .more fun F14 hF15 hz16 => ?_
    replace hpr := hpr.mono hF15
    replace hG2 := Heap.le_trans hG2 hF15
    replace hGG := Heap.le_trans hGG hF15
    have hpz := ho79.sl (fun _ => rfl) hz16 (by rw [List.length_append, Dj]; omega)
    show WL _ _ _ _ _ _ _ ⟨_, R7 ++ R9⟩
    refine A5 rfl <| AS D1 PH rfl (.cons Aa .nil) rfl rfl (by decide) (fun u hu => by obtain rfl := List.mem_singleton.1 hu; exact hpz.plain.one) fun b17 hb17 nb17 => A5 rfl <| Bd D1 Q9 Aa ho9 Aa (Ff (s := 1) (.head _) rfl (fun u hu => by obtain rfl := List.mem_singleton.1 hu; exact hpz.plain.one)) (by omega) (by omega) (.s <| .k <| .z) .last fun v18 R19 ho20 => ?_
    have ho81 : Own 172 1 v18 (ps ++ [(v79_, ps2[k].2 ++ turnL ps2[colP p - 1 - k].2 x)]).length ((ps ++ [(v79_, ps2[k].2 ++ turnL ps2[colP p - 1 - k].2 x)]).flatMap hE) R19 := Own.snoc ho20 rfl rfl
    refine Ao (Ag 1) <| Al <| A4 <| Ab <| Bk (fun _ _ h => h.drop (kD <| .refl _)) <| Aj fun ds => Ao (Ag 1) <| Ad rfl (AJ Aa Aa rfl (by omega) (by omega)) <| Ao (Ag 1) <| Al ?_
    refine Ab ⟨_, m2 - 1, Off.eq (DG rfl <| Bx rfl <| BI rfl <| BF rfl <| BQ rfl <| A3), by omega, ?_⟩
    refine ⟨k + 1, by omega, Ba, _, _, ps ++ [(v79_, _)], _, hG2, hGG, Ba, ho81, hpr.snoc hpz, ?_, rfl⟩
    rw [List.map_append, hpm, Mq]
    simp only [List.map_cons, List.map_nil]
    rw [he2 k (by omega), if_pos hx, he2 (colP p - 1 - k) (by omega)]
   obtain rfl : k = (colP p / 2) := by omega
   have hpl9 : ps.length = (colP p / 2) := by have h9 := congrArg List.length hpm; rw [List.length_map, H5] at h9; exact h9
   refine Ac <| AD (Ag 3) <| Ah Aa (dT (by omega)) <| Ak <| Ab <| Ac <| Aq <| Ac <| Ax (Ag 3) fun ds => Ai rfl rfl Aa (by rw [hx]; rfl) <| Ao (Ag 1) <| Ai rfl rfl Aa (by rw [hx]; rfl) <| Ao (Ag 1) <| Ai rfl rfl Aa (by rw [hx]; rfl) <| Ad rfl (CE Aa Aa (by omega) (by omega) (by omega)) <| Ai rfl rfl Aa (by rw [hx]; rfl) <| Ao (Ag 1) <| Ad rfl (At Aa (by rw [hx]; rfl) Aa) <| Al <| Ab <| Ah Aa (dT (by omega)) <| AG ?_
   refine A2 (MG rfl (A2 (A2 (A8 ?_))))
   refine Ab ?_
   have hql9 : qs.length = r := by have h9 := congrArg List.length hqm; rw [List.length_map, E0] at h9; exact h9
   refine Bo (σ := ⟨_, _⟩) (by rfl) ho9 (.k <| .z) .last fun F21 hF22 hz23 => ?_
   replace hqa := hqa.mono hF22
   replace hpr := hpr.mono hF22
   replace hG2 := Heap.le_trans hG2 hF22
   have hrw := ho9.sl (fun _ => rfl) hz23 (by omega)
   rw [List.append_nil]
   have hRw : RowR F21 v9 (rowL p x p.length (colP p) r (colP p / 2)) := ⟨ps, hrw, hpr, hpm⟩
   refine Aj fun ds => Ao (Ag 2) <| A5 rfl <| AS Dc PG rfl (.cons Aa .nil) rfl rfl (by decide) (fun u hu => by obtain rfl := List.mem_singleton.1 hu; exact hrw.plain.one) fun b24 hb24 nb24 => A5 rfl <| Bd Dc Q8 Aa ho7 Aa (Ff (s := 1) (.head _) rfl (fun u hu => by obtain rfl := List.mem_singleton.1 hu; exact hrw.plain.one)) (by omega) (by omega) (.s <| .z) .last fun v25 R26 ho27 => ?_
   have ho85 : Own 199 1 v25 (qs ++ [(v9, rowL p x p.length (colP p) r (colP p / 2))]).length ((qs ++ [(v9, rowL p x p.length (colP p) r (colP p / 2))]).flatMap hE) R26 := Own.snoc ho27 rfl rfl
   refine Ao (Ag 1) <| Al <| A4 <| Ab <| Bk (fun _ _ h => h.drop (kD <| .refl _)) <| Aj fun ds => Ao (Ag 1) <| Ad rfl (AJ Aa Aa rfl (by omega) (by omega)) <| Ao (Ag 1) <| Al ?_
   refine Ab ⟨_, m1 - 1, Off.eq (Bx rfl <| BF rfl <| BQ rfl <| B7 rfl <| Ci rfl <| BI rfl <| BQ rfl <| A3), by omega, ?_⟩
   refine ⟨r + 1, by omega, Ba, _, _, qs ++ [(v9, _)], _, hG2, Ba, ho85, hqa.snoc hRw, ?_, rfl⟩
   rw [List.map_append, hqm, GZ]
   simp only [List.map_cons, List.map_nil]
   rw [if_pos hx]
  obtain rfl : r = p.length := by omega
  have hql9 : qs.length = p.length := by have h9 := congrArg List.length hqm; rw [List.length_map, E0] at h9; exact h9
  refine Ac <| AD (Ag 3) <| Ae Aa (dF (by omega)) <| AG ?_
  refine A2 <| A2 <| A8 <| Ab <| AD (Ag 2) <| Bo (σ := ⟨_, _⟩) (by rfl) ho7 (.z) .last fun F28 hF29 hz30 => ?_
  replace hqa := hqa.mono hF29
  have hcu := ho7.sl (fun _ => rfl) hz30 (by omega)
  refine Au <| Am rfl Bi ?_
  refine ⟨qs, hcu, hqa, ?_⟩
  rw [hqm, HI, if_neg (by rw [hx]; decide)]
 refine AD (Ag 1) <| Ac <| B9 (.inl rfl) (fun _ _ h => h) (by kernel_rfl) (by kernel_rfl) fun ds => Bu (Ag 1) <| Bh rfl (AA Dc Aa hq.plain) <| Bu (Ag 1) <| Bh rfl (A1 (k := 0) Dc Aa hq.plain Aa rfl (by omega)) <| Bh rfl (Ap Ex Aa (hq.cell1 (by omega) rfl)) <| Bh rfl (AA D1 Aa hs0.plain) <| Bu (Ag 2) <| BS <| Ab <| AD (Ag 1) <| Ac <| AD (Ag 1) <| Aq ?_
 refine AH [7, 8, 9, 10, 11, 18, 19, 20, 21, 22, 23, 24, 25, 26, 27, 28, 29, 30, 31, 32, 33, 34, 35, 36, 37, 38, 39, 40, 41, 42, 43, 44, 45, 46, 47, 48, 49, 50, 51, 52, 53, 54, 55, 56, 57, 58, 59, 60, 61, 62, 63, 64, 65, 66, 67, 68, 69, 70, 71, 72, 73, 74, 75, 76, 77, 78, 79, 80, 81, 82, 83, 84, 85] (fun m3 e σ => ∃ r : Nat, m3 + r = (p.length / 2) ∧ Fct e 8 (.int .i64 (r : Int)) ∧ ∃ (G : Heap) (v7 : Value) (qs : List (Value × List (List Ln))) (R7 : List (Nat × Obj)), F.le G ∧ Fct e 7 v7 ∧ Own 199 1 v7 qs.length (qs.flatMap hE) R7 ∧ AllR G qs ∧ qs.map (·.2) = foldedTo p x r ∧ σ = ⟨G, R7⟩) ((p.length / 2)) ?_ ?_
 · exact ⟨0, by omega, Ba, _, _, [], [], Heap.le_refl _, Ba, BV, AllR.nil, rfl, rfl⟩
 rintro m1 e1 _ ⟨r, hm1, hs8, G, v7, qs, R7, hG, hs7, ho7, hqa, hqm, rfl⟩; replace hq := hq.mono hG; replace ha := ha.mono hG; replace hs0 := hs0.mono hG
 by_cases hr : r < (p.length / 2)
 ·refine Ac <| AD (Ag 3) <| Ah Aa (dT (by omega)) <| Ak <| Ab <| Ac <| Aq <| Ac <| Ax (Ag 3) fun ds => Ai rfl rfl Aa (by rw [hx]; rfl) <| Ao (Ag 1) <| Ai rfl rfl Aa (by rw [hx]; rfl) <| Ao (Ag 1) <| Ai rfl rfl Aa (by rw [hx]; rfl) <| Ad rfl (CE Aa Aa (by omega) (by omega) (by omega)) <| Ai rfl rfl Aa (by rw [hx]; rfl) <| Ao (Ag 1) <| Ad rfl (At Aa (by rw [hx]; rfl) Aa) <| Al <| Ab <| Ae Aa (dF (by omega)) <| Ak <| Ab <| AD (Ag 1) <| Ac <| AD (Ag 1) <| Aq ?_
  refine AH [9, 10, 11, 31, 32, 33, 34, 35, 36, 37, 38, 39, 40, 41, 42, 43, 44, 45, 46, 47, 48, 49, 50, 51, 52, 53, 54, 55, 56, 57, 58, 59, 60, 61, 62, 63, 64, 65, 66, 67, 68, 69, 70, 71, 72, 73, 74, 75, 76, 77, 78, 79, 80, 81] (fun m3 e σ => ∃ k : Nat, m3 + k = (colP p) ∧ Fct e 10 (.int .i64 (k : Int)) ∧ ∃ (G2 : Heap) (v9 : Value) (ps : List (Value × List Ln)) (R9 : List (Nat × Obj)), F.le G2 ∧ G.le G2 ∧ Fct e 9 v9 ∧ Own 172 1 v9 ps.length (ps.flatMap hE) R9 ∧ RowsR G2 ps ∧ ps.map (·.2) = rowL p x p.length (colP p) r k ∧ σ = ⟨G2, R7 ++ R9⟩) ((colP p)) ?_ ?_
  · exact ⟨0, by omega, Ba, _, _, [], [], hG, Heap.le_refl _, Ba, BV, RowsR.nil, rfl, (by rw [List.append_nil])⟩
  rintro m2 e2 _ ⟨k, hm2, ht10, G2, v9, ps, R9, hG2, hGG, ht9, ho9, hpr, hpm, rfl⟩; replace hq := hq.mono hGG; replace ha := ha.mono hGG; replace hs0 := hs0.mono hGG; replace hqa := hqa.mono hGG
  by_cases hk : k < (colP p)
  ·obtain ⟨ps1, hs1, hr1, he1, hl1⟩ := GN ha hp (r := p.length - 1 - r) (by omega)
   obtain ⟨ps2, hs2, hr2, he2, hl2⟩ := GN ha hp (r := r) (by omega)
   rw [hok.len _ (by omega)] at hl1 hl2
   have hp2 : PileR G2 ps2[k].1 ps2[k].2 := hr2 _ (List.getElem_mem (by omega))
   have hpo : PileR G2 ps1[k].1 ps1[k].2 := hr1 _ (List.getElem_mem (by omega))
   have hb2 := hok.pile r k (by omega) (by omega)
   rw [← he2 k (by omega)] at hb2
   have hbo := hok.pile (p.length - 1 - r) k (by omega) (by omega)
   rw [← he1 (k) (by omega)] at hbo
   have hpl9 : ps.length = k := by have h9 := congrArg List.length hpm; rw [List.length_map, H5] at h9; exact h9
   refine Ac <| AD (Ag 3) <| Ah Aa (dT (by omega)) <| Ak <| Ab <| Ac <| Aq <| Ac <| Ax (Ag 3) fun ds => Ar rfl rfl Aa (.inl (congrArg Value.bool (by rw [hx]; rfl))) rfl <| Ar rfl rfl Aa (.inl (congrArg Value.bool (by rw [hx]; rfl))) rfl <| Ar rfl rfl Aa (.inl (congrArg Value.bool (by rw [hx]; rfl))) rfl <| Ar rfl rfl Aa (.inl (congrArg Value.bool (by rw [hx]; rfl))) rfl <| Ad rfl (A9 Aa (by rw [hx]; rfl) Aa) <| Al <| Ab <| Ae Aa rfl <| Ak <| Ab <| Ax (Ag 2) fun ds => Ad rfl (Br Aa Aa rfl (by omega) (by omega)) <| Ao (Ag 1) <| Ad rfl (Br Aa Aa rfl (by omega) (by omega)) <| Ad rfl (A1 (k := p.length - 1 - r) Dc Aa hq.plain Aa (by omega) (by omega)) <| Ad rfl (Ap Ex Aa (hq.cell1 (by omega) rfl)) <| Ao (Ag 1) <| Ad rfl (A1 (k := k) D1 Aa hs1.plain Aa rfl (by omega)) <| Ad rfl (Ap FD Aa (hs1.cell1 (by omega) rfl)) <| Aw (Ag 1) <| Ac <| AD (Ag 2) <| Ae Aa (by rw [hx]; rfl) <| Ak <| Ab <| Aj fun ds => Ao (Ag 1) <| A5 rfl <| Hw Ce fun b33 hb33 nb33 => Ao (Ag 2) <| Ad rfl (A1 (k := r) Dc Aa hq.plain Aa rfl (by omega)) <| Ad rfl (Ap Ex Aa (hq.cell1 (by omega) rfl)) <| Ao (Ag 1) <| Ad rfl (A1 (k := k) D1 Aa hs2.plain Aa rfl (by omega)) <| Ad rfl (Ap FD Aa (hs2.cell1 (by omega) rfl)) <| A5 rfl <| Bd Ce Jz Aa (FA rfl) Aa (Sl.src hp2 (fun _ => rfl) (fun _ => Ln.enc_one)) (by omega) (by omega) (.z) .box fun v34 R35 ho36 => ?_
   have ho75 : Own 175 4 v34 ps2[k].2.length (ps2[k].2.flatMap Ln.enc) R35 := by simpa using ho36
   refine Ao (Ag 2) <| A5 rfl <| Bb Vr Aa AO (KE hpo hbo.1 (fun q hq => (hbo.2 q hq).1)) fun v37 F38 hr39 hF40 => ?_
   replace hpr := hpr.mono hF40
   replace hG2 := Heap.le_trans hG2 hF40
   replace hGG := Heap.le_trans hGG hF40
   have htd : Sl F38 _ 4 Ln.enc (turnL ps1[k].2 x) := hr39
   refine A5 rfl <| Bd Ce Jz Aa ho75 Aa (Sl.src htd (fun _ => rfl) (fun _ => Ln.enc_one)) (by rw [Dj]; omega) (by rw [Dj]; omega) (.z) .more fun v41 R42 ho43 => ?_
   have ho79 : Own 175 4 v41 (ps2[k].2 ++ turnL ps1[k].2 x).length ((ps2[k].2 ++ turnL ps1[k].2 x).flatMap Ln.enc) R42 := by rw [List.flatMap_append, List.length_append]; exact ho43
   obtain ⟨v79_, hv79⟩ : ∃ v, v = v41 := ⟨_, rfl⟩
   subst hv79
   refine LS (σ := ⟨_, _⟩) (by rfl) ho79 (.z) .more fun F44 hF45 hz46 => ?_
   replace hpr := hpr.mono hF45
   replace hG2 := Heap.le_trans hG2 hF45
   replace hGG := Heap.le_trans hGG hF45
   have hpz := ho79.sl (fun _ => rfl) hz46 (by rw [List.length_append, Dj]; omega)
   show WL _ _ _ _ _ _ _ ⟨_, R7 ++ R9⟩
   refine A5 rfl <| AS D1 PH rfl (.cons Aa .nil) rfl rfl (by decide) (fun u hu => by obtain rfl := List.mem_singleton.1 hu; exact hpz.plain.one) fun b47 hb47 nb47 => A5 rfl <| Bd D1 Q9 Aa ho9 Aa (Ff (s := 1) (.head _) rfl (fun u hu => by obtain rfl := List.mem_singleton.1 hu; exact hpz.plain.one)) (by omega) (by omega) (.s <| .k <| .z) .last fun v48 R49 ho50 => ?_
   have ho81 : Own 172 1 v48 (ps ++ [(v79_, ps2[k].2 ++ turnL ps1[k].2 x)]).length ((ps ++ [(v79_, ps2[k].2 ++ turnL ps1[k].2 x)]).flatMap hE) R49 := Own.snoc ho50 rfl rfl
   refine Ao (Ag 1) <| Al <| A4 <| Ab <| Bk (fun _ _ h => h.drop (kD <| .refl _)) <| Aj fun ds => Ao (Ag 1) <| Ad rfl (AJ Aa Aa rfl (by omega) (by omega)) <| Ao (Ag 1) <| Al ?_
   refine Ab ⟨_, m2 - 1, Off.eq (DG rfl <| Ci rfl <| BI rfl <| A3), by omega, ?_⟩
   refine ⟨k + 1, by omega, Ba, _, _, ps ++ [(v79_, _)], _, hG2, hGG, Ba, ho81, hpr.snoc hpz, ?_, rfl⟩
   rw [List.map_append, hpm, Mq]
   simp only [List.map_cons, List.map_nil]
   rw [he2 k (by omega), if_neg (by rw [hx]; decide), he1 k (by omega)]
  obtain rfl : k = (colP p) := by omega
  have hpl9 : ps.length = (colP p) := by have h9 := congrArg List.length hpm; rw [List.length_map, H5] at h9; exact h9
  refine Ac <| AD (Ag 3) <| Ae Aa (dF (by omega)) <| AG ?_
  refine A2 <| A2 <| A8 <| Ab ?_
  have hql9 : qs.length = r := by have h9 := congrArg List.length hqm; rw [List.length_map, E0] at h9; exact h9
  refine Bo (σ := ⟨_, _⟩) (by rfl) ho9 (.k <| .z) .last fun F51 hF52 hz53 => ?_
  replace hqa := hqa.mono hF52
  replace hpr := hpr.mono hF52
  replace hG2 := Heap.le_trans hG2 hF52
  have hrw := ho9.sl (fun _ => rfl) hz53 (by omega)
  rw [List.append_nil]
  have hRw : RowR F51 v9 (rowL p x p.length (colP p) r (colP p)) := ⟨ps, hrw, hpr, hpm⟩
  refine Aj fun ds => Ao (Ag 2) <| A5 rfl <| AS Dc PG rfl (.cons Aa .nil) rfl rfl (by decide) (fun u hu => by obtain rfl := List.mem_singleton.1 hu; exact hrw.plain.one) fun b54 hb54 nb54 => A5 rfl <| Bd Dc Q8 Aa ho7 Aa (Ff (s := 1) (.head _) rfl (fun u hu => by obtain rfl := List.mem_singleton.1 hu; exact hrw.plain.one)) (by omega) (by omega) (.s <| .z) .last fun v55 R56 ho57 => ?_
  have ho85 : Own 199 1 v55 (qs ++ [(v9, rowL p x p.length (colP p) r (colP p))]).length ((qs ++ [(v9, rowL p x p.length (colP p) r (colP p))]).flatMap hE) R56 := Own.snoc ho57 rfl rfl
  refine Ao (Ag 1) <| Al <| A4 <| Ab <| Bk (fun _ _ h => h.drop (kD <| .refl _)) <| Aj fun ds => Ao (Ag 1) <| Ad rfl (AJ Aa Aa rfl (by omega) (by omega)) <| Ao (Ag 1) <| Al ?_
  refine Ab ⟨_, m1 - 1, Off.eq (Ci rfl <| BF rfl <| BQ rfl <| B7 rfl <| Ci rfl <| BI rfl <| BQ rfl <| A3), by omega, ?_⟩
  refine ⟨r + 1, by omega, Ba, _, _, qs ++ [(v9, _)], _, hG2, Ba, ho85, hqa.snoc hRw, ?_, rfl⟩
  rw [List.map_append, hqm, GZ]
  simp only [List.map_cons, List.map_nil]
  rw [if_neg (by rw [hx]; decide)]
 obtain rfl : r = (p.length / 2) := by omega
 have hql9 : qs.length = (p.length / 2) := by have h9 := congrArg List.length hqm; rw [List.length_map, E0] at h9; exact h9
 refine Ac <| AD (Ag 3) <| Ah Aa (dT (by omega)) <| Ak <| Ab <| Ac <| Aq <| Ac <| Ax (Ag 3) fun ds => Ai rfl rfl Aa (by rw [hx]; rfl) <| Ao (Ag 1) <| Ai rfl rfl Aa (by rw [hx]; rfl) <| Ao (Ag 1) <| Ai rfl rfl Aa (by rw [hx]; rfl) <| Ad rfl (CE Aa Aa (by omega) (by omega) (by omega)) <| Ai rfl rfl Aa (by rw [hx]; rfl) <| Ao (Ag 1) <| Ad rfl (At Aa (by rw [hx]; rfl) Aa) <| Al <| Ab <| Ah Aa (dT (by omega)) <| AG ?_
 refine A2 (MG rfl (A2 (A2 (A8 ?_))))
 refine Ab <| AD (Ag 2) <| Bo (σ := ⟨_, _⟩) (by rfl) ho7 (.z) .last fun F58 hF59 hz60 => ?_
 replace hqa := hqa.mono hF59
 have hcu := ho7.sl (fun _ => rfl) hz60 (by omega)
 refine Au <| Am rfl Bi ?_
 refine ⟨qs, hcu, hqa, ?_⟩
 rw [hqm, HI, if_pos hx]
end
section
open Go.RowKit
section
variable {P : Program} {B : Base} {e : Env} {σ : St} {d : Option Nat} {ty : TypeId} {pos : String} {af : Array Edge} {gd : Option (Nat × Bool)}
theorem Sz {T : Nat} {x y : Operand} {s : ByteArray} {k : Nat} {kd : IntKind} {i : Int} (hT : P.underlying T = some .string) (hx : ev e x = .string s) (hy : ev e y = .int kd i) (hi : i = (k : Int)) (hle : k ≤ s.size) :
   OpR P B ⟨d, .slice T x (some y) none none, ty, pos, af, gd⟩ e σ (.string (s.extract k s.size)) := fun w _ => by
 subst hi
 simp [execOp, hx, hy, Instr.sliceAt, Instr.slice, Instr.sliceBounds, Instr.sliceBound, asIntOf, Bq hT, hle]
end
theorem UD {s : ByteArray} : (s.extract 1 s.size).toList = s.toList.tail := by
 rw [CN, CN, ByteArray.data_extract, Array.toList_extract, List.extract_eq_take_drop]
 show List.take (s.size - 1) (List.drop 1 s.data.toList) = _
 rw [List.take_of_length_le (by simp), List.drop_one]
theorem ln_box1 {F : Heap} {b T c r : Nat} (h : F b = some (bx T [.int .i64 (c : Int), .int .i64 (r : Int), .int .i64 0, .int .i64 0])) : Sl F (.slice (some ⟨b, 0, none⟩) 1 1) 4 Ln.enc [⟨c, r, 0, 0⟩] :=
 D0 (xs := [(⟨c, r, 0, 0⟩ : Ln)]) h rfl rfl (fun _ => rfl) (by decide)
def startC (r c : Nat) : List (List Ln) := (List.range c).map fun c => [⟨c, r, 0, 0⟩]
theorem NW {r c : Nat} : startC r (c + 1) = startC r c ++ [[⟨c, r, 0, 0⟩]] := by unfold startC; rw [List.range_succ, List.map_append]; rfl
theorem KL {r c : Nat} : (startC r c).length = c := by simp [startC]
theorem NV {r c : Nat} : startL (r + 1) c = startL r c ++ [startC r c] := by unfold startL startC; rw [List.range_succ, List.map_append]; rfl
theorem KK {r c : Nat} : (startL r c).length = r := by simp [startL]
theorem O0 {s : List UInt8} {half : Bool} {k : Nat} (h : k < (cutL s half).length) : pilesR s half (k + 1) = foldedL (pilesR s half k) ((cutL s half)[k]) := by
 unfold pilesR
 rw [List.take_succ_eq_append_getElem h, List.foldl_append]; rfl
theorem TL {s : List UInt8} {half : Bool} (h : s.length ≤ 4) : rowsN s half ≤ 16 ∧ colsN s half ≤ 16 := by
 have h1 := BT (s := s) (c := 120) h
 have h2 := BT (s := s) (c := 121) h
 unfold rowsN colsN
 constructor <;> split <;> omega
end
section
set_option maxHeartbeats 2000000
set_option maxRecDepth 100000
open Go.RowKit
theorem bd_113 : Body Tryz.prog 113 := AB (by kernel_rfl)
theorem bt_175 : BuildT Tryz.prog 175 [.int .i64 0, .int .i64 0, .int .i64 0, .int .i64 0] [(0, 1), (1, 1), (2, 1), (3, 1)] := BG Jg (by kernel_rfl) (by decide)
theorem UU {a : UInt8} {n : Nat} (h : n < 256) : decide (((a.toNat : Nat) : Int) = ((n : Nat) : Int)) = decide (a = UInt8.ofNat n) := by
 rw [Bool.eq_iff_iff, decide_eq_true_iff, decide_eq_true_iff]; exact Ch h
theorem TY {F : Heap} {s : ByteArray} {half : Bool} (h4 : 1 ≤ s.size ∧ s.size ≤ 4) (hc : ∀ c ∈ s.toList, c = 120 ∨ c = 121) (hh2 : half = true → 2 ≤ s.toList.length) : Ok Tryz.prog 83 [.string s, .bool half].toArray F fun u F' => PileR F' u (pileR s.toList half) := by
 have hle0 : F.le F := Heap.le_refl _
 have hlen : 1 ≤ s.toList.length ∧ s.toList.length ≤ 4 := by rw [EZ]; exact h4
 have hrc := TL (half := half) hlen.2
 have htx := BT (s := s.toList) (c := 120) hlen.2
 have hty := BT (s := s.toList) (c := 121) hlen.2
 have hs0 : s.toList[0]?.getD 0 = s[0]'(by omega) := by rw [List.getElem?_eq_getElem (by omega), HY (by omega)]; rfl
 have hcl : ∀ c ∈ cutL s.toList half, c = 120 ∨ c = 121 := fun c h => hc c (by unfold cutL at h; split at h; exact List.mem_of_mem_tail h; exact h)
 have hcle : (cutL s.toList half).length ≤ s.toList.length := by unfold cutL; split; rw [List.length_tail]; omega; exact Nat.le_refl _
 refine Ok.intro Tryz.func83 rfl Tryz.ntmps83 rfl fun w0 => AD (Ag 1) <| Ax (Ag 1) fun ds => AE rfl (As Hg Aa AO (CT (c := 121) h4.2 (by decide)) (fun _ _ h => h.trans (show Value.int .i64 (timesN s.toList (UInt8.ofNat 121) : Int) = .int .i64 (timesN s.toList 121 : Int) from rfl))) <| Ao (Ag 1) <| AE rfl (As Hg Aa AO (CT (c := 120) h4.2 (by decide)) (fun _ _ h => h.trans (show Value.int .i64 (timesN s.toList (UInt8.ofNat 120) : Int) = .int .i64 (timesN s.toList 120 : Int) from rfl))) <| Aw (Ag 2) <| Ac <| Ac ?_
 refine BH [16, 17, 18, 19, 20, 21] (fun st σ => Fct st 21 (.bool (half && decide (s.toList[0]?.getD 0 = 120))) ∧ σ = ⟨F, []⟩) ?_ ?_
 ·cases half
  ·refine Aj fun ds => Ao (Ag 2) <| Ar rfl rfl Aa (.inl (congrArg Value.bool rfl)) rfl <| Ar rfl rfl Aa (.inl (congrArg Value.bool rfl)) rfl <| Ar rfl rfl Aa (.inl (congrArg Value.bool rfl)) rfl <| Ad rfl (A9 Aa rfl AV) <| Al ?_
   refine Ab ⟨_, Off.eq (BI rfl <| BF rfl <| AT), ?_⟩
   exact ⟨Ba, rfl⟩
  refine Aj fun ds => Ao (Ag 2) <| Ai rfl rfl Aa rfl <| Ao (Ag 1) <| Ai rfl rfl Aa rfl <| Ad rfl (BJ Tryz.underlying9 Aa Aa rfl (show 0 < s.size by omega)) <| Ai rfl rfl Aa rfl <| Ao (Ag 1) <| Ad rfl (At Aa rfl Aa) <| Al ?_
  refine Ab ⟨_, Off.eq (BI rfl <| BF rfl <| AT), ?_⟩
  refine ⟨BC (congrArg Value.bool ?_), rfl⟩
  rw [Bool.true_and, hs0]
  exact UU (by decide)
 rintro e21 _ ⟨ha21, rfl⟩
 refine BH [6, 22, 23] (fun st σ => Fct st 6 (.int .i64 (colsN s.toList half : Int)) ∧ σ = ⟨F, []⟩) ?_ ?_
 ·by_cases hh : (half && decide (s.toList[0]?.getD 0 = 120)) = true
  ·refine Ah Aa hh <| Aj fun ds => Ao (Ag 1) <| Ad rfl (CE Aa Aa (by omega) (by omega) (by omega)) <| Ao (Ag 1) <| Al ?_
   refine Ab ⟨_, Off.eq (BF rfl <| BQ rfl <| AT), ?_⟩
   refine ⟨BC (congrArg (Value.int .i64) ?_), rfl⟩
   rw [Bool.and_eq_true, decide_eq_true_iff] at hh
   unfold colsN
   rw [if_pos hh]
   push_cast; rfl
  replace hh : (half && decide (s.toList[0]?.getD 0 = 120)) = false := by simpa using hh
  refine Ae Aa hh <| Ak ?_
  refine Ab ⟨_, Off.eq (AT), ?_⟩
  refine ⟨BC (congrArg (Value.int .i64) ?_), rfl⟩
  unfold colsN
  rw [if_neg (fun h => by rw [h.1, dT h.2] at hh; cases hh)]
 rintro e106 _ ⟨hb6, rfl⟩
 refine Ac <| Ac ?_
 refine BH [24, 25, 26, 27, 28, 29] (fun st σ => Fct st 29 (.bool (half && decide (s.toList[0]?.getD 0 = 121))) ∧ σ = ⟨F, []⟩) ?_ ?_
 ·cases half
  ·refine Aj fun ds => Ao (Ag 2) <| Ar rfl rfl Aa (.inl (congrArg Value.bool rfl)) rfl <| Ar rfl rfl Aa (.inl (congrArg Value.bool rfl)) rfl <| Ar rfl rfl Aa (.inl (congrArg Value.bool rfl)) rfl <| Ad rfl (A9 Aa rfl AV) <| Al ?_
   refine Ab ⟨_, Off.eq (BI rfl <| BF rfl <| AT), ?_⟩
   exact ⟨Ba, rfl⟩
  refine Aj fun ds => Ao (Ag 2) <| Ai rfl rfl Aa rfl <| Ao (Ag 1) <| Ai rfl rfl Aa rfl <| Ad rfl (BJ Tryz.underlying9 Aa Aa rfl (show 0 < s.size by omega)) <| Ai rfl rfl Aa rfl <| Ao (Ag 1) <| Ad rfl (At Aa rfl Aa) <| Al ?_
  refine Ab ⟨_, Off.eq (BI rfl <| BF rfl <| AT), ?_⟩
  refine ⟨BC (congrArg Value.bool ?_), rfl⟩
  rw [Bool.true_and, hs0]
  exact UU (by decide)
 rintro e29 _ ⟨hc29, rfl⟩
 refine BH [5, 30, 31] (fun st σ => Fct st 5 (.int .i64 (rowsN s.toList half : Int)) ∧ σ = ⟨F, []⟩) ?_ ?_
 ·by_cases hh : (half && decide (s.toList[0]?.getD 0 = 121)) = true
  ·refine Ah Aa hh <| Aj fun ds => Ao (Ag 1) <| Ad rfl (CE Aa Aa (by omega) (by omega) (by omega)) <| Ao (Ag 1) <| Al ?_
   refine Ab ⟨_, Off.eq (BF rfl <| BQ rfl <| AT), ?_⟩
   refine ⟨BC (congrArg (Value.int .i64) ?_), rfl⟩
   rw [Bool.and_eq_true, decide_eq_true_iff] at hh
   unfold rowsN
   rw [if_pos hh]
   push_cast; rfl
  replace hh : (half && decide (s.toList[0]?.getD 0 = 121)) = false := by simpa using hh
  refine Ae Aa hh <| Ak ?_
  refine Ab ⟨_, Off.eq (AT), ?_⟩
  refine ⟨BC (congrArg (Value.int .i64) ?_), rfl⟩
  unfold rowsN
  rw [if_neg (fun h => by rw [h.1, dT h.2] at hh; cases hh)]
 rintro e105 _ ⟨hd5, rfl⟩
 refine Ac <| AD (Ag 1) ?_
 refine BH [0, 33, 34] (fun st σ => ∃ s1 : ByteArray, Fct st 0 (.string s1) ∧ s1.toList = cutL s.toList half ∧ σ = ⟨F, []⟩) ?_ ?_
 ·cases half
  ·refine Ae Aa rfl <| Ak ?_
   refine Ab ⟨_, Off.eq (AT), ?_⟩
   exact ⟨s, Ba, rfl, rfl⟩
  refine Ah Aa rfl <| Aj fun ds => Ao (Ag 1) <| Ad rfl (Sz (k := 1) Tryz.underlying9 Aa Aa rfl (show 1 ≤ s.size by omega)) <| Ao (Ag 1) <| Al ?_
  refine Ab ⟨_, Off.eq (BF rfl <| BQ rfl <| AT), ?_⟩
  exact ⟨_, Ba, UD, rfl⟩
 rintro e100 _ ⟨s1, hg0, hs1, rfl⟩
 have hsz : (cutL s.toList half).length = s1.size := by rw [← hs1, EZ]
 refine AD (Ag 1) <| Ac <| AD (Ag 1) <| Aq ?_
 refine AH [7, 8, 9, 10, 35, 36, 37, 38, 39, 40, 41, 42, 43, 44, 45, 46, 47, 48, 49, 50, 51, 52, 53, 54, 55] (fun m3 e σ => ∃ r : Nat, m3 + r = rowsN s.toList half ∧ Fct e 8 (.int .i64 (r : Int)) ∧ ∃ (G : Heap) (v7 : Value) (qs : List (Value × List (List Ln))) (R7 : List (Nat × Obj)), F.le G ∧ Fct e 7 v7 ∧ Own 199 1 v7 qs.length (qs.flatMap hE) R7 ∧ AllR G qs ∧ qs.map (·.2) = startL r (colsN s.toList half) ∧ σ = ⟨G, R7⟩) (rowsN s.toList half) ?_ ?_
 · exact ⟨0, by omega, Ba, _, _, [], [], hle0, Ba, BV, AllR.nil, rfl, rfl⟩
 rintro m1 e1 _ ⟨r, hm1, hs8, G, v7, qs, R7, hG, hs7, ho7, hqa, hqm, rfl⟩
 by_cases hr : r < rowsN s.toList half
 ·refine Ac <| AD (Ag 3) <| Ah Aa (by first | rfl | exact dT (by omega)) <| Ak <| Ab <| Ac <| Aq <| AD (Ag 1) <| Ac <| AD (Ag 1) <| Aq ?_
  refine AH [9, 10, 40, 41, 42, 43, 44, 45, 46, 47, 48, 49, 50, 51] (fun m3 e σ => ∃ k : Nat, m3 + k = colsN s.toList half ∧ Fct e 10 (.int .i64 (k : Int)) ∧ ∃ (G2 : Heap) (v9 : Value) (ps : List (Value × List Ln)) (R9 : List (Nat × Obj)), F.le G2 ∧ G.le G2 ∧ Fct e 9 v9 ∧ Own 172 1 v9 ps.length (ps.flatMap hE) R9 ∧ RowsR G2 ps ∧ ps.map (·.2) = startC r k ∧ σ = ⟨G2, R7 ++ R9⟩) (colsN s.toList half) ?_ ?_
  · exact ⟨0, by omega, Ba, _, _, [], [], hG, Heap.le_refl _, Ba, BV, RowsR.nil, rfl, (by rw [List.append_nil])⟩
  rintro m2 e2 _ ⟨k, hm2, ht10, G2, v9, ps, R9, hG2, hGG, ht9, ho9, hpr, hpm, rfl⟩; replace hqa := hqa.mono hGG
  by_cases hk : k < colsN s.toList half
  ·refine Ac <| AD (Ag 3) <| Ah Aa (by first | rfl | exact dT (by omega)) ?_
   have hpl9 : ps.length = k := by have h9 := congrArg List.length hpm; rw [List.length_map, KL] at h9; exact h9
   refine Ak <| Ab <| Ac <| Aq <| Aj fun ds => Ao (Ag 3) <| Ad rfl (Bg bt_175 (.cons Aa rfl (.cons Aa rfl .nil)) (.cons rfl rfl (Nat.le_of_ble_eq_true rfl) (.cons (.here) .nil) (.cons rfl rfl (Nat.le_of_ble_eq_true rfl) (.cons (.next <| .here) .nil) .nil))) <| A5 rfl <| B0 (offs := [(0, 4)]) (zl := [.int .i64 0, .int .i64 0, .int .i64 0, .int .i64 0]) Ce Jg rfl (.cons Aa rfl .nil) (by intro i p h; rcases i with _ | i <;> simp at h <;> subst h <;> rfl) (.cons rfl rfl (Nat.le_of_ble_eq_true rfl) (.cons (.here) (.cons (.next <| .here) (.cons (.next <| .next <| .here) (.cons (.next <| .next <| .next <| .here) .nil)))) .nil) (by decide) (by decide) fun b3 hb3 nb3 => AQ (i := 0) rfl hb3 .here fun F4 hF5 hz6 => ?_
   replace hpr := hpr.mono hF5
   replace hG2 := Heap.le_trans hG2 hF5
   replace hGG := Heap.le_trans hGG hF5
   have hsl7 := ln_box1 hz6
   refine A5 rfl <| AS D1 PH rfl (.cons Aa .nil) rfl rfl (by decide) (by simp [Value.oneCell']) fun b8 hb8 nb8 => A5 rfl <| Bd D1 Q9 Aa ho9 Aa (Ff (s := 1) (.head _) rfl (by simp [Value.oneCell'])) (by omega) (by omega) (.s <| .k <| .z) .last fun v9 R10 ho11 => ?_
   have ho51 := Own.snoc (enc := hE) (xs := ps) (x := ((_ : Value), ([⟨k, r, 0, 0⟩] : List Ln))) ho11 rfl rfl
   refine Ao (Ag 1) <| Al <| A4 <| Ab <| Bk (fun _ _ h => h.drop (kD <| .refl _)) <| Aj fun ds => Ao (Ag 1) <| Ad rfl (AJ Aa Aa rfl (by omega) (by omega)) <| Ao (Ag 1) <| Al ?_
   refine Ab ⟨_, m2 - 1, Off.eq (Ci rfl <| BI rfl <| BF rfl <| A3), by omega, ?_⟩
   refine ⟨k + 1, by omega, Ba, _, _, ps ++ [((_ : Value), ([⟨k, r, 0, 0⟩] : List Ln))], _, hG2, hGG, Ba, ho51, hpr.snoc hsl7, ?_, rfl⟩
   rw [List.map_append, hpm, NW]; rfl
  refine Ac <| AD (Ag 3) <| Ae Aa (by first | rfl | exact dF (by omega)) ?_
  obtain rfl : k = colsN s.toList half := by omega
  have hpl9 : ps.length = colsN s.toList half := by have h9 := congrArg List.length hpm; rw [List.length_map, KL] at h9; exact h9
  refine AG ?_
  refine A2 <| A2 <| A8 <| Ab ?_
  have hql9 : qs.length = r := by have h9 := congrArg List.length hqm; rw [List.length_map, KK] at h9; exact h9
  refine Bo (σ := ⟨_, _⟩) (by rfl) ho9 (.k <| .z) .last fun F12 hF13 hz14 => ?_
  replace hqa := hqa.mono hF13
  replace hpr := hpr.mono hF13
  replace hG2 := Heap.le_trans hG2 hF13
  have hrw := ho9.sl (fun _ => rfl) hz14 (by omega)
  rw [List.append_nil]
  have hRw : RowR F12 v9 (startC r (colsN s.toList half)) := ⟨ps, hrw, hpr, hpm⟩
  refine Aj fun ds => Ao (Ag 2) <| A5 rfl <| AS Dc PG rfl (.cons Aa .nil) rfl rfl (by decide) (fun u hu => by obtain rfl := List.mem_singleton.1 hu; exact hrw.plain.one) fun b15 hb15 nb15 => A5 rfl <| Bd Dc Q8 Aa ho7 Aa (Ff (s := 1) (.head _) rfl (fun u hu => by obtain rfl := List.mem_singleton.1 hu; exact hrw.plain.one)) (by omega) (by omega) (.s <| .z) .last fun v16 R17 ho18 => ?_
  have ho55 : Own 199 1 v16 (qs ++ [(v9, startC r (colsN s.toList half))]).length ((qs ++ [(v9, startC r (colsN s.toList half))]).flatMap hE) R17 := Own.snoc ho18 rfl rfl
  refine Ao (Ag 1) <| Al <| A4 <| Ab <| Bk (fun _ _ h => h.drop (kD <| .refl _)) <| Aj fun ds => Ao (Ag 1) <| Ad rfl (AJ Aa Aa rfl (by omega) (by omega)) <| Ao (Ag 1) <| Al ?_
  refine Ab ⟨_, m1 - 1, Off.eq (Ci rfl <| BF rfl <| BQ rfl <| B7 rfl <| BI rfl <| BQ rfl <| A3), by omega, ?_⟩
  refine ⟨r + 1, by omega, Ba, _, _, qs ++ [(v9, _)], _, hG2, Ba, ho55, hqa.snoc hRw, ?_, rfl⟩
  rw [List.map_append, hqm, NV]; rfl
 refine Ac <| AD (Ag 3) <| Ae Aa (by first | rfl | exact dF (by omega)) ?_
 obtain rfl : r = rowsN s.toList half := by omega
 have hql9 : qs.length = rowsN s.toList half := by have h9 := congrArg List.length hqm; rw [List.length_map, KK] at h9; exact h9
 refine AG ?_
 refine A2 <| A2 <| A8 <| Ab <| Ac <| Ac <| Bo (σ := ⟨_, _⟩) (by rfl) ho7 (.z) .last fun F19 hF20 hz21 => ?_
 replace hqa := hqa.mono hF20
 replace hG := Heap.le_trans hG hF20
 have hcb := ho7.sl (fun _ => rfl) hz21 (by omega)
 have hCb : CubeR F19 v7 (pilesR s.toList half 0) := ⟨qs, hcb, hqa, hqm⟩
 refine Aj fun ds => Aw (Ag 1) <| Aq ?_
 refine AH [7, 11, 56, 57, 58, 59, 60, 61, 62, 63, 64, 65, 66] (fun m3 e σ => ∃ j : Nat, m3 + j = s1.size ∧ Fct e 11 (.int .i64 (j : Int)) ∧ ∃ (G3 : Heap) (v7 : Value), F.le G3 ∧ Fct e 7 v7 ∧ CubeR G3 v7 (pilesR s.toList half j) ∧ σ = ⟨G3, []⟩) (s1.size) ?_ ?_
 · exact ⟨0, by omega, Ba, _, _, hG, Ba, hCb, rfl⟩
 rintro m3 e3 _ ⟨j, hm3, hu11, G3, v7, hG3, hu7, hcu, rfl⟩
 by_cases hlt : j < s1.size
 ·refine Ac <| Ax (Ag 2) fun ds => Ad rfl (Cg Tryz.underlying9 Aa) <| Aw (Ag 1) <| Ah Aa (by first | rfl | exact dT (by omega)) ?_
  have hjc : j < (cutL s.toList half).length := by omega
  have hlet : s1[j] = (cutL s.toList half)[j] := by rw [← HY hlt]; simp only [hs1]
  have hxy : s1[j] = 120 ∨ s1[j] = 121 := by rw [hlet]; exact hcl _ (List.getElem_mem hjc)
  refine Ak <| Ab <| Ac <| Aq <| Aj fun ds => Ao (Ag 3) <| Ad rfl (BJ Tryz.underlying9 Aa Aa rfl hlt) <| A5 rfl <| Bb bd_113 Aa AO (Q2 hcu (L4 hlen hc hh2 (by omega)) hxy) fun v23 F24 hr25 hF26 => ?_
  replace hG3 := Heap.le_trans hG3 hF26
  have hcn := hr25
  refine Ao (Ag 1) <| Al <| A4 <| Ab <| Aj fun ds => Ao (Ag 1) <| Ad rfl (AJ Aa Aa rfl (by omega) (by omega)) <| Ao (Ag 1) <| Al ?_
  refine Ab ⟨_, m3 - 1, Off.eq (Ci rfl <| BI rfl <| BQ rfl <| A3), by omega, ?_⟩
  refine ⟨j + 1, by omega, Ba, _, _, hG3, Ba, ?_, rfl⟩
  rw [O0 hjc, ← hlet]
  exact hcn
 refine Ac <| Ax (Ag 2) fun ds => Ad rfl (Cg Tryz.underlying9 Aa) <| Aw (Ag 1) <| Ae Aa (by first | rfl | exact dF (by omega)) ?_
 obtain rfl : j = s1.size := by omega
 rw [← hsz] at hcu
 have hok : CubeP (pilesR s.toList half (cutL s.toList half).length) := L4 hlen hc hh2 (by omega)
 have hkr := hok.rows
 have hkc := hok.cols
 obtain ⟨qz, hqz, haz, hpz⟩ := hcu
 have hqzl : qz.length = (pilesR s.toList half (cutL s.toList half).length).length := by rw [← hpz, List.length_map]
 obtain ⟨pz, hz1, hz2, hz3, hz4⟩ := GN haz hpz (r := 0) (by omega)
 have hz4c : pz.length = colP (pilesR s.toList half (cutL s.toList half).length) := hz4
 refine AG ?_
 refine A2 <| A2 <| A8 <| Ab <| Ax (Ag 1) fun ds => Ad rfl (A1 (k := 0) Dc Aa hqz.plain Aa rfl (by omega)) <| Ad rfl (Ap Ex Aa (hqz.cell1 (by omega) rfl)) <| Ad rfl (A1 (k := 0) D1 Aa hz1.plain Aa rfl (by omega)) <| Ad rfl (Ap FD Aa (hz1.cell1 (by omega) rfl)) <| Aw (Ag 1) <| Au <| Am rfl Bi ?_
 show PileR _ _ _
 unfold pileR
 rw [← hz3 0 (by omega)]
 exact hz2 _ (List.getElem_mem _)
end
section
def ownL (sh : List Lf) (s : Nat) : List Lf := sh.map fun x => { x with sheet := (s : Int) }
theorem KY {sh : List Lf} {s : Nat} : (ownL sh s).length = sh.length := by simp [ownL]
theorem Uv {sh : List Lf} {s i : Nat} (h : i < sh.length) : lfP sh (some (s, i)) = { sh[i] with sheet := (s : Int) } := by
 show ({ sh[i]?.getD lf0 with sheet := (s : Int) } : Lf) = _
 rw [List.getElem?_eq_getElem h]; rfl
theorem Uc {sh : List Lf} {n s : Nat} (h : n ≤ sh.length) : ((List.range n).map fun i => (s, i)).map (fun q => lfP sh (some q)) = (ownL sh s).take n := by
 refine List.ext_getElem (by simp [ownL]; omega) fun i h1 h2 => ?_
 simp only [List.length_map, List.length_range] at h1
 simp only [List.getElem_map, List.getElem_range, List.getElem_take, ownL]
 exact Uv (by omega)
theorem Ud {sh : List Lf} {n s : Nat} (h : sh.length = 2 * n) : ((List.range n).map fun i => (s, n + i)).map (fun q => lfP sh (some q)) = (ownL sh s).drop n := by
 refine List.ext_getElem (by simp [ownL]; omega) fun i h1 h2 => ?_
 simp only [List.length_map, List.length_range] at h1
 simp only [List.getElem_map, List.getElem_range, List.getElem_drop, ownL]
 exact Uv (by omega)
def fstL (sh : List Lf) (n s : Nat) : List Lf := (firstP n s).map fun q => lfP sh (some q)
def sndL (sh : List Lf) (n s : Nat) : List Lf := (secondP n s).map fun q => lfP sh (some q)
theorem MA {sh : List Lf} {n s : Nat} (h : n ≤ sh.length) : fstL sh n (s + 1) = fstL sh n s ++ (ownL sh s).take n := by
 unfold fstL; rw [Pi, List.map_append, Uc h]
theorem Mo {sh : List Lf} {n s : Nat} (h : sh.length = 2 * n) : sndL sh n (s + 1) = (ownL sh s).drop n ++ sndL sh n s := by
 unfold sndL; rw [Na, List.map_append, Ud h]
theorem fst_snd {sh : List Lf} {n m : Nat} (h : sh.length / 2 = n) : leavesG sh m = fstL sh n m ++ sndL sh n m := by
 unfold leavesG pairAll fstL sndL; rw [h, List.map_append]
theorem Lm {sh : List Lf} {n : Nat} (h : sh.length = 2 * n) : ∀ s, (fstL sh n s).length = s * n
 | 0 => by simp [fstL, firstP]
 | s + 1 => by rw [MA (by omega), List.length_append, Lm h s, List.length_take, KY, Nat.add_mul]; omega
theorem H0 {sh : List Lf} {n : Nat} (h : sh.length = 2 * n) : ∀ s, (sndL sh n s).length = s * n
 | 0 => by simp [sndL, secondP]
 | s + 1 => by rw [Mo h, List.length_append, H0 h s, List.length_drop, KY, Nat.add_mul]; omega
def ownTo (l : List Ln) (c : UInt8) (s k : Nat) : List Lf := (l.take k).map (Ln.lf c s)
theorem KX {l : List Ln} {c : UInt8} {s k : Nat} (h : k < l.length) : ownTo l c s (k + 1) = ownTo l c s k ++ [Ln.lf c s l[k]] := by
 unfold ownTo; rw [List.take_succ_eq_append_getElem h, List.map_append]; rfl
theorem S2 {l : List Ln} {c : UInt8} {s k : Nat} (h : k ≤ l.length) : (ownTo l c s k).length = k := by unfold ownTo; rw [List.length_map, List.length_take]; omega
theorem S3 {l : List Ln} {c : UInt8} {s : Nat} : ownTo l c s l.length = ownL (l.map (Ln.lf c 0)) s := by
 unfold ownTo ownL; rw [List.take_length, List.map_map]; rfl
theorem Uk {a b : Nat} : decide (((a : Int) + (b : Int)) % 2 = 1) = ((a + b) % 2 == 1) := by
 rw [Bool.eq_iff_iff, decide_eq_true_iff, beq_iff_eq]; omega
theorem Rm {a : Nat} : decide ((a : Int) % 2 = 1) = (a % 2 == 1) := by
 rw [Bool.eq_iff_iff, decide_eq_true_iff, beq_iff_eq]; omega
end
section
set_option maxHeartbeats 2000000
set_option maxRecDepth 100000
open Go.RowKit
theorem bd_83 : Body Tryz.prog 83 := AB (by kernel_rfl)
theorem Ly : FieldT Tryz.prog 175 0 0 := AU (by kernel_rfl)
instance : FieldI Tryz.prog 175 0 0 := ⟨Ly⟩
theorem Lx : FieldT Tryz.prog 175 1 1 := AU (by kernel_rfl)
instance : FieldI Tryz.prog 175 1 1 := ⟨Lx⟩
theorem Sj {F : Heap} {vf vp : Value} {p : Prs} (hr : PrsR F vf vp p) {m : Mk} (hv : ValidF p) (hok : MkOk p m) : Ok Tryz.prog 47 [prsV vf vp p, mkV m].toArray F fun u F' => Sl F' u 5 Lf.enc (leavesP p m) := by
 have hfi := hok.fmt
 have hk : m.fmt.toNat < p.formats.length := by omega
 have hfm := hv.fm (i := m.fmt.toNat) hk
 rw [← Fo hk] at hfm
 have hcb := BT (s := p.fold m) (c := 120) (hok.fold hv).1.2
 have hrb := BT (s := p.fold m) (c := 121) (hok.fold hv).1.2
 have hfe : p.formats[m.fmt.toNat].folds.toList = p.fold m := by rw [Fo hk]; rfl
 have hL1 := hr.formats.plain.lt
 have hle0 : F.le F := Heap.le_refl _
 obtain ⟨hsR, n, hn, hsh0⟩ := hok.sheet hv
 obtain ⟨M, hM⟩ := Int.eq_ofNat_of_zero_le (show 0 ≤ m.sheets by have := hok.sheets; omega)
 have hMb : 1 ≤ M ∧ M ≤ 4 := by have := hok.sheets; have := hv.sheets; omega
 obtain ⟨sh, hsh1⟩ : ∃ x, x = sheetR (p.fold m) m.half := ⟨_, rfl⟩
 obtain ⟨l, hle⟩ : ∃ x, x = pileR (p.fold m) m.half := ⟨_, rfl⟩
 have hshe : sh = l.map (Ln.lf (lastC (p.fold m)) 0) := by rw [hsh1, hle]; rfl
 have hsh : sh.length = 2 * n := by rw [hsh1, ← hsR]; exact hsh0
 have hll : l.length = 2 * n := by rw [← hsh, hshe, List.length_map]
 have hpb : ∀ q ∈ l, (q.x ≤ 8 ∧ q.y ≤ 8) ∧ q.col ≤ 16 ∧ q.row ≤ 16 := by
   have h1 := L4 (hok.fold hv).1 (hok.fold hv).2 (fun hh => (hok.half hh).2) (j := (cutL (p.fold m) m.half).length) (by unfold cutL; split; rw [List.length_tail]; omega; exact Nat.le_refl _)
   have h2 := h1.pile 0 0 (by have := h1.rows; omega) (by have := h1.cols; omega)
   rw [hle]
   exact h2.2
 have hlx : decide (((p.formats[m.fmt.toNat].folds[p.formats[m.fmt.toNat].folds.size - 1]'(by omega)).toNat : Int) = 120) = decide (lastC (p.fold m) = 120) := by
   rw [← hfe, HG (by omega), Bool.eq_iff_iff, decide_eq_true_iff, decide_eq_true_iff]
   exact Ch (n := 120) (by decide)
 refine Ok.intro Tryz.func47 rfl Tryz.ntmps47 rfl fun w0 => Ac <| Aj fun ds => A5 rfl <| AX Aa rfl fun b1 hb1 nb1 => A5 rfl <| AX Aa rfl fun b2 hb2 nb2 => Aw (Ag 1) <| Ax (Ag 4) fun ds => Ad rfl (A1 (k := m.fmt.toNat) Cc Aa hr.formats.plain Aa (by omega) hk) <| Ao (Ag 1) <| Ad rfl (Ap BU Aa (hr.formats.cell hk rfl)) <| Aw (Ag 1) <| Ax (Ag 2) fun ds => Ad rfl (Cg Tryz.underlying9 Aa) <| Ad rfl (Br Aa Aa rfl (by omega) (by omega)) <| Ad rfl (BJ Tryz.underlying9 Aa Aa (show _ = ((p.formats[m.fmt.toNat].folds.size - 1 : Nat) : Int) by omega) (show p.formats[m.fmt.toNat].folds.size - 1 < p.formats[m.fmt.toNat].folds.size by omega)) <| Aw (Ag 1) <| Ax (Ag 3) fun ds => A5 rfl <| Bb bd_83 Aa AO (TY (s := p.formats[m.fmt.toNat].folds) hfm.2.1 (by rw [hfe]; exact (hok.fold hv).2) (fun hh => by rw [hfe]; exact (hok.half hh).2)) fun v3 F4 hr5 hF6 => ?_
 replace hr := hr.mono hF6
 replace hle0 := Heap.le_trans hle0 hF6
 have hpl : Sl F4 v3 4 Ln.enc l := by have h9 := hr5; rw [hfe, ← hle] at h9; exact h9
 refine Aw (Ag 1) <| Ac <| AN (i := 1) rfl hb1 (.next <| .here) fun F7 hF8 hz2 => ?_
 replace hr := hr.mono hF8
 replace hle0 := Heap.le_trans hle0 hF8
 replace hpl := hpl.mono hF8
 refine AN (i := 0) rfl hb2 (.here) fun F9 hF10 hz3 => ?_
 replace hr := hr.mono hF10
 replace hle0 := Heap.le_trans hle0 hF10
 replace hpl := hpl.mono hF10
 replace hz2 := hF10 _ _ hz2
 refine Aj fun ds => Aw (Ag 2) <| Ac <| AD (Ag 1) <| Aq ?_
 refine AH [8, 9, 10, 11, 12, 13, 30, 31, 32, 33, 34, 35, 36, 37, 38, 39, 40, 41, 42, 43, 44, 45, 46, 47, 48, 49, 50, 51, 52, 53, 54, 55, 56, 57, 58, 59, 60, 61, 62, 63, 64, 65, 66, 67, 68, 69, 70, 71, 72, 73, 74, 75, 76, 77, 78, 79, 80, 81, 82, 83, 84, 85, 86, 87, 88, 89, 90, 91, 92, 93, 94, 95, 96, 97, 98, 99, 100] (fun m3 e σ => ∃ s : Nat, m3 + s = M ∧ Fct e 10 (.int .i64 (s : Int)) ∧ ∃ (G : Heap) (v8 v9 : Value) (R8 : List (Nat × Obj)), F.le G ∧ F9.le G ∧ Fct e 8 v8 ∧ Fct e 9 v9 ∧ Own 97 5 v8 (fstL sh n s).length ((fstL sh n s).flatMap Lf.enc) R8 ∧ Sl G v9 5 Lf.enc (sndL sh n s) ∧ σ = ⟨G, R8⟩) (M) ?_ ?_
 · exact ⟨0, by omega, Ba, _, _, _, [], hle0, Heap.le_refl _, Ba, Ba, BV, Sl.nil, rfl⟩
 rintro m1 e1 _ ⟨s, hm1, hs10, G, v8, v9, R8, hG2, hGG, hs8, hs9, ho8, hs2, rfl⟩; replace hpl := hpl.mono hGG; replace hr := hr.mono hGG; replace hz2 := hGG _ _ hz2; replace hz3 := hGG _ _ hz3; replace hle0 := hG2
 by_cases hlt : s < M
 ·refine Ac <| Ax (Ag 2) fun ds => Ad rfl (Ap AM Aa (AP hz3 rfl)) <| Aw (Ag 1) <| Ah Aa (by first | rfl | exact dT (by omega)) ?_
  have hf8 := Lm hsh s
  have hsd8 := H0 hsh s
  have hsn1 : s * n ≤ 4 * 8 := Nat.mul_le_mul (by omega) (by omega)
  have hsn2 : (s + 1) * n ≤ 4 * 8 := Nat.mul_le_mul (by omega) (by omega)
  refine Ak <| Ab <| Ac <| Aq <| AD (Ag 1) <| Ac <| AD (Ag 1) <| Aq ?_
  refine AH [11, 12, 13, 36, 37, 38, 39, 40, 41, 42, 43, 44, 45, 46, 47, 48, 49, 50, 51, 52, 53, 54, 55, 56, 57, 58, 59, 60, 61, 62, 63, 64, 65, 66, 67, 68, 69, 70, 71, 72, 73, 74, 75, 76, 77, 78, 79, 80, 81, 82, 83, 84] (fun m3 e σ => ∃ i : Nat, m3 + i = l.length ∧ Fct e 12 (.int .i64 (i : Int)) ∧ ∃ (v : Value) (R11 : List (Nat × Obj)), Fct e 11 v ∧ Own 97 5 v (ownTo l (lastC (p.fold m)) s i).length ((ownTo l (lastC (p.fold m)) s i).flatMap Lf.enc) R11 ∧ σ = ⟨G, R11 ++ R8⟩) (l.length) ?_ ?_
  · exact ⟨0, by omega, Ba, _, [], Ba, BV, rfl⟩
  rintro m2 e2 _ ⟨i, hm2, ht12, v11, R11, ht11, ho11, rfl⟩
  by_cases hil : i < l.length
  ·refine Ac <| Ax (Ag 2) fun ds => Ad rfl (AA Ce Aa hpl.plain) <| Aw (Ag 1) <| Ah Aa (by first | rfl | exact dT (by omega)) ?_
   have hol := S2 (l := l) (c := (lastC (p.fold m))) (s := s) (show i ≤ l.length by omega)
   have hbx := hpb _ (List.getElem_mem hil)
   by_cases hx : (lastC (p.fold m)) = 120
   ·refine Ak <| Ab <| Ac <| Aq <| Ax (Ag 2) fun ds => Ad rfl (A1 (k := i) Ce Aa hpl.plain Aa rfl hil) <| Ao (Ag 1) <| Ad rfl (Ap AM Aa (hpl.cell hil rfl)) <| Aw (Ag 1) <| Ac <| AD (Ag 2) <| Ah Aa (hlx.trans (dT hx)) <| Aj fun ds => Ao (Ag 2) <| Ad rfl (A1 (k := i) Ce Aa hpl.plain Aa rfl hil) <| Ao (Ag 1) <| Ad rfl (Ap AM Aa (hpl.cell hil rfl)) <| Aw (Ag 1) ?_
    have hleS := hle0
    refine Bf (.inl rfl) (fun _ _ h => h) (List.sublist_append_of_sublist_right <| .refl _) [] (by kernel_rfl) fun ds => Af 0 rfl (by kernel_rfl) (by kernel_rfl) (by kernel_rfl) (by kernel_rfl) rfl rfl (fun _ h => h.drop (List.sublist_append_of_sublist_right <| .refl _)) (fun _ _ _ h => h) (A0 Aa) <| Af 1 rfl (by kernel_rfl) (by kernel_rfl) (by kernel_rfl) (by kernel_rfl) rfl rfl (fun _ h => h.drop (List.sublist_append_of_sublist_right <| .refl _)) (fun _ _ _ h => h) (A0 Aa) <| Af 2 rfl (by kernel_rfl) (by kernel_rfl) (by kernel_rfl) (by kernel_rfl) rfl rfl (fun _ h => h.drop (List.sublist_append_of_sublist_right <| .refl _)) (fun _ _ _ h => h) (A0 Aa) <| Af 3 rfl (by kernel_rfl) (by kernel_rfl) (by kernel_rfl) (by kernel_rfl) rfl rfl (fun _ h => h.drop (List.sublist_append_of_sublist_right <| .refl _)) (fun _ _ _ h => h) (A0 Aa) <| Af 4 rfl (by kernel_rfl) (by kernel_rfl) (by kernel_rfl) (by kernel_rfl) rfl rfl (fun _ h => h.drop (List.sublist_append_of_sublist_right <| .refl _)) (fun _ _ _ h => h) (A1 (k := i) Ce Aa hpl.plain Aa rfl hil) <| Af 5 rfl (by kernel_rfl) (by kernel_rfl) (by kernel_rfl) (by kernel_rfl) rfl rfl (fun _ h => h.drop (List.sublist_append_of_sublist_right <| .refl _)) (fun _ _ _ h => h) (Bs Ly Aa) <| Af 6 rfl (by kernel_rfl) (by kernel_rfl) (by kernel_rfl) (by kernel_rfl) rfl rfl (fun _ h => h.drop (List.sublist_append_of_sublist_right <| .refl _)) (fun _ _ _ h => h) (Ap AM Aa (hpl.cell hil rfl)) ?_
    refine Af 7 rfl (by kernel_rfl) (by kernel_rfl) (by kernel_rfl) (by kernel_rfl) rfl rfl (fun _ h => h.drop (List.sublist_append_of_sublist_right <| .refl _)) (fun _ _ _ h => h) (A0 Aa) <| Af 8 rfl (by kernel_rfl) (by kernel_rfl) (by kernel_rfl) (by kernel_rfl) rfl rfl (fun _ h => h.drop (List.sublist_append_of_sublist_right <| .refl _)) (fun _ _ _ h => h) (A0 Aa) <| Af 9 rfl (by kernel_rfl) (by kernel_rfl) (by kernel_rfl) (by kernel_rfl) rfl rfl (fun _ h => h.drop (List.sublist_append_of_sublist_right <| .refl _)) (fun _ _ _ h => h) (A1 (k := i) Ce Aa hpl.plain Aa rfl hil) <| Af 10 rfl (by kernel_rfl) (by kernel_rfl) (by kernel_rfl) (by kernel_rfl) rfl rfl (fun _ h => h.drop (List.sublist_append_of_sublist_right <| .refl _)) (fun _ _ _ h => h) (Bs Lx Aa) <| Af 11 rfl (by kernel_rfl) (by kernel_rfl) (by kernel_rfl) (by kernel_rfl) rfl rfl (fun _ h => h.drop (List.sublist_append_of_sublist_right <| .refl _)) (fun _ _ _ h => h) (Ap AM Aa (hpl.cell hil rfl)) <| Af 12 rfl (by kernel_rfl) (by kernel_rfl) (by kernel_rfl) (by kernel_rfl) rfl rfl (fun _ h => h.drop (List.sublist_append_of_sublist_right <| .refl _)) (fun _ _ _ h => h) (A0 Aa) <| Af 13 rfl (by kernel_rfl) (by kernel_rfl) (by kernel_rfl) (by kernel_rfl) rfl rfl (fun _ h => h.drop (List.sublist_append_of_sublist_right <| .refl _)) (fun _ _ _ h => h) (A0 Aa) <| Af 14 rfl (by kernel_rfl) (by kernel_rfl) (by kernel_rfl) (by kernel_rfl) rfl rfl (fun _ h => h.drop (List.sublist_append_of_sublist_right <| .refl _)) (fun _ _ _ h => h) (A1 (k := i) Ce Aa hpl.plain Aa rfl hil) ?_
    refine Af 15 rfl (by kernel_rfl) (by kernel_rfl) (by kernel_rfl) (by kernel_rfl) rfl rfl (fun _ h => h.drop (List.sublist_append_of_sublist_right <| .refl _)) (fun _ _ _ h => h) (Bs Lw Aa) <| Af 16 rfl (by kernel_rfl) (by kernel_rfl) (by kernel_rfl) (by kernel_rfl) rfl rfl (fun _ h => h.drop (List.sublist_append_of_sublist_right <| .refl _)) (fun _ _ _ h => h) (Ap AM Aa (hpl.cell hil rfl)) <| Af 17 rfl (by kernel_rfl) (by kernel_rfl) (by kernel_rfl) (by kernel_rfl) rfl rfl (fun _ h => h.drop (List.sublist_append_of_sublist_right <| .refl _)) (fun _ _ _ h => h) (A0 Aa) <| Af 18 rfl (by kernel_rfl) (by kernel_rfl) (by kernel_rfl) (by kernel_rfl) rfl rfl (fun _ h => h.drop (List.sublist_append_of_sublist_right <| .refl _)) (fun _ _ _ h => h) (A0 Aa) <| Af 19 rfl (by kernel_rfl) (by kernel_rfl) (by kernel_rfl) (by kernel_rfl) rfl rfl (fun _ h => h.drop (List.sublist_append_of_sublist_right <| .refl _)) (fun _ _ _ h => h) (A1 (k := i) Ce Aa hpl.plain Aa rfl hil) <| Af 20 rfl (by kernel_rfl) (by kernel_rfl) (by kernel_rfl) (by kernel_rfl) rfl rfl (fun _ h => h.drop (List.sublist_append_of_sublist_right <| .refl _)) (fun _ _ _ h => h) (Bs Lv Aa) <| Af 21 rfl (by kernel_rfl) (by kernel_rfl) (by kernel_rfl) (by kernel_rfl) rfl rfl (fun _ h => h.drop (List.sublist_append_of_sublist_right <| .refl _)) (fun _ _ _ h => h) (Ap AM Aa (hpl.cell hil rfl)) <| Af 22 rfl (by kernel_rfl) (by kernel_rfl) (by kernel_rfl) (by kernel_rfl) rfl rfl (fun _ h => h.drop (List.sublist_append_of_sublist_right <| .refl _)) (fun _ _ _ h => h) (AJ Aa Aa rfl (by omega) (by omega)) ?_
    refine Af 23 rfl (by kernel_rfl) (by kernel_rfl) (by kernel_rfl) (by kernel_rfl) rfl rfl (fun _ h => h.drop (List.sublist_append_of_sublist_right <| .refl _)) (fun _ _ _ h => h) (Cf Aa Aa (by omega) (by decide)) <| Af 24 rfl (by kernel_rfl) (by kernel_rfl) (by kernel_rfl) (by kernel_rfl) rfl rfl (fun _ h => h.drop (List.sublist_append_of_sublist_right <| .refl _)) (fun _ _ _ h => h) (Cd Aa Aa) <| Af 25 rfl (by kernel_rfl) (by kernel_rfl) (by kernel_rfl) (by kernel_rfl) rfl rfl (fun _ h => h.drop (List.sublist_append_of_sublist_right <| .refl _)) (fun _ _ _ h => h) (A0 Aa) <| Af 26 rfl (by kernel_rfl) (by kernel_rfl) (by kernel_rfl) (by kernel_rfl) rfl rfl (fun _ h => h.drop (List.sublist_append_of_sublist_right <| .refl _)) (fun _ _ _ h => h) (Cf Aa Aa (by omega) (by decide)) <| Af 27 rfl (by kernel_rfl) (by kernel_rfl) (by kernel_rfl) (by kernel_rfl) rfl rfl (fun _ h => h.drop (List.sublist_append_of_sublist_right <| .refl _)) (fun _ _ _ h => h) (Cd Aa Aa) <| Af 28 rfl (by kernel_rfl) (by kernel_rfl) (by kernel_rfl) (by kernel_rfl) rfl rfl (fun _ h => h.drop (List.sublist_append_of_sublist_right <| .refl _)) (fun _ _ _ h => h) (Bg LE (.cons Aa rfl (.cons Aa rfl (.cons Aa rfl (.cons Aa rfl (.cons Aa rfl .nil))))) (.cons rfl rfl (Nat.le_of_ble_eq_true rfl) (.cons (.here) .nil) (.cons rfl rfl (Nat.le_of_ble_eq_true rfl) (.cons (.next <| .here) .nil) (.cons rfl rfl (Nat.le_of_ble_eq_true rfl) (.cons (.next <| .next <| .here) .nil) (.cons rfl rfl (Nat.le_of_ble_eq_true rfl) (.cons (.next <| .next <| .next <| .here) .nil) (.cons rfl rfl (Nat.le_of_ble_eq_true rfl) (.cons (.next <| .next <| .next <| .next <| .here) .nil) .nil)))))) ?_
    refine Bl 29 rfl (by kernel_rfl) rfl (B0 (offs := [(0, 5)]) (zl := [.int .i64 0, .int .i64 0, .int .i64 0, .bool false, .bool false]) Bz E6 rfl (.cons Aa rfl .nil) (by intro i p h; rcases i with _ | i <;> simp at h <;> subst h <;> rfl) (.cons rfl rfl (Nat.le_of_ble_eq_true rfl) (.cons (.here) (.cons (.next <| .here) (.cons (.next <| .next <| .here) (.cons (.next <| .next <| .next <| .here) (.cons (.next <| .next <| .next <| .next <| .here) .nil))))) .nil) (by decide) (by decide) fun b13 hb13 nb13 => ⟨fun _ _ => (fun _ h => h.drop (kD <| List.sublist_append_of_sublist_right <| .refl _)), ?_⟩)
    refine Bl 30 rfl (by kernel_rfl) rfl (Bd Bz JX Aa ho11 Aa (Bv (s := 5) 0 rfl rfl (by simp [Value.oneCell'])) (by omega) (by omega) (.s <| .z) .more fun v14 R15 ho16 => ⟨fun _ _ => (fun _ h => h.drop (kD <| List.sublist_append_of_sublist_right <| .refl _)), ?_⟩)
    have e1 := Uk (a := l[i].x) (b := l[i].y)
    have e2 := Rm (a := l[i].y)
    have ho84 : Own 97 5 v14 (ownTo l (lastC (p.fold m)) s i ++ [Ln.lf (lastC (p.fold m)) s l[i]]).length ((ownTo l (lastC (p.fold m)) s i ++ [Ln.lf (lastC (p.fold m)) s l[i]]).flatMap Lf.enc) R15 := Own.snoc (x := Ln.lf (lastC (p.fold m)) s l[i]) ho16 rfl (by unfold Lf.enc Ln.lf; rw [if_pos hx]; rw [e1, e2])
    refine Af 31 rfl (by kernel_rfl) (by kernel_rfl) (by kernel_rfl) (by kernel_rfl) rfl rfl (fun _ h => h.drop (kD <| List.sublist_append_of_sublist_right <| .refl _)) (fun _ _ _ h => h) (AL Aa) ?_
    refine AY (by kernel_rfl) ?_ _
    refine A4 <| Ab <| Bk (fun _ _ h => h.drop (kD <| .refl _)) <| Aj fun ds => Ao (Ag 1) <| Ad rfl (AJ Aa Aa rfl (by omega) (by omega)) <| Ao (Ag 1) <| Al ?_
    refine Ab ⟨_, m2 - 1, Off.eq (DG rfl <| Bx rfl <| BI rfl <| BQ rfl <| A3), by omega, ?_⟩
    exact ⟨i + 1, by omega, Ba, _, _, Ba, by rw [KX hil]; exact ho84, rfl⟩
   refine Ak <| Ab <| Ac <| Aq <| Ax (Ag 2) fun ds => Ad rfl (A1 (k := i) Ce Aa hpl.plain Aa rfl hil) <| Ao (Ag 1) <| Ad rfl (Ap AM Aa (hpl.cell hil rfl)) <| Aw (Ag 1) <| Ac <| AD (Ag 2) <| Ae Aa (hlx.trans (dF hx)) <| Ak <| Ab ?_
   have hleS := hle0
   refine Bf (.inl rfl) (fun _ _ h => h) (List.sublist_append_of_sublist_right <| .refl _) [] (by kernel_rfl) fun ds => Af 0 rfl (by kernel_rfl) (by kernel_rfl) (by kernel_rfl) (by kernel_rfl) rfl rfl (fun _ h => h.drop (List.sublist_append_of_sublist_right <| .refl _)) (fun _ _ _ h => h) (A0 Aa) <| Af 1 rfl (by kernel_rfl) (by kernel_rfl) (by kernel_rfl) (by kernel_rfl) rfl rfl (fun _ h => h.drop (List.sublist_append_of_sublist_right <| .refl _)) (fun _ _ _ h => h) (A0 Aa) <| Af 2 rfl (by kernel_rfl) (by kernel_rfl) (by kernel_rfl) (by kernel_rfl) rfl rfl (fun _ h => h.drop (List.sublist_append_of_sublist_right <| .refl _)) (fun _ _ _ h => h) (A0 Aa) <| Af 3 rfl (by kernel_rfl) (by kernel_rfl) (by kernel_rfl) (by kernel_rfl) rfl rfl (fun _ h => h.drop (List.sublist_append_of_sublist_right <| .refl _)) (fun _ _ _ h => h) (A0 Aa) <| Af 4 rfl (by kernel_rfl) (by kernel_rfl) (by kernel_rfl) (by kernel_rfl) rfl rfl (fun _ h => h.drop (List.sublist_append_of_sublist_right <| .refl _)) (fun _ _ _ h => h) (A1 (k := i) Ce Aa hpl.plain Aa rfl hil) <| Af 5 rfl (by kernel_rfl) (by kernel_rfl) (by kernel_rfl) (by kernel_rfl) rfl rfl (fun _ h => h.drop (List.sublist_append_of_sublist_right <| .refl _)) (fun _ _ _ h => h) (Bs Ly Aa) <| Af 6 rfl (by kernel_rfl) (by kernel_rfl) (by kernel_rfl) (by kernel_rfl) rfl rfl (fun _ h => h.drop (List.sublist_append_of_sublist_right <| .refl _)) (fun _ _ _ h => h) (Ap AM Aa (hpl.cell hil rfl)) ?_
   refine Af 7 rfl (by kernel_rfl) (by kernel_rfl) (by kernel_rfl) (by kernel_rfl) rfl rfl (fun _ h => h.drop (List.sublist_append_of_sublist_right <| .refl _)) (fun _ _ _ h => h) (A0 Aa) <| Af 8 rfl (by kernel_rfl) (by kernel_rfl) (by kernel_rfl) (by kernel_rfl) rfl rfl (fun _ h => h.drop (List.sublist_append_of_sublist_right <| .refl _)) (fun _ _ _ h => h) (A0 Aa) <| Af 9 rfl (by kernel_rfl) (by kernel_rfl) (by kernel_rfl) (by kernel_rfl) rfl rfl (fun _ h => h.drop (List.sublist_append_of_sublist_right <| .refl _)) (fun _ _ _ h => h) (A1 (k := i) Ce Aa hpl.plain Aa rfl hil) <| Af 10 rfl (by kernel_rfl) (by kernel_rfl) (by kernel_rfl) (by kernel_rfl) rfl rfl (fun _ h => h.drop (List.sublist_append_of_sublist_right <| .refl _)) (fun _ _ _ h => h) (Bs Lx Aa) <| Af 11 rfl (by kernel_rfl) (by kernel_rfl) (by kernel_rfl) (by kernel_rfl) rfl rfl (fun _ h => h.drop (List.sublist_append_of_sublist_right <| .refl _)) (fun _ _ _ h => h) (Ap AM Aa (hpl.cell hil rfl)) <| Af 12 rfl (by kernel_rfl) (by kernel_rfl) (by kernel_rfl) (by kernel_rfl) rfl rfl (fun _ h => h.drop (List.sublist_append_of_sublist_right <| .refl _)) (fun _ _ _ h => h) (A0 Aa) <| Af 13 rfl (by kernel_rfl) (by kernel_rfl) (by kernel_rfl) (by kernel_rfl) rfl rfl (fun _ h => h.drop (List.sublist_append_of_sublist_right <| .refl _)) (fun _ _ _ h => h) (A0 Aa) <| Af 14 rfl (by kernel_rfl) (by kernel_rfl) (by kernel_rfl) (by kernel_rfl) rfl rfl (fun _ h => h.drop (List.sublist_append_of_sublist_right <| .refl _)) (fun _ _ _ h => h) (A1 (k := i) Ce Aa hpl.plain Aa rfl hil) ?_
   refine Af 15 rfl (by kernel_rfl) (by kernel_rfl) (by kernel_rfl) (by kernel_rfl) rfl rfl (fun _ h => h.drop (List.sublist_append_of_sublist_right <| .refl _)) (fun _ _ _ h => h) (Bs Lw Aa) <| Af 16 rfl (by kernel_rfl) (by kernel_rfl) (by kernel_rfl) (by kernel_rfl) rfl rfl (fun _ h => h.drop (List.sublist_append_of_sublist_right <| .refl _)) (fun _ _ _ h => h) (Ap AM Aa (hpl.cell hil rfl)) <| Af 17 rfl (by kernel_rfl) (by kernel_rfl) (by kernel_rfl) (by kernel_rfl) rfl rfl (fun _ h => h.drop (List.sublist_append_of_sublist_right <| .refl _)) (fun _ _ _ h => h) (A0 Aa) <| Af 18 rfl (by kernel_rfl) (by kernel_rfl) (by kernel_rfl) (by kernel_rfl) rfl rfl (fun _ h => h.drop (List.sublist_append_of_sublist_right <| .refl _)) (fun _ _ _ h => h) (A0 Aa) <| Af 19 rfl (by kernel_rfl) (by kernel_rfl) (by kernel_rfl) (by kernel_rfl) rfl rfl (fun _ h => h.drop (List.sublist_append_of_sublist_right <| .refl _)) (fun _ _ _ h => h) (A1 (k := i) Ce Aa hpl.plain Aa rfl hil) <| Af 20 rfl (by kernel_rfl) (by kernel_rfl) (by kernel_rfl) (by kernel_rfl) rfl rfl (fun _ h => h.drop (List.sublist_append_of_sublist_right <| .refl _)) (fun _ _ _ h => h) (Bs Lv Aa) <| Af 21 rfl (by kernel_rfl) (by kernel_rfl) (by kernel_rfl) (by kernel_rfl) rfl rfl (fun _ h => h.drop (List.sublist_append_of_sublist_right <| .refl _)) (fun _ _ _ h => h) (Ap AM Aa (hpl.cell hil rfl)) <| Af 22 rfl (by kernel_rfl) (by kernel_rfl) (by kernel_rfl) (by kernel_rfl) rfl rfl (fun _ h => h.drop (List.sublist_append_of_sublist_right <| .refl _)) (fun _ _ _ h => h) (AJ Aa Aa rfl (by omega) (by omega)) ?_
   refine Af 23 rfl (by kernel_rfl) (by kernel_rfl) (by kernel_rfl) (by kernel_rfl) rfl rfl (fun _ h => h.drop (List.sublist_append_of_sublist_right <| .refl _)) (fun _ _ _ h => h) (Cf Aa Aa (by omega) (by decide)) <| Af 24 rfl (by kernel_rfl) (by kernel_rfl) (by kernel_rfl) (by kernel_rfl) rfl rfl (fun _ h => h.drop (List.sublist_append_of_sublist_right <| .refl _)) (fun _ _ _ h => h) (Cd Aa Aa) <| Af 25 rfl (by kernel_rfl) (by kernel_rfl) (by kernel_rfl) (by kernel_rfl) rfl rfl (fun _ h => h.drop (List.sublist_append_of_sublist_right <| .refl _)) (fun _ _ _ h => h) (A0 Aa) <| Af 26 rfl (by kernel_rfl) (by kernel_rfl) (by kernel_rfl) (by kernel_rfl) rfl rfl (fun _ h => h.drop (List.sublist_append_of_sublist_right <| .refl _)) (fun _ _ _ h => h) (Cf Aa Aa (by omega) (by decide)) <| Af 27 rfl (by kernel_rfl) (by kernel_rfl) (by kernel_rfl) (by kernel_rfl) rfl rfl (fun _ h => h.drop (List.sublist_append_of_sublist_right <| .refl _)) (fun _ _ _ h => h) (Cd Aa Aa) <| Af 28 rfl (by kernel_rfl) (by kernel_rfl) (by kernel_rfl) (by kernel_rfl) rfl rfl (fun _ h => h.drop (List.sublist_append_of_sublist_right <| .refl _)) (fun _ _ _ h => h) (Bg LE (.cons Aa rfl (.cons Aa rfl (.cons Aa rfl (.cons Aa rfl (.cons Aa rfl .nil))))) (.cons rfl rfl (Nat.le_of_ble_eq_true rfl) (.cons (.here) .nil) (.cons rfl rfl (Nat.le_of_ble_eq_true rfl) (.cons (.next <| .here) .nil) (.cons rfl rfl (Nat.le_of_ble_eq_true rfl) (.cons (.next <| .next <| .here) .nil) (.cons rfl rfl (Nat.le_of_ble_eq_true rfl) (.cons (.next <| .next <| .next <| .here) .nil) (.cons rfl rfl (Nat.le_of_ble_eq_true rfl) (.cons (.next <| .next <| .next <| .next <| .here) .nil) .nil)))))) ?_
   refine Bl 29 rfl (by kernel_rfl) rfl (B0 (offs := [(0, 5)]) (zl := [.int .i64 0, .int .i64 0, .int .i64 0, .bool false, .bool false]) Bz E6 rfl (.cons Aa rfl .nil) (by intro i p h; rcases i with _ | i <;> simp at h <;> subst h <;> rfl) (.cons rfl rfl (Nat.le_of_ble_eq_true rfl) (.cons (.here) (.cons (.next <| .here) (.cons (.next <| .next <| .here) (.cons (.next <| .next <| .next <| .here) (.cons (.next <| .next <| .next <| .next <| .here) .nil))))) .nil) (by decide) (by decide) fun b17 hb17 nb17 => ⟨fun _ _ => (fun _ h => h.drop (kD <| List.sublist_append_of_sublist_right <| .refl _)), ?_⟩)
   refine Bl 30 rfl (by kernel_rfl) rfl (Bd Bz JX Aa ho11 Aa (Bv (s := 5) 0 rfl rfl (by simp [Value.oneCell'])) (by omega) (by omega) (.s <| .z) .more fun v18 R19 ho20 => ⟨fun _ _ => (fun _ h => h.drop (kD <| List.sublist_append_of_sublist_right <| .refl _)), ?_⟩)
   have e1 := Uk (a := l[i].x) (b := l[i].y)
   have e2 := Rm (a := l[i].x)
   have ho84 : Own 97 5 v18 (ownTo l (lastC (p.fold m)) s i ++ [Ln.lf (lastC (p.fold m)) s l[i]]).length ((ownTo l (lastC (p.fold m)) s i ++ [Ln.lf (lastC (p.fold m)) s l[i]]).flatMap Lf.enc) R19 := Own.snoc (x := Ln.lf (lastC (p.fold m)) s l[i]) ho20 rfl (by unfold Lf.enc Ln.lf; rw [if_neg hx]; rw [e1, e2])
   refine Af 31 rfl (by kernel_rfl) (by kernel_rfl) (by kernel_rfl) (by kernel_rfl) rfl rfl (fun _ h => h.drop (kD <| List.sublist_append_of_sublist_right <| .refl _)) (fun _ _ _ h => h) (AL Aa) ?_
   refine AY (by kernel_rfl) ?_ _
   refine A4 <| Ab <| Bk (fun _ _ h => h.drop (kD <| .refl _)) <| Aj fun ds => Ao (Ag 1) <| Ad rfl (AJ Aa Aa rfl (by omega) (by omega)) <| Ao (Ag 1) <| Al ?_
   refine Ab ⟨_, m2 - 1, Off.eq (DG rfl <| Ci rfl <| BI rfl <| BF rfl <| BQ rfl <| A3), by omega, ?_⟩
   exact ⟨i + 1, by omega, Ba, _, _, Ba, by rw [KX hil]; exact ho84, rfl⟩
  refine Ac <| Ax (Ag 2) fun ds => Ad rfl (AA Ce Aa hpl.plain) <| Aw (Ag 1) <| Ae Aa (by first | rfl | exact dF (by omega)) ?_
  obtain rfl : i = l.length := by omega
  rw [S3, ← hshe] at ho11
  have hwl := KY (sh := sh) (s := s)
  refine AG ?_
  refine A2 <| A2 <| A8 <| Ab <| Ac <| Bo (σ := ⟨_, _⟩) (by rfl) ho11 (.z) .more fun F21 hF22 hz23 => ?_
  replace hs2 := hs2.mono hF22
  replace hG2 := Heap.le_trans hG2 hF22
  replace hGG := Heap.le_trans hGG hF22
  have how := ho11.sl (fun _ => rfl) hz23 (by omega)
  show WC _ _ _ _ _ _ ⟨_, R8⟩
  refine Aj fun ds => Ao (Ag 3) <| Ad rfl (AA Bz Aa how.plain) <| Ad rfl (CE Aa Aa (by omega) (by omega) (by decide)) <| Ad rfl (D9 Bz Aa how.plain Aa (k := n) (by omega) (by omega)) <| A5 rfl <| Bd Bz JX Aa ho8 Aa (Sl.src (how.to (k := n) (by omega)) (fun _ => rfl) (fun _ => Lf.enc_one)) (by rw [List.length_take]; omega) (by rw [List.length_take]; omega) (.z) .last fun v24 R25 ho26 => ?_
  have ho91 : Own 97 5 v24 (fstL sh n s ++ (ownL sh s).take n).length ((fstL sh n s ++ (ownL sh s).take n).flatMap Lf.enc) R25 := by rw [List.flatMap_append, List.length_append]; exact ho26
  refine Aw (Ag 1) <| Aj fun ds => A5 rfl <| Hw Bz fun b27 hb27 nb27 => Ao (Ag 2) <| Ad rfl (AA Bz Aa how.plain) <| Ad rfl (CE Aa Aa (by omega) (by omega) (by decide)) <| Ad rfl (On Bz Aa how.plain Aa (k := n) (by omega) (by omega)) <| A5 rfl <| Bd Bz JX Aa (FA rfl) Aa (Sl.src (how.from (k := n) (by omega)) (fun _ => rfl) (fun _ => Lf.enc_one)) (by rw [List.length_drop]; omega) (by rw [List.length_drop]; omega) (.z) .box fun v28 R29 ho30 => ?_
  have ho98 : Own 97 5 v28 ((ownL sh s).drop n).length (((ownL sh s).drop n).flatMap Lf.enc) R29 := by simpa using ho30
  refine Ao (Ag 1) <| A5 rfl <| Bd Bz JX Aa ho98 Aa (Sl.src hs2 (fun _ => rfl) (fun _ => Lf.enc_one)) (by rw [List.length_drop]; omega) (by rw [List.length_drop]; omega) (.z) .more fun v31 R32 ho33 => ?_
  have ho100 : Own 97 5 v31 (sndL sh n (s + 1)).length ((sndL sh n (s + 1)).flatMap Lf.enc) R32 := by rw [Mo hsh, List.flatMap_append, List.length_append]; exact ho33
  refine Ao (Ag 1) <| Al <| A4 <| Ab <| Bo (σ := ⟨_, _⟩) (by rfl) ho100 (.z) .more fun F34 hF35 hz36 => ?_
  replace hG2 := Heap.le_trans hG2 hF35
  replace hGG := Heap.le_trans hGG hF35
  have hsn := ho100.sl (fun _ => rfl) hz36 (by rw [H0 hsh]; omega)
  show WC _ _ _ _ _ _ ⟨_, R25⟩
  refine Aj fun ds => Ao (Ag 1) <| Ad rfl (AJ Aa Aa rfl (by omega) (by omega)) <| Ao (Ag 1) <| Al ?_
  refine Ab ⟨_, m1 - 1, Off.eq (Bx rfl <| Ci rfl <| BQ rfl <| B7 rfl <| BI rfl <| BF rfl <| A3), by omega, ?_⟩
  refine ⟨s + 1, by omega, Ba, _, _, _, _, hG2, hGG, Ba, Ba, ?_, hsn, rfl⟩
  rw [MA (by omega)]; exact ho91
 refine Ac <| Ax (Ag 2) fun ds => Ad rfl (Ap AM Aa (AP hz3 rfl)) <| Aw (Ag 1) <| Ae Aa (by first | rfl | exact dF (by omega)) ?_
 obtain rfl : s = M := by omega
 have hf8 := Lm hsh s
 have hsd8 := H0 hsh s
 have hsn1 : s * n ≤ 4 * 8 := Nat.mul_le_mul (by omega) (by omega)
 refine AG ?_
 refine A2 <| A2 <| A8 <| Ab <| Ax (Ag 2) fun ds => A5 rfl <| Bd Bz JX Aa ho8 Aa (Sl.src hs2 (fun _ => rfl) (fun _ => Lf.enc_one)) (by omega) (by omega) (.z) .last fun v37 R38 ho39 => ?_
 have ho103 : Own 97 5 v37 (fstL sh n s ++ sndL sh n s).length ((fstL sh n s ++ sndL sh n s).flatMap Lf.enc) R38 := by rw [List.flatMap_append, List.length_append]; exact ho39
 refine Aw (Ag 1) <| Bo (σ := ⟨_, _⟩) (by rfl) ho103 (.z) .last fun F40 hF41 hz42 => ?_
 have hre := ho103.sl (fun _ => rfl) hz42 (by rw [List.length_append]; omega)
 refine Au <| Am rfl Bi ?_
 show Sl _ _ 5 Lf.enc _
 unfold leavesP
 rw [hM, Int.toNat_natCast, hsR, ← hsh1, fst_snd (n := n) (by omega)]
 exact hre
end
section
def exPr : Prs := ⟨[⟨⟨#[102, 111, 108, 105, 111]⟩, ⟨#[120]⟩⟩, ⟨⟨#[113, 117, 97, 114, 116, 111]⟩, ⟨#[120, 121]⟩⟩, ⟨⟨#[111, 99, 116, 97, 118, 111]⟩, ⟨#[120, 121, 120]⟩⟩], [⟨⟨#[112, 111, 116]⟩, 400, 410, 300, 306⟩], 10, 2⟩
def exM (i : Int) : Mk := ⟨i, 0, 1, false⟩
def exB (n c w w2 h h2 : Int) : Bok := ⟨n, c, w, w2, h, h2, []⟩
theorem UH : checkF exPr = (0, 0, 0) := by kernel_rfl
theorem ex_mk1 : mkErr exPr (exM 1) = 0 := by kernel_rfl
theorem ex_mk2 : mkErr exPr (exM 2) = 0 := by kernel_rfl
theorem Q6 : leavesP exPr (exM 1) = [⟨0, 0, 0, false, false⟩, ⟨0, 1, 0, true, true⟩, ⟨0, 1, 1, false, true⟩, ⟨0, 0, 1, true, false⟩] := by kernel_rfl
theorem RJ : (leavesP exPr (exM 2)).length = 8 := by kernel_rfl
theorem Tb : ((leavesP exPr (exM 1)).map placeF).Nodup := of_decide_eq_true (by kernel_rfl)
theorem Ta : ((leavesP exPr (exM 2)).map placeF).Nodup := of_decide_eq_true (by kernel_rfl)
theorem Te : formeL exPr (exM 1) true 0 = [2, -3, 7, -6] := by kernel_rfl
theorem Td : formeL exPr (exM 2) false 0 = [1, 16, 13, 4, -8, -9, -12, -5] := by kernel_rfl
theorem UG : matesP exPr (exM 2) 1 = [0, 2, 3, 4, 5, 6, 7] := by kernel_rfl
theorem Tc : markedP exPr (exM 2) [0] = [0, 3, 4, 7] := by kernel_rfl
theorem Pm : agreeL exPr (exB 4 0 0 2000 0 2000) = [⟨0, 0, 2, false⟩, ⟨1, 0, 1, false⟩, ⟨2, 0, 1, true⟩] := by kernel_rfl
theorem ex_must : mustTo exPr (exB 4 0 0 2000 0 2000) 0 4 = [3] := by kernel_rfl
theorem ex_may : mayTo exPr (exB 4 0 0 2000 0 2000) 0 4 = [1, 2, 3] := by kernel_rfl
theorem UE : wrongL exPr (exB 4 1 145 146 190 191) (mksL exPr) = 1 := by kernel_rfl
theorem ex_down : wrongL exPr (exB 3 0 0 2000 0 2000) (mksL exPr) = -1 := by kernel_rfl
theorem ex_zero : agreeL exPr (exB 4 1 145 146 0 2000) = [] := by kernel_rfl
theorem UI : (checkB exPr (exB 4 0 0 2000 0 2000)).2.2 = 0 := by kernel_rfl
theorem ex_cb2 : (checkB exPr (exB 4 1 145 146 190 191)).2.2 = 0 := by kernel_rfl
theorem ex_cb3 : (checkB exPr (exB 3 0 0 2000 0 2000)).2.2 = 0 := by kernel_rfl
theorem ex_cb4 : (checkB exPr (exB 4 1 145 146 0 2000)).2.2 = 0 := by kernel_rfl
theorem ex_bits : bitsF 1 = [0] := by kernel_rfl
theorem Pk : (checkF exPr).2.2 = 0 := by rw [UH]
theorem UF : MkOk exPr (exM 1) := Du.1 ex_mk1
theorem Q5 : MkOk exPr (exM 2) := Du.1 ex_mk2
end
section
set_option maxRecDepth 100000
open Go.RowKit
theorem Tw : ZeroT Tryz.prog 25 (.agg #[.slice none 0 0, .slice none 0 0, .int .i64 0, .int .i64 0]) := Bw (by kernel_rfl)
theorem FZ : ZeroT Tryz.prog 47 (.agg #[.int .i64 0, .int .i64 0, .int .i64 0, .int .i64 0, .int .i64 0, .int .i64 0, .slice none 0 0]) := Bw (by kernel_rfl)
theorem V5 : Body Tryz.prog 112 := AB (by kernel_rfl)
theorem bd_47 : Body Tryz.prog 47 := AB (by kernel_rfl)
theorem bd_81 : Body Tryz.prog 81 := AB (by kernel_rfl)
theorem bd_84 : Body Tryz.prog 84 := AB (by kernel_rfl)
theorem bd_85 : Body Tryz.prog 85 := AB (by kernel_rfl)
theorem bt_25 : BuildT Tryz.prog 25 [.slice none 0 0, .slice none 0 0, .int .i64 0, .int .i64 0] [(0, 1), (1, 1), (2, 1), (3, 1)] := BG Tw (by kernel_rfl) (by decide)
theorem HW : BuildT Tryz.prog 47 [.int .i64 0, .int .i64 0, .int .i64 0, .int .i64 0, .int .i64 0, .int .i64 0, .slice none 0 0] [(0, 1), (1, 1), (2, 2), (4, 2), (6, 1)] := BG FZ (by kernel_rfl) (by decide)
theorem Vd : BuildT Tryz.prog 58 [.string ⟨#[]⟩, .string ⟨#[]⟩] [(0, 1), (1, 1)] := BG NP (by kernel_rfl) (by decide)
theorem bt_71 : BuildT Tryz.prog 71 [.string ⟨#[]⟩, .int .i64 0, .int .i64 0, .int .i64 0, .int .i64 0] [(0, 1), (1, 2), (3, 2)] := BG JD (by kernel_rfl) (by decide)
theorem sz_25 : SizeT Tryz.prog 25 4 := B1 (by kernel_rfl)
theorem GT : SizeT Tryz.prog 47 7 := B1 (by kernel_rfl)
theorem U4 {p : Prs} (hv : ValidF p) {f i s h : Nat} (hf : f = 0) (hi : i = 0) (hs : s = 1) (hh : h = 0) : MkOk p (⟨(f : Int), (i : Int), (s : Int), decide ((h : Int) = 1)⟩ : Mk) := by
 subst hf; subst hi; subst hs; subst hh
 have h1 := hv.nf
 have h2 := hv.np
 have h3 := hv.sheets
 exact ⟨⟨by simp, by show ((0 : Nat) : Int) < _; omega⟩, ⟨by simp, by show ((0 : Nat) : Int) < _; omega⟩, ⟨by simp, by show ((1 : Nat) : Int) ≤ _; omega⟩, fun h => by simp at h⟩
theorem UO {F : Heap} {b T : Nat} (h : F b = some (bx T (exPr.formats.flatMap Fmt.enc))) : Sl F (.slice (some ⟨b, 0, none⟩) 3 3) 2 Fmt.enc exPr.formats := D0 h rfl rfl (fun _ => rfl) (by decide)
theorem UJ {F : Heap} {b T : Nat} (h : F b = some (bx T (exPr.papers.flatMap Ppr.enc))) : Sl F (.slice (some ⟨b, 0, none⟩) 1 1) 5 Ppr.enc exPr.papers := D0 h rfl rfl (fun _ => rfl) (by decide)
def hsF (xs : List Nat) (s : Int) : Int := ((turnF xs s.toNat : Nat) : Int) % 2
theorem Uz {xs : List Nat} {s : Int} : hsF xs s = 0 ∨ hsF xs s = 1 := by unfold hsF; omega
theorem halL_at {xs : List Nat} {n i : Nat} (h : i < (halL xs n).length) : (halL xs n)[i] = ((turnF xs i : Nat) : Int) % 2 := by simp [halL]
theorem SB {F : Heap} {vf vp : Value} {p : Prs} (hr : PrsR F vf vp p) (h0 : (checkF p).2.2 = 0) : Ok Tryz.prog 81 [prsV vf vp p].toArray F fun u F' => ∃ ms : List Mk, Sl F' u 4 Mk.enc ms ∧ ms ≠ [] ∧ ms.length ≤ p.formats.length * 32 ∧ ∀ m ∈ ms, MkOk p m := by
 have hv := Di h0
 have hnf := hv.nf
 have hnp := hv.np
 have hvs := hv.sheets
 have hL1 := hr.formats.plain.lt
 have hL2 := hr.papers.plain.lt
 obtain ⟨S, hS⟩ := Int.eq_ofNat_of_zero_le (show 0 ≤ p.sheets by omega)
 refine Ok.intro Tryz.func81 rfl Tryz.ntmps81 rfl fun w0 => Ac <| Aj fun ds => A5 rfl <| AX Aa rfl fun b1 hb1 nb1 => Aw (Ag 1) <| AN (i := 0) rfl hb1 (.here) fun F2 hF3 hz1 => ?_
 replace hr := hr.mono hF3
 refine AD (Ag 1) <| Ac <| AD (Ag 1) <| Aq ?_
 refine AH [3, 4, 5, 6, 7, 8, 9, 10, 11, 12, 13, 14, 15, 16, 17, 18, 19, 20, 21, 22, 23, 24, 25, 26, 27, 28, 29, 30, 31, 32, 33, 34, 35, 36, 37, 38, 39, 40, 41, 42, 43, 44, 45, 46] (fun m3 e σ => ∃ f : Nat, m3 + f = p.formats.length ∧ Fct e 4 (.int .i64 (f : Int)) ∧ ∃ (v3 : Value) (ms : List Mk) (R3 : List (Nat × Obj)), Fct e 3 v3 ∧ Own 49 4 v3 (ms).length ((ms).flatMap Mk.enc) R3 ∧ ms.length ≤ f * 32 ∧ (∀ m ∈ ms, MkOk p m) ∧ (0 < f → ms ≠ []) ∧ σ = ⟨F2, R3⟩) (p.formats.length) ?_ ?_
 · exact ⟨0, by omega, Ba, _, [], [], Ba, BV, by simp, (fun _ h => nomatch h), (fun h => absurd h (by omega)), rfl⟩
 rintro m1 e1 _ ⟨f, hm1, hs4, v3, ms, R3, hs3, ho, hml, hmo, hmn, rfl⟩
 by_cases hfl : f < p.formats.length
 ·refine Ac <| Ax (Ag 2) fun ds => Ad rfl (Ap EB Aa (AP hz1 rfl)) <| Ad rfl (AA Cc Aa hr.formats.plain) <| Aw (Ag 1) <| Ah Aa (by first | rfl | exact dT (by omega)) <| Ak <| Ab <| Ac <| Aq <| AD (Ag 1) <| Aq ?_
  refine AH [3, 5, 6, 7, 8, 16, 17, 18, 19, 20, 21, 22, 23, 24, 25, 26, 27, 28, 29, 30, 31, 32, 33, 34, 35, 36, 37, 38, 39, 40, 41, 42, 43, 44, 45, 46] (fun m3 e σ => ∃ i : Nat, m3 + i = p.papers.length ∧ Fct e 5 (.int .i64 (i : Int)) ∧ ∃ (v3 : Value) (ms : List Mk) (R3 : List (Nat × Obj)), Fct e 3 v3 ∧ Own 49 4 v3 (ms).length ((ms).flatMap Mk.enc) R3 ∧ ms.length ≤ f * 32 + i * 8 ∧ (∀ m ∈ ms, MkOk p m) ∧ (0 < f ∨ 0 < i → ms ≠ []) ∧ σ = ⟨F2, R3⟩) (p.papers.length) ?_ ?_
  · exact ⟨0, by omega, Ba, _, ms, _, Ba, ho, by omega, hmo, fun h9 => hmn (by omega), rfl⟩
  rintro m2 e2 _ ⟨i, hm2, ha5, v3, ms, R3, ha3, ho, hml, hmo, hmn, rfl⟩
  by_cases hil : i < p.papers.length
  ·refine Ac <| Ax (Ag 2) fun ds => Ad rfl (Ap DQ Aa (AP hz1 rfl)) <| Ad rfl (AA Cx Aa hr.papers.plain) <| Aw (Ag 1) <| Ah Aa (by first | rfl | exact dT (by omega)) <| Ak <| Ab <| Ac <| Aq <| AD (Ag 1) <| Aq ?_
   refine AH [3, 6, 7, 8, 23, 24, 25, 26, 27, 28, 29, 30, 31, 32, 33, 34, 35, 36, 37, 38, 39, 40, 41, 42, 43, 44, 45, 46] (fun m3 e σ => ∃ s : Nat, m3 + s = S + 1 ∧ 1 ≤ s ∧ Fct e 6 (.int .i64 (s : Int)) ∧ ∃ (v3 : Value) (ms : List Mk) (R3 : List (Nat × Obj)), Fct e 3 v3 ∧ Own 49 4 v3 (ms).length ((ms).flatMap Mk.enc) R3 ∧ ms.length ≤ f * 32 + i * 8 + (s - 1) * 2 ∧ (∀ m ∈ ms, MkOk p m) ∧ (0 < f ∨ 0 < i ∨ 1 < s → ms ≠ []) ∧ σ = ⟨F2, R3⟩) (S) ?_ ?_
   · exact ⟨1, by omega, by omega, Ba, _, ms, _, Ba, ho, by omega, hmo, fun h9 => hmn (by omega), rfl⟩
   rintro m3 e3 _ ⟨s, hm3, h1s, hc6, v3, ms, R3, hc3, ho, hml, hmo, hmn, rfl⟩
   by_cases hsl : s < S + 1
   ·refine Ac <| Ax (Ag 2) fun ds => Ad rfl (Ap AM Aa (AP hz1 rfl)) <| Aw (Ag 1) <| Ah Aa (dT (by omega)) <| Ak <| Ab <| Ac <| Aq <| AD (Ag 1) <| Aq ?_
    refine AH [3, 7, 8, 29, 30, 31, 32, 33, 34, 35, 36, 37, 38, 39, 40, 41, 42, 43, 44, 45, 46] (fun m3 e σ => ∃ h : Nat, m3 + h = 2 ∧ Fct e 7 (.int .i64 (h : Int)) ∧ ∃ (v3 : Value) (ms : List Mk) (R3 : List (Nat × Obj)), Fct e 3 v3 ∧ Own 49 4 v3 (ms).length ((ms).flatMap Mk.enc) R3 ∧ ms.length ≤ f * 32 + i * 8 + (s - 1) * 2 + h ∧ (∀ m ∈ ms, MkOk p m) ∧ (0 < f ∨ 0 < i ∨ 1 < s ∨ 0 < h → ms ≠ []) ∧ σ = ⟨F2, R3⟩) (2) ?_ ?_
    · exact ⟨0, by omega, Ba, _, ms, _, Ba, ho, by omega, hmo, fun h9 => hmn (by omega), rfl⟩
    rintro m4 e4 _ ⟨h, hm4, hd7, v3, ms, R3, hd3, ho, hml, hmo, hmn, rfl⟩
    by_cases hh : h < 2
    ·refine Ac <| AD (Ag 2) <| Ah Aa (by first | rfl | exact dT (by omega)) ?_
     by_cases he : mkErr p (⟨(f : Int), (i : Int), (s : Int), decide ((h : Int) = 1)⟩ : Mk) = 0
     ·refine Ak <| Ab <| Ac <| Aq <| Ax (Ag 5) fun ds => Ad rfl (Bg LF (.cons Aa rfl (.cons Aa rfl (.cons Aa rfl (.cons Aa rfl .nil)))) (.cons rfl rfl (Nat.le_of_ble_eq_true rfl) (.cons (.here) .nil) (.cons rfl rfl (Nat.le_of_ble_eq_true rfl) (.cons (.next <| .here) .nil) (.cons rfl rfl (Nat.le_of_ble_eq_true rfl) (.cons (.next <| .next <| .here) .nil) (.cons rfl rfl (Nat.le_of_ble_eq_true rfl) (.cons (.next <| .next <| .next <| .here) .nil) .nil))))) <| A5 rfl <| AF Ee rfl fun b8 hb8 nb8 => AZ <| AC Fe Aa Aa (i := 0) rfl rfl rfl rfl (Mk.enc_one (b := (⟨(f : Int), (i : Int), (s : Int), decide ((h : Int) = 1)⟩ : Mk))) (.here) <| Al <| Ab <| Ac <| Aj fun ds => Ad rfl (A6 Cq Aa rfl rfl (AK hz1)) <| Ad rfl (A6 (vs := (Mk.enc (⟨(f : Int), (i : Int), (s : Int), decide ((h : Int) = 1)⟩ : Mk))) BD Aa rfl rfl (Bj 0 rfl)) <| AE rfl (As V5 Aa AO (OL hr h0 (m := (⟨(f : Int), (i : Int), (s : Int), decide ((h : Int) = 1)⟩ : Mk))) (fun _ _ h => h)) <| Aw (Ag 1) <| Ah Aa (dT he) <| Aj fun ds => Ao (Ag 1) <| Ad rfl (A6 (vs := (Mk.enc (⟨(f : Int), (i : Int), (s : Int), decide ((h : Int) = 1)⟩ : Mk))) BD Aa rfl rfl (Bj 0 rfl)) <| A5 rfl <| B0 (offs := [(0, 4)]) (zl := [.int .i64 0, .int .i64 0, .int .i64 0, .bool false]) C3 Ee rfl (.cons Aa rfl .nil) (by intro i p h; rcases i with _ | i <;> simp at h <;> subst h <;> rfl) (.cons rfl rfl (Nat.le_of_ble_eq_true rfl) (.cons (.here) (.cons (.next <| .here) (.cons (.next <| .next <| .here) (.cons (.next <| .next <| .next <| .here) .nil)))) .nil) (by decide) (by decide) fun b9 hb9 nb9 => ?_
      refine A5 rfl <| Bd C3 el_49 Aa ho Aa (Bv (s := 4) 0 rfl rfl (by simp [Value.oneCell'])) (by omega) (by omega) (.s <| .s <| .z) .last fun v10 R11 ho12 => ?_
      have ho46 : Own 49 4 v10 (ms ++ [(⟨(f : Int), (i : Int), (s : Int), decide ((h : Int) = 1)⟩ : Mk)]).length ((ms ++ [(⟨(f : Int), (i : Int), (s : Int), decide ((h : Int) = 1)⟩ : Mk)]).flatMap Mk.enc) R11 := Own.snoc ho12 rfl rfl
      refine Ao (Ag 1) <| Al <| A4 <| Ab <| Bk (fun _ _ h => h.drop (kD <| kD <| .refl _)) <| Aj fun ds => Ao (Ag 1) <| Ad rfl (AJ Aa Aa rfl (by omega) (by omega)) <| Ao (Ag 1) <| Al ?_
      refine Ab ⟨_, m4 - 1, Off.eq (Bx rfl <| BI rfl <| BQ rfl <| A3), by omega, ?_⟩
      exact ⟨h + 1, by omega, Ba, _, ms ++ [(⟨(f : Int), (i : Int), (s : Int), decide ((h : Int) = 1)⟩ : Mk)], _, Ba, ho46, (by rw [List.length_append]; show _ + 1 ≤ _; omega), (fun m hm => (List.mem_append.1 hm).elim (hmo m) fun hm => by obtain rfl := List.mem_singleton.1 hm; exact Du.1 he), (fun _ h9 => by simp at h9), rfl⟩
     refine Ak <| Ab <| Ac <| Aq <| Ax (Ag 5) fun ds => Ad rfl (Bg LF (.cons Aa rfl (.cons Aa rfl (.cons Aa rfl (.cons Aa rfl .nil)))) (.cons rfl rfl (Nat.le_of_ble_eq_true rfl) (.cons (.here) .nil) (.cons rfl rfl (Nat.le_of_ble_eq_true rfl) (.cons (.next <| .here) .nil) (.cons rfl rfl (Nat.le_of_ble_eq_true rfl) (.cons (.next <| .next <| .here) .nil) (.cons rfl rfl (Nat.le_of_ble_eq_true rfl) (.cons (.next <| .next <| .next <| .here) .nil) .nil))))) <| A5 rfl <| AF Ee rfl fun b13 hb13 nb13 => AZ <| AC Fe Aa Aa (i := 0) rfl rfl rfl rfl (Mk.enc_one (b := (⟨(f : Int), (i : Int), (s : Int), decide ((h : Int) = 1)⟩ : Mk))) (.here) <| Al <| Ab <| Ac <| Aj fun ds => Ad rfl (A6 Cq Aa rfl rfl (AK hz1)) <| Ad rfl (A6 (vs := (Mk.enc (⟨(f : Int), (i : Int), (s : Int), decide ((h : Int) = 1)⟩ : Mk))) BD Aa rfl rfl (Bj 0 rfl)) <| AE rfl (As V5 Aa AO (OL hr h0 (m := (⟨(f : Int), (i : Int), (s : Int), decide ((h : Int) = 1)⟩ : Mk))) (fun _ _ h => h)) <| Aw (Ag 1) <| Ae Aa (dF he) <| Ak <| A4 <| Ab <| Bk (fun _ _ h => h.drop (kD <| .refl _)) <| Aj fun ds => Ao (Ag 1) <| Ad rfl (AJ Aa Aa rfl (by omega) (by omega)) <| Ao (Ag 1) <| Al ?_
     refine Ab ⟨_, m4 - 1, Off.eq (Bx rfl <| A3), by omega, ?_⟩
     refine ⟨h + 1, by omega, Ba, _, ms, _, Ba, ho, by omega, hmo, fun h9 => ?_, rfl⟩
     by_cases h10 : 0 < f ∨ 0 < i ∨ 1 < s ∨ 0 < h
     · exact hmn h10
     exact absurd (Du.2 (U4 hv (by omega) (by omega) (by omega) (by omega))) he
    refine Ac <| AD (Ag 2) <| Ae Aa (by first | rfl | exact dF (by omega)) ?_
    obtain rfl : h = 2 := by omega
    refine AG ?_
    refine A2 <| A2 <| A8 <| A4 <| Ab <| Aj fun ds => Ao (Ag 1) <| Ad rfl (AJ Aa Aa rfl (by omega) (by omega)) <| Ao (Ag 1) <| Al ?_
    refine Ab ⟨_, m3 - 1, Off.eq (BI rfl <| BQ rfl <| B7 rfl <| BI rfl <| BQ rfl <| A3), by omega, ?_⟩
    exact ⟨s + 1, by omega, by omega, Ba, _, ms, _, Ba, ho, by omega, hmo, fun h9 => hmn (by omega), rfl⟩
   refine Ac <| Ax (Ag 2) fun ds => Ad rfl (Ap AM Aa (AP hz1 rfl)) <| Aw (Ag 1) <| Ae Aa (dF (by omega)) ?_
   obtain rfl : s = S + 1 := by omega
   refine AG ?_
   refine A2 <| A2 <| A8 <| A4 <| Ab <| Aj fun ds => Ao (Ag 1) <| Ad rfl (AJ Aa Aa rfl (by omega) (by omega)) <| Ao (Ag 1) <| Al ?_
   refine Ab ⟨_, m2 - 1, Off.eq (BI rfl <| BF rfl <| BQ rfl <| B7 rfl <| BI rfl <| BF rfl <| A3), by omega, ?_⟩
   exact ⟨i + 1, by omega, Ba, _, ms, _, Ba, ho, by omega, hmo, fun h9 => hmn (by omega), rfl⟩
  refine Ac <| Ax (Ag 2) fun ds => Ad rfl (Ap DQ Aa (AP hz1 rfl)) <| Ad rfl (AA Cx Aa hr.papers.plain) <| Aw (Ag 1) <| Ae Aa (by first | rfl | exact dF (by omega)) ?_
  obtain rfl : i = p.papers.length := by omega
  refine AG ?_
  refine A2 <| A2 <| A8 <| A4 <| Ab <| Aj fun ds => Ao (Ag 1) <| Ad rfl (AJ Aa Aa rfl (by omega) (by omega)) <| Ao (Ag 1) <| Al ?_
  refine Ab ⟨_, m1 - 1, Off.eq (Ci rfl <| B7 rfl <| BI rfl <| BF rfl <| A3), by omega, ?_⟩
  exact ⟨f + 1, by omega, Ba, _, ms, _, Ba, ho, by omega, hmo, fun h9 => hmn (by omega), rfl⟩
 refine Ac <| Ax (Ag 2) fun ds => Ad rfl (Ap EB Aa (AP hz1 rfl)) <| Ad rfl (AA Cc Aa hr.formats.plain) <| Aw (Ag 1) <| Ae Aa (by first | rfl | exact dF (by omega)) ?_
 obtain rfl : f = p.formats.length := by omega
 refine AG ?_
 refine A2 <| A2 <| A8 <| Ab <| AD (Ag 2) <| Bo (σ := ⟨_, _⟩) (by rfl) ho (.z) .last fun F14 hF15 hz16 => ?_
 have hre := ho.sl (fun _ => rfl) hz16 (by omega)
 refine Au <| Am rfl Bi ?_
 exact ⟨ms, hre, hmn (by omega), hml, hmo⟩
theorem TX {F : Heap} : Ok Tryz.prog 20 [].toArray F fun u F' => ∃ vf vp, u = prsV vf vp exPr ∧ PrsR F' vf vp exPr := by
 refine Ok.intro Tryz.func20 rfl Tryz.ntmps20 rfl fun w0 => Ac <| Aj fun ds => A5 rfl <| AF Tw rfl fun b1 hb1 nb1 => Al <| Ab <| Ac <| Aj fun ds => Ad rfl (Bg Vd (.cons Aa rfl (.cons Aa rfl .nil)) (.cons rfl rfl (Nat.le_of_ble_eq_true rfl) (.cons (.here) .nil) (.cons rfl rfl (Nat.le_of_ble_eq_true rfl) (.cons (.next <| .here) .nil) .nil))) <| Ad rfl (Bg Vd (.cons Aa rfl (.cons Aa rfl .nil)) (.cons rfl rfl (Nat.le_of_ble_eq_true rfl) (.cons (.here) .nil) (.cons rfl rfl (Nat.le_of_ble_eq_true rfl) (.cons (.next <| .here) .nil) .nil))) <| Ad rfl (Bg Vd (.cons Aa rfl (.cons Aa rfl .nil)) (.cons rfl rfl (Nat.le_of_ble_eq_true rfl) (.cons (.here) .nil) (.cons rfl rfl (Nat.le_of_ble_eq_true rfl) (.cons (.next <| .here) .nil) .nil))) <| A5 rfl <| B0 (offs := [(0, 2), (2, 2), (4, 2)]) (zl := [.string ⟨#[]⟩, .string ⟨#[]⟩, .string ⟨#[]⟩, .string ⟨#[]⟩, .string ⟨#[]⟩, .string ⟨#[]⟩]) Cc NP rfl (.cons Aa rfl (.cons Aa rfl (.cons Aa rfl .nil))) (by intro i p h; rcases i with _ | _ | _ | i <;> simp at h <;> subst h <;> rfl) (.cons rfl rfl (Nat.le_of_ble_eq_true rfl) (.cons (.here) (.cons (.next <| .here) .nil)) (.cons rfl rfl (Nat.le_of_ble_eq_true rfl) (.cons (.next <| .next <| .here) (.cons (.next <| .next <| .next <| .here) .nil)) (.cons rfl rfl (Nat.le_of_ble_eq_true rfl) (.cons (.next <| .next <| .next <| .next <| .here) (.cons (.next <| .next <| .next <| .next <| .next <| .here) .nil)) .nil))) (by decide) (by decide) fun b2 hb2 nb2 => ?_
 refine AQ (i := 0) rfl hb2 .here fun F3 hF4 hz5 => ?_
 have hsl6 := UO hz5
 refine AE rfl (As En Aa AO (Cj _ _) (fun _ _ h => h)) <| AE rfl (As En Aa AO (Cj _ _) (fun _ _ h => h)) <| Ad rfl (Bg bt_71 (.cons Aa rfl (.cons Aa rfl (.cons Aa rfl .nil))) (.cons rfl rfl (Nat.le_of_ble_eq_true rfl) (.cons (.here) .nil) (.cons rfl rfl (Nat.le_of_ble_eq_true rfl) (.cons (.next <| .here) (.cons (.next <| .next <| .here) .nil)) (.cons rfl rfl (Nat.le_of_ble_eq_true rfl) (.cons (.next <| .next <| .next <| .here) (.cons (.next <| .next <| .next <| .next <| .here) .nil)) .nil)))) <| A5 rfl <| B0 (offs := [(0, 5)]) (zl := [.string ⟨#[]⟩, .int .i64 0, .int .i64 0, .int .i64 0, .int .i64 0]) Cx JD rfl (.cons Aa rfl .nil) (by intro i p h; rcases i with _ | i <;> simp at h <;> subst h <;> rfl) (.cons rfl rfl (Nat.le_of_ble_eq_true rfl) (.cons (.here) (.cons (.next <| .here) (.cons (.next <| .next <| .here) (.cons (.next <| .next <| .next <| .here) (.cons (.next <| .next <| .next <| .next <| .here) .nil))))) .nil) (by decide) (by decide) fun b7 hb7 nb7 => AQ (i := 0) rfl hb7 .here fun F8 hF9 hz10 => ?_
 replace hsl6 := hsl6.mono hF9
 have hsl11 := UJ hz10
 refine Ad rfl (Bg bt_25 (.cons Aa rfl (.cons Aa rfl (.cons Aa rfl (.cons Aa rfl .nil)))) (.cons rfl rfl (Nat.le_of_ble_eq_true rfl) (.cons (.here) .nil) (.cons rfl rfl (Nat.le_of_ble_eq_true rfl) (.cons (.next <| .here) .nil) (.cons rfl rfl (Nat.le_of_ble_eq_true rfl) (.cons (.next <| .next <| .here) .nil) (.cons rfl rfl (Nat.le_of_ble_eq_true rfl) (.cons (.next <| .next <| .next <| .here) .nil) .nil))))) <| AZ <| AC sz_25 Aa Aa (i := 0) rfl rfl rfl rfl (by simp [Value.oneCell']) (.here) <| Al <| Ab <| Au <| Am rfl (.agg Cq Aa rfl rfl (Bj 0 rfl) .nil) ?_
 exact ⟨_, _, rfl, hsl6, hsl11⟩
theorem Ks {F : Heap} (z a b c d : Int) : Ok Tryz.prog 26 [.int .i64 z, .agg #[.int .i64 a, .int .i64 b], .agg #[.int .i64 c, .int .i64 d]].toArray F fun u _ => u = bokV (.slice none 0 0) ⟨4, z, a, b, c, d, []⟩ := by
 refine Ok.intro Tryz.func26 rfl Tryz.ntmps26 rfl fun w0 => Ac <| Aj fun ds => A5 rfl <| AX Aa rfl fun b1 hb1 nb1 => A5 rfl <| AX Aa rfl fun b2 hb2 nb2 => A5 rfl <| AF FZ rfl fun b3 hb3 nb3 => Al <| Ab <| Ax (Ag 3) fun ds => Ad rfl (Bg HW (.cons Aa rfl (.cons Aa rfl (.cons Aa rfl (.cons Aa rfl .nil)))) (.cons rfl rfl (Nat.le_of_ble_eq_true rfl) (.cons (.here) .nil) (.cons rfl rfl (Nat.le_of_ble_eq_true rfl) (.cons (.next <| .here) .nil) (.cons rfl rfl (Nat.le_of_ble_eq_true rfl) (.cons (.next <| .next <| .here) (.cons (.next <| .next <| .next <| .here) .nil)) (.cons rfl rfl (Nat.le_of_ble_eq_true rfl) (.cons (.next <| .next <| .next <| .next <| .here) (.cons (.next <| .next <| .next <| .next <| .next <| .here) .nil)) .nil))))) <| AZ <| AC GT Aa Aa (i := 0) rfl rfl rfl rfl (by simp [Value.oneCell']) (.here) <| Al <| Ab <| Au <| Am rfl (.agg FP Aa rfl rfl (Bj 0 rfl) .nil) ?_
 rfl
theorem Lc {F : Heap} {vf vp : Value} {p : Prs} (hr : PrsR F vf vp p) (h0 : (checkF p).2.2 = 0) {z : Int} (hz : 0 ≤ z) : Ok Tryz.prog 43 [prsV vf vp p, .int .i64 z].toArray F fun u _ => ∃ m : Mk, u = mkV m ∧ MkOk p m := by
 refine Ok.intro Tryz.func43 rfl Tryz.ntmps43 rfl fun w0 => Ac <| Aj fun ds => A5 rfl <| AX Aa rfl fun b1 hb1 nb1 => A5 rfl <| AF Ee rfl fun b2 hb2 nb2 => Al <| Ab <| Ax (Ag 1) fun ds => A5 rfl <| Bb bd_81 Aa AO (SB hr h0) fun v3 F4 hr5 hF6 => ?_
 obtain ⟨ms, hms, hmne, hml, hmso⟩ := hr5
 refine Aw (Ag 1) <| Ac ?_
 have hpos : 0 < ms.length := List.length_pos_iff.2 hmne
 have hml2 : ms.length < 281474976710656 := hms.plain.lt
 obtain ⟨k, hk⟩ := Int.eq_ofNat_of_zero_le (Int.emod_nonneg z (b := (ms.length : Int)) (by omega))
 have hk2 : k < ms.length := by have := Int.emod_lt_of_pos z (b := (ms.length : Int)) (by omega); omega
 refine Aj fun ds => Ao (Ag 3) <| Ad rfl (AA C3 Aa hms.plain) <| Ad rfl (Cf Aa Aa (by omega) (by omega)) <| Ad rfl (A1 (k := k) C3 Aa hms.plain Aa hk hk2) <| Ad rfl (A6 (vs := (Mk.enc ms[k])) BD Aa rfl rfl (hms.whole hk2)) <| AZ <| AC Fe Aa Aa (i := 0) rfl rfl rfl rfl Mk.enc_one (.here) <| Al <| Ab <| Au <| Am rfl (.agg BD Aa rfl rfl (Bj 0 rfl) .nil) ?_
 exact ⟨ms[k], rfl, hmso _ (List.getElem_mem hk2)⟩
theorem has_ok2 {F : Heap} {vf vp : Value} {p : Prs} (hr : PrsR F vf vp p) {m : Mk} (hv : ValidF p) (hok : MkOk p m) {leaf : Nat} (hl : leaf < (leavesP p m).length) {vx : Value} {xs : List Nat} (hx : Sl F vx 1 u16F xs) (hxb : ∀ x ∈ xs, x < 65536) : Ok Tryz.prog 48 [prsV vf vp p, mkV m, .int .i64 (leaf : Int), vx].toArray F fun u _ => u = .bool (hasB p m (lfN p m leaf) (hsF xs (lfN p m leaf).sheet)) := by
 have hle0 : F.le F := Heap.le_refl _
 have hms := hok.sheets
 have hvs := hv.sheets
 refine Ok.intro Tryz.func48 rfl Tryz.ntmps48 rfl fun w0 => Ac <| Aj fun ds => A5 rfl <| AX Aa rfl fun b1 hb1 nb1 => A5 rfl <| AX Aa rfl fun b2 hb2 nb2 => Aw (Ag 1) <| Ax (Ag 2) fun ds => A5 rfl <| Bb bd_47 Aa AO (Sj hr hv hok) fun v3 F4 hr5 hF6 => ?_
 replace hr := hr.mono hF6
 replace hx := hx.mono hF6
 replace hle0 := Heap.le_trans hle0 hF6
 have hal := hr5
 refine Ao (Ag 1) <| Ad rfl (A1 (k := leaf) Bz Aa hal.plain Aa rfl hl) <| Ad rfl (A6 (vs := (Lf.enc (leavesP p m)[leaf])) CP Aa rfl rfl (hal.whole hl)) <| A5 rfl <| AF E6 rfl fun b7 hb7 nb7 => AZ <| AC Fd Aa Aa (i := 0) rfl rfl rfl rfl Lf.enc_one (.here) <| Al <| Ab <| Ac ?_
 have hlb := ED hv hok (List.getElem_mem hl)
 have hxs := FG (List.getElem_mem hl) hok.sheets.1
 have hge : (leavesP p m)[leaf] = lfN p m leaf := Gl hl
 have hsL : (leavesP p m)[leaf].sheet.toNat < (halL xs m.sheets.toNat).length := by rw [Gm]; omega
 have hhe : (halL xs m.sheets.toNat)[(leavesP p m)[leaf].sheet.toNat] = hsF xs (leavesP p m)[leaf].sheet := halL_at hsL
 have hh01 : (halL xs m.sheets.toNat)[(leavesP p m)[leaf].sheet.toNat] = 0 ∨ (halL xs m.sheets.toNat)[(leavesP p m)[leaf].sheet.toNat] = 1 := by rw [hhe]; exact Uz
 have hleS := hle0
 have hleS := hle0
 refine Bf (.inl rfl) (fun _ _ h => h) (kK <| kK <| kK <| .refl _) [] (by kernel_rfl) fun ds => Af 0 rfl (by kernel_rfl) (by kernel_rfl) (by kernel_rfl) (by kernel_rfl) rfl rfl (fun _ h => h.drop (kK <| kK <| kK <| .refl _)) (fun _ _ _ h => h) (A6 Cq Aa rfl rfl (Bj 2 rfl)) <| Af 1 rfl (by kernel_rfl) (by kernel_rfl) (by kernel_rfl) (by kernel_rfl) rfl rfl (fun _ h => h.drop (kK <| kK <| kK <| .refl _)) (fun _ _ _ h => h) (A6 BD Aa rfl rfl (Bj 1 rfl)) <| Af 2 rfl (by kernel_rfl) (by kernel_rfl) (by kernel_rfl) (by kernel_rfl) rfl rfl (fun _ h => h.drop (kK <| kK <| kK <| .refl _)) (fun _ _ _ h => h) (A6 (vs := (Lf.enc (leavesP p m)[leaf])) CP Aa rfl rfl (Bj 0 rfl)) <| Af 3 rfl (by kernel_rfl) (by kernel_rfl) (by kernel_rfl) (by kernel_rfl) rfl rfl (fun _ h => h.drop (kK <| kK <| kK <| .refl _)) (fun _ _ _ h => h) (A6 BD Aa rfl rfl (Bj 1 rfl)) <| Af 4 rfl (by kernel_rfl) (by kernel_rfl) (by kernel_rfl) (by kernel_rfl) rfl rfl (fun _ h => h.drop (kK <| kK <| kK <| .refl _)) (fun _ _ _ h => h) (A0 Aa) <| Af 6 rfl (by kernel_rfl) (by kernel_rfl) (by kernel_rfl) (by kernel_rfl) rfl rfl (fun _ h => h.drop (kK <| kK <| kK <| .refl _)) (fun _ _ _ h => h) (Az R1 Aa) ?_
 refine Af 7 rfl (by kernel_rfl) (by kernel_rfl) (by kernel_rfl) (by kernel_rfl) rfl rfl (fun _ h => h.drop (kK <| kK <| kK <| .refl _)) (fun _ _ _ h => h) (Ap AM Aa (Cell.own 0 rfl rfl)) ?_
 refine Bl 5 rfl (by kernel_rfl) rfl (Bb bd_85 Aa AO (Qy (by omega) hx hxb) fun v8 F9 hr10 hF11 => ⟨fun _ _ _ h => (h.drop (kK <| kK <| kK <| .refl _)).weak hF11 hleS, ?_⟩)
 replace hr := hr.mono hF11
 have hha := hr10
 refine Af 8 rfl (by kernel_rfl) (by kernel_rfl) (by kernel_rfl) (by kernel_rfl) rfl rfl (fun _ h => (h.drop (kK <| kK <| kK <| .refl _)).weak hF11 hleS) (fun _ _ _ h => h) (A1 (k := (leavesP p m)[leaf].sheet.toNat) AR Aa hha.plain Aa (by omega) hsL) ?_
 refine Bl 9 rfl (by kernel_rfl) rfl (AI (Ap AM Aa (hha.cell1 hsL rfl)).quiet ⟨fun _ _ => (fun _ h => (h.drop (kK <| kK <| kK <| .refl _)).weak hF11 hleS), ?_⟩)
 refine Bl 10 rfl (by kernel_rfl) rfl (AI (As bd_84 Aa AO (hasR_ok hr hv hok hlb hh01) (fun _ _ h => h)) ⟨fun _ _ => (fun _ h => (h.drop (kK <| kK <| kK <| .refl _)).weak hF11 hleS), ?_⟩)
 refine Af 11 rfl (by kernel_rfl) (by kernel_rfl) (by kernel_rfl) (by kernel_rfl) rfl rfl (fun _ h => (h.drop (kK <| kK <| kK <| .refl _)).weak hF11 hleS) (fun _ _ _ h => h) (AL Aa) ?_
 refine AY (by kernel_rfl) ?_ _
 refine Ab <| Au <| Am rfl Bi ?_
 show Value.bool _ = Value.bool _
 rw [hhe, hge]
end
section
open Go.RowKit
section
variable {P : Program} {B : Base} {e : Env} {σ : St} {d : Option Nat} {ty : TypeId} {pos : String} {af : Array Edge} {gd : Option (Nat × Bool)}
theorem q_remN {x y : Operand} {a b : Nat} {t u : TypeId} (hx : ev e x = .int .i64 (a : Int)) (hy : ev e y = .int .i64 (b : Int)) (hb : 0 < b) :
   OpR P B ⟨d, .binOp .rem t x y u, ty, pos, af, gd⟩ e σ (.int .i64 ((a % b : Nat) : Int)) := by
 have h := Cf (P := P) (B := B) (σ := σ) (d := d) (t := t) (u := u) (ty := ty) (pos := pos) (af := af) (gd := gd) hx hy (Int.natCast_nonneg _) (by omega)
 rwa [← Int.natCast_emod] at h
end
theorem PC {lo hi n : Int} (h : lo ≤ hi) : lo ≤ lo + n % (hi - lo + 1) ∧ lo + n % (hi - lo + 1) ≤ hi := by
 have h1 := Int.emod_nonneg n (b := hi - lo + 1) (by omega)
 have h2 := Int.emod_lt_of_pos n (b := hi - lo + 1) (by omega)
 omega
theorem QX {lo hi X t T : Int} (h1 : lo ≤ X ∧ X ≤ hi) (h0 : 0 ≤ hi) (hh : hi ≤ 2000) (ht : 0 ≤ t) : lo - t ≤ max 0 (X - T % (t + 1)) ∧ (0 ≤ max 0 (X - T % (t + 1)) ∧ max 0 (X - T % (t + 1)) ≤ 2000) ∧ max 0 (X - T % (t + 1)) ≤ hi := by
 have h2 := Int.emod_nonneg T (b := t + 1) (by omega)
 have h3 := Int.emod_lt_of_pos T (b := t + 1) (by omega)
 omega
theorem UP {a lo hi c : Int} (h : lo ≤ a ∧ a ≤ hi) (hc : 1 ≤ c) : lo / c ≤ a / c ∧ a / c ≤ hi / c := ⟨Int.ediv_le_ediv (by omega) h.1, Int.ediv_le_ediv (by omega) h.2⟩
theorem size_in {p : Prs} {m : Mk} (hc : 1 ≤ colN p m) (hr : 1 ≤ rowN p m) {a b : Int} (ha : (p.pap m).wlo ≤ a ∧ a ≤ (p.pap m).whi) (hb : (p.pap m).hlo ≤ b ∧ b ≤ (p.pap m).hhi) :
   ((wideP p m).1 ≤ (if upB (p.fold m) = true then a / (colN p m : Int) else b / (rowN p m : Int)) ∧ (if upB (p.fold m) = true then a / (colN p m : Int) else b / (rowN p m : Int)) ≤ (wideP p m).2) ∧
   (highP p m).1 ≤ (if upB (p.fold m) = true then b / (rowN p m : Int) else a / (colN p m : Int)) ∧ (if upB (p.fold m) = true then b / (rowN p m : Int) else a / (colN p m : Int)) ≤ (highP p m).2 := by
 have h1 := UP ha (c := (colN p m : Int)) (by omega)
 have h2 := UP hb (c := (rowN p m : Int)) (by omega)
 unfold wideP highP
 cases upB (p.fold m) with
 | true => exact ⟨h1, h2⟩
 | false => exact ⟨h2, h1⟩
theorem Up (b : Bool) : (!(b == decide ((0 : Int) % 2 = 1))) = b := by cases b <;> rfl
end
end Go.Proofs.YtkjfmibiinfhfaaGreat
