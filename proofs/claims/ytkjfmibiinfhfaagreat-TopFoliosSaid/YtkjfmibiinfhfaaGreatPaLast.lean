/-
  TopFolios returns true of any press, any room and whatever is shelved, and leaves what it is handed as it was.
-/
import Derived.Test.YtkjfmibiinfhfaaGreatPaf
namespace Go.Proofs.YtkjfmibiinfhfaaGreat
set_option synthInstance.maxSize 4000
set_option synthInstance.maxHeartbeats 1000000
section
set_option maxHeartbeats 2000000
set_option maxRecDepth 100000
open Go.RowKit
theorem Vq : Body Tryz.prog 43 := AB (by kernel_rfl)
theorem bd_45 : Body Tryz.prog 45 := AB (by kernel_rfl)
theorem bd_46 : Body Tryz.prog 46 := AB (by kernel_rfl)
theorem bd_48 : Body Tryz.prog 48 := AB (by kernel_rfl)
theorem bt_117 : BuildT Tryz.prog 117 [.int .i64 0, .bool false] [(0, 1), (1, 1)] := BG Jh (by kernel_rfl) (by decide)
theorem el_117 : ElemT Tryz.prog 117 2 16 (.agg #[.int .i64 0, .bool false]) := Dx (by kernel_rfl) rfl (by decide)
theorem RI : FieldT Tryz.prog 42 0 0 := AU (by kernel_rfl)
instance : FieldI Tryz.prog 42 0 0 := ⟨RI⟩
instance : FieldI Tryz.prog 42 1 1 := ⟨AU (by kernel_rfl)⟩
theorem RG : FieldT Tryz.prog 42 2 2 := AU (by kernel_rfl)
instance : FieldI Tryz.prog 42 2 2 := ⟨RG⟩
theorem HM : FieldT Tryz.prog 42 3 3 := AU (by kernel_rfl)
instance : FieldI Tryz.prog 42 3 3 := ⟨HM⟩
theorem D5 : OneT Tryz.prog 40 := BA (by kernel_rfl)
instance : OneI Tryz.prog 40 := ⟨D5⟩
theorem sz_45 : SizeT Tryz.prog 45 1 := B1 (by kernel_rfl)
theorem T6 {F : Heap} {vf vp : Value} {p : Prs} (hr : PrsR F vf vp p) (h0 : (checkF p).2.2 = 0) {u0 u1 u2 u3 : Value} {xm xz xh xl : List Nat} (hu0 : Sl F u0 1 u16F xm) (hu0b : ∀ x ∈ xm, x < 65536) (hu1 : Sl F u1 1 u16F xz) (hu1b : ∀ x ∈ xz, x < 65536) (hu2 : Sl F u2 1 u16F xh) (hu2b : ∀ x ∈ xh, x < 65536) (hu3 : Sl F u3 1 u16F xl) (hu3b : ∀ x ∈ xl, x < 65536) : Ok Tryz.prog 8 [prsV vf vp p, .agg #[u0, u1, u2, u3], .int .u8 0].toArray F fun u F' => ∃ vm b m, u = .tuple #[bokV vm b, mkV m] ∧ Sl F' vm 2 Mrk.enc b.marks ∧ ToldF p m b := by
 have hle0 : F.le F := Heap.le_refl _
 have hv := Di h0
 have hvt := hv.trim
 have htz : ∀ n, turnF xz n < 65536 := fun n => KG (by decide) hu1b
 have htl : ∀ n, turnF xl n < 65536 := fun n => KG (by decide) hu3b
 have hL1 := hr.formats.plain.lt
 have hL2 := hr.papers.plain.lt
 refine Ok.intro Tryz.func8 rfl Tryz.ntmps8 rfl fun w0 => Ac <| Aj fun ds => A5 rfl <| AX Aa rfl fun b1 hb1 nb1 => A5 rfl <| AX Aa rfl fun b2 hb2 nb2 => A5 rfl <| AF FZ rfl fun b3 hb3 nb3 => A5 rfl <| AF Ee rfl fun b4 hb4 nb4 => Al <| Ab <| AN (i := 3) rfl hb1 (.next <| .next <| .next <| .here) fun F5 hF6 hz3 => ?_
 replace hr := hr.mono hF6
 replace hu0 := hu0.mono hF6
 replace hu1 := hu1.mono hF6
 replace hu2 := hu2.mono hF6
 replace hu3 := hu3.mono hF6
 replace hle0 := Heap.le_trans hle0 hF6
 refine AN (i := 2) rfl hb2 (.next <| .next <| .here) fun F7 hF8 hz4 => ?_
 replace hr := hr.mono hF8
 replace hu0 := hu0.mono hF8
 replace hu1 := hu1.mono hF8
 replace hu2 := hu2.mono hF8
 replace hu3 := hu3.mono hF8
 replace hle0 := Heap.le_trans hle0 hF8
 replace hz3 := hF8 _ _ hz3
 refine Ac ?_
 have hGG : Heap.le F7 F7 := Heap.le_refl _
 refine BH [8, 17, 18, 19, 20, 21] (fun st σ => ∃ (G : Heap) (m : Mk) (p8 : Nat), F.le G ∧ F7.le G ∧ MkOk p m ∧ Fct st 8 (.pointer (some ⟨p8, 0, none⟩)) ∧ σ = ⟨G, (p8, bx 49 [.int .i64 m.fmt, .int .i64 m.ppr, .int .i64 m.sheets, .bool m.half]) :: (b4, bx 49 [.int .i64 0, .int .i64 0, .int .i64 0, .bool false]) :: (b3, bx 47 [.int .i64 0, .int .i64 0, .int .i64 0, .int .i64 0, .int .i64 0, .int .i64 0, .slice none 0 0]) :: []⟩) ?_ ?_
 ·have hleS := hle0
  refine Bf (.inl rfl) (fun _ _ h => h) (kK <| kK <| .refl _) [4, 6] (by kernel_rfl) fun ds => Af 0 rfl (by kernel_rfl) (by kernel_rfl) (by kernel_rfl) (by kernel_rfl) rfl rfl (fun _ h => h.drop (kK <| kK <| .refl _)) (fun _ _ _ h => h) (A6 Cq Aa rfl rfl (AK hz3)) <| Af 1 rfl (by kernel_rfl) (by kernel_rfl) (by kernel_rfl) (by kernel_rfl) rfl rfl (fun _ h => h.drop (kK <| kK <| .refl _)) (fun _ _ _ h => h) (Az RI Aa) <| Af 2 rfl (by kernel_rfl) (by kernel_rfl) (by kernel_rfl) (by kernel_rfl) rfl rfl (fun _ h => h.drop (kK <| kK <| .refl _)) (fun _ _ _ h => h) (Ap D5 Aa (AP hz4 rfl)) ?_
  refine BX [3, 5] (by kernel_rfl) (by decide) (Li ?_ ?_)
  ·refine By rfl rfl (AI (As CL Aa AO (B6 hu0 hu0b (n := 0) rfl) (fun _ _ h => h)) ⟨fun _ _ => (fun _ h => h.drop (kK <| kK <| .refl _)), ?_⟩)
   refine BX [4, 5] (by kernel_rfl) (by decide) (Li ?_ ?_)
   ·refine By rfl rfl (Bb Vq Aa AO (Lc hr h0 (Int.natCast_nonneg _)) fun v9 F10 hr11 hF12 => ⟨(fun h => nomatch h), ?_⟩)
    replace hle0 := Heap.le_trans hle0 hF12
    replace hGG := Heap.le_trans hGG hF12
    obtain ⟨m, rfl, hok⟩ := hr11
    refine Bl 5 rfl (by kernel_rfl) rfl (AF Ee rfl fun b13 hb13 nb13 => ⟨(fun _ => Qu (by kernel_rfl)), ?_⟩)
    refine Bt 6 rfl (by kernel_rfl) (AC Fe Aa Aa (i := 0) rfl rfl rfl rfl (Mk.enc_one (b := m)) (.here) ⟨(fun h => nomatch h), ?_⟩)
    refine CB (.cons (.here) <| .cons (.here) <| .cons (.here) <| .nil) ?_
    refine AY (by kernel_rfl) ?_ _
    refine Ab ⟨_, Off.eq (BI rfl <| BF rfl <| AT), ?_⟩
    exact ⟨_, m, _, hle0, hGG, hok, Ba, rfl⟩
   refine By rfl rfl (AF Ee rfl fun b14 hb14 nb14 => ⟨fun _ _ => (fun _ h => h.drop (kD <| kK <| kK <| .refl _)), ?_⟩)
   refine Bl 4 rfl (by kernel_rfl) rfl (Bb Vq Aa AO (Lc hr h0 (Int.natCast_nonneg _)) fun v15 F16 hr17 hF18 => ⟨(fun h => nomatch h), ?_⟩)
   replace hle0 := Heap.le_trans hle0 hF18
   replace hGG := Heap.le_trans hGG hF18
   obtain ⟨m, rfl, hok⟩ := hr17
   refine Bt 6 rfl (by kernel_rfl) (AC Fe Aa Aa (i := 0) rfl rfl rfl rfl (Mk.enc_one (b := m)) (.here) ⟨(fun h => nomatch h), ?_⟩)
   refine CB (.cons (.here) <| .cons (.here) <| .cons (.here) <| .nil) ?_
   refine AY (by kernel_rfl) ?_ _
   refine Ab ⟨_, Off.eq (BI rfl <| BF rfl <| AT), ?_⟩
   exact ⟨_, m, _, hle0, hGG, hok, Ba, rfl⟩
  refine By rfl rfl (AF Ee rfl fun b19 hb19 nb19 => ⟨fun _ _ => (fun _ h => h.drop (kD <| kK <| kK <| .refl _)), ?_⟩)
  refine Bl 3 rfl (by kernel_rfl) rfl (AI (As CL Aa AO (B6 hu0 hu0b (n := 0) rfl) (fun _ _ h => h)) ⟨fun _ _ => (fun _ h => h.drop (kD <| kK <| kK <| .refl _)), ?_⟩)
  refine Bl 4 rfl (by kernel_rfl) rfl (Bb Vq Aa AO (Lc hr h0 (Int.natCast_nonneg _)) fun v20 F21 hr22 hF23 => ⟨(fun h => nomatch h), ?_⟩)
  replace hle0 := Heap.le_trans hle0 hF23
  replace hGG := Heap.le_trans hGG hF23
  obtain ⟨m, rfl, hok⟩ := hr22
  refine Bt 6 rfl (by kernel_rfl) (AC Fe Aa Aa (i := 0) rfl rfl rfl rfl (Mk.enc_one (b := m)) (.here) ⟨(fun h => nomatch h), ?_⟩)
  refine CB (.cons (.here) <| .cons (.here) <| .cons (.here) <| .nil) ?_
  refine AY (by kernel_rfl) ?_ _
  refine Ab ⟨_, Off.eq (BI rfl <| BF rfl <| AT), ?_⟩
  exact ⟨_, m, _, hle0, hGG, hok, Ba, rfl⟩
 rintro e1 _ ⟨G1, m, p8, hle0, hGG, hok, hc8, rfl⟩; replace hr := hr.mono hGG; replace hu0 := hu0.mono hGG; replace hu1 := hu1.mono hGG; replace hu2 := hu2.mono hGG; replace hu3 := hu3.mono hGG; replace hz3 := hGG _ _ hz3; replace hz4 := hGG _ _ hz4
 refine QT (i := 0) rfl rfl (.here) fun F24 hF25 hz8 => ?_
 replace hr := hr.mono hF25
 replace hu1 := hu1.mono hF25
 replace hu2 := hu2.mono hF25
 replace hu3 := hu3.mono hF25
 replace hle0 := Heap.le_trans hle0 hF25
 replace hz3 := hF25 _ _ hz3
 replace hz4 := hF25 _ _ hz4
 have hfi := hok.fmt
 have hpi := hok.ppr
 have hk : m.fmt.toNat < p.formats.length := by omega
 have hkp : m.ppr.toNat < p.papers.length := by omega
 have hfm := hv.fm (i := m.fmt.toNat) hk
 rw [← Fo hk] at hfm
 have hpe : p.papers[m.ppr.toNat] = p.pap m := Ox hkp
 have hpv := hv.pp hkp
 rw [← Ox hkp] at hpv
 have hcb : 1 ≤ colN p m ∧ colN p m ≤ 16 := BT (s := p.fold m) (c := 120) (hok.fold hv).1.2
 have hrb : 1 ≤ rowN p m ∧ rowN p m ≤ 16 := BT (s := p.fold m) (c := 121) (hok.fold hv).1.2
 have hfe : p.formats[m.fmt.toNat].folds.toList = p.fold m := by rw [Fo hk]; rfl
 have hll := hok.len hv
 have hwb : (0 ≤ (wideP p m).2 ∧ (wideP p m).2 ≤ 2000) ∧ 0 ≤ (highP p m).2 ∧ (highP p m).2 ≤ 2000 := by
    rw [hpe] at hpv
    have q1 := MH (a := (p.pap m).whi) (c := (colN p m : Int)) (by omega) (by omega)
    have q2 := MH (a := (p.pap m).hhi) (c := (rowN p m : Int)) (by omega) (by omega)
    unfold wideP highP
    cases upB (p.fold m) with
    | true => exact ⟨q1, q2⟩
    | false => exact ⟨q2, q1⟩
 have hwl : 0 ≤ (wideP p m).1 ∧ 0 ≤ (highP p m).1 := by
    rw [hpe] at hpv
    have q1 := MH (a := (p.pap m).wlo) (c := (colN p m : Int)) (by omega) (by omega)
    have q2 := MH (a := (p.pap m).hlo) (c := (rowN p m : Int)) (by omega) (by omega)
    unfold wideP highP
    cases upB (p.fold m) with
    | true => exact ⟨q1.1, q2.1⟩
    | false => exact ⟨q2.1, q1.1⟩
 have hA := PC (lo := p.papers[m.ppr.toNat].wlo) (hi := p.papers[m.ppr.toNat].whi) (n := (turnF xz 0 : Int)) (by omega)
 have hB := PC (lo := p.papers[m.ppr.toNat].hlo) (hi := p.papers[m.ppr.toNat].hhi) (n := (turnF xz 1 : Int)) (by omega)
 refine Ax (Ag 1) fun ds => Ad rfl (Ap DQ Aa (AP hz3 rfl)) <| Ao (Ag 1) <| Ad rfl (Ap AM Aa (AP hz8 rfl)) <| Ad rfl (A1 (k := m.ppr.toNat) Cx Aa hr.papers.plain Aa (by omega) hkp) <| Ad rfl (A6 (vs := (Ppr.enc p.papers[m.ppr.toNat])) JA Aa rfl rfl (hr.papers.whole hkp)) <| A5 rfl <| AF JD rfl fun b26 hb26 nb26 => AZ <| AC Mn Aa Aa (i := 0) rfl rfl rfl rfl Ppr.enc_one (.here) <| Al <| Ab <| Ac <| AN (i := 0) rfl hb26 (.here) fun F27 hF28 hz9 => ?_
 replace hr := hr.mono hF28
 replace hu1 := hu1.mono hF28
 replace hu2 := hu2.mono hF28
 replace hu3 := hu3.mono hF28
 replace hle0 := Heap.le_trans hle0 hF28
 replace hz3 := hF28 _ _ hz3
 replace hz4 := hF28 _ _ hz4
 replace hz8 := hF28 _ _ hz8
 refine BH [10, 11, 28, 29, 30, 31, 32, 33, 34, 35, 36, 37, 38, 39, 40, 41, 42, 43, 44, 45] (fun st σ => ∃ X Y : Int, Fct st 10 (.int .i64 X) ∧ Fct st 11 (.int .i64 Y) ∧ ((wideP p m).1 ≤ X ∧ X ≤ (wideP p m).2) ∧ ((highP p m).1 ≤ Y ∧ Y ≤ (highP p m).2) ∧ σ = ⟨F27, (b4, bx 49 [.int .i64 0, .int .i64 0, .int .i64 0, .bool false]) :: (b3, bx 47 [.int .i64 0, .int .i64 0, .int .i64 0, .int .i64 0, .int .i64 0, .int .i64 0, .slice none 0 0]) :: []⟩) ?_ ?_
 ·have hsz := size_in (p := p) (m := m) hcb.1 hrb.1 (hpe ▸ hA) (hpe ▸ hB)
  refine B9 (.inl rfl) (fun _ _ h => h) (by kernel_rfl) (by kernel_rfl) fun ds => Bh rfl (A6 Cq Aa rfl rfl (AK hz3)) <| Bh rfl (A6 BD Aa rfl rfl (AK hz8)) <| Bu (Ag 1) <| Bh rfl (A6 (vs := [.int .i64 p.papers[m.ppr.toNat].wlo, .int .i64 p.papers[m.ppr.toNat].whi]) BP Aa rfl rfl (Ca hz9 (n := 2) rfl)) <| Bu (Ag 1) <| Bh rfl (Ap D5 Aa (AP hz4 rfl)) <| E2 rfl (As CL Aa AO (B6 hu1 hu1b (n := 0) rfl) (fun _ _ h => h)) <| E2 rfl (As bd_46 Aa AO (PB (by omega) (by have := htz 0; exact ⟨Int.natCast_nonneg _, by omega⟩)) (fun _ _ h => h)) <| Bu (Ag 1) <| Bh rfl (A6 (vs := [.int .i64 p.papers[m.ppr.toNat].hlo, .int .i64 p.papers[m.ppr.toNat].hhi]) BP Aa rfl rfl (Ca hz9 (n := 2) rfl)) <| Bu (Ag 1) <| Bh rfl (Ap D5 Aa (AP hz4 rfl)) <| E2 rfl (As CL Aa AO (B6 hu1 hu1b (n := 1) rfl) (fun _ _ h => h)) <| E2 rfl (As bd_46 Aa AO (PB (by omega) (by have := htz 1; exact ⟨Int.natCast_nonneg _, by omega⟩)) (fun _ _ h => h)) <| E2 rfl (As bd_45 Aa AO (TF hr hv hok (by omega) (by omega)) (fun _ _ h => h)) <| Bu (Ag 5) <| BS ?_
  refine Ab ⟨_, Off.eq (Bx rfl <| BI rfl <| AT), ?_⟩
  exact ⟨_, _, Ba, Ba, by rw [hpe]; exact hsz.1, by rw [hpe]; exact hsz.2, rfl⟩
 rintro e3 _ ⟨X, Y, hg10, hg11, hX, hY, rfl⟩
 refine Ac <| BH [10, 46, 47, 48, 49, 50, 51, 52, 53, 54, 55] (fun st σ => ∃ x : Int, Fct st 10 (.int .i64 x) ∧ ((wideP p m).1 - p.trim ≤ x ∧ (0 ≤ x ∧ x ≤ 2000) ∧ x ≤ (wideP p m).2) ∧ σ = ⟨F27, (b4, bx 49 [.int .i64 0, .int .i64 0, .int .i64 0, .bool false]) :: (b3, bx 47 [.int .i64 0, .int .i64 0, .int .i64 0, .int .i64 0, .int .i64 0, .int .i64 0, .slice none 0 0]) :: []⟩) ?_ ?_
 ·have hm1 := Int.emod_nonneg (turnF xz 2 : Int) (b := p.trim + 1) (by omega)
  have hm2 := Int.emod_lt_of_pos (turnF xz 2 : Int) (b := p.trim + 1) (by omega)
  have htr := QX (T := (turnF xz 2 : Int)) (t := p.trim) hX hwb.1.1 hwb.1.2 hvt.1
  refine B9 (.inl rfl) (fun _ _ h => h) (by kernel_rfl) (by kernel_rfl) fun ds => Bu (Ag 2) <| Bh rfl (Ap D5 Aa (AP hz4 rfl)) <| E2 rfl (As CL Aa AO (B6 hu1 hu1b (n := 2) rfl) (fun _ _ h => h)) <| Bu (Ag 1) <| Bh rfl (Ap AM Aa (AP hz3 rfl)) <| Bh rfl (AJ Aa Aa rfl (by omega) (by omega)) <| Bh rfl (Cf Aa Aa (Int.natCast_nonneg _) (by omega)) <| Bh rfl (Br Aa Aa rfl (by omega) (by omega)) <| Bu (Ag 2) <| BS ?_
  refine Ab ⟨_, Off.eq (Ci rfl <| BF rfl <| BQ rfl <| AT), ?_⟩
  exact ⟨_, Ba, htr, rfl⟩
 rintro e4 _ ⟨x, hx10, hxP, rfl⟩
 refine Ac <| BH [11, 56, 57, 58, 59, 60, 61, 62, 63, 64, 65, 66] (fun st σ => ∃ y : Int, Fct st 11 (.int .i64 y) ∧ ((highP p m).1 - 2 * p.trim ≤ y ∧ (0 ≤ y ∧ y ≤ 2000) ∧ y ≤ (highP p m).2) ∧ σ = ⟨F27, (b4, bx 49 [.int .i64 0, .int .i64 0, .int .i64 0, .bool false]) :: (b3, bx 47 [.int .i64 0, .int .i64 0, .int .i64 0, .int .i64 0, .int .i64 0, .int .i64 0, .slice none 0 0]) :: []⟩) ?_ ?_
 ·have hm1 := Int.emod_nonneg (turnF xz 3 : Int) (b := 2 * p.trim + 1) (by omega)
  have hm2 := Int.emod_lt_of_pos (turnF xz 3 : Int) (b := 2 * p.trim + 1) (by omega)
  have htr := QX (T := (turnF xz 3 : Int)) (t := 2 * p.trim) hY hwb.2.1 hwb.2.2 (by omega)
  refine B9 (.inl rfl) (fun _ _ h => h) (by kernel_rfl) (by kernel_rfl) fun ds => Bu (Ag 2) <| Bh rfl (Ap D5 Aa (AP hz4 rfl)) <| E2 rfl (As CL Aa AO (B6 hu1 hu1b (n := 3) rfl) (fun _ _ h => h)) <| Bu (Ag 1) <| Bh rfl (Ap AM Aa (AP hz3 rfl)) <| Bh rfl (BM Aa Aa rfl (by omega) (by omega)) <| Bh rfl (AJ Aa Aa rfl (by omega) (by omega)) <| Bh rfl (Cf Aa Aa (Int.natCast_nonneg _) (by omega)) <| Bh rfl (Br Aa Aa rfl (by omega) (by omega)) <| Bu (Ag 2) <| BS ?_
  refine Ab ⟨_, Off.eq (Ci rfl <| BI rfl <| AT), ?_⟩
  exact ⟨_, Ba, htr, rfl⟩
 rintro e5 _ ⟨y, hy11, hyP, rfl⟩
 refine Ac <| Aj fun ds => Ad rfl (A6 Cq Aa rfl rfl (AK hz3)) <| Ad rfl (A6 BD Aa rfl rfl (AK hz8)) <| A5 rfl <| Bb bd_47 Aa AO (Sj hr hv hok) fun v29 F30 hr31 hF32 => ?_
 replace hr := hr.mono hF32
 replace hu2 := hu2.mono hF32
 replace hu3 := hu3.mono hF32
 replace hle0 := Heap.le_trans hle0 hF32
 replace hz3 := hF32 _ _ hz3
 replace hz4 := hF32 _ _ hz4
 replace hz8 := hF32 _ _ hz8
 have hal := hr31
 refine Aw (Ag 1) <| Ac ?_
 have hm1 : 0 ≤ (turnF xl 0 : Int) % 9 ∧ (turnF xl 0 : Int) % 9 < 9 := by omega
 have hm2 : 0 ≤ (turnF xl 1 : Int) % 9 ∧ (turnF xl 1 : Int) % 9 < 9 := by omega
 have hm3 : 0 ≤ (turnF xl 2 : Int) % 9 ∧ (turnF xl 2 : Int) % 9 < 9 := by omega
 have hm4 : 0 ≤ (turnF xl 3 : Int) % 9 ∧ (turnF xl 3 : Int) % 9 < 9 := by omega
 refine BH [13, 70, 71, 72, 73, 74, 75, 76, 77, 78, 79, 80, 81, 82, 83, 84, 85, 86, 87, 88, 89, 90, 91, 92, 93, 94, 95, 96, 97, 98, 99, 100, 101, 102] (fun st σ => ∃ (p13 : Nat) (k1 k2 k3 k4 : Int), (0 ≤ k1 ∧ 0 ≤ k2 ∧ 0 ≤ k3 ∧ 0 ≤ k4) ∧ Fct st 13 (.pointer (some ⟨p13, 0, none⟩)) ∧ σ = ⟨F30, (p13, bx 47 [.int .i64 ((leavesP p m).length : Int), .int .i64 0, .int .i64 (max 0 (x - k1)), .int .i64 (min 2000 (x + k2)), .int .i64 (max 0 (y - k3)), .int .i64 (min 2000 (y + k4)), .slice none 0 0]) :: (b4, bx 49 [.int .i64 0, .int .i64 0, .int .i64 0, .bool false]) :: (b3, bx 47 [.int .i64 0, .int .i64 0, .int .i64 0, .int .i64 0, .int .i64 0, .int .i64 0, .slice none 0 0]) :: []⟩) ?_ ?_
 ·have hleS := hle0
  refine Bf (.inl rfl) (fun _ _ h => h) (kK <| kK <| .refl _) [34] (by kernel_rfl) fun ds => Af 0 rfl (by kernel_rfl) (by kernel_rfl) (by kernel_rfl) (by kernel_rfl) rfl rfl (fun _ h => h.drop (kK <| kK <| .refl _)) (fun _ _ _ h => h) (A0 Aa) <| Af 1 rfl (by kernel_rfl) (by kernel_rfl) (by kernel_rfl) (by kernel_rfl) rfl rfl (fun _ h => h.drop (kK <| kK <| .refl _)) (fun _ _ _ h => h) (AA Bz Aa hal.plain) <| Af 2 rfl (by kernel_rfl) (by kernel_rfl) (by kernel_rfl) (by kernel_rfl) rfl rfl (fun _ h => h.drop (kK <| kK <| .refl _)) (fun _ _ _ h => h) (A0 Aa) <| Af 3 rfl (by kernel_rfl) (by kernel_rfl) (by kernel_rfl) (by kernel_rfl) rfl rfl (fun _ h => h.drop (kK <| kK <| .refl _)) (fun _ _ _ h => h) (Az HM Aa) <| Af 4 rfl (by kernel_rfl) (by kernel_rfl) (by kernel_rfl) (by kernel_rfl) rfl rfl (fun _ h => h.drop (kK <| kK <| .refl _)) (fun _ _ _ h => h) (Ap D5 Aa (AP hz4 rfl)) <| Af 9 rfl (by kernel_rfl) (by kernel_rfl) (by kernel_rfl) (by kernel_rfl) rfl rfl (fun _ h => h.drop (kK <| kK <| .refl _)) (fun _ _ _ h => h) (A0 Aa) <| Af 10 rfl (by kernel_rfl) (by kernel_rfl) (by kernel_rfl) (by kernel_rfl) rfl rfl (fun _ h => h.drop (kK <| kK <| .refl _)) (fun _ _ _ h => h) (Az HM Aa) <| Af 11 rfl (by kernel_rfl) (by kernel_rfl) (by kernel_rfl) (by kernel_rfl) rfl rfl (fun _ h => h.drop (kK <| kK <| .refl _)) (fun _ _ _ h => h) (Ap D5 Aa (AP hz4 rfl)) ?_
  refine Af 17 rfl (by kernel_rfl) (by kernel_rfl) (by kernel_rfl) (by kernel_rfl) rfl rfl (fun _ h => h.drop (kK <| kK <| .refl _)) (fun _ _ _ h => h) (A0 Aa) <| Af 18 rfl (by kernel_rfl) (by kernel_rfl) (by kernel_rfl) (by kernel_rfl) rfl rfl (fun _ h => h.drop (kK <| kK <| .refl _)) (fun _ _ _ h => h) (Az HM Aa) <| Af 19 rfl (by kernel_rfl) (by kernel_rfl) (by kernel_rfl) (by kernel_rfl) rfl rfl (fun _ h => h.drop (kK <| kK <| .refl _)) (fun _ _ _ h => h) (Ap D5 Aa (AP hz4 rfl)) <| Af 24 rfl (by kernel_rfl) (by kernel_rfl) (by kernel_rfl) (by kernel_rfl) rfl rfl (fun _ h => h.drop (kK <| kK <| .refl _)) (fun _ _ _ h => h) (A0 Aa) <| Af 25 rfl (by kernel_rfl) (by kernel_rfl) (by kernel_rfl) (by kernel_rfl) rfl rfl (fun _ h => h.drop (kK <| kK <| .refl _)) (fun _ _ _ h => h) (Az HM Aa) <| Af 26 rfl (by kernel_rfl) (by kernel_rfl) (by kernel_rfl) (by kernel_rfl) rfl rfl (fun _ h => h.drop (kK <| kK <| .refl _)) (fun _ _ _ h => h) (Ap D5 Aa (AP hz4 rfl)) ?_
  refine BX [5, 33] (by kernel_rfl) (by decide) (Li ?_ ?_)
  ·refine By rfl rfl (AI (As CL Aa AO (B6 hu3 hu3b (n := 0) rfl) (fun _ _ h => h)) ⟨fun _ _ => (fun _ h => h.drop (kK <| kK <| .refl _)), ?_⟩)
   refine Af 6 rfl (by kernel_rfl) (by kernel_rfl) (by kernel_rfl) (by kernel_rfl) rfl rfl (fun _ h => h.drop (kK <| kK <| .refl _)) (fun _ _ _ h => h) (Cf Aa Aa (Int.natCast_nonneg _) (by decide)) <| Af 7 rfl (by kernel_rfl) (by kernel_rfl) (by kernel_rfl) (by kernel_rfl) rfl rfl (fun _ h => h.drop (kK <| kK <| .refl _)) (fun _ _ _ h => h) (Br Aa Aa rfl (by omega) (by omega)) <| Af 8 rfl (by kernel_rfl) (by kernel_rfl) (by kernel_rfl) (by kernel_rfl) rfl rfl (fun _ h => h.drop (kK <| kK <| .refl _)) (fun _ _ _ h => h) (Gh Aa Aa) ?_
   refine BX [12, 33] (by kernel_rfl) (by decide) (Li ?_ ?_)
   ·refine By rfl rfl (AI (As CL Aa AO (B6 hu3 hu3b (n := 1) rfl) (fun _ _ h => h)) ⟨fun _ _ => (fun _ h => h.drop (kK <| kK <| .refl _)), ?_⟩)
    refine Af 13 rfl (by kernel_rfl) (by kernel_rfl) (by kernel_rfl) (by kernel_rfl) rfl rfl (fun _ h => h.drop (kK <| kK <| .refl _)) (fun _ _ _ h => h) (Cf Aa Aa (Int.natCast_nonneg _) (by decide)) <| Af 14 rfl (by kernel_rfl) (by kernel_rfl) (by kernel_rfl) (by kernel_rfl) rfl rfl (fun _ h => h.drop (kK <| kK <| .refl _)) (fun _ _ _ h => h) (AJ Aa Aa rfl (by omega) (by omega)) <| Af 15 rfl (by kernel_rfl) (by kernel_rfl) (by kernel_rfl) (by kernel_rfl) rfl rfl (fun _ h => h.drop (kK <| kK <| .refl _)) (fun _ _ _ h => h) (EX Aa Aa) ?_
    refine BX [16, 33] (by kernel_rfl) (by decide) (Li ?_ ?_)
    ·refine By rfl rfl (AI (As En Aa AO (Cj _ _) (fun _ _ h => h)) ⟨fun _ _ => (fun _ h => h.drop (kK <| kK <| .refl _)), ?_⟩)
     refine BX [20, 33] (by kernel_rfl) (by decide) (Li ?_ ?_)
     ·refine By rfl rfl (AI (As CL Aa AO (B6 hu3 hu3b (n := 2) rfl) (fun _ _ h => h)) ⟨fun _ _ => (fun _ h => h.drop (kK <| kK <| .refl _)), ?_⟩)
      refine Af 21 rfl (by kernel_rfl) (by kernel_rfl) (by kernel_rfl) (by kernel_rfl) rfl rfl (fun _ h => h.drop (kK <| kK <| .refl _)) (fun _ _ _ h => h) (Cf Aa Aa (Int.natCast_nonneg _) (by decide)) <| Af 22 rfl (by kernel_rfl) (by kernel_rfl) (by kernel_rfl) (by kernel_rfl) rfl rfl (fun _ h => h.drop (kK <| kK <| .refl _)) (fun _ _ _ h => h) (Br Aa Aa rfl (by omega) (by omega)) <| Af 23 rfl (by kernel_rfl) (by kernel_rfl) (by kernel_rfl) (by kernel_rfl) rfl rfl (fun _ h => h.drop (kK <| kK <| .refl _)) (fun _ _ _ h => h) (Gh Aa Aa) ?_
      refine BX [27, 33] (by kernel_rfl) (by decide) (Li ?_ ?_)
      ·refine By rfl rfl (AI (As CL Aa AO (B6 hu3 hu3b (n := 3) rfl) (fun _ _ h => h)) ⟨fun _ _ => (fun _ h => h.drop (kK <| kK <| .refl _)), ?_⟩)
       refine Af 28 rfl (by kernel_rfl) (by kernel_rfl) (by kernel_rfl) (by kernel_rfl) rfl rfl (fun _ h => h.drop (kK <| kK <| .refl _)) (fun _ _ _ h => h) (Cf Aa Aa (Int.natCast_nonneg _) (by decide)) <| Af 29 rfl (by kernel_rfl) (by kernel_rfl) (by kernel_rfl) (by kernel_rfl) rfl rfl (fun _ h => h.drop (kK <| kK <| .refl _)) (fun _ _ _ h => h) (AJ Aa Aa rfl (by omega) (by omega)) <| Af 30 rfl (by kernel_rfl) (by kernel_rfl) (by kernel_rfl) (by kernel_rfl) rfl rfl (fun _ h => h.drop (kK <| kK <| .refl _)) (fun _ _ _ h => h) (EX Aa Aa) ?_
       refine BX [31, 33] (by kernel_rfl) (by decide) (Li ?_ ?_)
       ·refine By rfl rfl (AI (As En Aa AO (Cj _ _) (fun _ _ h => h)) ⟨fun _ _ => (fun _ h => h.drop (kK <| kK <| .refl _)), ?_⟩)
        refine Af 32 rfl (by kernel_rfl) (by kernel_rfl) (by kernel_rfl) (by kernel_rfl) rfl rfl (fun _ h => h.drop (kK <| kK <| .refl _)) (fun _ _ _ h => h) (Bg HW (.cons Aa rfl (.cons Aa rfl (.cons Aa rfl .nil))) (.cons rfl rfl (Nat.le_of_ble_eq_true rfl) (.cons (.here) .nil) (.cons rfl rfl (Nat.le_of_ble_eq_true rfl) (.cons (.next <| .next <| .here) (.cons (.next <| .next <| .next <| .here) .nil)) (.cons rfl rfl (Nat.le_of_ble_eq_true rfl) (.cons (.next <| .next <| .next <| .next <| .here) (.cons (.next <| .next <| .next <| .next <| .next <| .here) .nil)) .nil)))) ?_
        refine Bl 33 rfl (by kernel_rfl) rfl (AF FZ rfl fun b33 hb33 nb33 => ⟨fun _ _ => (fun _ h => h.drop (kD <| kK <| kK <| .refl _)), ?_⟩)
        refine Bt 34 rfl (by kernel_rfl) (AC GT Aa Aa (i := 0) rfl rfl rfl rfl (by simp [Value.oneCell']) (.here) ⟨(fun h => nomatch h), ?_⟩)
        refine CB (.cons (.here) <| .cons (.here) <| .cons (.here) <| .nil) ?_
        refine AY (by kernel_rfl) ?_ _
        refine Ab ⟨_, Off.eq (DG rfl <| BF rfl <| AT), ?_⟩
        exact ⟨_, _, _, _, _, ⟨hm1.1, hm2.1, hm3.1, hm4.1⟩, Ba, rfl⟩
       refine By rfl rfl (AF FZ rfl fun b34 hb34 nb34 => ⟨fun _ _ => (fun _ h => h.drop (kD <| kK <| kK <| .refl _)), ?_⟩)
       refine Bl 31 rfl (by kernel_rfl) rfl (AI (As En Aa AO (Cj _ _) (fun _ _ h => h)) ⟨fun _ _ => (fun _ h => h.drop (kD <| kK <| kK <| .refl _)), ?_⟩)
       refine Af 32 rfl (by kernel_rfl) (by kernel_rfl) (by kernel_rfl) (by kernel_rfl) rfl rfl (fun _ h => h.drop (kD <| kK <| kK <| .refl _)) (fun _ _ _ h => h) (Bg HW (.cons Aa rfl (.cons Aa rfl (.cons Aa rfl .nil))) (.cons rfl rfl (Nat.le_of_ble_eq_true rfl) (.cons (.here) .nil) (.cons rfl rfl (Nat.le_of_ble_eq_true rfl) (.cons (.next <| .next <| .here) (.cons (.next <| .next <| .next <| .here) .nil)) (.cons rfl rfl (Nat.le_of_ble_eq_true rfl) (.cons (.next <| .next <| .next <| .next <| .here) (.cons (.next <| .next <| .next <| .next <| .next <| .here) .nil)) .nil)))) ?_
       refine Bt 34 rfl (by kernel_rfl) (AC GT Aa Aa (i := 0) rfl rfl rfl rfl (by simp [Value.oneCell']) (.here) ⟨(fun h => nomatch h), ?_⟩)
       refine CB (.cons (.here) <| .cons (.here) <| .cons (.here) <| .nil) ?_
       refine AY (by kernel_rfl) ?_ _
       refine Ab ⟨_, Off.eq (DG rfl <| BF rfl <| AT), ?_⟩
       exact ⟨_, _, _, _, _, ⟨hm1.1, hm2.1, hm3.1, hm4.1⟩, Ba, rfl⟩
      refine By rfl rfl (AF FZ rfl fun b35 hb35 nb35 => ⟨fun _ _ => (fun _ h => h.drop (kD <| kK <| kK <| .refl _)), ?_⟩)
      refine Bl 27 rfl (by kernel_rfl) rfl (AI (As CL Aa AO (B6 hu3 hu3b (n := 3) rfl) (fun _ _ h => h)) ⟨fun _ _ => (fun _ h => h.drop (kD <| kK <| kK <| .refl _)), ?_⟩)
      refine Af 28 rfl (by kernel_rfl) (by kernel_rfl) (by kernel_rfl) (by kernel_rfl) rfl rfl (fun _ h => h.drop (kD <| kK <| kK <| .refl _)) (fun _ _ _ h => h) (Cf Aa Aa (Int.natCast_nonneg _) (by decide)) <| Af 29 rfl (by kernel_rfl) (by kernel_rfl) (by kernel_rfl) (by kernel_rfl) rfl rfl (fun _ h => h.drop (kD <| kK <| kK <| .refl _)) (fun _ _ _ h => h) (AJ Aa Aa rfl (by omega) (by omega)) <| Af 30 rfl (by kernel_rfl) (by kernel_rfl) (by kernel_rfl) (by kernel_rfl) rfl rfl (fun _ h => h.drop (kD <| kK <| kK <| .refl _)) (fun _ _ _ h => h) (EX Aa Aa) ?_
      refine Bl 31 rfl (by kernel_rfl) rfl (AI (As En Aa AO (Cj _ _) (fun _ _ h => h)) ⟨fun _ _ => (fun _ h => h.drop (kD <| kK <| kK <| .refl _)), ?_⟩)
      refine Af 32 rfl (by kernel_rfl) (by kernel_rfl) (by kernel_rfl) (by kernel_rfl) rfl rfl (fun _ h => h.drop (kD <| kK <| kK <| .refl _)) (fun _ _ _ h => h) (Bg HW (.cons Aa rfl (.cons Aa rfl (.cons Aa rfl .nil))) (.cons rfl rfl (Nat.le_of_ble_eq_true rfl) (.cons (.here) .nil) (.cons rfl rfl (Nat.le_of_ble_eq_true rfl) (.cons (.next <| .next <| .here) (.cons (.next <| .next <| .next <| .here) .nil)) (.cons rfl rfl (Nat.le_of_ble_eq_true rfl) (.cons (.next <| .next <| .next <| .next <| .here) (.cons (.next <| .next <| .next <| .next <| .next <| .here) .nil)) .nil)))) ?_
      refine Bt 34 rfl (by kernel_rfl) (AC GT Aa Aa (i := 0) rfl rfl rfl rfl (by simp [Value.oneCell']) (.here) ⟨(fun h => nomatch h), ?_⟩)
      refine CB (.cons (.here) <| .cons (.here) <| .cons (.here) <| .nil) ?_
      refine AY (by kernel_rfl) ?_ _
      refine Ab ⟨_, Off.eq (DG rfl <| BF rfl <| AT), ?_⟩
      exact ⟨_, _, _, _, _, ⟨hm1.1, hm2.1, hm3.1, hm4.1⟩, Ba, rfl⟩
     refine By rfl rfl (AF FZ rfl fun b36 hb36 nb36 => ⟨fun _ _ => (fun _ h => h.drop (kD <| kK <| kK <| .refl _)), ?_⟩)
     refine Bl 20 rfl (by kernel_rfl) rfl (AI (As CL Aa AO (B6 hu3 hu3b (n := 2) rfl) (fun _ _ h => h)) ⟨fun _ _ => (fun _ h => h.drop (kD <| kK <| kK <| .refl _)), ?_⟩)
     refine Af 21 rfl (by kernel_rfl) (by kernel_rfl) (by kernel_rfl) (by kernel_rfl) rfl rfl (fun _ h => h.drop (kD <| kK <| kK <| .refl _)) (fun _ _ _ h => h) (Cf Aa Aa (Int.natCast_nonneg _) (by decide)) <| Af 22 rfl (by kernel_rfl) (by kernel_rfl) (by kernel_rfl) (by kernel_rfl) rfl rfl (fun _ h => h.drop (kD <| kK <| kK <| .refl _)) (fun _ _ _ h => h) (Br Aa Aa rfl (by omega) (by omega)) <| Af 23 rfl (by kernel_rfl) (by kernel_rfl) (by kernel_rfl) (by kernel_rfl) rfl rfl (fun _ h => h.drop (kD <| kK <| kK <| .refl _)) (fun _ _ _ h => h) (Gh Aa Aa) ?_
     refine Bl 27 rfl (by kernel_rfl) rfl (AI (As CL Aa AO (B6 hu3 hu3b (n := 3) rfl) (fun _ _ h => h)) ⟨fun _ _ => (fun _ h => h.drop (kD <| kK <| kK <| .refl _)), ?_⟩)
     refine Af 28 rfl (by kernel_rfl) (by kernel_rfl) (by kernel_rfl) (by kernel_rfl) rfl rfl (fun _ h => h.drop (kD <| kK <| kK <| .refl _)) (fun _ _ _ h => h) (Cf Aa Aa (Int.natCast_nonneg _) (by decide)) <| Af 29 rfl (by kernel_rfl) (by kernel_rfl) (by kernel_rfl) (by kernel_rfl) rfl rfl (fun _ h => h.drop (kD <| kK <| kK <| .refl _)) (fun _ _ _ h => h) (AJ Aa Aa rfl (by omega) (by omega)) <| Af 30 rfl (by kernel_rfl) (by kernel_rfl) (by kernel_rfl) (by kernel_rfl) rfl rfl (fun _ h => h.drop (kD <| kK <| kK <| .refl _)) (fun _ _ _ h => h) (EX Aa Aa) ?_
     refine Bl 31 rfl (by kernel_rfl) rfl (AI (As En Aa AO (Cj _ _) (fun _ _ h => h)) ⟨fun _ _ => (fun _ h => h.drop (kD <| kK <| kK <| .refl _)), ?_⟩)
     refine Af 32 rfl (by kernel_rfl) (by kernel_rfl) (by kernel_rfl) (by kernel_rfl) rfl rfl (fun _ h => h.drop (kD <| kK <| kK <| .refl _)) (fun _ _ _ h => h) (Bg HW (.cons Aa rfl (.cons Aa rfl (.cons Aa rfl .nil))) (.cons rfl rfl (Nat.le_of_ble_eq_true rfl) (.cons (.here) .nil) (.cons rfl rfl (Nat.le_of_ble_eq_true rfl) (.cons (.next <| .next <| .here) (.cons (.next <| .next <| .next <| .here) .nil)) (.cons rfl rfl (Nat.le_of_ble_eq_true rfl) (.cons (.next <| .next <| .next <| .next <| .here) (.cons (.next <| .next <| .next <| .next <| .next <| .here) .nil)) .nil)))) ?_
     refine Bt 34 rfl (by kernel_rfl) (AC GT Aa Aa (i := 0) rfl rfl rfl rfl (by simp [Value.oneCell']) (.here) ⟨(fun h => nomatch h), ?_⟩)
     refine CB (.cons (.here) <| .cons (.here) <| .cons (.here) <| .nil) ?_
     refine AY (by kernel_rfl) ?_ _
     refine Ab ⟨_, Off.eq (DG rfl <| BF rfl <| AT), ?_⟩
     exact ⟨_, _, _, _, _, ⟨hm1.1, hm2.1, hm3.1, hm4.1⟩, Ba, rfl⟩
    refine By rfl rfl (AF FZ rfl fun b37 hb37 nb37 => ⟨fun _ _ => (fun _ h => h.drop (kD <| kK <| kK <| .refl _)), ?_⟩)
    refine Bl 16 rfl (by kernel_rfl) rfl (AI (As En Aa AO (Cj _ _) (fun _ _ h => h)) ⟨fun _ _ => (fun _ h => h.drop (kD <| kK <| kK <| .refl _)), ?_⟩)
    refine Bl 20 rfl (by kernel_rfl) rfl (AI (As CL Aa AO (B6 hu3 hu3b (n := 2) rfl) (fun _ _ h => h)) ⟨fun _ _ => (fun _ h => h.drop (kD <| kK <| kK <| .refl _)), ?_⟩)
    refine Af 21 rfl (by kernel_rfl) (by kernel_rfl) (by kernel_rfl) (by kernel_rfl) rfl rfl (fun _ h => h.drop (kD <| kK <| kK <| .refl _)) (fun _ _ _ h => h) (Cf Aa Aa (Int.natCast_nonneg _) (by decide)) <| Af 22 rfl (by kernel_rfl) (by kernel_rfl) (by kernel_rfl) (by kernel_rfl) rfl rfl (fun _ h => h.drop (kD <| kK <| kK <| .refl _)) (fun _ _ _ h => h) (Br Aa Aa rfl (by omega) (by omega)) <| Af 23 rfl (by kernel_rfl) (by kernel_rfl) (by kernel_rfl) (by kernel_rfl) rfl rfl (fun _ h => h.drop (kD <| kK <| kK <| .refl _)) (fun _ _ _ h => h) (Gh Aa Aa) ?_
    refine Bl 27 rfl (by kernel_rfl) rfl (AI (As CL Aa AO (B6 hu3 hu3b (n := 3) rfl) (fun _ _ h => h)) ⟨fun _ _ => (fun _ h => h.drop (kD <| kK <| kK <| .refl _)), ?_⟩)
    refine Af 28 rfl (by kernel_rfl) (by kernel_rfl) (by kernel_rfl) (by kernel_rfl) rfl rfl (fun _ h => h.drop (kD <| kK <| kK <| .refl _)) (fun _ _ _ h => h) (Cf Aa Aa (Int.natCast_nonneg _) (by decide)) <| Af 29 rfl (by kernel_rfl) (by kernel_rfl) (by kernel_rfl) (by kernel_rfl) rfl rfl (fun _ h => h.drop (kD <| kK <| kK <| .refl _)) (fun _ _ _ h => h) (AJ Aa Aa rfl (by omega) (by omega)) <| Af 30 rfl (by kernel_rfl) (by kernel_rfl) (by kernel_rfl) (by kernel_rfl) rfl rfl (fun _ h => h.drop (kD <| kK <| kK <| .refl _)) (fun _ _ _ h => h) (EX Aa Aa) ?_
    refine Bl 31 rfl (by kernel_rfl) rfl (AI (As En Aa AO (Cj _ _) (fun _ _ h => h)) ⟨fun _ _ => (fun _ h => h.drop (kD <| kK <| kK <| .refl _)), ?_⟩)
    refine Af 32 rfl (by kernel_rfl) (by kernel_rfl) (by kernel_rfl) (by kernel_rfl) rfl rfl (fun _ h => h.drop (kD <| kK <| kK <| .refl _)) (fun _ _ _ h => h) (Bg HW (.cons Aa rfl (.cons Aa rfl (.cons Aa rfl .nil))) (.cons rfl rfl (Nat.le_of_ble_eq_true rfl) (.cons (.here) .nil) (.cons rfl rfl (Nat.le_of_ble_eq_true rfl) (.cons (.next <| .next <| .here) (.cons (.next <| .next <| .next <| .here) .nil)) (.cons rfl rfl (Nat.le_of_ble_eq_true rfl) (.cons (.next <| .next <| .next <| .next <| .here) (.cons (.next <| .next <| .next <| .next <| .next <| .here) .nil)) .nil)))) ?_
    refine Bt 34 rfl (by kernel_rfl) (AC GT Aa Aa (i := 0) rfl rfl rfl rfl (by simp [Value.oneCell']) (.here) ⟨(fun h => nomatch h), ?_⟩)
    refine CB (.cons (.here) <| .cons (.here) <| .cons (.here) <| .nil) ?_
    refine AY (by kernel_rfl) ?_ _
    refine Ab ⟨_, Off.eq (DG rfl <| BF rfl <| AT), ?_⟩
    exact ⟨_, _, _, _, _, ⟨hm1.1, hm2.1, hm3.1, hm4.1⟩, Ba, rfl⟩
   refine By rfl rfl (AF FZ rfl fun b38 hb38 nb38 => ⟨fun _ _ => (fun _ h => h.drop (kD <| kK <| kK <| .refl _)), ?_⟩)
   refine Bl 12 rfl (by kernel_rfl) rfl (AI (As CL Aa AO (B6 hu3 hu3b (n := 1) rfl) (fun _ _ h => h)) ⟨fun _ _ => (fun _ h => h.drop (kD <| kK <| kK <| .refl _)), ?_⟩)
   refine Af 13 rfl (by kernel_rfl) (by kernel_rfl) (by kernel_rfl) (by kernel_rfl) rfl rfl (fun _ h => h.drop (kD <| kK <| kK <| .refl _)) (fun _ _ _ h => h) (Cf Aa Aa (Int.natCast_nonneg _) (by decide)) <| Af 14 rfl (by kernel_rfl) (by kernel_rfl) (by kernel_rfl) (by kernel_rfl) rfl rfl (fun _ h => h.drop (kD <| kK <| kK <| .refl _)) (fun _ _ _ h => h) (AJ Aa Aa rfl (by omega) (by omega)) <| Af 15 rfl (by kernel_rfl) (by kernel_rfl) (by kernel_rfl) (by kernel_rfl) rfl rfl (fun _ h => h.drop (kD <| kK <| kK <| .refl _)) (fun _ _ _ h => h) (EX Aa Aa) ?_
   refine Bl 16 rfl (by kernel_rfl) rfl (AI (As En Aa AO (Cj _ _) (fun _ _ h => h)) ⟨fun _ _ => (fun _ h => h.drop (kD <| kK <| kK <| .refl _)), ?_⟩)
   refine Bl 20 rfl (by kernel_rfl) rfl (AI (As CL Aa AO (B6 hu3 hu3b (n := 2) rfl) (fun _ _ h => h)) ⟨fun _ _ => (fun _ h => h.drop (kD <| kK <| kK <| .refl _)), ?_⟩)
   refine Af 21 rfl (by kernel_rfl) (by kernel_rfl) (by kernel_rfl) (by kernel_rfl) rfl rfl (fun _ h => h.drop (kD <| kK <| kK <| .refl _)) (fun _ _ _ h => h) (Cf Aa Aa (Int.natCast_nonneg _) (by decide)) <| Af 22 rfl (by kernel_rfl) (by kernel_rfl) (by kernel_rfl) (by kernel_rfl) rfl rfl (fun _ h => h.drop (kD <| kK <| kK <| .refl _)) (fun _ _ _ h => h) (Br Aa Aa rfl (by omega) (by omega)) <| Af 23 rfl (by kernel_rfl) (by kernel_rfl) (by kernel_rfl) (by kernel_rfl) rfl rfl (fun _ h => h.drop (kD <| kK <| kK <| .refl _)) (fun _ _ _ h => h) (Gh Aa Aa) ?_
   refine Bl 27 rfl (by kernel_rfl) rfl (AI (As CL Aa AO (B6 hu3 hu3b (n := 3) rfl) (fun _ _ h => h)) ⟨fun _ _ => (fun _ h => h.drop (kD <| kK <| kK <| .refl _)), ?_⟩)
   refine Af 28 rfl (by kernel_rfl) (by kernel_rfl) (by kernel_rfl) (by kernel_rfl) rfl rfl (fun _ h => h.drop (kD <| kK <| kK <| .refl _)) (fun _ _ _ h => h) (Cf Aa Aa (Int.natCast_nonneg _) (by decide)) <| Af 29 rfl (by kernel_rfl) (by kernel_rfl) (by kernel_rfl) (by kernel_rfl) rfl rfl (fun _ h => h.drop (kD <| kK <| kK <| .refl _)) (fun _ _ _ h => h) (AJ Aa Aa rfl (by omega) (by omega)) <| Af 30 rfl (by kernel_rfl) (by kernel_rfl) (by kernel_rfl) (by kernel_rfl) rfl rfl (fun _ h => h.drop (kD <| kK <| kK <| .refl _)) (fun _ _ _ h => h) (EX Aa Aa) ?_
   refine Bl 31 rfl (by kernel_rfl) rfl (AI (As En Aa AO (Cj _ _) (fun _ _ h => h)) ⟨fun _ _ => (fun _ h => h.drop (kD <| kK <| kK <| .refl _)), ?_⟩)
   refine Af 32 rfl (by kernel_rfl) (by kernel_rfl) (by kernel_rfl) (by kernel_rfl) rfl rfl (fun _ h => h.drop (kD <| kK <| kK <| .refl _)) (fun _ _ _ h => h) (Bg HW (.cons Aa rfl (.cons Aa rfl (.cons Aa rfl .nil))) (.cons rfl rfl (Nat.le_of_ble_eq_true rfl) (.cons (.here) .nil) (.cons rfl rfl (Nat.le_of_ble_eq_true rfl) (.cons (.next <| .next <| .here) (.cons (.next <| .next <| .next <| .here) .nil)) (.cons rfl rfl (Nat.le_of_ble_eq_true rfl) (.cons (.next <| .next <| .next <| .next <| .here) (.cons (.next <| .next <| .next <| .next <| .next <| .here) .nil)) .nil)))) ?_
   refine Bt 34 rfl (by kernel_rfl) (AC GT Aa Aa (i := 0) rfl rfl rfl rfl (by simp [Value.oneCell']) (.here) ⟨(fun h => nomatch h), ?_⟩)
   refine CB (.cons (.here) <| .cons (.here) <| .cons (.here) <| .nil) ?_
   refine AY (by kernel_rfl) ?_ _
   refine Ab ⟨_, Off.eq (DG rfl <| BF rfl <| AT), ?_⟩
   exact ⟨_, _, _, _, _, ⟨hm1.1, hm2.1, hm3.1, hm4.1⟩, Ba, rfl⟩
  refine By rfl rfl (AF FZ rfl fun b39 hb39 nb39 => ⟨fun _ _ => (fun _ h => h.drop (kD <| kK <| kK <| .refl _)), ?_⟩)
  refine Bl 5 rfl (by kernel_rfl) rfl (AI (As CL Aa AO (B6 hu3 hu3b (n := 0) rfl) (fun _ _ h => h)) ⟨fun _ _ => (fun _ h => h.drop (kD <| kK <| kK <| .refl _)), ?_⟩)
  refine Af 6 rfl (by kernel_rfl) (by kernel_rfl) (by kernel_rfl) (by kernel_rfl) rfl rfl (fun _ h => h.drop (kD <| kK <| kK <| .refl _)) (fun _ _ _ h => h) (Cf Aa Aa (Int.natCast_nonneg _) (by decide)) <| Af 7 rfl (by kernel_rfl) (by kernel_rfl) (by kernel_rfl) (by kernel_rfl) rfl rfl (fun _ h => h.drop (kD <| kK <| kK <| .refl _)) (fun _ _ _ h => h) (Br Aa Aa rfl (by omega) (by omega)) <| Af 8 rfl (by kernel_rfl) (by kernel_rfl) (by kernel_rfl) (by kernel_rfl) rfl rfl (fun _ h => h.drop (kD <| kK <| kK <| .refl _)) (fun _ _ _ h => h) (Gh Aa Aa) ?_
  refine Bl 12 rfl (by kernel_rfl) rfl (AI (As CL Aa AO (B6 hu3 hu3b (n := 1) rfl) (fun _ _ h => h)) ⟨fun _ _ => (fun _ h => h.drop (kD <| kK <| kK <| .refl _)), ?_⟩)
  refine Af 13 rfl (by kernel_rfl) (by kernel_rfl) (by kernel_rfl) (by kernel_rfl) rfl rfl (fun _ h => h.drop (kD <| kK <| kK <| .refl _)) (fun _ _ _ h => h) (Cf Aa Aa (Int.natCast_nonneg _) (by decide)) <| Af 14 rfl (by kernel_rfl) (by kernel_rfl) (by kernel_rfl) (by kernel_rfl) rfl rfl (fun _ h => h.drop (kD <| kK <| kK <| .refl _)) (fun _ _ _ h => h) (AJ Aa Aa rfl (by omega) (by omega)) <| Af 15 rfl (by kernel_rfl) (by kernel_rfl) (by kernel_rfl) (by kernel_rfl) rfl rfl (fun _ h => h.drop (kD <| kK <| kK <| .refl _)) (fun _ _ _ h => h) (EX Aa Aa) ?_
  refine Bl 16 rfl (by kernel_rfl) rfl (AI (As En Aa AO (Cj _ _) (fun _ _ h => h)) ⟨fun _ _ => (fun _ h => h.drop (kD <| kK <| kK <| .refl _)), ?_⟩)
  refine Bl 20 rfl (by kernel_rfl) rfl (AI (As CL Aa AO (B6 hu3 hu3b (n := 2) rfl) (fun _ _ h => h)) ⟨fun _ _ => (fun _ h => h.drop (kD <| kK <| kK <| .refl _)), ?_⟩)
  refine Af 21 rfl (by kernel_rfl) (by kernel_rfl) (by kernel_rfl) (by kernel_rfl) rfl rfl (fun _ h => h.drop (kD <| kK <| kK <| .refl _)) (fun _ _ _ h => h) (Cf Aa Aa (Int.natCast_nonneg _) (by decide)) <| Af 22 rfl (by kernel_rfl) (by kernel_rfl) (by kernel_rfl) (by kernel_rfl) rfl rfl (fun _ h => h.drop (kD <| kK <| kK <| .refl _)) (fun _ _ _ h => h) (Br Aa Aa rfl (by omega) (by omega)) <| Af 23 rfl (by kernel_rfl) (by kernel_rfl) (by kernel_rfl) (by kernel_rfl) rfl rfl (fun _ h => h.drop (kD <| kK <| kK <| .refl _)) (fun _ _ _ h => h) (Gh Aa Aa) ?_
  refine Bl 27 rfl (by kernel_rfl) rfl (AI (As CL Aa AO (B6 hu3 hu3b (n := 3) rfl) (fun _ _ h => h)) ⟨fun _ _ => (fun _ h => h.drop (kD <| kK <| kK <| .refl _)), ?_⟩)
  refine Af 28 rfl (by kernel_rfl) (by kernel_rfl) (by kernel_rfl) (by kernel_rfl) rfl rfl (fun _ h => h.drop (kD <| kK <| kK <| .refl _)) (fun _ _ _ h => h) (Cf Aa Aa (Int.natCast_nonneg _) (by decide)) <| Af 29 rfl (by kernel_rfl) (by kernel_rfl) (by kernel_rfl) (by kernel_rfl) rfl rfl (fun _ h => h.drop (kD <| kK <| kK <| .refl _)) (fun _ _ _ h => h) (AJ Aa Aa rfl (by omega) (by omega)) <| Af 30 rfl (by kernel_rfl) (by kernel_rfl) (by kernel_rfl) (by kernel_rfl) rfl rfl (fun _ h => h.drop (kD <| kK <| kK <| .refl _)) (fun _ _ _ h => h) (EX Aa Aa) ?_
  refine Bl 31 rfl (by kernel_rfl) rfl (AI (As En Aa AO (Cj _ _) (fun _ _ h => h)) ⟨fun _ _ => (fun _ h => h.drop (kD <| kK <| kK <| .refl _)), ?_⟩)
  refine Af 32 rfl (by kernel_rfl) (by kernel_rfl) (by kernel_rfl) (by kernel_rfl) rfl rfl (fun _ h => h.drop (kD <| kK <| kK <| .refl _)) (fun _ _ _ h => h) (Bg HW (.cons Aa rfl (.cons Aa rfl (.cons Aa rfl .nil))) (.cons rfl rfl (Nat.le_of_ble_eq_true rfl) (.cons (.here) .nil) (.cons rfl rfl (Nat.le_of_ble_eq_true rfl) (.cons (.next <| .next <| .here) (.cons (.next <| .next <| .next <| .here) .nil)) (.cons rfl rfl (Nat.le_of_ble_eq_true rfl) (.cons (.next <| .next <| .next <| .next <| .here) (.cons (.next <| .next <| .next <| .next <| .next <| .here) .nil)) .nil)))) ?_
  refine Bt 34 rfl (by kernel_rfl) (AC GT Aa Aa (i := 0) rfl rfl rfl rfl (by simp [Value.oneCell']) (.here) ⟨(fun h => nomatch h), ?_⟩)
  refine CB (.cons (.here) <| .cons (.here) <| .cons (.here) <| .nil) ?_
  refine AY (by kernel_rfl) ?_ _
  refine Ab ⟨_, Off.eq (DG rfl <| BF rfl <| AT), ?_⟩
  exact ⟨_, _, _, _, _, ⟨hm1.1, hm2.1, hm3.1, hm4.1⟩, Ba, rfl⟩
 rintro e7 _ ⟨p13, k1, k2, k3, k4, hks, hi13, rfl⟩
 have hup : decide (((p.formats[m.fmt.toNat].folds[p.formats[m.fmt.toNat].folds.size - 1]'(by omega)).toNat : Int) = 120) = upB (p.fold m) := by
    rw [← hfe]
    unfold upB
    rw [HG (by omega), Bool.eq_iff_iff, decide_eq_true_iff, beq_iff_eq]
    exact Ch (n := 120) (by decide)
 refine Ax (Ag 1) fun ds => Ad rfl (Ap EB Aa (AP hz3 rfl)) <| Ao (Ag 1) <| Ad rfl (Ap AM Aa (AP hz8 rfl)) <| Ad rfl (A1 (k := m.fmt.toNat) Cc Aa hr.formats.plain Aa (by omega) hk) <| Ao (Ag 1) <| Ad rfl (Ap BU Aa (hr.formats.cell hk rfl)) <| Aw (Ag 1) <| Ac <| Ax (Ag 1) fun ds => Ad rfl (Ap D5 Aa (AP hz4 rfl)) <| AE rfl (As CL Aa AO (B6 hu3 hu3b (n := 4) rfl) (fun _ _ h => h)) <| Ad rfl (Cf Aa Aa (Int.natCast_nonneg _) (by decide)) <| Aw (Ag 1) ?_
 refine BH [115, 116, 117, 118, 119, 120, 121, 122] (fun st σ => ∃ ch : Int, (ch = 0 ∨ ch = chainP p m) ∧ σ = ⟨F30, (p13, bx 47 [.int .i64 ((leavesP p m).length : Int), .int .i64 ch, .int .i64 (max 0 (x - k1)), .int .i64 (min 2000 (x + k2)), .int .i64 (max 0 (y - k3)), .int .i64 (min 2000 (y + k4)), .slice none 0 0]) :: (b4, bx 49 [.int .i64 0, .int .i64 0, .int .i64 0, .bool false]) :: (b3, bx 47 [.int .i64 0, .int .i64 0, .int .i64 0, .int .i64 0, .int .i64 0, .int .i64 0, .slice none 0 0]) :: []⟩) ?_ ?_
 ·by_cases h3 : 0 < (turnF xl 4 : Int) % 3
  ·refine Ah Aa (dT (by omega)) ?_
   by_cases hu : upB (p.fold m) = true
   ·refine Ax (Ag 1) fun ds => AZ <| AW Dr Aa Aa (i := 0) rfl (.next <| .here) rfl (.here) <| Al <| Ab <| Ax (Ag 2) fun ds => Ad rfl (Cg Tryz.underlying9 Aa) <| Ad rfl (Br Aa Aa rfl (by omega) (by omega)) <| Ad rfl (BJ Tryz.underlying9 Aa Aa (show _ = ((p.formats[m.fmt.toNat].folds.size - 1 : Nat) : Int) by omega) (show p.formats[m.fmt.toNat].folds.size - 1 < p.formats[m.fmt.toNat].folds.size by omega)) <| Aw (Ag 1) <| Ah Aa (hup.trans hu) <| Aj fun ds => Ao (Ag 1) <| AZ <| AW Dr Aa Aa (i := 0) rfl (.next <| .here) rfl (.here) <| Al ?_
    refine Ab ⟨_, Off.eq (Ci rfl <| AT), ?_⟩
    exact ⟨1, .inr (by unfold chainP; rw [if_pos hu]), rfl⟩
   replace hu : upB (p.fold m) = false := by simpa using hu
   refine Ax (Ag 1) fun ds => AZ <| AW Dr Aa Aa (i := 0) rfl (.next <| .here) rfl (.here) <| Al <| Ab <| Ax (Ag 2) fun ds => Ad rfl (Cg Tryz.underlying9 Aa) <| Ad rfl (Br Aa Aa rfl (by omega) (by omega)) <| Ad rfl (BJ Tryz.underlying9 Aa Aa (show _ = ((p.formats[m.fmt.toNat].folds.size - 1 : Nat) : Int) by omega) (show p.formats[m.fmt.toNat].folds.size - 1 < p.formats[m.fmt.toNat].folds.size by omega)) <| Aw (Ag 1) <| Ae Aa (hup.trans hu) <| Ak ?_
   refine Ab ⟨_, Off.eq (BI rfl <| BF rfl <| BQ rfl <| AT), ?_⟩
   exact ⟨2, .inr (by unfold chainP; rw [if_neg (by rw [hu]; simp)]), rfl⟩
  refine Ae Aa (dF (by omega)) <| Ak ?_
  refine Ab ⟨_, Off.eq (AT), ?_⟩
  exact ⟨0, .inl rfl, rfl⟩
 rintro e9 _ ⟨ch, hch, rfl⟩
 refine Ac <| AD (Ag 1) <| Aq ?_
 refine AH [15, 16, 123, 124, 125, 126, 127, 128, 129, 130, 131, 132, 133, 134, 135, 136, 137, 138, 139, 140, 141, 142, 143, 144, 145, 146, 147, 148, 149, 150, 151, 152, 153, 154, 155, 156, 157] (fun m2 e σ => ∃ i : Nat, m2 + i = 9 ∧ (i : Int) ≤ (turnF xl 5 : Int) % 9 ∧ Fct e 15 (.int .i64 (i : Int)) ∧ ∃ (vm : Value) (ms : List Mrk) (R : List (Nat × Obj)), Own 117 2 vm (ms).length ((ms).flatMap Mrk.enc) R ∧ ms.length = i ∧ (∀ x ∈ ms, (0 ≤ x.leaf ∧ x.leaf < ((leavesP p m).length : Int)) ∧ x.seen = hasB p m ((leavesP p m)[x.leaf.toNat]?.getD lf0) (hsF xh ((leavesP p m)[x.leaf.toNat]?.getD lf0).sheet)) ∧ σ = ⟨F30, (p13, bx 47 [.int .i64 ((leavesP p m).length : Int), .int .i64 ch, .int .i64 (max 0 (x - k1)), .int .i64 (min 2000 (x + k2)), .int .i64 (max 0 (y - k3)), .int .i64 (min 2000 (y + k4)), vm]) :: (b4, bx 49 [.int .i64 0, .int .i64 0, .int .i64 0, .bool false]) :: (b3, bx 47 [.int .i64 0, .int .i64 0, .int .i64 0, .int .i64 0, .int .i64 0, .int .i64 0, .slice none 0 0]) :: R⟩) (9) ?_ ?_
 · exact ⟨0, by omega, by omega, Ba, _, [], [], BV, rfl, (fun _ h => nomatch h), rfl⟩
 rintro m9 e15 _ ⟨i, hm9, hi9, hl15, vm, ms, R, ho, hml, hmp, rfl⟩
 by_cases hlt : (i : Int) < (turnF xl 5 : Int) % 9
 ·refine Ac <| Ax (Ag 2) fun ds => Ad rfl (Ap D5 Aa (AP hz4 rfl)) <| AE rfl (As CL Aa AO (B6 hu3 hu3b (n := 5) rfl) (fun _ _ h => h)) <| Ad rfl (Cf Aa Aa (Int.natCast_nonneg _) (by decide)) <| Aw (Ag 1) <| Ah Aa (dT hlt) ?_
  have hlf : (turnF xl (6 + i) % (leavesP p m).length) < (leavesP p m).length := Nat.mod_lt _ (by omega)
  refine Ak <| Ab <| Ac <| Aq <| Ax (Ag 1) fun ds => Ad rfl (Ap D5 Aa (AP hz4 rfl)) <| Ao (Ag 1) <| Ad rfl (AJ Aa Aa rfl (by omega) (by omega)) <| AE rfl (As CL Aa AO (B6 hu3 hu3b (n := 6 + i) (by push_cast; rfl)) (fun _ _ h => h)) <| Ao (Ag 1) <| Ad rfl (AA Bz Aa hal.plain) <| Ad rfl (q_remN Aa Aa (by omega)) <| Aw (Ag 1) ?_
  have hleS := hle0
  refine Bf (.inl rfl) (fun _ _ h => h) (kK <| kK <| kK <| List.nil_sublist _) [19] (by kernel_rfl) fun ds => Af 0 rfl (by kernel_rfl) (by kernel_rfl) (by kernel_rfl) (by kernel_rfl) rfl rfl (fun _ h => h.drop (kK <| kK <| kK <| List.nil_sublist _)) (fun _ _ _ h => h) (Az N9 Aa) <| Af 1 rfl (by kernel_rfl) (by kernel_rfl) (by kernel_rfl) (by kernel_rfl) rfl rfl (fun _ h => h.drop (kK <| kK <| kK <| List.nil_sublist _)) (fun _ _ _ h => h) (Ap Nm Aa (Cell.own 0 rfl rfl)) <| Af 2 rfl (by kernel_rfl) (by kernel_rfl) (by kernel_rfl) (by kernel_rfl) rfl rfl (fun _ h => h.drop (kK <| kK <| kK <| List.nil_sublist _)) (fun _ _ _ h => h) (A0 Aa) <| Af 3 rfl (by kernel_rfl) (by kernel_rfl) (by kernel_rfl) (by kernel_rfl) rfl rfl (fun _ h => h.drop (kK <| kK <| kK <| List.nil_sublist _)) (fun _ _ _ h => h) (A6 Cq Aa rfl rfl (AK hz3)) <| Af 4 rfl (by kernel_rfl) (by kernel_rfl) (by kernel_rfl) (by kernel_rfl) rfl rfl (fun _ h => h.drop (kK <| kK <| kK <| List.nil_sublist _)) (fun _ _ _ h => h) (A6 BD Aa rfl rfl (AK hz8)) <| Af 5 rfl (by kernel_rfl) (by kernel_rfl) (by kernel_rfl) (by kernel_rfl) rfl rfl (fun _ h => h.drop (kK <| kK <| kK <| List.nil_sublist _)) (fun _ _ _ h => h) (A0 Aa) ?_
  refine Af 6 rfl (by kernel_rfl) (by kernel_rfl) (by kernel_rfl) (by kernel_rfl) rfl rfl (fun _ h => h.drop (kK <| kK <| kK <| List.nil_sublist _)) (fun _ _ _ h => h) (Az RG Aa) <| Af 7 rfl (by kernel_rfl) (by kernel_rfl) (by kernel_rfl) (by kernel_rfl) rfl rfl (fun _ h => h.drop (kK <| kK <| kK <| List.nil_sublist _)) (fun _ _ _ h => h) (Ap D5 Aa (AP hz4 rfl)) <| Af 9 rfl (by kernel_rfl) (by kernel_rfl) (by kernel_rfl) (by kernel_rfl) rfl rfl (fun _ h => h.drop (kK <| kK <| kK <| List.nil_sublist _)) (fun _ _ _ h => h) (A0 Aa) <| Af 10 rfl (by kernel_rfl) (by kernel_rfl) (by kernel_rfl) (by kernel_rfl) rfl rfl (fun _ h => h.drop (kK <| kK <| kK <| List.nil_sublist _)) (fun _ _ _ h => h) (A0 Aa) <| Af 11 rfl (by kernel_rfl) (by kernel_rfl) (by kernel_rfl) (by kernel_rfl) rfl rfl (fun _ h => h.drop (kK <| kK <| kK <| List.nil_sublist _)) (fun _ _ _ h => h) (FR Aa Aa (k := i) rfl (show i < 8 by omega) (show (0 : Int) / 2 ^ i = 0 by simp)) <| Af 12 rfl (by kernel_rfl) (by kernel_rfl) (by kernel_rfl) (by kernel_rfl) rfl rfl (fun _ h => h.drop (kK <| kK <| kK <| List.nil_sublist _)) (fun _ _ _ h => h) (Cf Aa Aa (by decide) (by decide)) <| Af 13 rfl (by kernel_rfl) (by kernel_rfl) (by kernel_rfl) (by kernel_rfl) rfl rfl (fun _ h => h.drop (kK <| kK <| kK <| List.nil_sublist _)) (fun _ _ _ h => h) (Cd Aa Aa) ?_
  refine Bl 8 rfl (by kernel_rfl) rfl (AI (As bd_48 Aa AO (has_ok2 hr hv hok hlf hu2 hu2b) (fun _ _ h => h)) ⟨fun _ _ => (fun _ h => h.drop (kK <| kK <| kK <| List.nil_sublist _)), ?_⟩)
  refine Af 14 rfl (by kernel_rfl) (by kernel_rfl) (by kernel_rfl) (by kernel_rfl) rfl rfl (fun _ h => h.drop (kK <| kK <| kK <| List.nil_sublist _)) (fun _ _ _ h => h) (Oo Tryz.underlying4 Aa Aa) <| Af 15 rfl (by kernel_rfl) (by kernel_rfl) (by kernel_rfl) (by kernel_rfl) rfl rfl (fun _ h => h.drop (kK <| kK <| kK <| List.nil_sublist _)) (fun _ _ _ h => h) (Bg bt_117 (.cons Aa rfl (.cons Aa rfl .nil)) (.cons rfl rfl (Nat.le_of_ble_eq_true rfl) (.cons (.here) .nil) (.cons rfl rfl (Nat.le_of_ble_eq_true rfl) (.cons (.next <| .here) .nil) .nil))) ?_
  refine Bl 16 rfl (by kernel_rfl) rfl (B0 (offs := [(0, 2)]) (zl := [.int .i64 0, .bool false]) GU Jh rfl (.cons Aa rfl .nil) (by intro i p h; rcases i with _ | i <;> simp at h <;> subst h <;> rfl) (.cons rfl rfl (Nat.le_of_ble_eq_true rfl) (.cons (.here) (.cons (.next <| .here) .nil)) .nil) (by decide) (by decide) fun b41 hb41 nb41 => ⟨fun _ _ => (fun _ h => h.drop (kD <| kK <| kK <| kK <| List.nil_sublist _)), ?_⟩)
  refine Bl 17 rfl (by kernel_rfl) rfl (Bd GU el_117 Aa ho Aa (Bv (s := 2) 0 rfl rfl (by simp [Value.oneCell'])) (by omega) (by omega) (.s <| .s <| .s <| .s <| .z) .last fun v42 R43 ho44 => ⟨fun _ _ => (fun _ h => h.drop (kD <| kK <| kK <| kK <| List.nil_sublist _)), ?_⟩)
  have ho156 : Own 117 2 v42 (ms ++ [(⟨(((turnF xl (6 + i) % (leavesP p m).length) : Nat) : Int), hasB p m (lfN p m (turnF xl (6 + i) % (leavesP p m).length)) (hsF xh (lfN p m (turnF xl (6 + i) % (leavesP p m).length)).sheet)⟩ : Mrk)]).length ((ms ++ [(⟨(((turnF xl (6 + i) % (leavesP p m).length) : Nat) : Int), hasB p m (lfN p m (turnF xl (6 + i) % (leavesP p m).length)) (hsF xh (lfN p m (turnF xl (6 + i) % (leavesP p m).length)).sheet)⟩ : Mrk)]).flatMap Mrk.enc) R43 := Own.snoc (x := (⟨(((turnF xl (6 + i) % (leavesP p m).length) : Nat) : Int), hasB p m (lfN p m (turnF xl (6 + i) % (leavesP p m).length)) (hsF xh (lfN p m (turnF xl (6 + i) % (leavesP p m).length)).sheet)⟩ : Mrk)) ho44 rfl (by unfold Mrk.enc; rw [Up])
  refine Af 18 rfl (by kernel_rfl) (by kernel_rfl) (by kernel_rfl) (by kernel_rfl) rfl rfl (fun _ h => h.drop (kD <| kK <| kK <| kK <| List.nil_sublist _)) (fun _ _ _ h => h) (Az N9 Aa) ?_
  refine Bt 19 rfl (by kernel_rfl) (AW sz_45 Aa Aa (i := 1) rfl (.next <| .next <| .next <| .next <| .next <| .next <| .here) ho156.one (.next <| .here) ⟨(fun h => nomatch h), ?_⟩)
  refine AY (by kernel_rfl) ?_ _
  refine A4 <| Ab <| Bk (fun _ _ h => h.drop (kD <| kK <| kK <| kK <| .refl _)) <| Aj fun ds => Ao (Ag 1) <| Ad rfl (AJ Aa Aa rfl (by omega) (by omega)) <| Ao (Ag 1) <| Al ?_
  refine Ab ⟨_, m9 - 1, Off.eq (DG rfl <| BI rfl <| BQ rfl <| A3), by omega, ?_⟩
  refine ⟨i + 1, by omega, by push_cast; omega, Ba, _, ms ++ [(⟨(((turnF xl (6 + i) % (leavesP p m).length) : Nat) : Int), hasB p m (lfN p m (turnF xl (6 + i) % (leavesP p m).length)) (hsF xh (lfN p m (turnF xl (6 + i) % (leavesP p m).length)).sheet)⟩ : Mrk)], _, ho156, by simp; omega, ?_, rfl⟩
  intro x hx
  rcases List.mem_append.1 hx with hx | hx
  · exact hmp x hx
  obtain rfl := List.mem_singleton.1 hx; exact ⟨⟨Int.natCast_nonneg _, by show ((_ : Nat) : Int) < _; omega⟩, rfl⟩
 refine Ac <| Ax (Ag 2) fun ds => Ad rfl (Ap D5 Aa (AP hz4 rfl)) <| AE rfl (As CL Aa AO (B6 hu3 hu3b (n := 5) rfl) (fun _ _ h => h)) <| Ad rfl (Cf Aa Aa (Int.natCast_nonneg _) (by decide)) <| Aw (Ag 1) <| Ae Aa (dF hlt) <| Bo (σ := ⟨_, _⟩) (by rfl) ho (.s <| .s <| .s <| .z) .last fun F45 hF46 hz47 => ?_
 replace hle0 := Heap.le_trans hle0 hF46
 replace hz8 := hF46 _ _ hz8
 have hmk := ho.sl (fun _ => rfl) hz47 (by omega)
 refine AG ?_
 refine A2 <| A2 <| A8 <| Ab <| Ac ?_
 have hleS := hle0
 refine Bf (.inl rfl) (fun _ _ h => h) (kK <| kK <| kD <| .refl _) [3] (by kernel_rfl) fun ds => Af 0 rfl (by kernel_rfl) (by kernel_rfl) (by kernel_rfl) (by kernel_rfl) rfl rfl (fun _ h => h.drop (kK <| kK <| kD <| .refl _)) (fun _ _ _ h => h) (A6 FP Aa rfl rfl (Bj 0 rfl)) <| Af 1 rfl (by kernel_rfl) (by kernel_rfl) (by kernel_rfl) (by kernel_rfl) rfl rfl (fun _ h => h.drop (kK <| kK <| kD <| .refl _)) (fun _ _ _ h => h) (A6 BD Aa rfl rfl (AK hz8)) ?_
 refine Bt 2 rfl (by kernel_rfl) (AC GT Aa Aa (i := 2) rfl rfl rfl rfl (by first | exact Mk.enc_one (b := m) | exact HX (b := ⟨_, _, _, _, _, _, ms⟩) hmk) (.next <| .next <| .here) ⟨fun _ _ => (fun _ h => h.drop (kK <| kK <| kD <| .refl _)), ?_⟩)
 refine Bt 3 rfl (by kernel_rfl) (AC Fe Aa Aa (i := 1) rfl rfl rfl rfl (by first | exact Mk.enc_one (b := m) | exact HX (b := ⟨_, _, _, _, _, _, ms⟩) hmk) (.next <| .here) ⟨(fun h => nomatch h), ?_⟩)
 refine AY (by kernel_rfl) ?_ _
 refine Ab <| Au <| Am rfl (.agg FP Aa rfl rfl (Bj 2 rfl) (.agg BD Aa rfl rfl (Bj 1 rfl) .nil)) ?_
 refine ⟨_, ⟨((leavesP p m).length : Int), ch, max 0 (x - k1), min 2000 (x + k2), max 0 (y - k3), min 2000 (y + k4), ms⟩, m, rfl, hmk, ?_⟩
 refine ⟨hok, rfl, hch, ⟨x, k1, k2, hxP.1, hxP.2.1, hxP.2.2, hks.1, hks.2.1, rfl, rfl⟩, ⟨y, k3, k4, hyP.1, hyP.2.1, hyP.2.2, hks.2.2.1, hks.2.2.2, rfl, rfl⟩, by show ms.length ≤ 8; omega, hsF xh, fun s _ _ => Uz, fun k hk => ?_⟩
 have h9 := hmp _ (List.getElem_mem (show k < ms.length from hk))
 rw [← Rp hk]
 exact ⟨h9.1.1, h9.1.2, h9.2⟩
end
section
set_option maxHeartbeats 2000000
set_option maxRecDepth 100000
open Go.RowKit
theorem bd_20 : Body Tryz.prog 20 := AB (by kernel_rfl)
theorem bd_21 : Body Tryz.prog 21 := AB (by kernel_rfl)
theorem P7 : Body Tryz.prog 22 := AB (by kernel_rfl)
theorem bd_23 : Body Tryz.prog 23 := AB (by kernel_rfl)
theorem bd_25 : Body Tryz.prog 25 := AB (by kernel_rfl)
theorem Se : Body Tryz.prog 26 := AB (by kernel_rfl)
theorem LN : Body Tryz.prog 27 := AB (by kernel_rfl)
theorem bd_28 : Body Tryz.prog 28 := AB (by kernel_rfl)
theorem bd_29 : Body Tryz.prog 29 := AB (by kernel_rfl)
theorem bd_31 : Body Tryz.prog 31 := AB (by kernel_rfl)
theorem bd_33 : Body Tryz.prog 33 := AB (by kernel_rfl)
theorem SL {F : Heap} {b T : Nat} {a1 a2 a3 : Int} (h : F b = some (bx T [.int .i64 a1, .int .i64 a2, .int .i64 a3])) : Ints F (.slice (some ⟨b, 0, none⟩) 3 3) [a1, a2, a3] :=
 D0 (xs := [a1, a2, a3]) h rfl rfl (fun _ => rfl) (by decide)
theorem SK {F : Heap} {b T : Nat} {a1 a2 a3 a4 a5 a6 a7 : Int} (h : F b = some (bx T [.int .i64 a1, .int .i64 a2, .int .i64 a3, .int .i64 a4, .int .i64 a5, .int .i64 a6, .int .i64 a7])) : Ints F (.slice (some ⟨b, 0, none⟩) 7 7) [a1, a2, a3, a4, a5, a6, a7] :=
 D0 (xs := [a1, a2, a3, a4, a5, a6, a7]) h rfl rfl (fun _ => rfl) (by decide)
theorem SJ {F : Heap} {b T : Nat} {a1 a2 a3 a4 a5 a6 a7 a8 : Int} (h : F b = some (bx T [.int .i64 a1, .int .i64 a2, .int .i64 a3, .int .i64 a4, .int .i64 a5, .int .i64 a6, .int .i64 a7, .int .i64 a8])) : Ints F (.slice (some ⟨b, 0, none⟩) 8 8) [a1, a2, a3, a4, a5, a6, a7, a8] :=
 D0 (xs := [a1, a2, a3, a4, a5, a6, a7, a8]) h rfl rfl (fun _ => rfl) (by decide)
theorem Uu {F : Heap} {b T : Nat} (h : F b = some (bx T (([⟨0, 0, 0, false, false⟩, ⟨0, 1, 0, true, true⟩, ⟨0, 1, 1, false, true⟩, ⟨0, 0, 1, true, false⟩] : List Lf).flatMap Lf.enc))) : Sl F (.slice (some ⟨b, 0, none⟩) 4 4) 5 Lf.enc [⟨0, 0, 0, false, false⟩, ⟨0, 1, 0, true, true⟩, ⟨0, 1, 1, false, true⟩, ⟨0, 0, 1, true, false⟩] := D0 h rfl rfl (fun _ => rfl) (by decide)
theorem Ur {F : Heap} {b T : Nat} (h : F b = some (bx T (([⟨0, 0, 2, false⟩, ⟨1, 0, 1, false⟩, ⟨2, 0, 1, true⟩] : List Mk).flatMap Mk.enc))) : Sl F (.slice (some ⟨b, 0, none⟩) 3 3) 4 Mk.enc [⟨0, 0, 2, false⟩, ⟨1, 0, 1, false⟩, ⟨2, 0, 1, true⟩] := D0 h rfl rfl (fun _ => rfl) (by decide)
def tupF (v : Value) (i : Nat) : Value := match v with
 | .tuple a => a.toList[i]?.getD v
 | _ => v
theorem tupF_of {F : Heap} {u : Value} {l : List Nat} (h : ∃ v, u = .tuple #[v, .int .i64 0] ∧ Nats F v l) : u = .tuple #[tupF u 0, .int .i64 0] ∧ Nats F (tupF u 0) l := by
 obtain ⟨v, rfl, h⟩ := h; exact ⟨rfl, h⟩
theorem UL {F : Heap} {vf vp : Value} (hr : PrsR F vf vp exPr) : Ok Tryz.prog 21 [prsV vf vp exPr, mkV (exM 1)].toArray F fun u F' => ∃ v, u = .tuple #[v, .int .i64 0] ∧ Sl F' v 5 Lf.enc [⟨0, 0, 0, false, false⟩, ⟨0, 1, 0, true, true⟩, ⟨0, 1, 1, false, true⟩, ⟨0, 0, 1, true, false⟩] :=
 (Nz hr Pk UF).mono fun u F2 _ h => by rw [Q6] at h; exact h
theorem UN {F : Heap} {vf vp : Value} (hr : PrsR F vf vp exPr) : Ok Tryz.prog 23 [prsV vf vp exPr, mkV (exM 1), .int .i64 0, .bool true].toArray F fun u F' => ∃ v, u = .tuple #[v, .int .i64 0] ∧ Ints F' v [2, -3, 7, -6] :=
 (MB hr Pk UF Tb (s := 0) (by decide) (inner := true)).mono fun u F2 _ h => by rw [Te] at h; exact h
theorem UM {F : Heap} {vf vp : Value} (hr : PrsR F vf vp exPr) : Ok Tryz.prog 23 [prsV vf vp exPr, mkV (exM 2), .int .i64 0, .bool false].toArray F fun u F' => ∃ v, u = .tuple #[v, .int .i64 0] ∧ Ints F' v [1, 16, 13, 4, -8, -9, -12, -5] :=
 (MB hr Pk Q5 Ta (s := 0) (by decide) (inner := false)).mono fun u F2 _ h => by rw [Td] at h; exact h
theorem exMates {F : Heap} {vf vp : Value} (hr : PrsR F vf vp exPr) : Ok Tryz.prog 24 [prsV vf vp exPr, mkV (exM 2), .int .i64 1].toArray F fun u F' => ∃ v, u = .tuple #[v, .int .i64 6, .int .i64 0] ∧ Nats F' v [0, 2, 3, 4, 5, 6, 7] :=
 (M2 hr Pk Q5 (leaf := 1) (by rw [RJ]; decide)).mono fun u F2 _ h => by rw [RJ, UG] at h; exact h
theorem UK {F : Heap} {vf vp : Value} (hr : PrsR F vf vp exPr) {vh : Value} (hh : Ints F vh [0]) : Ok Tryz.prog 25 [prsV vf vp exPr, mkV (exM 2), vh].toArray F fun u F' => ∃ v, u = .tuple #[v, .int .i64 0] ∧ Nats F' v [0, 3, 4, 7] :=
 (Ql hr Pk Q5 hh rfl (fun z hz => by simp at hz; exact .inl hz)).mono fun u F2 _ h => by rw [Tc] at h; exact h
theorem exAgree {F : Heap} {vf vp : Value} (hr : PrsR F vf vp exPr) : Ok Tryz.prog 9 [prsV vf vp exPr, bokV (.slice none 0 0) (exB 4 0 0 2000 0 2000)].toArray F fun u F' => ∃ v, u = .tuple #[v, .int .i64 0] ∧ Sl F' v 4 Mk.enc [⟨0, 0, 2, false⟩, ⟨1, 0, 1, false⟩, ⟨2, 0, 1, true⟩] :=
 (J9 hr (b := exB 4 0 0 2000 0 2000) Sl.nil UI).mono fun u F2 _ h => by rw [Pm] at h; exact h
theorem Q7 {F : Heap} {vf vp : Value} (hr : PrsR F vf vp exPr) : Ok Tryz.prog 28 [prsV vf vp exPr, bokV (.slice none 0 0) (exB 4 0 0 2000 0 2000), .int .i64 0].toArray F fun u F' => ∃ v1 v2, u = .tuple #[v1, v2, .int .i64 0] ∧ Nats F' v1 [3] ∧ Nats F' v2 [1, 2, 3] :=
 (Hy hr (b := exB 4 0 0 2000 0 2000) Sl.nil UI (leaf := 0) (by decide)).mono fun u F2 _ h => by
   obtain ⟨v1, v2, h1, h2⟩ := h
   have hne : agreeL exPr (exB 4 0 0 2000 0 2000) ≠ [] := by rw [Pm]; simp
   rw [if_neg hne] at h1
   obtain ⟨h3, h4⟩ := h2 hne
   rw [show (exB 4 0 0 2000 0 2000).leaves.toNat = 4 from rfl] at h3 h4
   rw [ex_must] at h3
   rw [ex_may] at h4
   exact ⟨v1, v2, h1, h3, h4⟩
theorem exWrong {F : Heap} {vf vp : Value} (hr : PrsR F vf vp exPr) : Ok Tryz.prog 29 [prsV vf vp exPr, bokV (.slice none 0 0) (exB 4 1 145 146 190 191)].toArray F fun u F' => ∃ v, u = .tuple #[v, .int .i64 0] ∧ Nats F' v [0] :=
 (Mh hr (b := exB 4 1 145 146 190 191) Sl.nil ex_cb2).mono fun u F2 _ h => by
   obtain ⟨v, h1, h2⟩ := h
   rw [UE] at h1 h2
   have h3 := h2 (by decide)
   rw [show ((1 : Int)).toNat = 1 from rfl, ex_bits] at h3
   exact ⟨v, h1, h3⟩
theorem exDown {F : Heap} {vf vp : Value} (hr : PrsR F vf vp exPr) : Ok Tryz.prog 29 [prsV vf vp exPr, bokV (.slice none 0 0) (exB 3 0 0 2000 0 2000)].toArray F fun u _ => ∃ v, u = .tuple #[v, .int .i64 9] :=
 (Mh hr (b := exB 3 0 0 2000 0 2000) Sl.nil ex_cb3).mono fun u F2 _ h => by
   obtain ⟨v, h1, -⟩ := h
   rw [ex_down] at h1
   exact ⟨v, h1⟩
theorem exZero {F : Heap} {vf vp : Value} (hr : PrsR F vf vp exPr) : Ok Tryz.prog 28 [prsV vf vp exPr, bokV (.slice none 0 0) (exB 4 1 145 146 0 2000), .int .i64 0].toArray F fun u _ => ∃ v1 v2, u = .tuple #[v1, v2, .int .i64 8] :=
 (Hy hr (b := exB 4 1 145 146 0 2000) Sl.nil ex_cb4 (leaf := 0) (by decide)).mono fun u F2 _ h => by
   obtain ⟨v1, v2, h1, -⟩ := h
   rw [ex_zero] at h1
   exact ⟨v1, v2, h1⟩
theorem GQ {F : Heap} : Ok Tryz.prog 6 [].toArray F fun u _ => u = .bool true := by
 have hle0 : F.le F := Heap.le_refl _
 refine Ok.intro Tryz.func6 rfl Tryz.ntmps6 rfl fun w0 => AD (Ag 1) <| Ac <| Aj fun ds => A5 rfl <| Bb bd_20 Aa .nil TX fun v1 F2 hr3 hF4 => ?_
 replace hle0 := Heap.le_trans hle0 hF4
 obtain ⟨vf, vp, rfl, hr⟩ := hr3
 refine A5 rfl <| AF Tw rfl fun b5 hb5 nb5 => AZ <| AC sz_25 Aa Aa (i := 0) rfl rfl rfl rfl hr.ones (.here) <| Al <| Ab <| AN (i := 0) rfl hb5 (.here) fun F6 hF7 hz1 => ?_
 replace hle0 := Heap.le_trans hle0 hF7
 replace hr := hr.mono hF7
 refine Ac ?_
 have hleS := hle0
 refine Bf (.inl rfl) (fun _ _ h => h) (List.nil_sublist _) [] (by kernel_rfl) fun ds => Af 0 rfl (by kernel_rfl) (by kernel_rfl) (by kernel_rfl) (by kernel_rfl) rfl rfl (fun _ h => h.drop (List.nil_sublist _)) (fun _ _ _ h => h) (A6 Cq Aa rfl rfl (AK hz1)) ?_
 refine Bl 1 rfl (by kernel_rfl) rfl (AI (As P7 Aa AO (Gk _) (fun _ _ h => h)) ⟨fun _ _ => (fun _ h => h.drop (List.nil_sublist _)), ?_⟩)
 refine Bl 2 rfl (by kernel_rfl) rfl (Bb bd_21 Aa AO (UL hr) fun v8 F9 hr10 hF11 => ⟨fun _ _ _ h => (h.drop (List.nil_sublist _)).weak hF11 hleS, ?_⟩)
 replace hle0 := Heap.le_trans hle0 hF11
 replace hr := hr.mono hF11
 replace hz1 := hF11 _ _ hz1
 obtain ⟨hl1_, rfl, hl1⟩ := hr10
 refine Af 3 rfl (by kernel_rfl) (by kernel_rfl) (by kernel_rfl) (by kernel_rfl) rfl rfl (fun _ h => (h.drop (List.nil_sublist _)).weak hF11 hleS) (fun _ _ _ h => h) (A0 Aa) <| Af 4 rfl (by kernel_rfl) (by kernel_rfl) (by kernel_rfl) (by kernel_rfl) rfl rfl (fun _ h => (h.drop (List.nil_sublist _)).weak hF11 hleS) (fun _ _ _ h => h) (BY Aa) <| Af 5 rfl (by kernel_rfl) (by kernel_rfl) (by kernel_rfl) (by kernel_rfl) rfl rfl (fun _ h => (h.drop (List.nil_sublist _)).weak hF11 hleS) (fun _ _ _ h => h) (BY Aa) <| Af 6 rfl (by kernel_rfl) (by kernel_rfl) (by kernel_rfl) (by kernel_rfl) rfl rfl (fun _ h => (h.drop (List.nil_sublist _)).weak hF11 hleS) (fun _ _ _ h => h) (AL Aa) <| Af 7 rfl (by kernel_rfl) (by kernel_rfl) (by kernel_rfl) (by kernel_rfl) rfl rfl (fun _ h => (h.drop (List.nil_sublist _)).weak hF11 hleS) (fun _ _ _ h => h) (AL Aa) ?_
 refine AY (by kernel_rfl) ?_ _
 refine Ab <| Ac ?_
 have hleS := hle0
 refine Bf (.inl rfl) (fun _ _ h => h) (List.nil_sublist _) [] (by kernel_rfl) fun ds => Af 0 rfl (by kernel_rfl) (by kernel_rfl) (by kernel_rfl) (by kernel_rfl) rfl rfl (fun _ h => h.drop (List.nil_sublist _)) (fun _ _ _ h => h) (A6 Cq Aa rfl rfl (AK hz1)) ?_
 refine Bl 1 rfl (by kernel_rfl) rfl (AI (As P7 Aa AO (Gk _) (fun _ _ h => h)) ⟨fun _ _ => (fun _ h => h.drop (List.nil_sublist _)), ?_⟩)
 refine Bl 2 rfl (by kernel_rfl) rfl (Bb bd_23 Aa AO (UN hr) fun v12 F13 hr14 hF15 => ⟨fun _ _ _ h => (h.drop (List.nil_sublist _)).weak hF15 hleS, ?_⟩)
 replace hle0 := Heap.le_trans hle0 hF15
 replace hr := hr.mono hF15
 replace hl1 := hl1.mono hF15
 replace hz1 := hF15 _ _ hz1
 obtain ⟨hf1_, rfl, hf1⟩ := hr14
 refine Af 3 rfl (by kernel_rfl) (by kernel_rfl) (by kernel_rfl) (by kernel_rfl) rfl rfl (fun _ h => (h.drop (List.nil_sublist _)).weak hF15 hleS) (fun _ _ _ h => h) (A0 Aa) <| Af 4 rfl (by kernel_rfl) (by kernel_rfl) (by kernel_rfl) (by kernel_rfl) rfl rfl (fun _ h => (h.drop (List.nil_sublist _)).weak hF15 hleS) (fun _ _ _ h => h) (BY Aa) <| Af 5 rfl (by kernel_rfl) (by kernel_rfl) (by kernel_rfl) (by kernel_rfl) rfl rfl (fun _ h => (h.drop (List.nil_sublist _)).weak hF15 hleS) (fun _ _ _ h => h) (BY Aa) <| Af 6 rfl (by kernel_rfl) (by kernel_rfl) (by kernel_rfl) (by kernel_rfl) rfl rfl (fun _ h => (h.drop (List.nil_sublist _)).weak hF15 hleS) (fun _ _ _ h => h) (AL Aa) <| Af 7 rfl (by kernel_rfl) (by kernel_rfl) (by kernel_rfl) (by kernel_rfl) rfl rfl (fun _ h => (h.drop (List.nil_sublist _)).weak hF15 hleS) (fun _ _ _ h => h) (AL Aa) ?_
 refine AY (by kernel_rfl) ?_ _
 refine Ab <| Ac ?_
 have hleS := hle0
 refine Bf (.inl rfl) (fun _ _ h => h) (List.nil_sublist _) [] (by kernel_rfl) fun ds => Af 0 rfl (by kernel_rfl) (by kernel_rfl) (by kernel_rfl) (by kernel_rfl) rfl rfl (fun _ h => h.drop (List.nil_sublist _)) (fun _ _ _ h => h) (A6 Cq Aa rfl rfl (AK hz1)) ?_
 refine Bl 1 rfl (by kernel_rfl) rfl (AI (As P7 Aa AO (Gk _) (fun _ _ h => h)) ⟨fun _ _ => (fun _ h => h.drop (List.nil_sublist _)), ?_⟩)
 refine Bl 2 rfl (by kernel_rfl) rfl (Bb bd_23 Aa AO (UM hr) fun v16 F17 hr18 hF19 => ⟨fun _ _ _ h => (h.drop (List.nil_sublist _)).weak hF19 hleS, ?_⟩)
 replace hle0 := Heap.le_trans hle0 hF19
 replace hr := hr.mono hF19
 replace hl1 := hl1.mono hF19
 replace hf1 := hf1.mono hF19
 replace hz1 := hF19 _ _ hz1
 obtain ⟨hf2_, rfl, hf2⟩ := hr18
 refine Af 3 rfl (by kernel_rfl) (by kernel_rfl) (by kernel_rfl) (by kernel_rfl) rfl rfl (fun _ h => (h.drop (List.nil_sublist _)).weak hF19 hleS) (fun _ _ _ h => h) (A0 Aa) <| Af 4 rfl (by kernel_rfl) (by kernel_rfl) (by kernel_rfl) (by kernel_rfl) rfl rfl (fun _ h => (h.drop (List.nil_sublist _)).weak hF19 hleS) (fun _ _ _ h => h) (BY Aa) <| Af 5 rfl (by kernel_rfl) (by kernel_rfl) (by kernel_rfl) (by kernel_rfl) rfl rfl (fun _ h => (h.drop (List.nil_sublist _)).weak hF19 hleS) (fun _ _ _ h => h) (BY Aa) <| Af 6 rfl (by kernel_rfl) (by kernel_rfl) (by kernel_rfl) (by kernel_rfl) rfl rfl (fun _ h => (h.drop (List.nil_sublist _)).weak hF19 hleS) (fun _ _ _ h => h) (AL Aa) <| Af 7 rfl (by kernel_rfl) (by kernel_rfl) (by kernel_rfl) (by kernel_rfl) rfl rfl (fun _ h => (h.drop (List.nil_sublist _)).weak hF19 hleS) (fun _ _ _ h => h) (AL Aa) ?_
 refine AY (by kernel_rfl) ?_ _
 refine Ab <| Ac ?_
 have hleS := hle0
 refine Bf (.inl rfl) (fun _ _ h => h) (List.nil_sublist _) [] (by kernel_rfl) fun ds => Af 0 rfl (by kernel_rfl) (by kernel_rfl) (by kernel_rfl) (by kernel_rfl) rfl rfl (fun _ h => h.drop (List.nil_sublist _)) (fun _ _ _ h => h) (A6 Cq Aa rfl rfl (AK hz1)) ?_
 refine Bl 1 rfl (by kernel_rfl) rfl (AI (As P7 Aa AO (Gk _) (fun _ _ h => h)) ⟨fun _ _ => (fun _ h => h.drop (List.nil_sublist _)), ?_⟩)
 refine Bl 2 rfl (by kernel_rfl) rfl (Bb bd_24 Aa AO (exMates hr) fun v20 F21 hr22 hF23 => ⟨fun _ _ _ h => (h.drop (List.nil_sublist _)).weak hF23 hleS, ?_⟩)
 replace hle0 := Heap.le_trans hle0 hF23
 replace hr := hr.mono hF23
 replace hl1 := hl1.mono hF23
 replace hf1 := hf1.mono hF23
 replace hf2 := hf2.mono hF23
 replace hz1 := hF23 _ _ hz1
 obtain ⟨hm1_, rfl, hm1⟩ := hr22
 refine Af 3 rfl (by kernel_rfl) (by kernel_rfl) (by kernel_rfl) (by kernel_rfl) rfl rfl (fun _ h => (h.drop (List.nil_sublist _)).weak hF23 hleS) (fun _ _ _ h => h) (A0 Aa) <| Af 4 rfl (by kernel_rfl) (by kernel_rfl) (by kernel_rfl) (by kernel_rfl) rfl rfl (fun _ h => (h.drop (List.nil_sublist _)).weak hF23 hleS) (fun _ _ _ h => h) (BY Aa) <| Af 5 rfl (by kernel_rfl) (by kernel_rfl) (by kernel_rfl) (by kernel_rfl) rfl rfl (fun _ h => (h.drop (List.nil_sublist _)).weak hF23 hleS) (fun _ _ _ h => h) (BY Aa) <| Af 6 rfl (by kernel_rfl) (by kernel_rfl) (by kernel_rfl) (by kernel_rfl) rfl rfl (fun _ h => (h.drop (List.nil_sublist _)).weak hF23 hleS) (fun _ _ _ h => h) (BY Aa) <| Af 7 rfl (by kernel_rfl) (by kernel_rfl) (by kernel_rfl) (by kernel_rfl) rfl rfl (fun _ h => (h.drop (List.nil_sublist _)).weak hF23 hleS) (fun _ _ _ h => h) (AL Aa) <| Af 8 rfl (by kernel_rfl) (by kernel_rfl) (by kernel_rfl) (by kernel_rfl) rfl rfl (fun _ h => (h.drop (List.nil_sublist _)).weak hF23 hleS) (fun _ _ _ h => h) (AL Aa) <| Af 9 rfl (by kernel_rfl) (by kernel_rfl) (by kernel_rfl) (by kernel_rfl) rfl rfl (fun _ h => (h.drop (List.nil_sublist _)).weak hF23 hleS) (fun _ _ _ h => h) (AL Aa) ?_
 refine AY (by kernel_rfl) ?_ _
 refine Ab <| Ac ?_
 refine PF 9 (.inl rfl) (fun _ _ h => h) (by kernel_rfl) (by kernel_rfl) false rfl ([fun F v => v = prsV vf vp exPr, fun F v => v = mkV (exM 2), fun F v => Ints F v [0], fun F v => v = .tuple #[tupF v 0, .int .i64 0] ∧ Nats F (tupF v 0) [0, 3, 4, 7], fun F v => v = .tuple #[tupF v 0, .int .i64 0] ∧ Nats F (tupF v 0) [0, 3, 4, 7], fun F v => Nats F v [0, 3, 4, 7], fun F v => v = .int .i64 0, fun F v => Nats F v [0, 3, 4, 7], fun F v => v = .int .i64 0]) (⟨fun F F2 v hF h => h, fun F F2 v hF h => h, fun F F2 v hF h => h.mono hF, fun F F2 v hF h => ⟨h.1, h.2.mono hF⟩, fun F F2 v hF h => ⟨h.1, h.2.mono hF⟩, fun F F2 v hF h => h.mono hF, fun F F2 v hF h => h, fun F F2 v hF h => h.mono hF, fun F F2 v hF h => h, trivial⟩) (fun ds => ?_) (fun ds => ?_)
 ·refine ⟨⟨⟨⟨⟨⟨⟨⟨⟨trivial, ?_⟩, ?_⟩, ?_⟩, ?_⟩, ?_⟩, ?_⟩, ?_⟩, ?_⟩, ?_⟩
  ·intro e1 F1 hF1 he hj
   replace hz1 := hF1 _ _ hz1
   refine ⟨_, _, _, _, _, rfl, ?_⟩
   refine AI (A6 Cq (CY (DM he (by kernel_rfl)) <| De rfl <| CQ rfl <| Bn) rfl rfl (AK hz1)).quiet ⟨_, rfl, Heap.le_refl _, rfl⟩
  ·intro e1 F1 hF1 he hj
   refine ⟨_, _, _, _, _, rfl, ?_⟩
   refine AI (As P7 Aa AO (Gk _) (fun _ _ h => h)) ⟨_, rfl, Heap.le_refl _, rfl⟩
  ·intro e1 F1 hF1 he hj
   refine ⟨_, _, _, _, _, rfl, ?_⟩
   refine EL (AS AR B3 rfl (.cons Aa .nil) rfl rfl (by decide) (by simp [Value.oneCell']) fun b hb nb => ⟨b, _, hb, rfl, fun F2 hF2 hz => ⟨F2, rfl, hF2, (Be hz)⟩⟩)
  ·intro e1 F1 hF1 he hj
   replace hr := hr.mono hF1
   have g52 : (e1 52) = prsV vf vp exPr := hj 0 (by kernel_rfl) (by decide)
   have g53 : (e1 53) = mkV (exM 2) := hj 1 (by kernel_rfl) (by decide)
   have g54 : Ints F1 (e1 54) [0] := hj 2 (by kernel_rfl) (by decide)
   refine ⟨_, _, _, _, _, rfl, ?_⟩
   refine Bb bd_25 Aa (.cons (Cr g52) (.cons (Cr g53) (.cons (Cr rfl) .nil))) (UK hr g54) fun v2 F2 hr hF2 => ⟨F2, rfl, hF2, (tupF_of hr)⟩
  ·intro e1 F1 hF1 he hj
   have g55 : (e1 55) = .tuple #[tupF (e1 55) 0, .int .i64 0] ∧ Nats F1 (tupF (e1 55) 0) [0, 3, 4, 7] := hj 3 (by kernel_rfl) (by decide)
   refine ⟨_, _, _, _, _, rfl, ?_⟩
   refine AI (A0 (Cr g55.1)).quiet ⟨_, rfl, Heap.le_refl _, ⟨rfl, g55.2⟩⟩
  ·intro e1 F1 hF1 he hj
   have g51 : (e1 51) = .tuple #[tupF (e1 51) 0, .int .i64 0] ∧ Nats F1 (tupF (e1 51) 0) [0, 3, 4, 7] := hj 4 (by kernel_rfl) (by decide)
   refine ⟨_, _, _, _, _, rfl, ?_⟩
   refine AI (C4 (Cr g51.1) rfl).quiet ⟨_, rfl, Heap.le_refl _, g51.2⟩
  ·intro e1 F1 hF1 he hj
   have g51 : (e1 51) = .tuple #[tupF (e1 51) 0, .int .i64 0] ∧ Nats F1 (tupF (e1 51) 0) [0, 3, 4, 7] := hj 4 (by kernel_rfl) (by decide)
   refine ⟨_, _, _, _, _, rfl, ?_⟩
   refine AI (C4 (Cr g51.1) rfl).quiet ⟨_, rfl, Heap.le_refl _, rfl⟩
  ·intro e1 F1 hF1 he hj
   have g52 : (e1 52) = prsV vf vp exPr := hj 0 (by kernel_rfl) (by decide)
   have g53 : (e1 53) = mkV (exM 2) := hj 1 (by kernel_rfl) (by decide)
   have g54 : Ints F1 (e1 54) [0] := hj 2 (by kernel_rfl) (by decide)
   have g55 : (e1 55) = .tuple #[tupF (e1 55) 0, .int .i64 0] ∧ Nats F1 (tupF (e1 55) 0) [0, 3, 4, 7] := hj 3 (by kernel_rfl) (by decide)
   have g51 : (e1 51) = .tuple #[tupF (e1 51) 0, .int .i64 0] ∧ Nats F1 (tupF (e1 51) 0) [0, 3, 4, 7] := hj 4 (by kernel_rfl) (by decide)
   have g56 : Nats F1 (e1 56) [0, 3, 4, 7] := hj 5 (by kernel_rfl) (by decide)
   refine ⟨_, _, _, _, _, rfl, ?_⟩
   refine AI (AL (Cr rfl)).quiet ⟨_, rfl, Heap.le_refl _, g56⟩
  intro e1 F1 hF1 he hj
  have g52 : (e1 52) = prsV vf vp exPr := hj 0 (by kernel_rfl) (by decide)
  have g53 : (e1 53) = mkV (exM 2) := hj 1 (by kernel_rfl) (by decide)
  have g54 : Ints F1 (e1 54) [0] := hj 2 (by kernel_rfl) (by decide)
  have g55 : (e1 55) = .tuple #[tupF (e1 55) 0, .int .i64 0] ∧ Nats F1 (tupF (e1 55) 0) [0, 3, 4, 7] := hj 3 (by kernel_rfl) (by decide)
  have g51 : (e1 51) = .tuple #[tupF (e1 51) 0, .int .i64 0] ∧ Nats F1 (tupF (e1 51) 0) [0, 3, 4, 7] := hj 4 (by kernel_rfl) (by decide)
  have g56 : Nats F1 (e1 56) [0, 3, 4, 7] := hj 5 (by kernel_rfl) (by decide)
  have g57 : (e1 57) = .int .i64 0 := hj 6 (by kernel_rfl) (by decide)
  have g11 : Nats F1 (e1 11) [0, 3, 4, 7] := hj 7 (by kernel_rfl) (by decide)
  refine ⟨_, _, _, _, _, rfl, ?_⟩
  refine AI (AL (Cr g57)).quiet ⟨_, rfl, Heap.le_refl _, rfl⟩
 intro e27 F24 hF25 he26 hj
 replace hle0 := Heap.le_trans hle0 hF25
 replace hr := hr.mono hF25
 replace hl1 := hl1.mono hF25
 replace hf1 := hf1.mono hF25
 replace hf2 := hf2.mono hF25
 replace hm1 := hm1.mono hF25
 replace hz1 := hF25 _ _ hz1
 have g52 : (e27 52) = prsV vf vp exPr := hj 0 (by decide)
 have g53 : (e27 53) = mkV (exM 2) := hj 1 (by decide)
 have g54 : Ints F24 (e27 54) [0] := hj 2 (by decide)
 have g55 : (e27 55) = .tuple #[tupF (e27 55) 0, .int .i64 0] ∧ Nats F24 (tupF (e27 55) 0) [0, 3, 4, 7] := hj 3 (by decide)
 have g51 : (e27 51) = .tuple #[tupF (e27 51) 0, .int .i64 0] ∧ Nats F24 (tupF (e27 51) 0) [0, 3, 4, 7] := hj 4 (by decide)
 have g56 : Nats F24 (e27 56) [0, 3, 4, 7] := hj 5 (by decide)
 have g57 : (e27 57) = .int .i64 0 := hj 6 (by decide)
 have g11 : Nats F24 (e27 11) [0, 3, 4, 7] := hj 7 (by decide)
 have g12 : (e27 12) = .int .i64 0 := hj 8 (by decide)
 refine Ab <| Ac ?_
 have hleS := hle0
 refine Bf (.inl rfl) (fun _ _ h => h) (List.nil_sublist _) [] (by kernel_rfl) fun ds => Af 0 rfl (by kernel_rfl) (by kernel_rfl) (by kernel_rfl) (by kernel_rfl) rfl rfl (fun _ h => h.drop (List.nil_sublist _)) (fun _ _ _ h => h) (A6 Cq (CY (DM he26 (by kernel_rfl)) <| De rfl <| CQ rfl <| Bn) rfl rfl (AK hz1)) ?_
 refine Bl 1 rfl (by kernel_rfl) rfl (AI (As LN Aa .nil EG (fun _ _ h => h)) ⟨fun _ _ => (fun _ h => h.drop (List.nil_sublist _)), ?_⟩)
 refine Bl 2 rfl (by kernel_rfl) rfl (AI (As LN Aa .nil EG (fun _ _ h => h)) ⟨fun _ _ => (fun _ h => h.drop (List.nil_sublist _)), ?_⟩)
 refine Bl 3 rfl (by kernel_rfl) rfl (AI (As Se Aa AO (Ks _ _ _ _ _) (fun _ _ h => h)) ⟨fun _ _ => (fun _ h => h.drop (List.nil_sublist _)), ?_⟩)
 refine Bl 4 rfl (by kernel_rfl) rfl (Bb bd_9 Aa AO (exAgree hr) fun v28 F29 hr30 hF31 => ⟨fun _ _ _ h => (h.drop (List.nil_sublist _)).weak hF31 hleS, ?_⟩)
 replace hle0 := Heap.le_trans hle0 hF31
 replace hr := hr.mono hF31
 replace hl1 := hl1.mono hF31
 replace hf1 := hf1.mono hF31
 replace hf2 := hf2.mono hF31
 replace hm1 := hm1.mono hF31
 replace g11 := g11.mono hF31
 replace hz1 := hF31 _ _ hz1
 obtain ⟨ha1_, rfl, ha1⟩ := hr30
 refine Af 5 rfl (by kernel_rfl) (by kernel_rfl) (by kernel_rfl) (by kernel_rfl) rfl rfl (fun _ h => (h.drop (List.nil_sublist _)).weak hF31 hleS) (fun _ _ _ h => h) (A0 Aa) <| Af 6 rfl (by kernel_rfl) (by kernel_rfl) (by kernel_rfl) (by kernel_rfl) rfl rfl (fun _ h => (h.drop (List.nil_sublist _)).weak hF31 hleS) (fun _ _ _ h => h) (BY Aa) <| Af 7 rfl (by kernel_rfl) (by kernel_rfl) (by kernel_rfl) (by kernel_rfl) rfl rfl (fun _ h => (h.drop (List.nil_sublist _)).weak hF31 hleS) (fun _ _ _ h => h) (BY Aa) <| Af 8 rfl (by kernel_rfl) (by kernel_rfl) (by kernel_rfl) (by kernel_rfl) rfl rfl (fun _ h => (h.drop (List.nil_sublist _)).weak hF31 hleS) (fun _ _ _ h => h) (AL Aa) <| Af 9 rfl (by kernel_rfl) (by kernel_rfl) (by kernel_rfl) (by kernel_rfl) rfl rfl (fun _ h => (h.drop (List.nil_sublist _)).weak hF31 hleS) (fun _ _ _ h => h) (AL Aa) ?_
 refine AY (by kernel_rfl) ?_ _
 refine Ab <| Ac ?_
 have hleS := hle0
 refine Bf (.inl rfl) (fun _ _ h => h) (List.nil_sublist _) [] (by kernel_rfl) fun ds => Af 0 rfl (by kernel_rfl) (by kernel_rfl) (by kernel_rfl) (by kernel_rfl) rfl rfl (fun _ h => h.drop (List.nil_sublist _)) (fun _ _ _ h => h) (A6 Cq (ES rfl <| CQ rfl <| CY (DM he26 (by kernel_rfl)) <| De rfl <| CQ rfl <| Bn) rfl rfl (AK hz1)) ?_
 refine Bl 1 rfl (by kernel_rfl) rfl (AI (As LN Aa .nil EG (fun _ _ h => h)) ⟨fun _ _ => (fun _ h => h.drop (List.nil_sublist _)), ?_⟩)
 refine Bl 2 rfl (by kernel_rfl) rfl (AI (As LN Aa .nil EG (fun _ _ h => h)) ⟨fun _ _ => (fun _ h => h.drop (List.nil_sublist _)), ?_⟩)
 refine Bl 3 rfl (by kernel_rfl) rfl (AI (As Se Aa AO (Ks _ _ _ _ _) (fun _ _ h => h)) ⟨fun _ _ => (fun _ h => h.drop (List.nil_sublist _)), ?_⟩)
 refine Bl 4 rfl (by kernel_rfl) rfl (Bb bd_28 Aa AO (Q7 hr) fun v32 F33 hr34 hF35 => ⟨fun _ _ _ h => (h.drop (List.nil_sublist _)).weak hF35 hleS, ?_⟩)
 replace hle0 := Heap.le_trans hle0 hF35
 replace hr := hr.mono hF35
 replace hl1 := hl1.mono hF35
 replace hf1 := hf1.mono hF35
 replace hf2 := hf2.mono hF35
 replace hm1 := hm1.mono hF35
 replace g11 := g11.mono hF35
 replace ha1 := ha1.mono hF35
 replace hz1 := hF35 _ _ hz1
 obtain ⟨ht1_, ht2_, rfl, ht1, ht2⟩ := hr34
 refine Af 5 rfl (by kernel_rfl) (by kernel_rfl) (by kernel_rfl) (by kernel_rfl) rfl rfl (fun _ h => (h.drop (List.nil_sublist _)).weak hF35 hleS) (fun _ _ _ h => h) (A0 Aa) <| Af 6 rfl (by kernel_rfl) (by kernel_rfl) (by kernel_rfl) (by kernel_rfl) rfl rfl (fun _ h => (h.drop (List.nil_sublist _)).weak hF35 hleS) (fun _ _ _ h => h) (BY Aa) <| Af 7 rfl (by kernel_rfl) (by kernel_rfl) (by kernel_rfl) (by kernel_rfl) rfl rfl (fun _ h => (h.drop (List.nil_sublist _)).weak hF35 hleS) (fun _ _ _ h => h) (BY Aa) <| Af 8 rfl (by kernel_rfl) (by kernel_rfl) (by kernel_rfl) (by kernel_rfl) rfl rfl (fun _ h => (h.drop (List.nil_sublist _)).weak hF35 hleS) (fun _ _ _ h => h) (BY Aa) <| Af 9 rfl (by kernel_rfl) (by kernel_rfl) (by kernel_rfl) (by kernel_rfl) rfl rfl (fun _ h => (h.drop (List.nil_sublist _)).weak hF35 hleS) (fun _ _ _ h => h) (AL Aa) <| Af 10 rfl (by kernel_rfl) (by kernel_rfl) (by kernel_rfl) (by kernel_rfl) rfl rfl (fun _ h => (h.drop (List.nil_sublist _)).weak hF35 hleS) (fun _ _ _ h => h) (AL Aa) <| Af 11 rfl (by kernel_rfl) (by kernel_rfl) (by kernel_rfl) (by kernel_rfl) rfl rfl (fun _ h => (h.drop (List.nil_sublist _)).weak hF35 hleS) (fun _ _ _ h => h) (AL Aa) ?_
 refine AY (by kernel_rfl) ?_ _
 refine Ab <| Ac ?_
 have hleS := hle0
 refine Bf (.inl rfl) (fun _ _ h => h) (List.nil_sublist _) [] (by kernel_rfl) fun ds => Af 0 rfl (by kernel_rfl) (by kernel_rfl) (by kernel_rfl) (by kernel_rfl) rfl rfl (fun _ h => h.drop (List.nil_sublist _)) (fun _ _ _ h => h) (A6 Cq (Df rfl <| DD rfl <| CQ rfl <| CY (DM he26 (by kernel_rfl)) <| De rfl <| CQ rfl <| Bn) rfl rfl (AK hz1)) ?_
 refine Bl 1 rfl (by kernel_rfl) rfl (AI (As En Aa AO (Cj _ _) (fun _ _ h => h)) ⟨fun _ _ => (fun _ h => h.drop (List.nil_sublist _)), ?_⟩)
 refine Bl 2 rfl (by kernel_rfl) rfl (AI (As En Aa AO (Cj _ _) (fun _ _ h => h)) ⟨fun _ _ => (fun _ h => h.drop (List.nil_sublist _)), ?_⟩)
 refine Bl 3 rfl (by kernel_rfl) rfl (AI (As Se Aa AO (Ks _ _ _ _ _) (fun _ _ h => h)) ⟨fun _ _ => (fun _ h => h.drop (List.nil_sublist _)), ?_⟩)
 refine Bl 4 rfl (by kernel_rfl) rfl (Bb bd_29 Aa AO (exWrong hr) fun v36 F37 hr38 hF39 => ⟨fun _ _ _ h => (h.drop (List.nil_sublist _)).weak hF39 hleS, ?_⟩)
 replace hle0 := Heap.le_trans hle0 hF39
 replace hr := hr.mono hF39
 replace hl1 := hl1.mono hF39
 replace hf1 := hf1.mono hF39
 replace hf2 := hf2.mono hF39
 replace hm1 := hm1.mono hF39
 replace g11 := g11.mono hF39
 replace ha1 := ha1.mono hF39
 replace ht1 := ht1.mono hF39
 replace ht2 := ht2.mono hF39
 replace hz1 := hF39 _ _ hz1
 obtain ⟨hw1_, rfl, hw1⟩ := hr38
 refine Af 5 rfl (by kernel_rfl) (by kernel_rfl) (by kernel_rfl) (by kernel_rfl) rfl rfl (fun _ h => (h.drop (List.nil_sublist _)).weak hF39 hleS) (fun _ _ _ h => h) (A0 Aa) <| Af 6 rfl (by kernel_rfl) (by kernel_rfl) (by kernel_rfl) (by kernel_rfl) rfl rfl (fun _ h => (h.drop (List.nil_sublist _)).weak hF39 hleS) (fun _ _ _ h => h) (BY Aa) <| Af 7 rfl (by kernel_rfl) (by kernel_rfl) (by kernel_rfl) (by kernel_rfl) rfl rfl (fun _ h => (h.drop (List.nil_sublist _)).weak hF39 hleS) (fun _ _ _ h => h) (BY Aa) <| Af 8 rfl (by kernel_rfl) (by kernel_rfl) (by kernel_rfl) (by kernel_rfl) rfl rfl (fun _ h => (h.drop (List.nil_sublist _)).weak hF39 hleS) (fun _ _ _ h => h) (AL Aa) <| Af 9 rfl (by kernel_rfl) (by kernel_rfl) (by kernel_rfl) (by kernel_rfl) rfl rfl (fun _ h => (h.drop (List.nil_sublist _)).weak hF39 hleS) (fun _ _ _ h => h) (AL Aa) ?_
 refine AY (by kernel_rfl) ?_ _
 refine Ab <| Ac ?_
 have hleS := hle0
 refine Bf (.inl rfl) (fun _ _ h => h) (List.nil_sublist _) [] (by kernel_rfl) fun ds => Af 0 rfl (by kernel_rfl) (by kernel_rfl) (by kernel_rfl) (by kernel_rfl) rfl rfl (fun _ h => h.drop (List.nil_sublist _)) (fun _ _ _ h => h) (A6 Cq (De rfl <| CY (DM he26 (by kernel_rfl)) <| De rfl <| CQ rfl <| Bn) rfl rfl (AK hz1)) ?_
 refine Bl 1 rfl (by kernel_rfl) rfl (AI (As LN Aa .nil EG (fun _ _ h => h)) ⟨fun _ _ => (fun _ h => h.drop (List.nil_sublist _)), ?_⟩)
 refine Bl 2 rfl (by kernel_rfl) rfl (AI (As LN Aa .nil EG (fun _ _ h => h)) ⟨fun _ _ => (fun _ h => h.drop (List.nil_sublist _)), ?_⟩)
 refine Af 3 rfl (by kernel_rfl) (by kernel_rfl) (by kernel_rfl) (by kernel_rfl) rfl rfl (fun _ h => h.drop (List.nil_sublist _)) (fun _ _ _ h => h) (Bg HW (.cons Aa rfl (.cons Aa rfl (.cons Aa rfl .nil))) (.cons rfl rfl (Nat.le_of_ble_eq_true rfl) (.cons (.here) .nil) (.cons rfl rfl (Nat.le_of_ble_eq_true rfl) (.cons (.next <| .next <| .here) (.cons (.next <| .next <| .next <| .here) .nil)) (.cons rfl rfl (Nat.le_of_ble_eq_true rfl) (.cons (.next <| .next <| .next <| .next <| .here) (.cons (.next <| .next <| .next <| .next <| .next <| .here) .nil)) .nil)))) ?_
 refine Bl 4 rfl (by kernel_rfl) rfl (Bb bd_29 Aa AO (exDown hr) fun v40 F41 hr42 hF43 => ⟨fun _ _ _ h => (h.drop (List.nil_sublist _)).weak hF43 hleS, ?_⟩)
 replace hle0 := Heap.le_trans hle0 hF43
 replace hr := hr.mono hF43
 replace hl1 := hl1.mono hF43
 replace hf1 := hf1.mono hF43
 replace hf2 := hf2.mono hF43
 replace hm1 := hm1.mono hF43
 replace g11 := g11.mono hF43
 replace ha1 := ha1.mono hF43
 replace ht1 := ht1.mono hF43
 replace ht2 := ht2.mono hF43
 replace hw1 := hw1.mono hF43
 replace hz1 := hF43 _ _ hz1
 obtain ⟨hd_, rfl⟩ := hr42
 refine Af 5 rfl (by kernel_rfl) (by kernel_rfl) (by kernel_rfl) (by kernel_rfl) rfl rfl (fun _ h => (h.drop (List.nil_sublist _)).weak hF43 hleS) (fun _ _ _ h => h) (A0 Aa) <| Af 6 rfl (by kernel_rfl) (by kernel_rfl) (by kernel_rfl) (by kernel_rfl) rfl rfl (fun _ h => (h.drop (List.nil_sublist _)).weak hF43 hleS) (fun _ _ _ h => h) (BY Aa) <| Af 7 rfl (by kernel_rfl) (by kernel_rfl) (by kernel_rfl) (by kernel_rfl) rfl rfl (fun _ h => (h.drop (List.nil_sublist _)).weak hF43 hleS) (fun _ _ _ h => h) (BY Aa) <| Af 8 rfl (by kernel_rfl) (by kernel_rfl) (by kernel_rfl) (by kernel_rfl) rfl rfl (fun _ h => (h.drop (List.nil_sublist _)).weak hF43 hleS) (fun _ _ _ h => h) (AL Aa) <| Af 9 rfl (by kernel_rfl) (by kernel_rfl) (by kernel_rfl) (by kernel_rfl) rfl rfl (fun _ h => (h.drop (List.nil_sublist _)).weak hF43 hleS) (fun _ _ _ h => h) (AL Aa) ?_
 refine AY (by kernel_rfl) ?_ _
 refine Ab <| Ac ?_
 have hleS := hle0
 refine Bf (.inl rfl) (fun _ _ h => h) (List.nil_sublist _) [] (by kernel_rfl) fun ds => Af 0 rfl (by kernel_rfl) (by kernel_rfl) (by kernel_rfl) (by kernel_rfl) rfl rfl (fun _ h => h.drop (List.nil_sublist _)) (fun _ _ _ h => h) (A6 Cq (De rfl <| ES rfl <| CQ rfl <| CY (DM he26 (by kernel_rfl)) <| De rfl <| CQ rfl <| Bn) rfl rfl (AK hz1)) ?_
 refine Bl 1 rfl (by kernel_rfl) rfl (AI (As En Aa AO (Cj _ _) (fun _ _ h => h)) ⟨fun _ _ => (fun _ h => h.drop (List.nil_sublist _)), ?_⟩)
 refine Bl 2 rfl (by kernel_rfl) rfl (AI (As LN Aa .nil EG (fun _ _ h => h)) ⟨fun _ _ => (fun _ h => h.drop (List.nil_sublist _)), ?_⟩)
 refine Bl 3 rfl (by kernel_rfl) rfl (AI (As Se Aa AO (Ks _ _ _ _ _) (fun _ _ h => h)) ⟨fun _ _ => (fun _ h => h.drop (List.nil_sublist _)), ?_⟩)
 refine Bl 4 rfl (by kernel_rfl) rfl (Bb bd_28 Aa AO (exZero hr) fun v44 F45 hr46 hF47 => ⟨fun _ _ _ h => (h.drop (List.nil_sublist _)).weak hF47 hleS, ?_⟩)
 replace hl1 := hl1.mono hF47
 replace hf1 := hf1.mono hF47
 replace hf2 := hf2.mono hF47
 replace hm1 := hm1.mono hF47
 replace g11 := g11.mono hF47
 replace ha1 := ha1.mono hF47
 replace ht1 := ht1.mono hF47
 replace ht2 := ht2.mono hF47
 replace hw1 := hw1.mono hF47
 obtain ⟨hz1_, hz2_, rfl⟩ := hr46
 refine Af 5 rfl (by kernel_rfl) (by kernel_rfl) (by kernel_rfl) (by kernel_rfl) rfl rfl (fun _ h => (h.drop (List.nil_sublist _)).weak hF47 hleS) (fun _ _ _ h => h) (A0 Aa) <| Af 6 rfl (by kernel_rfl) (by kernel_rfl) (by kernel_rfl) (by kernel_rfl) rfl rfl (fun _ h => (h.drop (List.nil_sublist _)).weak hF47 hleS) (fun _ _ _ h => h) (BY Aa) <| Af 7 rfl (by kernel_rfl) (by kernel_rfl) (by kernel_rfl) (by kernel_rfl) rfl rfl (fun _ h => (h.drop (List.nil_sublist _)).weak hF47 hleS) (fun _ _ _ h => h) (BY Aa) <| Af 8 rfl (by kernel_rfl) (by kernel_rfl) (by kernel_rfl) (by kernel_rfl) rfl rfl (fun _ h => (h.drop (List.nil_sublist _)).weak hF47 hleS) (fun _ _ _ h => h) (BY Aa) <| Af 9 rfl (by kernel_rfl) (by kernel_rfl) (by kernel_rfl) (by kernel_rfl) rfl rfl (fun _ h => (h.drop (List.nil_sublist _)).weak hF47 hleS) (fun _ _ _ h => h) (AL Aa) <| Af 10 rfl (by kernel_rfl) (by kernel_rfl) (by kernel_rfl) (by kernel_rfl) rfl rfl (fun _ h => (h.drop (List.nil_sublist _)).weak hF47 hleS) (fun _ _ _ h => h) (AL Aa) <| Af 11 rfl (by kernel_rfl) (by kernel_rfl) (by kernel_rfl) (by kernel_rfl) rfl rfl (fun _ h => (h.drop (List.nil_sublist _)).weak hF47 hleS) (fun _ _ _ h => h) (AL Aa) ?_
 refine AY (by kernel_rfl) ?_ _
 refine Ab <| Ac <| Aj fun ds => Ad rfl (A0 (De rfl <| Df rfl <| DD rfl <| CQ rfl <| CY (DM he26 (by kernel_rfl)) <| Df rfl <| ES rfl <| CQ rfl <| Bn)) <| Ad rfl (Cd Aa Aa) <| Ad rfl (A0 Aa) <| Ai rfl rfl Aa (by first | rfl | decide) <| Ad rfl (A0 (De rfl <| Df rfl <| ES rfl <| Ct rfl <| CY (DM he26 (by kernel_rfl)) <| Df rfl <| CQ rfl <| Bn)) <| Ai rfl rfl Aa (by first | rfl | decide) <| Ad rfl (Cd Aa Aa) <| Ad rfl (At Aa (by first | rfl | decide) Aa) <| Ad rfl (A0 Aa) <| Ai rfl rfl Aa (by first | rfl | decide) <| Ad rfl (A0 (De rfl <| Df rfl <| ES rfl <| DD rfl <| Ct rfl <| CY (DM he26 (by kernel_rfl)) <| ES rfl <| CQ rfl <| Bn)) <| Ai rfl rfl Aa (by first | rfl | decide) <| Ad rfl (Cd Aa Aa) <| Ad rfl (At Aa (by first | rfl | decide) Aa) <| Ad rfl (A0 Aa) <| Ai rfl rfl Aa (by first | rfl | decide) <| Ad rfl (A0 (De rfl <| De rfl <| Ct rfl <| CY (DM he26 (by kernel_rfl)) <| Bn)) <| Ai rfl rfl Aa (by first | rfl | decide) <| Ad rfl (Cd Aa Aa) <| Ad rfl (At Aa (by first | rfl | decide) Aa) <| Ad rfl (A0 Aa) <| Ai rfl rfl Aa (by first | rfl | decide) <| Ad rfl (A0 (De rfl <| De rfl <| DD rfl <| Ct rfl <| Cr g12)) <| Ai rfl rfl Aa (by first | rfl | decide) <| Ad rfl (Cd Aa Aa) <| Ad rfl (At Aa (by first | rfl | decide) Aa) ?_
 refine Ad rfl (A0 Aa) <| Ai rfl rfl Aa (by first | rfl | decide) <| Ad rfl (A0 Aa) <| Ai rfl rfl Aa (by first | rfl | decide) <| Ad rfl (Cd Aa Aa) <| Ad rfl (At Aa (by first | rfl | decide) Aa) <| Ad rfl (A0 Aa) <| Ai rfl rfl Aa (by first | rfl | decide) <| Ad rfl (A0 Aa) <| Ai rfl rfl Aa (by first | rfl | decide) <| Ad rfl (Cd Aa Aa) <| Ad rfl (At Aa (by first | rfl | decide) Aa) <| Ad rfl (A0 Aa) <| Ai rfl rfl Aa (by first | rfl | decide) <| Ad rfl (A0 Aa) <| Ai rfl rfl Aa (by first | rfl | decide) <| Ad rfl (Cd Aa Aa) <| Ad rfl (At Aa (by first | rfl | decide) Aa) <| Ad rfl (A0 Aa) <| Ai rfl rfl Aa (by first | rfl | decide) <| Ad rfl (A0 Aa) <| Ai rfl rfl Aa (by first | rfl | decide) <| Ad rfl (Cd Aa Aa) <| Ad rfl (At Aa (by first | rfl | decide) Aa) <| Ad rfl (A0 Aa) <| Ai rfl rfl Aa (by first | rfl | decide) <| Ad rfl (A0 Aa) <| Ai rfl rfl Aa (by first | rfl | decide) <| Ad rfl (Cd Aa Aa) <| Ad rfl (At Aa (by first | rfl | decide) Aa) <| Ad rfl (A0 Aa) <| Ai rfl rfl Aa (by first | rfl | decide) <| Ad rfl (A0 (De rfl <| De rfl <| Df rfl <| ES rfl <| DD rfl <| Ct rfl <| CY (DM he26 (by kernel_rfl)) <| Df rfl <| ES rfl <| CQ rfl <| Ct rfl <| Bn)) <| Ai rfl rfl Aa (by first | rfl | decide) <| Ad rfl (Bg LE .nil .nil) ?_
 refine Ai rfl rfl Aa (by first | rfl | decide) <| Ad rfl (Bg LE (.cons Aa rfl (.cons Aa rfl (.cons Aa rfl .nil))) (.cons rfl rfl (Nat.le_of_ble_eq_true rfl) (.cons (.next <| .here) .nil) (.cons rfl rfl (Nat.le_of_ble_eq_true rfl) (.cons (.next <| .next <| .next <| .here) .nil) (.cons rfl rfl (Nat.le_of_ble_eq_true rfl) (.cons (.next <| .next <| .next <| .next <| .here) .nil) .nil)))) <| Ai rfl rfl Aa (by first | rfl | decide) <| Ad rfl (Bg LE (.cons Aa rfl (.cons Aa rfl (.cons Aa rfl .nil))) (.cons rfl rfl (Nat.le_of_ble_eq_true rfl) (.cons (.next <| .here) .nil) (.cons rfl rfl (Nat.le_of_ble_eq_true rfl) (.cons (.next <| .next <| .here) .nil) (.cons rfl rfl (Nat.le_of_ble_eq_true rfl) (.cons (.next <| .next <| .next <| .next <| .here) .nil) .nil)))) <| Ai rfl rfl Aa (by first | rfl | decide) <| Ad rfl (Bg LE (.cons Aa rfl (.cons Aa rfl .nil)) (.cons rfl rfl (Nat.le_of_ble_eq_true rfl) (.cons (.next <| .next <| .here) .nil) (.cons rfl rfl (Nat.le_of_ble_eq_true rfl) (.cons (.next <| .next <| .next <| .here) .nil) .nil))) <| Ai rfl rfl Aa (by first | rfl | decide) <| A5 rfl <| B0 (offs := [(0, 5), (5, 5), (10, 5), (15, 5)]) (zl := [.int .i64 0, .int .i64 0, .int .i64 0, .bool false, .bool false, .int .i64 0, .int .i64 0, .int .i64 0, .bool false, .bool false, .int .i64 0, .int .i64 0, .int .i64 0, .bool false, .bool false, .int .i64 0, .int .i64 0, .int .i64 0, .bool false, .bool false]) Bz E6 rfl (.cons Aa rfl (.cons Aa rfl (.cons Aa rfl (.cons Aa rfl .nil)))) (by intro i p h; rcases i with _ | _ | _ | _ | i <;> simp at h <;> subst h <;> rfl) (.cons rfl rfl (Nat.le_of_ble_eq_true rfl) (.cons (.here) (.cons (.next <| .here) (.cons (.next <| .next <| .here) (.cons (.next <| .next <| .next <| .here) (.cons (.next <| .next <| .next <| .next <| .here) .nil))))) (.cons rfl rfl (Nat.le_of_ble_eq_true rfl) (.cons (.next <| .next <| .next <| .next <| .next <| .here) (.cons (.next <| .next <| .next <| .next <| .next <| .next <| .here) (.cons (.next <| .next <| .next <| .next <| .next <| .next <| .next <| .here) (.cons (.next <| .next <| .next <| .next <| .next <| .next <| .next <| .next <| .here) (.cons (.next <| .next <| .next <| .next <| .next <| .next <| .next <| .next <| .next <| .here) .nil))))) (.cons rfl rfl (Nat.le_of_ble_eq_true rfl) (.cons (.next <| .next <| .next <| .next <| .next <| .next <| .next <| .next <| .next <| .next <| .here) (.cons (.next <| .next <| .next <| .next <| .next <| .next <| .next <| .next <| .next <| .next <| .next <| .here) (.cons (.next <| .next <| .next <| .next <| .next <| .next <| .next <| .next <| .next <| .next <| .next <| .next <| .here) (.cons (.next <| .next <| .next <| .next <| .next <| .next <| .next <| .next <| .next <| .next <| .next <| .next <| .next <| .here) (.cons (.next <| .next <| .next <| .next <| .next <| .next <| .next <| .next <| .next <| .next <| .next <| .next <| .next <| .next <| .here) .nil))))) (.cons rfl rfl (Nat.le_of_ble_eq_true rfl) (.cons (.next <| .next <| .next <| .next <| .next <| .next <| .next <| .next <| .next <| .next <| .next <| .next <| .next <| .next <| .next <| .here) (.cons (.next <| .next <| .next <| .next <| .next <| .next <| .next <| .next <| .next <| .next <| .next <| .next <| .next <| .next <| .next <| .next <| .here) (.cons (.next <| .next <| .next <| .next <| .next <| .next <| .next <| .next <| .next <| .next <| .next <| .next <| .next <| .next <| .next <| .next <| .next <| .here) (.cons (.next <| .next <| .next <| .next <| .next <| .next <| .next <| .next <| .next <| .next <| .next <| .next <| .next <| .next <| .next <| .next <| .next <| .next <| .here) (.cons (.next <| .next <| .next <| .next <| .next <| .next <| .next <| .next <| .next <| .next <| .next <| .next <| .next <| .next <| .next <| .next <| .next <| .next <| .next <| .here) .nil))))) .nil)))) (by decide) (by decide) fun b48 hb48 nb48 => ?_
 refine AQ (i := 0) rfl hb48 .here fun F49 hF50 hz51 => ?_
 replace hl1 := hl1.mono hF50
 replace hf1 := hf1.mono hF50
 replace hf2 := hf2.mono hF50
 replace hm1 := hm1.mono hF50
 replace g11 := g11.mono hF50
 replace ha1 := ha1.mono hF50
 replace ht1 := ht1.mono hF50
 replace ht2 := ht2.mono hF50
 replace hw1 := hw1.mono hF50
 have hsl52 := Uu hz51
 refine Ai rfl rfl Aa (by first | rfl | decide) <| AE rfl (As bd_31 Aa AO (TK hl1 hsl52) (fun _ _ h => h)) <| Ad rfl (At Aa (by first | rfl | decide) Aa) <| Ad rfl (A0 Aa) <| Ai rfl rfl Aa (by first | rfl | decide) <| Ad rfl (A0 (De rfl <| De rfl <| De rfl <| DD rfl <| CQ rfl <| CY (DM he26 (by kernel_rfl)) <| Df rfl <| CQ rfl <| Ct rfl <| Bn)) <| Ai rfl rfl Aa (by first | rfl | decide) <| A5 rfl <| AS AR B3 rfl (.cons Aa (.cons Aa (.cons Aa (.cons Aa .nil)))) rfl rfl (by decide) (by simp [Value.oneCell']) fun b53 hb53 nb53 => AQ (i := 0) rfl hb53 .here fun F54 hF55 hz56 => ?_
 replace hf1 := hf1.mono hF55
 replace hf2 := hf2.mono hF55
 replace hm1 := hm1.mono hF55
 replace g11 := g11.mono hF55
 replace ha1 := ha1.mono hF55
 replace ht1 := ht1.mono hF55
 replace ht2 := ht2.mono hF55
 replace hw1 := hw1.mono hF55
 have hsl57 := GI hz56
 refine Ai rfl rfl Aa (by first | rfl | decide) <| AE rfl (As G0 Aa AO (Cy hf1 hsl57) (fun _ _ h => h)) <| Ad rfl (At Aa (by first | rfl | decide) Aa) <| Ad rfl (A0 Aa) <| Ai rfl rfl Aa (by first | rfl | decide) <| Ad rfl (A0 (De rfl <| De rfl <| De rfl <| ES rfl <| CQ rfl <| Ct rfl <| CY (DM he26 (by kernel_rfl)) <| ES rfl <| CQ rfl <| Ct rfl <| Bn)) <| Ai rfl rfl Aa (by first | rfl | decide) <| A5 rfl <| AS AR B3 rfl (.cons Aa (.cons Aa (.cons Aa (.cons Aa (.cons Aa (.cons Aa (.cons Aa (.cons Aa .nil)))))))) rfl rfl (by decide) (by simp [Value.oneCell']) fun b58 hb58 nb58 => AQ (i := 0) rfl hb58 .here fun F59 hF60 hz61 => ?_
 replace hf2 := hf2.mono hF60
 replace hm1 := hm1.mono hF60
 replace g11 := g11.mono hF60
 replace ha1 := ha1.mono hF60
 replace ht1 := ht1.mono hF60
 replace ht2 := ht2.mono hF60
 replace hw1 := hw1.mono hF60
 have hsl62 := SJ hz61
 refine Ai rfl rfl Aa (by first | rfl | decide) <| AE rfl (As G0 Aa AO (Cy hf2 hsl62) (fun _ _ h => h)) <| Ad rfl (At Aa (by first | rfl | decide) Aa) <| Ad rfl (A0 Aa) <| Ai rfl rfl Aa (by first | rfl | decide) <| Ad rfl (A0 (De rfl <| De rfl <| De rfl <| Df rfl <| CY (DM he26 (by kernel_rfl)) <| CQ rfl <| Bn)) <| Ai rfl rfl Aa (by first | rfl | decide) <| A5 rfl <| AS AR B3 rfl (.cons Aa (.cons Aa (.cons Aa (.cons Aa (.cons Aa (.cons Aa (.cons Aa .nil))))))) rfl rfl (by decide) (by simp [Value.oneCell']) fun b63 hb63 nb63 => AQ (i := 0) rfl hb63 .here fun F64 hF65 hz66 => ?_
 replace hm1 := hm1.mono hF65
 replace g11 := g11.mono hF65
 replace ha1 := ha1.mono hF65
 replace ht1 := ht1.mono hF65
 replace ht2 := ht2.mono hF65
 replace hw1 := hw1.mono hF65
 have hsl67 := SK hz66
 refine Ai rfl rfl Aa (by first | rfl | decide) <| AE rfl (As G0 Aa AO (Cy (Nats.ints hm1) hsl67) (fun _ _ h => h)) <| Ad rfl (At Aa (by first | rfl | decide) Aa) <| Ad rfl (A0 Aa) <| Ai rfl rfl Aa (by first | rfl | decide) <| Ad rfl (A0 (De rfl <| De rfl <| De rfl <| Df rfl <| DD rfl <| Ct rfl <| CY (DM he26 (by kernel_rfl)) <| Ct rfl <| Bn)) <| Ai rfl rfl Aa (by first | rfl | decide) <| Ad rfl (Cd Aa Aa) <| Ad rfl (At Aa (by first | rfl | decide) Aa) <| Ad rfl (A0 Aa) <| Ai rfl rfl Aa (by first | rfl | decide) <| Ad rfl (A0 (De rfl <| De rfl <| De rfl <| Df rfl <| ES rfl <| Ct rfl <| Cr rfl)) <| Ai rfl rfl Aa (by first | rfl | decide) <| A5 rfl <| AS AR B3 rfl (.cons Aa (.cons Aa (.cons Aa (.cons Aa .nil)))) rfl rfl (by decide) (by simp [Value.oneCell']) fun b68 hb68 nb68 => AQ (i := 0) rfl hb68 .here fun F69 hF70 hz71 => ?_
 replace g11 := g11.mono hF70
 replace ha1 := ha1.mono hF70
 replace ht1 := ht1.mono hF70
 replace ht2 := ht2.mono hF70
 replace hw1 := hw1.mono hF70
 have hsl72 := GI hz71
 refine Ai rfl rfl Aa (by first | rfl | decide) <| AE rfl (As G0 Aa AO (Cy (Nats.ints g11) hsl72) (fun _ _ h => h)) <| Ad rfl (At Aa (by first | rfl | decide) Aa) <| Ad rfl (A0 Aa) <| Ai rfl rfl Aa (by first | rfl | decide) <| Ad rfl (A0 Aa) <| Ai rfl rfl Aa (by first | rfl | decide) <| Ad rfl (Bg LF (.cons Aa rfl .nil) (.cons rfl rfl (Nat.le_of_ble_eq_true rfl) (.cons (.next <| .next <| .here) .nil) .nil)) <| Ai rfl rfl Aa (by first | rfl | decide) <| Ad rfl (Bg LF (.cons Aa rfl (.cons Aa rfl .nil)) (.cons rfl rfl (Nat.le_of_ble_eq_true rfl) (.cons (.here) .nil) (.cons rfl rfl (Nat.le_of_ble_eq_true rfl) (.cons (.next <| .next <| .here) .nil) .nil))) <| Ai rfl rfl Aa (by first | rfl | decide) <| Ad rfl (Bg LF (.cons Aa rfl (.cons Aa rfl (.cons Aa rfl .nil))) (.cons rfl rfl (Nat.le_of_ble_eq_true rfl) (.cons (.here) .nil) (.cons rfl rfl (Nat.le_of_ble_eq_true rfl) (.cons (.next <| .next <| .here) .nil) (.cons rfl rfl (Nat.le_of_ble_eq_true rfl) (.cons (.next <| .next <| .next <| .here) .nil) .nil)))) <| Ai rfl rfl Aa (by first | rfl | decide) <| A5 rfl <| B0 (offs := [(0, 4), (4, 4), (8, 4)]) (zl := [.int .i64 0, .int .i64 0, .int .i64 0, .bool false, .int .i64 0, .int .i64 0, .int .i64 0, .bool false, .int .i64 0, .int .i64 0, .int .i64 0, .bool false]) C3 Ee rfl (.cons Aa rfl (.cons Aa rfl (.cons Aa rfl .nil))) (by intro i p h; rcases i with _ | _ | _ | i <;> simp at h <;> subst h <;> rfl) (.cons rfl rfl (Nat.le_of_ble_eq_true rfl) (.cons (.here) (.cons (.next <| .here) (.cons (.next <| .next <| .here) (.cons (.next <| .next <| .next <| .here) .nil)))) (.cons rfl rfl (Nat.le_of_ble_eq_true rfl) (.cons (.next <| .next <| .next <| .next <| .here) (.cons (.next <| .next <| .next <| .next <| .next <| .here) (.cons (.next <| .next <| .next <| .next <| .next <| .next <| .here) (.cons (.next <| .next <| .next <| .next <| .next <| .next <| .next <| .here) .nil)))) (.cons rfl rfl (Nat.le_of_ble_eq_true rfl) (.cons (.next <| .next <| .next <| .next <| .next <| .next <| .next <| .next <| .here) (.cons (.next <| .next <| .next <| .next <| .next <| .next <| .next <| .next <| .next <| .here) (.cons (.next <| .next <| .next <| .next <| .next <| .next <| .next <| .next <| .next <| .next <| .here) (.cons (.next <| .next <| .next <| .next <| .next <| .next <| .next <| .next <| .next <| .next <| .next <| .here) .nil)))) .nil))) (by decide) (by decide) fun b73 hb73 nb73 => ?_
 refine AQ (i := 0) rfl hb73 .here fun F74 hF75 hz76 => ?_
 replace ha1 := ha1.mono hF75
 replace ht1 := ht1.mono hF75
 replace ht2 := ht2.mono hF75
 replace hw1 := hw1.mono hF75
 have hsl77 := Ur hz76
 refine Ai rfl rfl Aa (by first | rfl | decide) <| AE rfl (As bd_33 Aa AO (Tt ha1 hsl77) (fun _ _ h => h)) <| Ad rfl (At Aa (by first | rfl | decide) Aa) <| Ad rfl (A0 Aa) <| Ai rfl rfl Aa (by first | rfl | decide) <| Ad rfl (A0 Aa) <| Ai rfl rfl Aa (by first | rfl | decide) <| A5 rfl <| AS AR B3 rfl (.cons Aa .nil) rfl rfl (by decide) (by simp [Value.oneCell']) fun b78 hb78 nb78 => AQ (i := 0) rfl hb78 .here fun F79 hF80 hz81 => ?_
 replace ht1 := ht1.mono hF80
 replace ht2 := ht2.mono hF80
 replace hw1 := hw1.mono hF80
 have hsl82 := Be hz81
 refine Ai rfl rfl Aa (by first | rfl | decide) <| AE rfl (As G0 Aa AO (Cy (Nats.ints ht1) hsl82) (fun _ _ h => h)) <| Ad rfl (At Aa (by first | rfl | decide) Aa) <| Ad rfl (A0 Aa) <| Ai rfl rfl Aa (by first | rfl | decide) <| Ad rfl (A0 Aa) <| Ai rfl rfl Aa (by first | rfl | decide) <| A5 rfl <| AS AR B3 rfl (.cons Aa (.cons Aa (.cons Aa .nil))) rfl rfl (by decide) (by simp [Value.oneCell']) fun b83 hb83 nb83 => AQ (i := 0) rfl hb83 .here fun F84 hF85 hz86 => ?_
 replace ht2 := ht2.mono hF85
 replace hw1 := hw1.mono hF85
 have hsl87 := SL hz86
 refine Ai rfl rfl Aa (by first | rfl | decide) <| AE rfl (As G0 Aa AO (Cy (Nats.ints ht2) hsl87) (fun _ _ h => h)) <| Ad rfl (At Aa (by first | rfl | decide) Aa) <| Ad rfl (A0 Aa) <| Ai rfl rfl Aa (by first | rfl | decide) <| Ad rfl (A0 Aa) <| Ai rfl rfl Aa (by first | rfl | decide) <| A5 rfl <| AS AR B3 rfl (.cons Aa .nil) rfl rfl (by decide) (by simp [Value.oneCell']) fun b88 hb88 nb88 => AQ (i := 0) rfl hb88 .here fun F89 hF90 hz91 => ?_
 replace hw1 := hw1.mono hF90
 have hsl92 := Be hz91
 refine Ai rfl rfl Aa (by first | rfl | decide) <| AE rfl (As G0 Aa AO (Cy (Nats.ints hw1) hsl92) (fun _ _ h => h)) <| Ad rfl (At Aa (by first | rfl | decide) Aa) <| Ad rfl (AL Aa) <| Al <| Ab <| Au <| Am rfl Bi ?_
 show _ = _
 first | rfl | decide
end
section
set_option maxHeartbeats 4000000
set_option maxRecDepth 100000
open Go.RowKit
theorem zr_42 : ZeroT Tryz.prog 42 (.agg #[.slice none 0 0, .slice none 0 0, .slice none 0 0, .slice none 0 0]) := Bw (by kernel_rfl)
theorem QR : AggT Tryz.prog 42 4 := C2 (by kernel_rfl)
instance : AggI Tryz.prog 42 4 := ⟨QR⟩
theorem bd_10 : Body Tryz.prog 10 := AB (by kernel_rfl)
theorem bd_5 : Body Tryz.prog 5 := AB (by kernel_rfl)
theorem bd_6 : Body Tryz.prog 6 := AB (by kernel_rfl)
theorem bd_7 : Body Tryz.prog 7 := AB (by kernel_rfl)
theorem bd_8 : Body Tryz.prog 8 := AB (by kernel_rfl)
theorem bt_42 : BuildT Tryz.prog 42 [.slice none 0 0, .slice none 0 0, .slice none 0 0, .slice none 0 0] [(0, 1), (1, 1), (2, 1), (3, 1)] := BG zr_42 (by kernel_rfl) (by decide)
theorem NA : FieldT Tryz.prog 34 0 0 := AU (by kernel_rfl)
instance : FieldI Tryz.prog 34 0 0 := ⟨NA⟩
instance : FieldI Tryz.prog 34 1 1 := ⟨AU (by kernel_rfl)⟩
theorem FI : FieldT Tryz.prog 56 3 4 := AU (by kernel_rfl)
instance : FieldI Tryz.prog 56 3 4 := ⟨FI⟩
theorem Np : OneT Tryz.prog 32 := BA (by kernel_rfl)
instance : OneI Tryz.prog 32 := ⟨Np⟩
theorem one_5 : OneT Tryz.prog 5 := BA (by kernel_rfl)
instance : OneI Tryz.prog 5 := ⟨one_5⟩
theorem QZ : SliceT Tryz.prog 32 42 4 := BO (by kernel_rfl)
instance : SliceI Tryz.prog 32 := ⟨_, _, QZ⟩
theorem sz_42 : SizeT Tryz.prog 42 4 := B1 (by kernel_rfl)
theorem SV {F : Heap} {vf vp : Value} {p : Prs} (hr : PrsR F vf vp p) {vb vr vs vq : Value} {r : Room} (hq : RoomR F vb vr vs vq r) {vx : Value} {ps : List Pst} (hx : Sl F vx 4 Pst.enc ps) (hpa : AllP F ps) {w : Nat} : Ok Tryz.prog 3 [prsV vf vp p, .agg #[vb, vr, vs, vq], .agg #[vx, .int .u8 (w : Int)]].toArray F fun u _ => u = .bool true := by
 have hle0 : F.le F := Heap.le_refl _
 have hL1 := hr.formats.plain.lt
 have hL2 := hq.books.plain.lt
 have hL3 := hx.plain.lt
 refine Ok.intro Tryz.func3 rfl Tryz.ntmps3 rfl fun w0 => Ac <| Aj fun ds => A5 rfl <| AX Aa rfl fun b1 hb1 nb1 => A5 rfl <| AX Aa rfl fun b2 hb2 nb2 => A5 rfl <| AX Aa rfl fun b3 hb3 nb3 => Aw (Ag 1) <| AN (i := 2) rfl hb1 (.next <| .next <| .here) fun F4 hF5 hz3 => ?_
 replace hr := hr.mono hF5
 replace hq := hq.mono hF5
 replace hx := hx.mono hF5
 replace hpa := hpa.mono hF5
 replace hle0 := Heap.le_trans hle0 hF5
 refine AN (i := 1) rfl hb2 (.next <| .here) fun F6 hF7 hz4 => ?_
 replace hr := hr.mono hF7
 replace hq := hq.mono hF7
 replace hx := hx.mono hF7
 replace hpa := hpa.mono hF7
 replace hle0 := Heap.le_trans hle0 hF7
 replace hz3 := hF7 _ _ hz3
 refine AN (i := 0) rfl hb3 (.here) fun F8 hF9 hz5 => ?_
 replace hr := hr.mono hF9
 replace hq := hq.mono hF9
 replace hx := hx.mono hF9
 replace hpa := hpa.mono hF9
 replace hle0 := Heap.le_trans hle0 hF9
 replace hz3 := hF9 _ _ hz3
 replace hz4 := hF9 _ _ hz4
 by_cases h0 : (checkF p).2.2 = 0
 ·by_cases h1 : (check r).2.2 = 0
  ·have hv := Di h0
   have hvr := DE h1
   have hnb8 := hvr.nb
   refine Ac <| Aj fun ds => Ad rfl (A6 Cq Aa rfl rfl (AK hz3)) <| AE rfl (As bd_4 Aa AO (Ew hr) (fun _ _ h => h)) <| Aw (Ag 7) <| Ac <| Aj fun ds => Ad rfl (A6 G5 Aa rfl rfl (AK hz4)) <| AE rfl (As bd_5 Aa AO (Gg hq) (fun _ _ h => h.trans (show checkV r = .tuple #[.int .i64 (check r).1, .int .i64 (check r).2.1, .int .i64 (check r).2.2] from rfl))) <| Aw (Ag 7) <| Ac <| Ax (Ag 3) fun ds => Ai rfl rfl Aa (dF (fun h => h h0)) <| Ao (Ag 1) <| Ai rfl rfl Aa (dF (fun h => h h0)) <| Ao (Ag 1) <| Ad rfl (A9 Aa (dF (fun h => h h0)) Aa) <| Al <| Ab <| Ae Aa (dF (fun h => h h1)) <| Ak <| Ab <| Ac ?_
   refine BH [13, 14, 55, 56] (fun st σ => ∃ p13 p14, Fct st 13 (.pointer (some ⟨p13, 0, none⟩)) ∧ Fct st 14 (.pointer (some ⟨p14, 0, none⟩)) ∧ σ = ⟨F8, [(p13, bx 31 [vb, vr, vs, vq]), (p14, bx 31 [vb, vr, vs, vq])]⟩) ?_ ?_
   ·have hleS := hle0
    refine Bf (.inl rfl) (fun _ _ h => h) (List.nil_sublist _) [5] (by kernel_rfl) fun ds => Af 0 rfl (by kernel_rfl) (by kernel_rfl) (by kernel_rfl) (by kernel_rfl) rfl rfl (fun _ h => h.drop (List.nil_sublist _)) (fun _ _ _ h => h) (A6 G5 Aa rfl rfl (AK hz4)) <| Af 1 rfl (by kernel_rfl) (by kernel_rfl) (by kernel_rfl) (by kernel_rfl) rfl rfl (fun _ h => h.drop (List.nil_sublist _)) (fun _ _ _ h => h) (A6 G5 Aa rfl rfl (AK hz4)) ?_
    refine BX [2, 3] (by kernel_rfl) (by decide) (Li ?_ ?_)
    ·refine By rfl rfl (AF JE rfl fun b10 hb10 nb10 => ⟨fun _ _ => (fun _ h => h.drop (List.nil_sublist _)), ?_⟩)
     refine Bl 3 rfl (by kernel_rfl) rfl (AF JE rfl fun b11 hb11 nb11 => ⟨fun _ _ => (fun _ h => h.drop (List.nil_sublist _)), ?_⟩)
     refine Bt 4 rfl (by kernel_rfl) (AC KJ Aa Aa (i := 1) rfl rfl rfl rfl hq.ones (.next <| .here) ⟨fun _ _ => (fun _ h => h.drop (List.nil_sublist _)), ?_⟩)
     refine Bt 5 rfl (by kernel_rfl) (AC KJ Aa Aa (i := 0) rfl rfl rfl rfl hq.ones (.here) ⟨(fun h => nomatch h), ?_⟩)
     refine CB (.cons (.next <| .here) <| .cons (.here) <| .nil) ?_
     refine AY (by kernel_rfl) ?_ _
     refine Ab ⟨_, Off.eq (BI rfl <| AT), ?_⟩
     exact ⟨_, _, Ba, Ba, rfl⟩
    refine By rfl rfl (AF JE rfl fun b12 hb12 nb12 => ⟨fun _ _ => (fun _ h => h.drop (List.nil_sublist _)), ?_⟩)
    refine Bl 2 rfl (by kernel_rfl) rfl (AF JE rfl fun b13 hb13 nb13 => ⟨fun _ _ => (fun _ h => h.drop (List.nil_sublist _)), ?_⟩)
    refine Bt 4 rfl (by kernel_rfl) (AC KJ Aa Aa (i := 0) rfl rfl rfl rfl hq.ones (.here) ⟨fun _ _ => (fun _ h => h.drop (List.nil_sublist _)), ?_⟩)
    refine Bt 5 rfl (by kernel_rfl) (AC KJ Aa Aa (i := 1) rfl rfl rfl rfl hq.ones (.next <| .here) ⟨(fun h => nomatch h), ?_⟩)
    refine CB (.cons (.here) <| .cons (.here) <| .nil) ?_
    refine AY (by kernel_rfl) ?_ _
    refine Ab ⟨_, Off.eq (BI rfl <| AT), ?_⟩
    exact ⟨_, _, Ba, Ba, rfl⟩
   rintro e5 _ ⟨p13, p14, hc13, hc14, rfl⟩
   refine Ax (Ag 1) fun ds => AZ <| AW E7 Aa Aa (i := 0) rfl (.here) rfl (.here) <| Ao (Ag 1) <| AZ <| AW E7 Aa Aa (i := 1) rfl (.here) rfl (.next <| .here) <| Al <| Ab <| Ac <| AD (Ag 1) <| Aq ?_
   refine AH [6, 15, 16, 17, 18, 19, 20, 21, 22, 23, 59, 60, 61, 62, 63, 64, 65, 66, 67, 68, 69, 70, 71, 72, 73, 74, 75, 76, 77, 78, 79, 80, 81, 82, 83, 84, 85, 86, 87, 88, 89, 90, 91, 92, 93, 94, 95, 96, 97, 98, 99, 100, 101, 102, 103, 104, 105, 106, 107, 108, 109, 110, 111, 112, 113, 114, 115, 116, 117, 118, 119, 120, 121, 122, 123, 124, 125, 126, 127, 128, 129, 130, 131, 132, 133, 134, 135, 136, 137, 138, 139, 140, 141, 142, 143, 144, 145, 146, 147, 148, 149, 150, 151, 152, 153, 154, 155, 156, 157, 158, 159, 160, 161, 162, 163, 164, 165, 166, 167, 168, 169, 170, 171, 172, 173, 174, 175, 176, 177, 178] (fun m2 e σ => ∃ i : Nat, m2 + i = r.books.length ∧ Fct e 15 (.int .i64 (i : Int)) ∧ ∃ (G : Heap) (f g : Nat → Bool) (w13 w14 : Value) (RA RB : List (Nat × Obj)), F.le G ∧ F8.le G ∧ (∀ k, k < i → g k = true → f k = true) ∧ Own 56 5 w13 (bksTo r f i).length ((bksTo r f i).flatMap Book.enc) RA ∧ Own 56 5 w14 (bksTo r g i).length ((bksTo r g i).flatMap Book.enc) RB ∧ σ = ⟨G, (p13, bx 31 [w13, vr, vs, vq]) :: (p14, bx 31 [w14, vr, vs, vq]) :: (RA ++ RB)⟩) (r.books.length) ?_ ?_
   · exact ⟨0, by omega, Ba, _, fun _ => false, fun _ => false, _, _, [], [], hle0, Heap.le_refl _, (fun _ h => absurd h (by omega)), BV, BV, rfl⟩
   rintro m1 e15 _ ⟨i, hm1, hl15, G, f, g, w13, w14, RA, RB, hG, hGG, hfg, hoA, hoB, rfl⟩; replace hr := hr.mono hGG; replace hq := hq.mono hGG; replace hx := hx.mono hGG; replace hpa := hpa.mono hGG; replace hz3 := hGG _ _ hz3; replace hz4 := hGG _ _ hz4; replace hz5 := hGG _ _ hz5; replace hle0 := hG
   by_cases hlt : i < r.books.length
   ·refine Ac <| Ax (Ag 2) fun ds => Ad rfl (Ap D6 Aa (AP hz4 rfl)) <| Ad rfl (AA B4 Aa hq.books.plain) <| Aw (Ag 1) <| Ah Aa (by first | rfl | exact dT (by omega)) ?_
    have hla := Dp (r := r) (f := f) (k := i)
    have hlb := Dp (r := r) (f := g) (k := i)
    refine Ak <| Ab <| Ac <| Aq <| Ac <| Aj fun ds => Ad rfl (Bg bt_42 .nil .nil) <| A5 rfl <| AF zr_42 rfl fun b15 hb15 nb15 => AZ <| AC sz_42 Aa Aa (i := 0) rfl rfl rfl rfl (by simp [Value.oneCell']) (.here) <| Al <| Ab <| Ac <| Ax (Ag 1) fun ds => Ad rfl (Ap Np Aa (AP hz5 rfl)) <| Ad rfl (AA QZ Aa hx.plain) <| Aw (Ag 1) ?_
    refine BH [71, 72, 73, 74, 75, 76, 77, 78, 79] (fun st σ => ∃ q : Pst, PstR G q ∧ σ = ⟨G, (b15, bx 42 q.enc) :: (p13, bx 31 [w13, vr, vs, vq]) :: (p14, bx 31 [w14, vr, vs, vq]) :: (RA ++ RB)⟩) ?_ ?_
    ·by_cases hp0 : 0 < ps.length
     ·obtain ⟨kp, hkp⟩ := Int.eq_ofNat_of_zero_le (Int.emod_nonneg (i : Int) (b := (ps.length : Int)) (by omega))
      have hkp2 : kp < ps.length := by have := Int.emod_lt_of_pos (i : Int) (b := (ps.length : Int)) (by omega); omega
      refine Ah Aa (dT (by omega)) ?_
      have hleS := hle0
      refine Bf (.inl rfl) (fun _ _ h => h) (kK <| kK <| kK <| .refl _) [9] (by kernel_rfl) fun ds => Af 0 rfl (by kernel_rfl) (by kernel_rfl) (by kernel_rfl) (by kernel_rfl) rfl rfl (fun _ h => h.drop (kK <| kK <| kK <| .refl _)) (fun _ _ _ h => h) (Az NA Aa) <| Af 1 rfl (by kernel_rfl) (by kernel_rfl) (by kernel_rfl) (by kernel_rfl) rfl rfl (fun _ h => h.drop (kK <| kK <| kK <| .refl _)) (fun _ _ _ h => h) (Ap Np Aa (AP hz5 rfl)) <| Af 2 rfl (by kernel_rfl) (by kernel_rfl) (by kernel_rfl) (by kernel_rfl) rfl rfl (fun _ h => h.drop (kK <| kK <| kK <| .refl _)) (fun _ _ _ h => h) (A0 Aa) <| Af 3 rfl (by kernel_rfl) (by kernel_rfl) (by kernel_rfl) (by kernel_rfl) rfl rfl (fun _ h => h.drop (kK <| kK <| kK <| .refl _)) (fun _ _ _ h => h) (Az NA Aa) <| Af 4 rfl (by kernel_rfl) (by kernel_rfl) (by kernel_rfl) (by kernel_rfl) rfl rfl (fun _ h => h.drop (kK <| kK <| kK <| .refl _)) (fun _ _ _ h => h) (Ap Np Aa (AP hz5 rfl)) <| Af 5 rfl (by kernel_rfl) (by kernel_rfl) (by kernel_rfl) (by kernel_rfl) rfl rfl (fun _ h => h.drop (kK <| kK <| kK <| .refl _)) (fun _ _ _ h => h) (AA QZ Aa hx.plain) <| Af 6 rfl (by kernel_rfl) (by kernel_rfl) (by kernel_rfl) (by kernel_rfl) rfl rfl (fun _ h => h.drop (kK <| kK <| kK <| .refl _)) (fun _ _ _ h => h) (Cf Aa Aa (Int.natCast_nonneg _) (by omega)) ?_
      refine Af 7 rfl (by kernel_rfl) (by kernel_rfl) (by kernel_rfl) (by kernel_rfl) rfl rfl (fun _ h => h.drop (kK <| kK <| kK <| .refl _)) (fun _ _ _ h => h) (A1 (k := kp) QZ Aa hx.plain Aa hkp hkp2) <| Af 8 rfl (by kernel_rfl) (by kernel_rfl) (by kernel_rfl) (by kernel_rfl) rfl rfl (fun _ h => h.drop (kK <| kK <| kK <| .refl _)) (fun _ _ _ h => h) (A6 (vs := (Pst.enc ps[kp])) QR Aa rfl rfl (hx.whole hkp2)) ?_
      refine Bt 9 rfl (by kernel_rfl) (AC sz_42 Aa Aa (i := 0) rfl rfl rfl rfl (hpa _ (List.getElem_mem hkp2)).ones (.here) ⟨(fun h => nomatch h), ?_⟩)
      refine AY (by kernel_rfl) ?_ _
      refine Ab ⟨_, Off.eq (Ci rfl <| BQ rfl <| AT), ?_⟩
      exact ⟨ps[kp], hpa _ (List.getElem_mem hkp2), rfl⟩
     refine Ae Aa (dF (by omega)) <| Ak ?_
     refine Ab ⟨_, Off.eq (AT), ?_⟩
     exact ⟨pst0, pst0_ok, rfl⟩
    rintro e11 _ ⟨q, hqp, rfl⟩
    refine Ac <| AN (i := 0) rfl hb15 (.here) fun F16 hF17 hz16 => ?_
    replace hr := hr.mono hF17
    replace hq := hq.mono hF17
    replace hG := Heap.le_trans hG hF17
    replace hGG := Heap.le_trans hGG hF17
    replace hle0 := Heap.le_trans hle0 hF17
    replace hqp := hqp.mono hF17
    replace hz3 := hF17 _ _ hz3
    replace hz4 := hF17 _ _ hz4
    refine Aj fun ds => Ad rfl (A6 Cq Aa rfl rfl (AK hz3)) <| Ad rfl (A6 (vs := (Pst.enc q)) QR Aa rfl rfl (AK hz16)) <| A5 rfl <| Bb bd_8 Aa AO (T6 hr h0 hqp.h0 hqp.b0 hqp.h1 hqp.b1 hqp.h2 hqp.b2 hqp.h3 hqp.b3) fun v18 F19 hr20 hF21 => ?_
    replace hr := hr.mono hF21
    replace hq := hq.mono hF21
    replace hG := Heap.le_trans hG hF21
    replace hGG := Heap.le_trans hGG hF21
    replace hle0 := Heap.le_trans hle0 hF21
    replace hz3 := hF21 _ _ hz3
    replace hz4 := hF21 _ _ hz4
    obtain ⟨vm, b, m, rfl, hmk, htd⟩ := hr20
    have hmem := htd.agree hv
    refine Ao (Ag 3) <| A5 rfl <| AF FZ rfl fun b22 hb22 nb22 => A5 rfl <| AF Ee rfl fun b23 hb23 nb23 => AZ <| AC GT Aa Aa (i := 1) rfl rfl rfl rfl (by first | exact Mk.enc_one (b := m) | exact HX hmk) (.next <| .here) <| AZ <| AC Fe Aa Aa (i := 0) rfl rfl rfl rfl (by first | exact Mk.enc_one (b := m) | exact HX hmk) (.here) <| Al <| Ab <| Ac <| AN (i := 1) rfl hb22 (.next <| .here) fun F24 hF25 hz17 => ?_
    replace hr := hr.mono hF25
    replace hq := hq.mono hF25
    replace hG := Heap.le_trans hG hF25
    replace hGG := Heap.le_trans hGG hF25
    replace hle0 := Heap.le_trans hle0 hF25
    replace hmk := hmk.mono hF25
    replace hz3 := hF25 _ _ hz3
    replace hz4 := hF25 _ _ hz4
    refine AN (i := 0) rfl hb23 (.here) fun F26 hF27 hz18 => ?_
    replace hr := hr.mono hF27
    replace hq := hq.mono hF27
    replace hG := Heap.le_trans hG hF27
    replace hGG := Heap.le_trans hGG hF27
    replace hle0 := Heap.le_trans hle0 hF27
    replace hmk := hmk.mono hF27
    replace hz3 := hF27 _ _ hz3
    replace hz4 := hF27 _ _ hz4
    replace hz17 := hF27 _ _ hz17
    refine Aj fun ds => Ad rfl (A6 Cq Aa rfl rfl (AK hz3)) <| Ad rfl (A6 FP Aa rfl rfl (AK hz17)) <| A5 rfl <| Bb bd_9 Aa AO (J9 hr hmk (htd.check h0)) fun v28 F29 hr30 hF31 => ?_
    replace hr := hr.mono hF31
    replace hq := hq.mono hF31
    replace hG := Heap.le_trans hG hF31
    replace hGG := Heap.le_trans hGG hF31
    replace hle0 := Heap.le_trans hle0 hF31
    replace hz3 := hF31 _ _ hz3
    replace hz4 := hF31 _ _ hz4
    replace hz18 := hF31 _ _ hz18
    obtain ⟨va, rfl, hag⟩ := hr30
    refine Aw (Ag 5) <| Ac <| Ax (Ag 3) fun ds => Ai rfl rfl Aa rfl <| Ao (Ag 1) <| Ai rfl rfl Aa rfl <| Ad rfl (AA C3 Aa hag.plain) <| Ai rfl rfl Aa rfl <| Ao (Ag 1) <| Ad rfl (A9 Aa rfl Aa) <| Al <| Ab <| Ae Aa (dF (by have := List.length_pos_of_mem hmem; omega)) <| Ak <| Ab <| Ac ?_
    refine BH [21, 22, 99, 100, 101, 102, 103, 104, 105, 106, 107, 108] (fun st σ => ∃ p21 p22, Fct st 21 (.pointer (some ⟨p21, 0, none⟩)) ∧ Fct st 22 (.pointer (some ⟨p22, 0, none⟩)) ∧ σ = ⟨F29, (p21, bx 56 [.string (r.bk i).name, .int .i64 (r.bk i).cls, .int .i64 (r.bk i).lo, .int .i64 (r.bk i).hi, .bool (r.bk i).large]) :: (p22, bx 56 [.string (r.bk i).name, .int .i64 (r.bk i).cls, .int .i64 (r.bk i).lo, .int .i64 (r.bk i).hi, .bool (r.bk i).large]) :: (p13, bx 31 [w13, vr, vs, vq]) :: (p14, bx 31 [w14, vr, vs, vq]) :: (RA ++ RB)⟩) ?_ ?_
    ·have hleS := hle0
     refine Bf (.inl rfl) (fun _ _ h => h) (kK <| kK <| .refl _) [13] (by kernel_rfl) fun ds => Af 0 rfl (by kernel_rfl) (by kernel_rfl) (by kernel_rfl) (by kernel_rfl) rfl rfl (fun _ h => h.drop (kK <| kK <| .refl _)) (fun _ _ _ h => h) (Az BR Aa) <| Af 1 rfl (by kernel_rfl) (by kernel_rfl) (by kernel_rfl) (by kernel_rfl) rfl rfl (fun _ h => h.drop (kK <| kK <| .refl _)) (fun _ _ _ h => h) (Ap D6 Aa (AP hz4 rfl)) <| Af 2 rfl (by kernel_rfl) (by kernel_rfl) (by kernel_rfl) (by kernel_rfl) rfl rfl (fun _ h => h.drop (kK <| kK <| .refl _)) (fun _ _ _ h => h) (A0 Aa) <| Af 3 rfl (by kernel_rfl) (by kernel_rfl) (by kernel_rfl) (by kernel_rfl) rfl rfl (fun _ h => h.drop (kK <| kK <| .refl _)) (fun _ _ _ h => h) (A1 (k := i) B4 Aa hq.books.plain Aa rfl hlt) <| Af 4 rfl (by kernel_rfl) (by kernel_rfl) (by kernel_rfl) (by kernel_rfl) rfl rfl (fun _ h => h.drop (kK <| kK <| .refl _)) (fun _ _ _ h => h) (A6 (vs := (Book.enc r.books[i])) DL Aa rfl rfl (hq.books.whole hlt)) <| Af 5 rfl (by kernel_rfl) (by kernel_rfl) (by kernel_rfl) (by kernel_rfl) rfl rfl (fun _ h => h.drop (kK <| kK <| .refl _)) (fun _ _ _ h => h) (Az BR Aa) <| Af 6 rfl (by kernel_rfl) (by kernel_rfl) (by kernel_rfl) (by kernel_rfl) rfl rfl (fun _ h => h.drop (kK <| kK <| .refl _)) (fun _ _ _ h => h) (Ap D6 Aa (AP hz4 rfl)) ?_
     refine Af 7 rfl (by kernel_rfl) (by kernel_rfl) (by kernel_rfl) (by kernel_rfl) rfl rfl (fun _ h => h.drop (kK <| kK <| .refl _)) (fun _ _ _ h => h) (A0 Aa) <| Af 8 rfl (by kernel_rfl) (by kernel_rfl) (by kernel_rfl) (by kernel_rfl) rfl rfl (fun _ h => h.drop (kK <| kK <| .refl _)) (fun _ _ _ h => h) (A1 (k := i) B4 Aa hq.books.plain Aa rfl hlt) <| Af 9 rfl (by kernel_rfl) (by kernel_rfl) (by kernel_rfl) (by kernel_rfl) rfl rfl (fun _ h => h.drop (kK <| kK <| .refl _)) (fun _ _ _ h => h) (A6 (vs := (Book.enc r.books[i])) DL Aa rfl rfl (hq.books.whole hlt)) ?_
     refine BX [10, 11] (by kernel_rfl) (by decide) (Li ?_ ?_)
     ·refine By rfl rfl (AF D8 rfl fun b32 hb32 nb32 => ⟨fun _ _ => (fun _ h => h.drop (kD <| kK <| kK <| .refl _)), ?_⟩)
      refine Bl 11 rfl (by kernel_rfl) rfl (AF D8 rfl fun b33 hb33 nb33 => ⟨fun _ _ => (fun _ h => h.drop (kD <| kD <| kK <| kK <| .refl _)), ?_⟩)
      refine Bt 12 rfl (by kernel_rfl) (AC JH Aa Aa (i := 1) rfl rfl rfl rfl Book.enc_one (.next <| .here) ⟨fun _ _ => (fun _ h => h.drop (kD <| kD <| kK <| kK <| .refl _)), ?_⟩)
      refine Bt 13 rfl (by kernel_rfl) (AC JH Aa Aa (i := 0) rfl rfl rfl rfl Book.enc_one (.here) ⟨(fun h => nomatch h), ?_⟩)
      refine Tu (.one (.next <| .here) <| .one (.here) <| .one (.here) <| .one (.here) <| .blk (.here) <| .lastb (.last)) ?_
      refine AY (by kernel_rfl) ?_ _
      refine Ab ⟨_, Off.eq (Ci rfl <| BI rfl <| AT), ?_⟩
      exact ⟨_, _, Ba, Ba, by rw [P2 hlt] <;> rfl⟩
     refine By rfl rfl (AF D8 rfl fun b34 hb34 nb34 => ⟨fun _ _ => (fun _ h => h.drop (kD <| kK <| kK <| .refl _)), ?_⟩)
     refine Bl 10 rfl (by kernel_rfl) rfl (AF D8 rfl fun b35 hb35 nb35 => ⟨fun _ _ => (fun _ h => h.drop (kD <| kD <| kK <| kK <| .refl _)), ?_⟩)
     refine Bt 12 rfl (by kernel_rfl) (AC JH Aa Aa (i := 0) rfl rfl rfl rfl Book.enc_one (.here) ⟨fun _ _ => (fun _ h => h.drop (kD <| kD <| kK <| kK <| .refl _)), ?_⟩)
     refine Bt 13 rfl (by kernel_rfl) (AC JH Aa Aa (i := 1) rfl rfl rfl rfl Book.enc_one (.next <| .here) ⟨(fun h => nomatch h), ?_⟩)
     refine AY (by kernel_rfl) ?_ _
     refine Ab ⟨_, Off.eq (Ci rfl <| BI rfl <| AT), ?_⟩
     exact ⟨_, _, Ba, Ba, by rw [P2 hlt] <;> rfl⟩
    rintro e17 _ ⟨p21, p22, hi21, hi22, rfl⟩
    have hft : p.formats[m.fmt.toNat]'(by have := htd.ok.fmt; omega) = p.ft m.fmt.toNat := Fo _
    have hfi := htd.ok.fmt
    have hagl := J8 (b := b) hv
    refine Ac ?_
    have hleS := hle0
    refine Bf (.inl rfl) (fun _ _ h => h) (kD <| kK <| kK <| kK <| .refl _) [12] (by kernel_rfl) fun ds => Af 0 rfl (by kernel_rfl) (by kernel_rfl) (by kernel_rfl) (by kernel_rfl) rfl rfl (fun _ h => h.drop (kD <| kK <| kK <| kK <| .refl _)) (fun _ _ _ h => h) (Az NB Aa) <| Af 1 rfl (by kernel_rfl) (by kernel_rfl) (by kernel_rfl) (by kernel_rfl) rfl rfl (fun _ h => h.drop (kD <| kK <| kK <| kK <| .refl _)) (fun _ _ _ h => h) (Ap EB Aa (AP hz3 rfl)) <| Af 2 rfl (by kernel_rfl) (by kernel_rfl) (by kernel_rfl) (by kernel_rfl) rfl rfl (fun _ h => h.drop (kD <| kK <| kK <| kK <| .refl _)) (fun _ _ _ h => h) (Az Ky Aa) <| Af 3 rfl (by kernel_rfl) (by kernel_rfl) (by kernel_rfl) (by kernel_rfl) rfl rfl (fun _ h => h.drop (kD <| kK <| kK <| kK <| .refl _)) (fun _ _ _ h => h) (Ap AM Aa (AP hz18 rfl)) <| Af 4 rfl (by kernel_rfl) (by kernel_rfl) (by kernel_rfl) (by kernel_rfl) rfl rfl (fun _ h => h.drop (kD <| kK <| kK <| kK <| .refl _)) (fun _ _ _ h => h) (A1 (k := m.fmt.toNat) Cc Aa hr.formats.plain Aa (by omega) (by omega)) <| Af 5 rfl (by kernel_rfl) (by kernel_rfl) (by kernel_rfl) (by kernel_rfl) rfl rfl (fun _ h => h.drop (kD <| kK <| kK <| kK <| .refl _)) (fun _ _ _ h => h) (Bs N6 Aa) ?_
    refine Af 6 rfl (by kernel_rfl) (by kernel_rfl) (by kernel_rfl) (by kernel_rfl) rfl rfl (fun _ h => h.drop (kD <| kK <| kK <| kK <| .refl _)) (fun _ _ _ h => h) (Ap BU Aa (hr.formats.cell (by omega) rfl)) <| Af 7 rfl (by kernel_rfl) (by kernel_rfl) (by kernel_rfl) (by kernel_rfl) rfl rfl (fun _ h => h.drop (kD <| kK <| kK <| kK <| .refl _)) (fun _ _ _ h => h) (Cg Tryz.underlying9 Aa) <| Af 8 rfl (by kernel_rfl) (by kernel_rfl) (by kernel_rfl) (by kernel_rfl) rfl rfl (fun _ h => h.drop (kD <| kK <| kK <| kK <| .refl _)) (fun _ _ _ h => h) (Cd Aa Aa) <| Af 9 rfl (by kernel_rfl) (by kernel_rfl) (by kernel_rfl) (by kernel_rfl) rfl rfl (fun _ h => h.drop (kD <| kK <| kK <| kK <| .refl _)) (fun _ _ _ h => h) (Az FI Aa) ?_
    refine Bt 10 rfl (by kernel_rfl) (AW Ss Aa Aa (i := 0) rfl (.next <| .next <| .next <| .next <| .here) rfl (.here) ⟨fun _ _ => (fun _ h => h.drop (kD <| kK <| kK <| kK <| .refl _)), ?_⟩)
    refine Af 11 rfl (by kernel_rfl) (by kernel_rfl) (by kernel_rfl) (by kernel_rfl) rfl rfl (fun _ h => h.drop (kD <| kK <| kK <| kK <| .refl _)) (fun _ _ _ h => h) (Az FI Aa) ?_
    refine Bt 12 rfl (by kernel_rfl) (AW Ss Aa Aa (i := 1) rfl (.next <| .next <| .next <| .next <| .here) rfl (.next <| .here) ⟨(fun h => nomatch h), ?_⟩)
    refine AY (by kernel_rfl) ?_ _
    refine Ab <| Ac <| AD (Ag 1) <| Aq ?_
    refine AH [6, 23, 120, 121, 122, 123, 124, 125, 126, 127, 128, 129, 130, 131, 132, 133, 134, 135, 136, 137, 138, 139, 140, 141, 142, 143, 144, 145, 146, 147, 148, 149, 150, 151, 152, 153, 154, 155, 156, 157, 158, 159] (fun m3 e σ => ∃ k : Nat, m3 + k = (agreeL p b).length ∧ Fct e 23 (.int .i64 (k : Int)) ∧ σ = ⟨F29, (p21, bx 56 [.string (r.bk i).name, .int .i64 (r.bk i).cls, .int .i64 (r.bk i).lo, .int .i64 (r.bk i).hi, .bool (oneTo p (agreeL p b) k)]) :: (p22, bx 56 [.string (r.bk i).name, .int .i64 (r.bk i).cls, .int .i64 (r.bk i).lo, .int .i64 (r.bk i).hi, .bool (decide (((p.ft m.fmt.toNat).folds.size : Int) = 1))]) :: (p13, bx 31 [w13, vr, vs, vq]) :: (p14, bx 31 [w14, vr, vs, vq]) :: (RA ++ RB)⟩) ((agreeL p b).length) ?_ ?_
    · exact ⟨0, by omega, Ba, by rw [← hft]; rfl⟩
    rintro m2 e23 _ ⟨k, hm2, hk23, rfl⟩
    by_cases hk : k < (agreeL p b).length
    ·refine Ac <| Ax (Ag 2) fun ds => Ad rfl (AA C3 Aa hag.plain) <| Aw (Ag 1) <| Ah Aa (by first | rfl | exact dT (by omega)) ?_
     have hokk := Jb (List.getElem_mem hk)
     have hfk := hokk.fmt
     have hkf : (agreeL p b)[k].fmt.toNat < p.formats.length := by omega
     have hft : p.formats[(agreeL p b)[k].fmt.toNat] = p.ft (agreeL p b)[k].fmt.toNat := Fo hkf
     refine Ak <| Ab <| Ac <| Aq <| Ac <| Ac <| B9 (.inl rfl) (fun _ _ h => h) (by kernel_rfl) (by kernel_rfl) fun ds => Bu (Ag 2) <| Bh rfl (A1 (k := k) C3 Aa hag.plain Aa rfl hk) <| Bu (Ag 1) <| Bh rfl (Ap AM Aa (hag.cell hk rfl)) <| Bu (Ag 2) <| B5 rfl rfl Aa (dF (by omega)) <| Bu (Ag 1) <| B5 rfl rfl Aa (dF (by omega)) <| Bu (Ag 1) <| B5 rfl rfl Aa (dF (by omega)) <| Bh rfl (A1 (k := k) C3 Aa hag.plain Aa rfl hk) <| B5 rfl rfl Aa (dF (by omega)) <| Bu (Ag 1) <| B5 rfl rfl Aa (dF (by omega)) <| Bh rfl (Ap AM Aa (hag.cell hk rfl)) <| B5 rfl rfl Aa (dF (by omega)) <| Bu (Ag 1) <| B5 rfl rfl Aa (dF (by omega)) <| Bh rfl (Ap EB Aa (AP hz3 rfl)) <| B5 rfl rfl Aa (dF (by omega)) <| Bh rfl (AA Cc Aa hr.formats.plain) <| B5 rfl rfl Aa (dF (by omega)) <| Bu (Ag 1) <| Bh rfl (A9 Aa (dF (by omega)) Aa) <| BS <| Ab <| Ae Aa (dF (by omega)) <| Ak <| Ab ?_
     by_cases h1o : oneTo p (agreeL p b) k = true
     ·have hleS := hle0
      refine Bf (.inl rfl) (fun _ _ h => h) (kK <| kK <| kK <| kK <| .refl _) [17] (by kernel_rfl) fun ds => Af 0 rfl (by kernel_rfl) (by kernel_rfl) (by kernel_rfl) (by kernel_rfl) rfl rfl (fun _ h => h.drop (kK <| kK <| kK <| kK <| .refl _)) (fun _ _ _ h => h) (Az FI Aa) <| Af 1 rfl (by kernel_rfl) (by kernel_rfl) (by kernel_rfl) (by kernel_rfl) rfl rfl (fun _ h => h.drop (kK <| kK <| kK <| kK <| .refl _)) (fun _ _ _ h => h) (Ap GX Aa (Cell.own 0 rfl rfl)) <| Af 2 rfl (by kernel_rfl) (by kernel_rfl) (by kernel_rfl) (by kernel_rfl) rfl rfl (fun _ h => h.drop (kK <| kK <| kK <| kK <| .refl _)) (fun _ _ _ h => h) (A0 Aa) <| CS 3 rfl rfl rfl Aa (.inl (congrArg Value.bool h1o)) (by kernel_rfl) (by kernel_rfl) (by kernel_rfl) (by kernel_rfl) rfl rfl (fun _ h => h.drop (kK <| kK <| kK <| kK <| .refl _)) (fun _ _ _ h => h) <| CS 4 rfl rfl rfl Aa (.inl (congrArg Value.bool h1o)) (by kernel_rfl) (by kernel_rfl) (by kernel_rfl) (by kernel_rfl) rfl rfl (fun _ h => h.drop (kK <| kK <| kK <| kK <| .refl _)) (fun _ _ _ h => h) <| CS 5 rfl rfl rfl Aa (.inl (congrArg Value.bool h1o)) (by kernel_rfl) (by kernel_rfl) (by kernel_rfl) (by kernel_rfl) rfl rfl (fun _ h => h.drop (kK <| kK <| kK <| kK <| .refl _)) (fun _ _ _ h => h) ?_
      refine CS 6 rfl rfl rfl Aa (.inl (congrArg Value.bool h1o)) (by kernel_rfl) (by kernel_rfl) (by kernel_rfl) (by kernel_rfl) rfl rfl (fun _ h => h.drop (kK <| kK <| kK <| kK <| .refl _)) (fun _ _ _ h => h) <| CS 7 rfl rfl rfl Aa (.inl (congrArg Value.bool h1o)) (by kernel_rfl) (by kernel_rfl) (by kernel_rfl) (by kernel_rfl) rfl rfl (fun _ h => h.drop (kK <| kK <| kK <| kK <| .refl _)) (fun _ _ _ h => h) <| CS 8 rfl rfl rfl Aa (.inl (congrArg Value.bool h1o)) (by kernel_rfl) (by kernel_rfl) (by kernel_rfl) (by kernel_rfl) rfl rfl (fun _ h => h.drop (kK <| kK <| kK <| kK <| .refl _)) (fun _ _ _ h => h) <| CS 9 rfl rfl rfl Aa (.inl (congrArg Value.bool h1o)) (by kernel_rfl) (by kernel_rfl) (by kernel_rfl) (by kernel_rfl) rfl rfl (fun _ h => h.drop (kK <| kK <| kK <| kK <| .refl _)) (fun _ _ _ h => h) <| CS 10 rfl rfl rfl Aa (.inl (congrArg Value.bool h1o)) (by kernel_rfl) (by kernel_rfl) (by kernel_rfl) (by kernel_rfl) rfl rfl (fun _ h => h.drop (kK <| kK <| kK <| kK <| .refl _)) (fun _ _ _ h => h) <| CS 11 rfl rfl rfl Aa (.inl (congrArg Value.bool h1o)) (by kernel_rfl) (by kernel_rfl) (by kernel_rfl) (by kernel_rfl) rfl rfl (fun _ h => h.drop (kK <| kK <| kK <| kK <| .refl _)) (fun _ _ _ h => h) <| CS 12 rfl rfl rfl Aa (.inl (congrArg Value.bool h1o)) (by kernel_rfl) (by kernel_rfl) (by kernel_rfl) (by kernel_rfl) rfl rfl (fun _ h => h.drop (kK <| kK <| kK <| kK <| .refl _)) (fun _ _ _ h => h) ?_
      refine CS 13 rfl rfl rfl Aa (.inl (congrArg Value.bool h1o)) (by kernel_rfl) (by kernel_rfl) (by kernel_rfl) (by kernel_rfl) rfl rfl (fun _ h => h.drop (kK <| kK <| kK <| kK <| .refl _)) (fun _ _ _ h => h) <| CS 14 rfl rfl rfl Aa (.inl (congrArg Value.bool h1o)) (by kernel_rfl) (by kernel_rfl) (by kernel_rfl) (by kernel_rfl) rfl rfl (fun _ h => h.drop (kK <| kK <| kK <| kK <| .refl _)) (fun _ _ _ h => h) <| Af 15 rfl (by kernel_rfl) (by kernel_rfl) (by kernel_rfl) (by kernel_rfl) rfl rfl (fun _ h => h.drop (kK <| kK <| kK <| kK <| .refl _)) (fun _ _ _ h => h) (At Aa h1o AV) <| Af 16 rfl (by kernel_rfl) (by kernel_rfl) (by kernel_rfl) (by kernel_rfl) rfl rfl (fun _ h => h.drop (kK <| kK <| kK <| kK <| .refl _)) (fun _ _ _ h => h) (Az FI Aa) ?_
      refine Bt 17 rfl (by kernel_rfl) (AW Ss Aa Aa (i := 0) rfl (.next <| .next <| .next <| .next <| .here) rfl (.here) ⟨(fun h => nomatch h), ?_⟩)
      refine AY (by kernel_rfl) ?_ _
      refine A4 <| Ab <| Aj fun ds => Ao (Ag 1) <| Ad rfl (AJ Aa Aa rfl (by omega) (by omega)) <| Ao (Ag 1) <| Al ?_
      refine Ab ⟨_, m2 - 1, Off.eq (DG rfl <| Ci rfl <| BQ rfl <| A3), by omega, ?_⟩
      exact ⟨k + 1, by omega, Ba, by rw [KZ hk, h1o]; rfl⟩
     replace h1o : oneTo p (agreeL p b) k = false := by simpa using h1o
     have hleS := hle0
     refine Bf (.inl rfl) (fun _ _ h => h) (kK <| kK <| kK <| kK <| .refl _) [17] (by kernel_rfl) fun ds => Af 0 rfl (by kernel_rfl) (by kernel_rfl) (by kernel_rfl) (by kernel_rfl) rfl rfl (fun _ h => h.drop (kK <| kK <| kK <| kK <| .refl _)) (fun _ _ _ h => h) (Az FI Aa) <| Af 1 rfl (by kernel_rfl) (by kernel_rfl) (by kernel_rfl) (by kernel_rfl) rfl rfl (fun _ h => h.drop (kK <| kK <| kK <| kK <| .refl _)) (fun _ _ _ h => h) (Ap GX Aa (Cell.own 0 rfl rfl)) <| Af 2 rfl (by kernel_rfl) (by kernel_rfl) (by kernel_rfl) (by kernel_rfl) rfl rfl (fun _ h => h.drop (kK <| kK <| kK <| kK <| .refl _)) (fun _ _ _ h => h) (A0 Aa) <| CR 3 rfl rfl rfl Aa h1o (by kernel_rfl) (by kernel_rfl) (by kernel_rfl) (by kernel_rfl) rfl rfl (fun _ h => h.drop (kK <| kK <| kK <| kK <| .refl _)) (fun _ _ _ h => h) (Az NB Aa) <| CR 4 rfl rfl rfl Aa h1o (by kernel_rfl) (by kernel_rfl) (by kernel_rfl) (by kernel_rfl) rfl rfl (fun _ h => h.drop (kK <| kK <| kK <| kK <| .refl _)) (fun _ _ _ h => h) (Ap EB Aa (AP hz3 rfl)) <| CR 5 rfl rfl rfl Aa h1o (by kernel_rfl) (by kernel_rfl) (by kernel_rfl) (by kernel_rfl) rfl rfl (fun _ h => h.drop (kK <| kK <| kK <| kK <| .refl _)) (fun _ _ _ h => h) (A0 Aa) ?_
     refine CR 6 rfl rfl rfl Aa h1o (by kernel_rfl) (by kernel_rfl) (by kernel_rfl) (by kernel_rfl) rfl rfl (fun _ h => h.drop (kK <| kK <| kK <| kK <| .refl _)) (fun _ _ _ h => h) (A0 Aa) <| CR 7 rfl rfl rfl Aa h1o (by kernel_rfl) (by kernel_rfl) (by kernel_rfl) (by kernel_rfl) rfl rfl (fun _ h => h.drop (kK <| kK <| kK <| kK <| .refl _)) (fun _ _ _ h => h) (A1 (k := k) C3 Aa hag.plain Aa rfl hk) <| CR 8 rfl rfl rfl Aa h1o (by kernel_rfl) (by kernel_rfl) (by kernel_rfl) (by kernel_rfl) rfl rfl (fun _ h => h.drop (kK <| kK <| kK <| kK <| .refl _)) (fun _ _ _ h => h) (Bs Ky Aa) <| CR 9 rfl rfl rfl Aa h1o (by kernel_rfl) (by kernel_rfl) (by kernel_rfl) (by kernel_rfl) rfl rfl (fun _ h => h.drop (kK <| kK <| kK <| kK <| .refl _)) (fun _ _ _ h => h) (Ap AM Aa (hag.cell hk rfl)) <| CR 10 rfl rfl rfl Aa h1o (by kernel_rfl) (by kernel_rfl) (by kernel_rfl) (by kernel_rfl) rfl rfl (fun _ h => h.drop (kK <| kK <| kK <| kK <| .refl _)) (fun _ _ _ h => h) (A1 (k := (agreeL p b)[k].fmt.toNat) Cc Aa hr.formats.plain Aa (by omega) hkf) <| CR 11 rfl rfl rfl Aa h1o (by kernel_rfl) (by kernel_rfl) (by kernel_rfl) (by kernel_rfl) rfl rfl (fun _ h => h.drop (kK <| kK <| kK <| kK <| .refl _)) (fun _ _ _ h => h) (Bs N6 Aa) ?_
     refine CR 12 rfl rfl rfl Aa h1o (by kernel_rfl) (by kernel_rfl) (by kernel_rfl) (by kernel_rfl) rfl rfl (fun _ h => h.drop (kK <| kK <| kK <| kK <| .refl _)) (fun _ _ _ h => h) (Ap BU Aa (hr.formats.cell hkf rfl)) <| CR 13 rfl rfl rfl Aa h1o (by kernel_rfl) (by kernel_rfl) (by kernel_rfl) (by kernel_rfl) rfl rfl (fun _ h => h.drop (kK <| kK <| kK <| kK <| .refl _)) (fun _ _ _ h => h) (Cg Tryz.underlying9 Aa) <| CR 14 rfl rfl rfl Aa h1o (by kernel_rfl) (by kernel_rfl) (by kernel_rfl) (by kernel_rfl) rfl rfl (fun _ h => h.drop (kK <| kK <| kK <| kK <| .refl _)) (fun _ _ _ h => h) (Cd Aa Aa) <| Af 15 rfl (by kernel_rfl) (by kernel_rfl) (by kernel_rfl) (by kernel_rfl) rfl rfl (fun _ h => h.drop (kK <| kK <| kK <| kK <| .refl _)) (fun _ _ _ h => h) (A9 Aa h1o Aa) <| Af 16 rfl (by kernel_rfl) (by kernel_rfl) (by kernel_rfl) (by kernel_rfl) rfl rfl (fun _ h => h.drop (kK <| kK <| kK <| kK <| .refl _)) (fun _ _ _ h => h) (Az FI Aa) ?_
     refine Bt 17 rfl (by kernel_rfl) (AW Ss Aa Aa (i := 0) rfl (.next <| .next <| .next <| .next <| .here) rfl (.here) ⟨(fun h => nomatch h), ?_⟩)
     refine AY (by kernel_rfl) ?_ _
     refine A4 <| Ab <| Aj fun ds => Ao (Ag 1) <| Ad rfl (AJ Aa Aa rfl (by omega) (by omega)) <| Ao (Ag 1) <| Al ?_
     refine Ab ⟨_, m2 - 1, Off.eq (DG rfl <| Ci rfl <| BQ rfl <| A3), by omega, ?_⟩
     exact ⟨k + 1, by omega, Ba, by rw [KZ hk, h1o, ← hft]; rfl⟩
    refine Ac <| Ax (Ag 2) fun ds => Ad rfl (AA C3 Aa hag.plain) <| Aw (Ag 1) <| Ae Aa (by first | rfl | exact dF (by omega)) ?_
    obtain rfl : k = (agreeL p b).length := by omega
    refine AG ?_
    refine A2 <| A2 <| A8 <| Ab <| Ac <| Ac ?_
    by_cases hsz : ((p.ft m.fmt.toNat).folds.size : Int) = 1
    ·have hone := DR hmem hsz
     refine Aj fun ds => Ao (Ag 3) <| Ai rfl rfl Aa (dT hsz) <| Ao (Ag 1) <| Ai rfl rfl Aa (dT hsz) <| Ao (Ag 1) <| Ai rfl rfl Aa (dT hsz) <| Ao (Ag 1) <| Ad rfl (At Aa (dT hsz) Aa) <| Al <| Ab <| Ae Aa (by rw [hone]; rfl) <| Ak <| Ab ?_
     have hleS := hle0
     refine Bf (.inl rfl) (fun _ _ h => h) (kK <| kK <| kK <| kK <| List.sublist_append_of_sublist_right <| List.nil_sublist _) [11, 13, 12] (by kernel_rfl) fun ds => Af 0 rfl (by kernel_rfl) (by kernel_rfl) (by kernel_rfl) (by kernel_rfl) rfl rfl (fun _ h => h.drop (kK <| kK <| kK <| kK <| List.sublist_append_of_sublist_right <| List.nil_sublist _)) (fun _ _ _ h => h) (Az BR Aa) <| Af 1 rfl (by kernel_rfl) (by kernel_rfl) (by kernel_rfl) (by kernel_rfl) rfl rfl (fun _ h => h.drop (kK <| kK <| kK <| kK <| List.sublist_append_of_sublist_right <| List.nil_sublist _)) (fun _ _ _ h => h) (Ap D6 Aa (Cell.own 2 rfl rfl)) <| Af 2 rfl (by kernel_rfl) (by kernel_rfl) (by kernel_rfl) (by kernel_rfl) rfl rfl (fun _ h => h.drop (kK <| kK <| kK <| kK <| List.sublist_append_of_sublist_right <| List.nil_sublist _)) (fun _ _ _ h => h) (A6 DL Aa rfl rfl (Bj 0 rfl)) <| Af 5 rfl (by kernel_rfl) (by kernel_rfl) (by kernel_rfl) (by kernel_rfl) rfl rfl (fun _ h => h.drop (kK <| kK <| kK <| kK <| List.sublist_append_of_sublist_right <| List.nil_sublist _)) (fun _ _ _ h => h) (Az BR Aa) <| Af 6 rfl (by kernel_rfl) (by kernel_rfl) (by kernel_rfl) (by kernel_rfl) rfl rfl (fun _ h => h.drop (kK <| kK <| kK <| kK <| List.sublist_append_of_sublist_right <| List.nil_sublist _)) (fun _ _ _ h => h) (Ap D6 Aa (Cell.own 3 rfl rfl)) ?_
     refine Af 7 rfl (by kernel_rfl) (by kernel_rfl) (by kernel_rfl) (by kernel_rfl) rfl rfl (fun _ h => h.drop (kK <| kK <| kK <| kK <| List.sublist_append_of_sublist_right <| List.nil_sublist _)) (fun _ _ _ h => h) (A6 DL Aa rfl rfl (Bj 1 rfl)) ?_
     refine BX [3, 8] (by kernel_rfl) (by decide) (Li ?_ ?_)
     ·refine By rfl rfl (B0 (offs := [(0, 5)]) (zl := [.string ⟨#[]⟩, .int .i64 0, .int .i64 0, .int .i64 0, .bool false]) B4 D8 rfl (.cons Aa rfl .nil) (by intro i p h; rcases i with _ | i <;> simp at h <;> subst h <;> rfl) (.cons rfl rfl (Nat.le_of_ble_eq_true rfl) (.cons (.here) (.cons (.next <| .here) (.cons (.next <| .next <| .here) (.cons (.next <| .next <| .next <| .here) (.cons (.next <| .next <| .next <| .next <| .here) .nil))))) .nil) (by decide) (by decide) fun b37 hb37 nb37 => ⟨fun _ _ => (fun _ h => h.drop (kD <| kK <| kK <| kK <| kK <| List.sublist_append_of_sublist_right <| List.nil_sublist _)), ?_⟩)
      refine BX [4, 8] (by kernel_rfl) (by decide) (Li ?_ ?_)
      ·refine By rfl rfl (Bd B4 Fp Aa hoA Aa (Bv (s := 5) 0 rfl rfl (by simp [Value.oneCell'])) (by omega) (by omega) (.s <| .s <| .s <| .s <| .s <| .z) .more fun v38 R39 ho40 => ⟨fun _ _ => (fun _ h => h.drop (kD <| kK <| kK <| kK <| kK <| List.sublist_append_of_sublist_right <| List.nil_sublist _)), ?_⟩)
       have hoA2 : Own 56 5 v38 (bksTo r (ext f i (oneTo p (agreeL p b) (agreeL p b).length)) (i + 1)).length ((bksTo r (ext f i (oneTo p (agreeL p b) (agreeL p b).length)) (i + 1)).flatMap Book.enc) R39 := by rw [C6]; exact ho40.snoc (x := ({ r.bk i with large := (oneTo p (agreeL p b) (agreeL p b).length) } : Book)) rfl rfl
       refine Af 10 rfl (by kernel_rfl) (by kernel_rfl) (by kernel_rfl) (by kernel_rfl) rfl rfl (fun _ h => h.drop (kD <| kK <| kK <| kK <| kK <| List.sublist_append_of_sublist_right <| List.nil_sublist _)) (fun _ _ _ h => h) (Az BR Aa) ?_
       refine Bl 8 rfl (by kernel_rfl) rfl (B0 (offs := [(0, 5)]) (zl := [.string ⟨#[]⟩, .int .i64 0, .int .i64 0, .int .i64 0, .bool false]) B4 D8 rfl (.cons Aa rfl .nil) (by intro i p h; rcases i with _ | i <;> simp at h <;> subst h <;> rfl) (.cons rfl rfl (Nat.le_of_ble_eq_true rfl) (.cons (.here) (.cons (.next <| .here) (.cons (.next <| .next <| .here) (.cons (.next <| .next <| .next <| .here) (.cons (.next <| .next <| .next <| .next <| .here) .nil))))) .nil) (by decide) (by decide) fun b41 hb41 nb41 => ⟨fun _ _ => (fun _ h => h.drop (kD <| kD <| kK <| kK <| kK <| kK <| List.sublist_append_of_sublist_right <| List.nil_sublist _)), ?_⟩)
       refine Bl 9 rfl (by kernel_rfl) rfl (Bd B4 Fp Aa hoB Aa (Bv (s := 5) 0 rfl rfl (by simp [Value.oneCell'])) (by omega) (by omega) (.s <| .s <| .s <| .s <| .s <| .s <| .k <| .z) .last fun v42 R43 ho44 => ⟨fun _ _ => (fun _ h => h.drop (kD <| kD <| kK <| kK <| kK <| kK <| List.sublist_append_of_sublist_right <| List.nil_sublist _)), ?_⟩)
       have hoB2 : Own 56 5 v42 (bksTo r (ext g i (decide (((p.ft m.fmt.toNat).folds.size : Int) = 1))) (i + 1)).length ((bksTo r (ext g i (decide (((p.ft m.fmt.toNat).folds.size : Int) = 1))) (i + 1)).flatMap Book.enc) R43 := by rw [C6]; exact ho44.snoc (x := ({ r.bk i with large := (decide (((p.ft m.fmt.toNat).folds.size : Int) = 1)) } : Book)) rfl rfl
       refine Bt 11 rfl (by kernel_rfl) (AW E7 Aa Aa (i := 4) rfl (.here) (by first | exact hoA2.one | exact hoB2.one) (.next <| .next <| .next <| .next <| .here) ⟨(fun h => nomatch h), ?_⟩)
       refine Bl 12 rfl (by kernel_rfl) rfl (AI (Az BR Aa).quiet ⟨(fun h => nomatch h), ?_⟩)
       refine Bt 13 rfl (by kernel_rfl) (AW E7 Aa Aa (i := 5) rfl (.here) (by first | exact hoA2.one | exact hoB2.one) (.next <| .next <| .next <| .next <| .next <| .here) ⟨(fun h => nomatch h), ?_⟩)
       refine AY (by kernel_rfl) ?_ _
       refine A4 <| Ab <| Bk (fun _ _ h => h.drop (kD <| kD <| kD <| kD <| kK <| kK <| .refl _)) <| Aj fun ds => Ao (Ag 1) <| Ad rfl (AJ Aa Aa rfl (by omega) (by omega)) <| Ao (Ag 1) <| Al ?_
       refine Ab ⟨_, m1 - 1, Off.eq (Bx rfl <| Ci rfl <| BF rfl <| B7 rfl <| Ci rfl <| BI rfl <| B7 rfl <| Bx rfl <| BI rfl <| BF rfl <| BQ rfl <| B7 rfl <| Ci rfl <| BF rfl <| BQ rfl <| A3), by omega, ?_⟩
       refine ⟨i + 1, by omega, Ba, _, ext f i (oneTo p (agreeL p b) (agreeL p b).length), ext g i (decide (((p.ft m.fmt.toNat).folds.size : Int) = 1)), _, _, _, _, hG, hGG, GL hfg (fun h => DR hmem (of_decide_eq_true h)), hoA2, hoB2, rfl⟩
      refine By rfl rfl (B0 (offs := [(0, 5)]) (zl := [.string ⟨#[]⟩, .int .i64 0, .int .i64 0, .int .i64 0, .bool false]) B4 D8 rfl (.cons Aa rfl .nil) (by intro i p h; rcases i with _ | i <;> simp at h <;> subst h <;> rfl) (.cons rfl rfl (Nat.le_of_ble_eq_true rfl) (.cons (.here) (.cons (.next <| .here) (.cons (.next <| .next <| .here) (.cons (.next <| .next <| .next <| .here) (.cons (.next <| .next <| .next <| .next <| .here) .nil))))) .nil) (by decide) (by decide) fun b45 hb45 nb45 => ⟨fun _ _ => (fun _ h => h.drop (kD <| kD <| kK <| kK <| kK <| kK <| List.sublist_append_of_sublist_right <| List.nil_sublist _)), ?_⟩)
      refine Bl 4 rfl (by kernel_rfl) rfl (Bd B4 Fp Aa hoA Aa (Bv (s := 5) 1 rfl rfl (by simp [Value.oneCell'])) (by omega) (by omega) (.s <| .s <| .s <| .s <| .s <| .s <| .z) .more fun v46 R47 ho48 => ⟨fun _ _ => (fun _ h => h.drop (kD <| kD <| kK <| kK <| kK <| kK <| List.sublist_append_of_sublist_right <| List.nil_sublist _)), ?_⟩)
      have hoA2 : Own 56 5 v46 (bksTo r (ext f i (oneTo p (agreeL p b) (agreeL p b).length)) (i + 1)).length ((bksTo r (ext f i (oneTo p (agreeL p b) (agreeL p b).length)) (i + 1)).flatMap Book.enc) R47 := by rw [C6]; exact ho48.snoc (x := ({ r.bk i with large := (oneTo p (agreeL p b) (agreeL p b).length) } : Book)) rfl rfl
      refine Af 10 rfl (by kernel_rfl) (by kernel_rfl) (by kernel_rfl) (by kernel_rfl) rfl rfl (fun _ h => h.drop (kD <| kD <| kK <| kK <| kK <| kK <| List.sublist_append_of_sublist_right <| List.nil_sublist _)) (fun _ _ _ h => h) (Az BR Aa) ?_
      refine Bl 9 rfl (by kernel_rfl) rfl (Bd B4 Fp Aa hoB Aa (Bv (s := 5) 0 rfl rfl (by simp [Value.oneCell'])) (by omega) (by omega) (.s <| .s <| .s <| .s <| .s <| .s <| .k <| .z) .last fun v49 R50 ho51 => ⟨fun _ _ => (fun _ h => h.drop (kD <| kD <| kK <| kK <| kK <| kK <| List.sublist_append_of_sublist_right <| List.nil_sublist _)), ?_⟩)
      have hoB2 : Own 56 5 v49 (bksTo r (ext g i (decide (((p.ft m.fmt.toNat).folds.size : Int) = 1))) (i + 1)).length ((bksTo r (ext g i (decide (((p.ft m.fmt.toNat).folds.size : Int) = 1))) (i + 1)).flatMap Book.enc) R50 := by rw [C6]; exact ho51.snoc (x := ({ r.bk i with large := (decide (((p.ft m.fmt.toNat).folds.size : Int) = 1)) } : Book)) rfl rfl
      refine Bt 11 rfl (by kernel_rfl) (AW E7 Aa Aa (i := 4) rfl (.here) (by first | exact hoA2.one | exact hoB2.one) (.next <| .next <| .next <| .next <| .here) ⟨(fun h => nomatch h), ?_⟩)
      refine Bl 12 rfl (by kernel_rfl) rfl (AI (Az BR Aa).quiet ⟨(fun h => nomatch h), ?_⟩)
      refine Bt 13 rfl (by kernel_rfl) (AW E7 Aa Aa (i := 5) rfl (.here) (by first | exact hoA2.one | exact hoB2.one) (.next <| .next <| .next <| .next <| .next <| .here) ⟨(fun h => nomatch h), ?_⟩)
      refine AY (by kernel_rfl) ?_ _
      refine A4 <| Ab <| Bk (fun _ _ h => h.drop (kD <| kD <| kD <| kD <| kK <| kK <| .refl _)) <| Aj fun ds => Ao (Ag 1) <| Ad rfl (AJ Aa Aa rfl (by omega) (by omega)) <| Ao (Ag 1) <| Al ?_
      refine Ab ⟨_, m1 - 1, Off.eq (Bx rfl <| Ci rfl <| BF rfl <| B7 rfl <| Ci rfl <| BI rfl <| B7 rfl <| Bx rfl <| BI rfl <| BF rfl <| BQ rfl <| B7 rfl <| Ci rfl <| BF rfl <| BQ rfl <| A3), by omega, ?_⟩
      refine ⟨i + 1, by omega, Ba, _, ext f i (oneTo p (agreeL p b) (agreeL p b).length), ext g i (decide (((p.ft m.fmt.toNat).folds.size : Int) = 1)), _, _, _, _, hG, hGG, GL hfg (fun h => DR hmem (of_decide_eq_true h)), hoA2, hoB2, rfl⟩
     refine By rfl rfl (B0 (offs := [(0, 5)]) (zl := [.string ⟨#[]⟩, .int .i64 0, .int .i64 0, .int .i64 0, .bool false]) B4 D8 rfl (.cons Aa rfl .nil) (by intro i p h; rcases i with _ | i <;> simp at h <;> subst h <;> rfl) (.cons rfl rfl (Nat.le_of_ble_eq_true rfl) (.cons (.here) (.cons (.next <| .here) (.cons (.next <| .next <| .here) (.cons (.next <| .next <| .next <| .here) (.cons (.next <| .next <| .next <| .next <| .here) .nil))))) .nil) (by decide) (by decide) fun b52 hb52 nb52 => ⟨fun _ _ => (fun _ h => h.drop (kD <| kK <| kK <| kK <| kK <| List.sublist_append_of_sublist_right <| List.nil_sublist _)), ?_⟩)
     refine Bl 3 rfl (by kernel_rfl) rfl (B0 (offs := [(0, 5)]) (zl := [.string ⟨#[]⟩, .int .i64 0, .int .i64 0, .int .i64 0, .bool false]) B4 D8 rfl (.cons Aa rfl .nil) (by intro i p h; rcases i with _ | i <;> simp at h <;> subst h <;> rfl) (.cons rfl rfl (Nat.le_of_ble_eq_true rfl) (.cons (.here) (.cons (.next <| .here) (.cons (.next <| .next <| .here) (.cons (.next <| .next <| .next <| .here) (.cons (.next <| .next <| .next <| .next <| .here) .nil))))) .nil) (by decide) (by decide) fun b53 hb53 nb53 => ⟨fun _ _ => (fun _ h => h.drop (kD <| kD <| kK <| kK <| kK <| kK <| List.sublist_append_of_sublist_right <| List.nil_sublist _)), ?_⟩)
     refine Bl 4 rfl (by kernel_rfl) rfl (Bd B4 Fp Aa hoA Aa (Bv (s := 5) 0 rfl rfl (by simp [Value.oneCell'])) (by omega) (by omega) (.s <| .s <| .s <| .s <| .s <| .s <| .z) .more fun v54 R55 ho56 => ⟨fun _ _ => (fun _ h => h.drop (kD <| kD <| kK <| kK <| kK <| kK <| List.sublist_append_of_sublist_right <| List.nil_sublist _)), ?_⟩)
     have hoA2 : Own 56 5 v54 (bksTo r (ext f i (oneTo p (agreeL p b) (agreeL p b).length)) (i + 1)).length ((bksTo r (ext f i (oneTo p (agreeL p b) (agreeL p b).length)) (i + 1)).flatMap Book.enc) R55 := by rw [C6]; exact ho56.snoc (x := ({ r.bk i with large := (oneTo p (agreeL p b) (agreeL p b).length) } : Book)) rfl rfl
     refine Af 10 rfl (by kernel_rfl) (by kernel_rfl) (by kernel_rfl) (by kernel_rfl) rfl rfl (fun _ h => h.drop (kD <| kD <| kK <| kK <| kK <| kK <| List.sublist_append_of_sublist_right <| List.nil_sublist _)) (fun _ _ _ h => h) (Az BR Aa) ?_
     refine Bl 9 rfl (by kernel_rfl) rfl (Bd B4 Fp Aa hoB Aa (Bv (s := 5) 1 rfl rfl (by simp [Value.oneCell'])) (by omega) (by omega) (.s <| .s <| .s <| .s <| .s <| .s <| .k <| .z) .last fun v57 R58 ho59 => ⟨fun _ _ => (fun _ h => h.drop (kD <| kD <| kK <| kK <| kK <| kK <| List.sublist_append_of_sublist_right <| List.nil_sublist _)), ?_⟩)
     have hoB2 : Own 56 5 v57 (bksTo r (ext g i (decide (((p.ft m.fmt.toNat).folds.size : Int) = 1))) (i + 1)).length ((bksTo r (ext g i (decide (((p.ft m.fmt.toNat).folds.size : Int) = 1))) (i + 1)).flatMap Book.enc) R58 := by rw [C6]; exact ho59.snoc (x := ({ r.bk i with large := (decide (((p.ft m.fmt.toNat).folds.size : Int) = 1)) } : Book)) rfl rfl
     refine Bt 11 rfl (by kernel_rfl) (AW E7 Aa Aa (i := 4) rfl (.here) (by first | exact hoA2.one | exact hoB2.one) (.next <| .next <| .next <| .next <| .here) ⟨(fun h => nomatch h), ?_⟩)
     refine Bl 12 rfl (by kernel_rfl) rfl (AI (Az BR Aa).quiet ⟨(fun h => nomatch h), ?_⟩)
     refine Bt 13 rfl (by kernel_rfl) (AW E7 Aa Aa (i := 5) rfl (.here) (by first | exact hoA2.one | exact hoB2.one) (.next <| .next <| .next <| .next <| .next <| .here) ⟨(fun h => nomatch h), ?_⟩)
     refine AY (by kernel_rfl) ?_ _
     refine A4 <| Ab <| Bk (fun _ _ h => h.drop (kD <| kD <| kD <| kD <| kK <| kK <| .refl _)) <| Aj fun ds => Ao (Ag 1) <| Ad rfl (AJ Aa Aa rfl (by omega) (by omega)) <| Ao (Ag 1) <| Al ?_
     refine Ab ⟨_, m1 - 1, Off.eq (Bx rfl <| Ci rfl <| BF rfl <| B7 rfl <| Ci rfl <| BI rfl <| B7 rfl <| Bx rfl <| BI rfl <| BF rfl <| BQ rfl <| B7 rfl <| Ci rfl <| BF rfl <| BQ rfl <| A3), by omega, ?_⟩
     refine ⟨i + 1, by omega, Ba, _, ext f i (oneTo p (agreeL p b) (agreeL p b).length), ext g i (decide (((p.ft m.fmt.toNat).folds.size : Int) = 1)), _, _, _, _, hG, hGG, GL hfg (fun h => DR hmem (of_decide_eq_true h)), hoA2, hoB2, rfl⟩
    refine Aj fun ds => Ao (Ag 3) <| Ar rfl rfl Aa (.inl (congrArg Value.bool (dF hsz))) rfl <| Ar rfl rfl Aa (.inl (congrArg Value.bool (dF hsz))) rfl <| Ar rfl rfl Aa (.inl (congrArg Value.bool (dF hsz))) rfl <| Ad rfl (A9 Aa (dF hsz) Aa) <| Al <| Ab <| Ae Aa rfl <| Ak <| Ab ?_
    have hleS := hle0
    refine Bf (.inl rfl) (fun _ _ h => h) (kK <| kK <| kK <| kK <| List.sublist_append_of_sublist_right <| List.nil_sublist _) [11, 13, 12] (by kernel_rfl) fun ds => Af 0 rfl (by kernel_rfl) (by kernel_rfl) (by kernel_rfl) (by kernel_rfl) rfl rfl (fun _ h => h.drop (kK <| kK <| kK <| kK <| List.sublist_append_of_sublist_right <| List.nil_sublist _)) (fun _ _ _ h => h) (Az BR Aa) <| Af 1 rfl (by kernel_rfl) (by kernel_rfl) (by kernel_rfl) (by kernel_rfl) rfl rfl (fun _ h => h.drop (kK <| kK <| kK <| kK <| List.sublist_append_of_sublist_right <| List.nil_sublist _)) (fun _ _ _ h => h) (Ap D6 Aa (Cell.own 2 rfl rfl)) <| Af 2 rfl (by kernel_rfl) (by kernel_rfl) (by kernel_rfl) (by kernel_rfl) rfl rfl (fun _ h => h.drop (kK <| kK <| kK <| kK <| List.sublist_append_of_sublist_right <| List.nil_sublist _)) (fun _ _ _ h => h) (A6 DL Aa rfl rfl (Bj 0 rfl)) <| Af 5 rfl (by kernel_rfl) (by kernel_rfl) (by kernel_rfl) (by kernel_rfl) rfl rfl (fun _ h => h.drop (kK <| kK <| kK <| kK <| List.sublist_append_of_sublist_right <| List.nil_sublist _)) (fun _ _ _ h => h) (Az BR Aa) <| Af 6 rfl (by kernel_rfl) (by kernel_rfl) (by kernel_rfl) (by kernel_rfl) rfl rfl (fun _ h => h.drop (kK <| kK <| kK <| kK <| List.sublist_append_of_sublist_right <| List.nil_sublist _)) (fun _ _ _ h => h) (Ap D6 Aa (Cell.own 3 rfl rfl)) ?_
    refine Af 7 rfl (by kernel_rfl) (by kernel_rfl) (by kernel_rfl) (by kernel_rfl) rfl rfl (fun _ h => h.drop (kK <| kK <| kK <| kK <| List.sublist_append_of_sublist_right <| List.nil_sublist _)) (fun _ _ _ h => h) (A6 DL Aa rfl rfl (Bj 1 rfl)) ?_
    refine BX [3, 8] (by kernel_rfl) (by decide) (Li ?_ ?_)
    ·refine By rfl rfl (B0 (offs := [(0, 5)]) (zl := [.string ⟨#[]⟩, .int .i64 0, .int .i64 0, .int .i64 0, .bool false]) B4 D8 rfl (.cons Aa rfl .nil) (by intro i p h; rcases i with _ | i <;> simp at h <;> subst h <;> rfl) (.cons rfl rfl (Nat.le_of_ble_eq_true rfl) (.cons (.here) (.cons (.next <| .here) (.cons (.next <| .next <| .here) (.cons (.next <| .next <| .next <| .here) (.cons (.next <| .next <| .next <| .next <| .here) .nil))))) .nil) (by decide) (by decide) fun b60 hb60 nb60 => ⟨fun _ _ => (fun _ h => h.drop (kD <| kK <| kK <| kK <| kK <| List.sublist_append_of_sublist_right <| List.nil_sublist _)), ?_⟩)
     refine BX [4, 8] (by kernel_rfl) (by decide) (Li ?_ ?_)
     ·refine By rfl rfl (Bd B4 Fp Aa hoA Aa (Bv (s := 5) 0 rfl rfl (by simp [Value.oneCell'])) (by omega) (by omega) (.s <| .s <| .s <| .s <| .s <| .z) .more fun v61 R62 ho63 => ⟨fun _ _ => (fun _ h => h.drop (kD <| kK <| kK <| kK <| kK <| List.sublist_append_of_sublist_right <| List.nil_sublist _)), ?_⟩)
      have hoA2 : Own 56 5 v61 (bksTo r (ext f i (oneTo p (agreeL p b) (agreeL p b).length)) (i + 1)).length ((bksTo r (ext f i (oneTo p (agreeL p b) (agreeL p b).length)) (i + 1)).flatMap Book.enc) R62 := by rw [C6]; exact ho63.snoc (x := ({ r.bk i with large := (oneTo p (agreeL p b) (agreeL p b).length) } : Book)) rfl rfl
      refine Af 10 rfl (by kernel_rfl) (by kernel_rfl) (by kernel_rfl) (by kernel_rfl) rfl rfl (fun _ h => h.drop (kD <| kK <| kK <| kK <| kK <| List.sublist_append_of_sublist_right <| List.nil_sublist _)) (fun _ _ _ h => h) (Az BR Aa) ?_
      refine Bl 8 rfl (by kernel_rfl) rfl (B0 (offs := [(0, 5)]) (zl := [.string ⟨#[]⟩, .int .i64 0, .int .i64 0, .int .i64 0, .bool false]) B4 D8 rfl (.cons Aa rfl .nil) (by intro i p h; rcases i with _ | i <;> simp at h <;> subst h <;> rfl) (.cons rfl rfl (Nat.le_of_ble_eq_true rfl) (.cons (.here) (.cons (.next <| .here) (.cons (.next <| .next <| .here) (.cons (.next <| .next <| .next <| .here) (.cons (.next <| .next <| .next <| .next <| .here) .nil))))) .nil) (by decide) (by decide) fun b64 hb64 nb64 => ⟨fun _ _ => (fun _ h => h.drop (kD <| kD <| kK <| kK <| kK <| kK <| List.sublist_append_of_sublist_right <| List.nil_sublist _)), ?_⟩)
      refine Bl 9 rfl (by kernel_rfl) rfl (Bd B4 Fp Aa hoB Aa (Bv (s := 5) 0 rfl rfl (by simp [Value.oneCell'])) (by omega) (by omega) (.s <| .s <| .s <| .s <| .s <| .s <| .k <| .z) .last fun v65 R66 ho67 => ⟨fun _ _ => (fun _ h => h.drop (kD <| kD <| kK <| kK <| kK <| kK <| List.sublist_append_of_sublist_right <| List.nil_sublist _)), ?_⟩)
      have hoB2 : Own 56 5 v65 (bksTo r (ext g i (decide (((p.ft m.fmt.toNat).folds.size : Int) = 1))) (i + 1)).length ((bksTo r (ext g i (decide (((p.ft m.fmt.toNat).folds.size : Int) = 1))) (i + 1)).flatMap Book.enc) R66 := by rw [C6]; exact ho67.snoc (x := ({ r.bk i with large := (decide (((p.ft m.fmt.toNat).folds.size : Int) = 1)) } : Book)) rfl rfl
      refine Bt 11 rfl (by kernel_rfl) (AW E7 Aa Aa (i := 4) rfl (.here) (by first | exact hoA2.one | exact hoB2.one) (.next <| .next <| .next <| .next <| .here) ⟨(fun h => nomatch h), ?_⟩)
      refine Bl 12 rfl (by kernel_rfl) rfl (AI (Az BR Aa).quiet ⟨(fun h => nomatch h), ?_⟩)
      refine Bt 13 rfl (by kernel_rfl) (AW E7 Aa Aa (i := 5) rfl (.here) (by first | exact hoA2.one | exact hoB2.one) (.next <| .next <| .next <| .next <| .next <| .here) ⟨(fun h => nomatch h), ?_⟩)
      refine AY (by kernel_rfl) ?_ _
      refine A4 <| Ab <| Bk (fun _ _ h => h.drop (kD <| kD <| kD <| kD <| kK <| kK <| .refl _)) <| Aj fun ds => Ao (Ag 1) <| Ad rfl (AJ Aa Aa rfl (by omega) (by omega)) <| Ao (Ag 1) <| Al ?_
      refine Ab ⟨_, m1 - 1, Off.eq (Bx rfl <| Ci rfl <| BF rfl <| B7 rfl <| Ci rfl <| BI rfl <| B7 rfl <| Bx rfl <| BI rfl <| BF rfl <| BQ rfl <| B7 rfl <| Ci rfl <| BF rfl <| BQ rfl <| A3), by omega, ?_⟩
      refine ⟨i + 1, by omega, Ba, _, ext f i (oneTo p (agreeL p b) (agreeL p b).length), ext g i (decide (((p.ft m.fmt.toNat).folds.size : Int) = 1)), _, _, _, _, hG, hGG, GL hfg (fun h => DR hmem (of_decide_eq_true h)), hoA2, hoB2, rfl⟩
     refine By rfl rfl (B0 (offs := [(0, 5)]) (zl := [.string ⟨#[]⟩, .int .i64 0, .int .i64 0, .int .i64 0, .bool false]) B4 D8 rfl (.cons Aa rfl .nil) (by intro i p h; rcases i with _ | i <;> simp at h <;> subst h <;> rfl) (.cons rfl rfl (Nat.le_of_ble_eq_true rfl) (.cons (.here) (.cons (.next <| .here) (.cons (.next <| .next <| .here) (.cons (.next <| .next <| .next <| .here) (.cons (.next <| .next <| .next <| .next <| .here) .nil))))) .nil) (by decide) (by decide) fun b68 hb68 nb68 => ⟨fun _ _ => (fun _ h => h.drop (kD <| kD <| kK <| kK <| kK <| kK <| List.sublist_append_of_sublist_right <| List.nil_sublist _)), ?_⟩)
     refine Bl 4 rfl (by kernel_rfl) rfl (Bd B4 Fp Aa hoA Aa (Bv (s := 5) 1 rfl rfl (by simp [Value.oneCell'])) (by omega) (by omega) (.s <| .s <| .s <| .s <| .s <| .s <| .z) .more fun v69 R70 ho71 => ⟨fun _ _ => (fun _ h => h.drop (kD <| kD <| kK <| kK <| kK <| kK <| List.sublist_append_of_sublist_right <| List.nil_sublist _)), ?_⟩)
     have hoA2 : Own 56 5 v69 (bksTo r (ext f i (oneTo p (agreeL p b) (agreeL p b).length)) (i + 1)).length ((bksTo r (ext f i (oneTo p (agreeL p b) (agreeL p b).length)) (i + 1)).flatMap Book.enc) R70 := by rw [C6]; exact ho71.snoc (x := ({ r.bk i with large := (oneTo p (agreeL p b) (agreeL p b).length) } : Book)) rfl rfl
     refine Af 10 rfl (by kernel_rfl) (by kernel_rfl) (by kernel_rfl) (by kernel_rfl) rfl rfl (fun _ h => h.drop (kD <| kD <| kK <| kK <| kK <| kK <| List.sublist_append_of_sublist_right <| List.nil_sublist _)) (fun _ _ _ h => h) (Az BR Aa) ?_
     refine Bl 9 rfl (by kernel_rfl) rfl (Bd B4 Fp Aa hoB Aa (Bv (s := 5) 0 rfl rfl (by simp [Value.oneCell'])) (by omega) (by omega) (.s <| .s <| .s <| .s <| .s <| .s <| .k <| .z) .last fun v72 R73 ho74 => ⟨fun _ _ => (fun _ h => h.drop (kD <| kD <| kK <| kK <| kK <| kK <| List.sublist_append_of_sublist_right <| List.nil_sublist _)), ?_⟩)
     have hoB2 : Own 56 5 v72 (bksTo r (ext g i (decide (((p.ft m.fmt.toNat).folds.size : Int) = 1))) (i + 1)).length ((bksTo r (ext g i (decide (((p.ft m.fmt.toNat).folds.size : Int) = 1))) (i + 1)).flatMap Book.enc) R73 := by rw [C6]; exact ho74.snoc (x := ({ r.bk i with large := (decide (((p.ft m.fmt.toNat).folds.size : Int) = 1)) } : Book)) rfl rfl
     refine Bt 11 rfl (by kernel_rfl) (AW E7 Aa Aa (i := 4) rfl (.here) (by first | exact hoA2.one | exact hoB2.one) (.next <| .next <| .next <| .next <| .here) ⟨(fun h => nomatch h), ?_⟩)
     refine Bl 12 rfl (by kernel_rfl) rfl (AI (Az BR Aa).quiet ⟨(fun h => nomatch h), ?_⟩)
     refine Bt 13 rfl (by kernel_rfl) (AW E7 Aa Aa (i := 5) rfl (.here) (by first | exact hoA2.one | exact hoB2.one) (.next <| .next <| .next <| .next <| .next <| .here) ⟨(fun h => nomatch h), ?_⟩)
     refine AY (by kernel_rfl) ?_ _
     refine A4 <| Ab <| Bk (fun _ _ h => h.drop (kD <| kD <| kD <| kD <| kK <| kK <| .refl _)) <| Aj fun ds => Ao (Ag 1) <| Ad rfl (AJ Aa Aa rfl (by omega) (by omega)) <| Ao (Ag 1) <| Al ?_
     refine Ab ⟨_, m1 - 1, Off.eq (Bx rfl <| Ci rfl <| BF rfl <| B7 rfl <| Ci rfl <| BI rfl <| B7 rfl <| Bx rfl <| BI rfl <| BF rfl <| BQ rfl <| B7 rfl <| Ci rfl <| BF rfl <| BQ rfl <| A3), by omega, ?_⟩
     refine ⟨i + 1, by omega, Ba, _, ext f i (oneTo p (agreeL p b) (agreeL p b).length), ext g i (decide (((p.ft m.fmt.toNat).folds.size : Int) = 1)), _, _, _, _, hG, hGG, GL hfg (fun h => DR hmem (of_decide_eq_true h)), hoA2, hoB2, rfl⟩
    refine By rfl rfl (B0 (offs := [(0, 5)]) (zl := [.string ⟨#[]⟩, .int .i64 0, .int .i64 0, .int .i64 0, .bool false]) B4 D8 rfl (.cons Aa rfl .nil) (by intro i p h; rcases i with _ | i <;> simp at h <;> subst h <;> rfl) (.cons rfl rfl (Nat.le_of_ble_eq_true rfl) (.cons (.here) (.cons (.next <| .here) (.cons (.next <| .next <| .here) (.cons (.next <| .next <| .next <| .here) (.cons (.next <| .next <| .next <| .next <| .here) .nil))))) .nil) (by decide) (by decide) fun b75 hb75 nb75 => ⟨fun _ _ => (fun _ h => h.drop (kD <| kK <| kK <| kK <| kK <| List.sublist_append_of_sublist_right <| List.nil_sublist _)), ?_⟩)
    refine Bl 3 rfl (by kernel_rfl) rfl (B0 (offs := [(0, 5)]) (zl := [.string ⟨#[]⟩, .int .i64 0, .int .i64 0, .int .i64 0, .bool false]) B4 D8 rfl (.cons Aa rfl .nil) (by intro i p h; rcases i with _ | i <;> simp at h <;> subst h <;> rfl) (.cons rfl rfl (Nat.le_of_ble_eq_true rfl) (.cons (.here) (.cons (.next <| .here) (.cons (.next <| .next <| .here) (.cons (.next <| .next <| .next <| .here) (.cons (.next <| .next <| .next <| .next <| .here) .nil))))) .nil) (by decide) (by decide) fun b76 hb76 nb76 => ⟨fun _ _ => (fun _ h => h.drop (kD <| kD <| kK <| kK <| kK <| kK <| List.sublist_append_of_sublist_right <| List.nil_sublist _)), ?_⟩)
    refine Bl 4 rfl (by kernel_rfl) rfl (Bd B4 Fp Aa hoA Aa (Bv (s := 5) 0 rfl rfl (by simp [Value.oneCell'])) (by omega) (by omega) (.s <| .s <| .s <| .s <| .s <| .s <| .z) .more fun v77 R78 ho79 => ⟨fun _ _ => (fun _ h => h.drop (kD <| kD <| kK <| kK <| kK <| kK <| List.sublist_append_of_sublist_right <| List.nil_sublist _)), ?_⟩)
    have hoA2 : Own 56 5 v77 (bksTo r (ext f i (oneTo p (agreeL p b) (agreeL p b).length)) (i + 1)).length ((bksTo r (ext f i (oneTo p (agreeL p b) (agreeL p b).length)) (i + 1)).flatMap Book.enc) R78 := by rw [C6]; exact ho79.snoc (x := ({ r.bk i with large := (oneTo p (agreeL p b) (agreeL p b).length) } : Book)) rfl rfl
    refine Af 10 rfl (by kernel_rfl) (by kernel_rfl) (by kernel_rfl) (by kernel_rfl) rfl rfl (fun _ h => h.drop (kD <| kD <| kK <| kK <| kK <| kK <| List.sublist_append_of_sublist_right <| List.nil_sublist _)) (fun _ _ _ h => h) (Az BR Aa) ?_
    refine Bl 9 rfl (by kernel_rfl) rfl (Bd B4 Fp Aa hoB Aa (Bv (s := 5) 1 rfl rfl (by simp [Value.oneCell'])) (by omega) (by omega) (.s <| .s <| .s <| .s <| .s <| .s <| .k <| .z) .last fun v80 R81 ho82 => ⟨fun _ _ => (fun _ h => h.drop (kD <| kD <| kK <| kK <| kK <| kK <| List.sublist_append_of_sublist_right <| List.nil_sublist _)), ?_⟩)
    have hoB2 : Own 56 5 v80 (bksTo r (ext g i (decide (((p.ft m.fmt.toNat).folds.size : Int) = 1))) (i + 1)).length ((bksTo r (ext g i (decide (((p.ft m.fmt.toNat).folds.size : Int) = 1))) (i + 1)).flatMap Book.enc) R81 := by rw [C6]; exact ho82.snoc (x := ({ r.bk i with large := (decide (((p.ft m.fmt.toNat).folds.size : Int) = 1)) } : Book)) rfl rfl
    refine Bt 11 rfl (by kernel_rfl) (AW E7 Aa Aa (i := 4) rfl (.here) (by first | exact hoA2.one | exact hoB2.one) (.next <| .next <| .next <| .next <| .here) ⟨(fun h => nomatch h), ?_⟩)
    refine Bl 12 rfl (by kernel_rfl) rfl (AI (Az BR Aa).quiet ⟨(fun h => nomatch h), ?_⟩)
    refine Bt 13 rfl (by kernel_rfl) (AW E7 Aa Aa (i := 5) rfl (.here) (by first | exact hoA2.one | exact hoB2.one) (.next <| .next <| .next <| .next <| .next <| .here) ⟨(fun h => nomatch h), ?_⟩)
    refine AY (by kernel_rfl) ?_ _
    refine A4 <| Ab <| Bk (fun _ _ h => h.drop (kD <| kD <| kD <| kD <| kK <| kK <| .refl _)) <| Aj fun ds => Ao (Ag 1) <| Ad rfl (AJ Aa Aa rfl (by omega) (by omega)) <| Ao (Ag 1) <| Al ?_
    refine Ab ⟨_, m1 - 1, Off.eq (Bx rfl <| Ci rfl <| BF rfl <| B7 rfl <| Ci rfl <| BI rfl <| B7 rfl <| Bx rfl <| BI rfl <| BF rfl <| BQ rfl <| B7 rfl <| Ci rfl <| BF rfl <| BQ rfl <| A3), by omega, ?_⟩
    refine ⟨i + 1, by omega, Ba, _, ext f i (oneTo p (agreeL p b) (agreeL p b).length), ext g i (decide (((p.ft m.fmt.toNat).folds.size : Int) = 1)), _, _, _, _, hG, hGG, GL hfg (fun h => DR hmem (of_decide_eq_true h)), hoA2, hoB2, rfl⟩
   refine Ac <| Ax (Ag 2) fun ds => Ad rfl (Ap D6 Aa (AP hz4 rfl)) <| Ad rfl (AA B4 Aa hq.books.plain) <| Aw (Ag 1) <| Ae Aa (by first | rfl | exact dF (by omega)) ?_
   obtain rfl : i = r.books.length := by omega
   have hla := Dp (r := r) (f := f) (k := r.books.length)
   have hlb := Dp (r := r) (f := g) (k := r.books.length)
   refine Bo (σ := ⟨_, _⟩) (by rfl) hoA (.s <| .s <| .z) .more fun F83 hF84 hz85 => ?_
   replace hq := hq.mono hF84
   replace hz4 := hF84 _ _ hz4
   replace hz5 := hF84 _ _ hz5
   refine VN (.one (.here) <| .one (.here) <| .lastb (.lastS)) ?_
   have hna := hoA.sl (fun _ => rfl) hz85 (by omega)
   refine Bo (σ := ⟨_, _⟩) (by rfl) hoB (.s <| .s <| .z) .last fun F86 hF87 hz88 => ?_
   replace hq := hq.mono hF87
   replace hna := hna.mono hF87
   replace hz4 := hF87 _ _ hz4
   replace hz5 := hF87 _ _ hz5
   have hnb := hoB.sl (fun _ => rfl) hz88 (by omega)
   have hra : RoomR F86 w13 vr vs vq (largeR r f) := ⟨hna, hq.readers, hq.seats, hq.reqs⟩
   have hrb : RoomR F86 w14 vr vs vq (largeR r g) := ⟨hnb, hq.readers, hq.seats, hq.reqs⟩
   have hca : (check (largeR r f)).2.2 = 0 := by rw [JS]; exact h1
   have hcb : (check (largeR r g)).2.2 = 0 := by rw [JS]; exact h1
   have hEz := N1 (f := f) (g := g) hvr hfg
   have hEa : someErr (largeR r f) (castL (chosenL r w)) = 0 := JI hca L7 J1
   have hEb : someErr (largeR r g) (castL (chosenL r w)) = 0 := JI hcb L7 J1
   have hbst := hEz.best (DE hca) (DE hcb)
   refine AG ?_
   refine A2 <| A2 <| A8 <| Ab <| Ac <| Aj fun ds => Ad rfl (A6 G5 Aa rfl rfl (AK hz4)) <| Ao (Ag 1) <| Ad rfl (Ap one_5 Aa (AP hz5 rfl)) <| A5 rfl <| Bb bd_10 Aa AO (Tj hq (bits := w)) fun v89 F90 hr91 hF92 => ?_
   replace hra := hra.mono hF92
   replace hrb := hrb.mono hF92
   have hl := hr91
   refine Aw (Ag 1) <| Ax (Ag 2) fun ds => AE rfl (As Sf Aa AO (FM hra (Nats.ints hl)) (fun _ _ h => h.trans (P0 hEa rfl))) <| Aw (Ag 5) <| Ax (Ag 2) fun ds => AE rfl (As Sf Aa AO (FM hrb (Nats.ints hl)) (fun _ _ h => h.trans (P0 hEb rfl))) <| Aw (Ag 5) <| Ax (Ag 1) fun ds => A5 rfl <| Bb V1 Aa AO (Gz hra) fun v93 F94 hr95 hF96 => ?_
   replace hrb := hrb.mono hF96
   have hb9 := hr95
   rw [LL hca] at hb9
   obtain ⟨ws1, rfl, -⟩ := hb9
   refine Aw (Ag 7) <| Ax (Ag 1) fun ds => A5 rfl <| Bb V1 Aa AO (Gz hrb) fun v97 F98 hr99 hF100 => ?_
   have hb9 := hr99
   rw [LL hcb] at hb9
   obtain ⟨ws2, rfl, -⟩ := hb9
   refine Aw (Ag 7) <| Ac ?_
   cases hc : canB (largeR r f) (chosenL r w)
   ·refine Aj fun ds => Ao (Ag 3) <| Ai rfl rfl Aa rfl <| Ao (Ag 1) <| Ai rfl rfl Aa rfl <| Ao (Ag 1) <| Ad rfl (At Aa rfl Aa) <| Ao (Ag 1) <| Ai rfl rfl Aa rfl <| Ao (Ag 1) <| Ai rfl rfl Aa rfl <| Ao (Ag 1) <| Ad rfl (At Aa rfl Aa) <| Ao (Ag 1) <| Ai rfl rfl Aa rfl <| Ao (Ag 1) <| Ai rfl rfl Aa rfl <| Ao (Ag 1) <| Ad rfl (At Aa rfl Aa) <| Ao (Ag 1) <| Ai rfl rfl Aa rfl <| Ao (Ag 1) <| Ai rfl rfl Aa rfl <| Ao (Ag 1) <| Ai rfl rfl Aa rfl <| Ao (Ag 1) <| Ar rfl rfl Aa (.inl (congrArg Value.bool (by first | rfl | (rw [hc]; rfl)))) rfl <| Ai rfl rfl Aa rfl <| Ad rfl (At Aa (by first | rfl | (rw [hc]; rfl)) Aa) <| Ad rfl (At Aa rfl Aa) <| Ao (Ag 1) <| Ai rfl rfl Aa (by first | rfl | (rw [hc]; rfl)) <| Ao (Ag 1) <| Ai rfl rfl Aa (by first | rfl | (rw [hc]; rfl)) <| Ao (Ag 1) <| Ai rfl rfl Aa (by first | rfl | (rw [hc]; rfl)) <| Ao (Ag 1) <| Ad rfl (At Aa (by first | rfl | (rw [hc]; rfl)) Aa) <| Ao (Ag 1) <| Ai rfl rfl Aa (dT hbst) <| AE rfl (As bd_6 Aa .nil GQ (fun _ _ h => h)) <| Ad rfl (At Aa (dT hbst) Aa) <| Ao (Ag 1) <| Ai rfl rfl Aa rfl <| AE rfl (As bd_7 Aa .nil HZ (fun _ _ h => h)) <| Ad rfl (At Aa rfl Aa) <| Aw (Ag 1) <| Au <| Am rfl Bi ?_
    rfl
   have hc2 := hEz.can J1 hc
   refine Aj fun ds => Ao (Ag 3) <| Ai rfl rfl Aa rfl <| Ao (Ag 1) <| Ai rfl rfl Aa rfl <| Ao (Ag 1) <| Ad rfl (At Aa rfl Aa) <| Ao (Ag 1) <| Ai rfl rfl Aa rfl <| Ao (Ag 1) <| Ai rfl rfl Aa rfl <| Ao (Ag 1) <| Ad rfl (At Aa rfl Aa) <| Ao (Ag 1) <| Ai rfl rfl Aa rfl <| Ao (Ag 1) <| Ai rfl rfl Aa rfl <| Ao (Ag 1) <| Ad rfl (At Aa rfl Aa) <| Ao (Ag 1) <| Ai rfl rfl Aa rfl <| Ao (Ag 1) <| Ai rfl rfl Aa rfl <| Ao (Ag 1) <| Ai rfl rfl Aa rfl <| Ao (Ag 1) <| Ai rfl rfl Aa (by first | rfl | (rw [hc]; rfl)) <| Ao (Ag 1) <| Ai rfl rfl Aa rfl <| Ad rfl (A9 Aa (by first | rfl | (rw [hc]; rfl)) Aa) <| Ad rfl (At Aa rfl Aa) <| Ao (Ag 1) <| Ai rfl rfl Aa hc2 <| Ao (Ag 1) <| Ai rfl rfl Aa hc2 <| Ao (Ag 1) <| Ai rfl rfl Aa hc2 <| Ao (Ag 1) <| Ad rfl (At Aa hc2 Aa) <| Ao (Ag 1) <| Ai rfl rfl Aa (dT hbst) <| AE rfl (As bd_6 Aa .nil GQ (fun _ _ h => h)) <| Ad rfl (At Aa (dT hbst) Aa) <| Ao (Ag 1) <| Ai rfl rfl Aa rfl <| AE rfl (As bd_7 Aa .nil HZ (fun _ _ h => h)) <| Ad rfl (At Aa rfl Aa) <| Aw (Ag 1) <| Au <| Am rfl Bi ?_
   rfl
  refine Ac <| Aj fun ds => Ad rfl (A6 Cq Aa rfl rfl (AK hz3)) <| AE rfl (As bd_4 Aa AO (Ew hr) (fun _ _ h => h)) <| Aw (Ag 7) <| Ac <| Aj fun ds => Ad rfl (A6 G5 Aa rfl rfl (AK hz4)) <| AE rfl (As bd_5 Aa AO (Gg hq) (fun _ _ h => h.trans (show checkV r = .tuple #[.int .i64 (check r).1, .int .i64 (check r).2.1, .int .i64 (check r).2.2] from rfl))) <| Aw (Ag 7) <| Ac <| Ax (Ag 3) fun ds => Ai rfl rfl Aa (dF (fun h => h h0)) <| Ao (Ag 1) <| Ai rfl rfl Aa (dF (fun h => h h0)) <| Ao (Ag 1) <| Ad rfl (A9 Aa (dF (fun h => h h0)) Aa) <| Al <| Ab <| Ah Aa (dT h1) <| Ac <| Aj fun ds => AE rfl (As bd_6 Aa .nil GQ (fun _ _ h => h)) <| Ao (Ag 1) <| Ai rfl rfl Aa rfl <| AE rfl (As bd_7 Aa .nil HZ (fun _ _ h => h)) <| Ad rfl (At Aa rfl Aa) <| Aw (Ag 1) <| Au <| Ay <| Am rfl Bi ?_
  rfl
 refine Ac <| Aj fun ds => Ad rfl (A6 Cq Aa rfl rfl (AK hz3)) <| AE rfl (As bd_4 Aa AO (Ew hr) (fun _ _ h => h)) <| Aw (Ag 7) <| Ac <| Aj fun ds => Ad rfl (A6 G5 Aa rfl rfl (AK hz4)) <| AE rfl (As bd_5 Aa AO (Gg hq) (fun _ _ h => h.trans (show checkV r = .tuple #[.int .i64 (check r).1, .int .i64 (check r).2.1, .int .i64 (check r).2.2] from rfl))) <| Aw (Ag 7) <| Ac <| Ax (Ag 3) fun ds => Ar rfl rfl Aa (.inl (congrArg Value.bool (dT h0))) rfl <| Ar rfl rfl Aa (.inl (congrArg Value.bool (dT h0))) rfl <| Ad rfl (At Aa (dT h0) Aa) <| Al <| Ab <| Ah Aa rfl <| Ac <| Aj fun ds => AE rfl (As bd_6 Aa .nil GQ (fun _ _ h => h)) <| Ao (Ag 1) <| Ai rfl rfl Aa rfl <| AE rfl (As bd_7 Aa .nil HZ (fun _ _ h => h)) <| Ad rfl (At Aa rfl Aa) <| Aw (Ag 1) <| Au <| Ay <| Am rfl Bi ?_
 rfl
end
section
set_option maxRecDepth 100000
open Go.ChangeShapes Go.WideShapes Go.ChangeAt Go.RowKit
theorem Kg (os : Os) (started : os.Started) (H : Type) (enc : TypeId × Value → H) :
   ReturnsInHanded {} Tryz.checked os 3 .any (Rows.topFoliosSpec.pre6 enc Tryz.prog Tryz.f3 Rows.topFoliosRow.domain false) (Rows.topFoliosSpec.post enc Tryz.prog Tryz.f3 false true false false) := by
 refine returnsInHanded_of_change_sized (C := Tryz.checked) Ue started (by kernel_rfl) Tryz.func3
   (ChangeSpec.witness6 (enc := enc) (C := Tryz.checked) false ⟨#[], #[.agg #[.slice none 0 0, .slice none 0 0, .int .i64 0, .int .i64 0], .agg #[.slice none 0 0, .slice none 0 0, .slice none 0 0, .slice none 0 0], .agg #[.slice none 0 0, .int .u8 0]], []⟩ 8 (by kernel_rfl) (by kernel_rfl) (by kernel_rfl) (by kernel_rfl)) ?_
 intro W base args ds gs before hval0 hW hcnd hsz _
 have hval : ∀ (j : Nat) t v, Tryz.f3.params[j]? = some t → args[j]? = some v → Value.okWide Tryz.prog W .any base t v := hval0
 have hW' := hW
 obtain ⟨p, q, hA0, hV, rfl, hfz, hnd⟩ := hW
 have hA : DataW.TrodAll enc Tryz.prog W 0 (fun _ => true) true Tryz.f3.params.toList args.toList ds p := hA0
 rw [Tryz.params3] at hA hval
 obtain ⟨v0, vs0, d0, ds0, p0, q0, hargs, rfl, rfl, h0, r0⟩ := trodAll_cons hA
 obtain ⟨v1, vs1, d1, ds1, p1, q1, rfl, rfl, rfl, h1, r1⟩ := trodAll_cons r0
 obtain ⟨v2, vs2, d2, ds2, p2, q2, rfl, rfl, rfl, h2, r2⟩ := trodAll_cons r1
 obtain ⟨rfl, rfl, rfl⟩ := trodAll_nil r2
 obtain rfl : args = #[v0, v1, v2] := by cases args; simp_all
 obtain ⟨rfl, rfl⟩ := trodVars_none hV
 have hsz' : (DataW.weightsEach Tryz.prog (Tryz.f3.params.toList ++ []) ([d0, d1, d2] ++ [])).all (· ≤ reachBytes) = true := hsz
 rw [Tryz.params3] at hsz'
 have k0 := h0
 have lt0 : ∀ x ∈ p0, x.block < W.heap.size := by obtain ⟨m, hm⟩ := k0; exact DataW.trod_lt m _ _ _ hm
 have k1 := h1
 have lt1 : ∀ x ∈ p1, x.block < W.heap.size := by obtain ⟨m, hm⟩ := k1; exact DataW.trod_lt m _ _ _ hm
 have k2 := h2
 have lt2 : ∀ x ∈ p2, x.block < W.heap.size := by obtain ⟨m, hm⟩ := k2; exact DataW.trod_lt m _ _ _ hm
 obtain ⟨vf, vp, p, rfl, hr⟩ := Tr (hval 0 25 v0 rfl rfl) h0 (Hi hsz' (j := 0) rfl rfl)
 obtain ⟨vb, vr, vs, vq, r, rfl, hq⟩ := VH (hval 1 31 v1 rfl rfl) h1 (Hi hsz' (j := 1) rfl rfl)
 obtain ⟨vx, ps, w, rfl, hx, hpa⟩ := P9 (hval 2 34 v2 rfl rfl) h2 (Hi hsz' (j := 2) rfl rfl)
 clear hA0 hval0
 refine (Ok.law (SV hr hq hx hpa)).mono fun e W' ⟨he, bel⟩ => ?_
 subst he
 exact ⟨_, rfl, _, _, _, [], _, [], hW', trodAll_mk1 (shut_bool Tryz.underlying4 _), (trodAll_cons_mk (Below.trod N2 (by kernel_rfl) (of_decide_eq_true (by kernel_rfl)) k0 bel lt0) (trodAll_cons_mk (Below.trod N2 (by kernel_rfl) (of_decide_eq_true (by kernel_rfl)) k1 bel lt1) (trodAll_cons_mk (Below.trod N2 (by kernel_rfl) (of_decide_eq_true (by kernel_rfl)) k2 bel lt2) trodAll_mk0))), rfl, bel.frame _, fun h => by cases h⟩
theorem topFolios : Rows.TopFoliosSaid :=
 OpenClaim.holds_of_wide 3 Tryz.f3 rfl rfl rfl rfl rfl rfl rfl ⟨rfl, rfl, rfl, rfl, rfl⟩ rfl rfl rfl rfl rfl (by kernel_rfl) Tryz.func3 (by kernel_rfl)
   (of_decide_eq_true (by kernel_rfl)) (by unfold Func.isWrapper; first | (rw [if_pos (by decide +kernel)]; kernel_rfl) | (rw [if_neg (by decide +kernel)]; exact ⟨rfl, rfl⟩))
   (fun os started H enc _ => Kg os started H enc)
#print axioms topFolios
end
end Go.Proofs.YtkjfmibiinfhfaaGreat
