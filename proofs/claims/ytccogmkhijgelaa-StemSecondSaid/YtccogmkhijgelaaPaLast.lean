/-
  StemSecond returns true of any stem, numbers and editions, and leaves what it is handed as it was. No conditions.
-/
import Derived.Test.YtccogmkhijgelaaPae
namespace Go.Proofs.Ytccogmkhijgelaa
open Go.RowKit
theorem ar_62 : ArrT Try.prog 62 2 5 1 := arrT_of (by kernel_rfl)
theorem bd_49 : Body Try.prog 49 := Br (by kernel_rfl)
theorem bd_50 : Body Try.prog 50 := Br (by kernel_rfl)
theorem own_differ {s : Stm} {l : List Int} {x k p : Nat} (hk : (upN l x).toNat = k) (hp : p ∈ ownL s l x) : s.r k p ≠ s.r x p := by
 unfold ownL apartL selN at hp
 rw [hk] at hp
 have h := (List.mem_filter.1 hp).2
 unfold differB at h
 simp only [Bool.and_eq_true, decide_eq_true_eq] at h
 exact h.2.2
set_option maxRecDepth 100000 in
set_option maxHeartbeats 1000000 in
theorem secondLaw_ok {F : Heap} {vp ve : Value} {ps : List (Value × Edn)} {s : Stm} (hr : StmR F vp ve ps s) {vx : Value} {xs : List Nat} (hxs : Sl F vx 1 u8E xs) (hxb : ∀ x ∈ xs, x < 256) {wa wb : Nat} (hwa : wa < 256) (hwb : wb < 256) : Ok Try.prog 15 [.agg #[vp, ve], vx, .agg #[.int .u8 (wa : Int), .int .u8 (wb : Int)]].toArray F fun u _ => u = .bool true := by
 have hle0 : F.le F := Heap.le_refl _
 refine Ok.intro Try.func15 rfl Try.ntmps15 rfl fun w0 => ?_
 have hL1 := hr.eds.plain.lt
 have hL2 := hr.places.plain.lt
 have hlen := hr.len
 by_cases h0 : (checkT s).2.2 = 0
 ·
  have hv := Ds h0
  have hne := hv.ne
  have hnp := hv.np
  refine Ag <| Ai fun ds => Bn rfl (B7 (Aj rfl) rfl fun b1 hb1 nb1 => ?_)
  refine Bn rfl (B7 (Ak rfl <| Aj rfl) rfl fun b2 hb2 nb2 => ?_)
  refine Aa rfl (Af Ad) ?_
  refine Ah <| Ac <| Ag <| Ag <| Ai fun ds => Aa rfl (Bc B5 (Ar rfl <| Ab) rfl rfl (Bb 1 rfl)) ?_
  refine B0 rfl (Bg bd_40 A1 (.cons (Ab) .nil) (valid_ok hr) (fun _ _ h => h)) ?_
  refine Aa rfl (Cp (Ab)) ?_
  refine Ah <| Ac <| Ap (Ab) (by simp [h0]) ?_
  refine Ay <| Ac <| Ag <| Ai fun ds => Aa rfl (Am Bq (Aw rfl <| Ak rfl <| Ab)) ?_
  refine Aa rfl (Ao By (Ab) (Cell.own 1 rfl rfl)) ?_
  refine Aa rfl (Bl B3 (Ab) hr.eds.plain) ?_
  refine Aa rfl (Ae (A8 rfl <| Ak rfl <| Aj rfl)) ?_
  refine Bn rfl (Cj bd_41 A1 (.cons (Ak rfl <| Ab) (.cons (Ab) .nil)) (tree_ok7 hxs hxb (many := ps.length) (by omega) (by omega)) fun v3 F4 hr5 hF6 => ?_)
  replace hr := hr.mono hF6
  replace hle0 := Heap.le_trans hle0 hF6
  obtain ⟨l, hl, hll0, ht⟩ := hr5
  have hll : l.length = s.editions.length := by omega
  have hok := tree_err0 h0 hll ht
  obtain ⟨hl_v, hlv⟩ : ∃ y, y = v3 := ⟨_, rfl⟩
  subst hlv
  refine Aa rfl (Af (Ab)) ?_
  refine Ah <| Ac <| Ag ?_
  have hxl : (wa % l.length) < l.length := Nat.mod_lt _ (by omega)
  have hyl : (wb % l.length) < l.length := Nat.mod_lt _ (by omega)
  have hib : inB 0 (s.editions.length - 1) (((wa % l.length) : Nat) : Int) = true := by simp [inB]; omega
  have htn := (show (((wa % l.length) : Nat) : Int).toNat = (wa % l.length) from Int.toNat_natCast _)
  by_cases hft : fitsT s l = true
  ·
   by_cases hu : upN l (wa % l.length) = -1
   ·
    refine Cn (.inl rfl) (fun _ _ h => h) (by kernel_rfl) (by kernel_rfl) fun ds => ?_
    refine A4 rfl (Bp (k := 0) ar_62 (A8 rfl <| Ar rfl <| Ab) Ad rfl (by decide)) ?_
    refine A4 rfl (Ao one_5 (Ab) (Cell.own 0 rfl rfl)) ?_
    refine A4 rfl (D2 ⟨_, Try.underlying5⟩ Try.underlying3 (Ab) (IntWalk.i64_in _ ⟨by omega, by omega⟩)) ?_
    refine A4 rfl (Ae (Ar rfl <| Ak rfl <| Ab)) ?_
    refine A4 rfl (Bl Bd (Ab) hl.plain) ?_
    refine A4 rfl (q_remN (Ar rfl <| Ab) (Ab) (by omega)) ?_
    refine A4 rfl (Bp (k := 1) ar_62 (A2 rfl <| Ab) Ad rfl (by decide)) ?_
    refine A4 rfl (Ao one_5 (Ab) (Cell.own 0 rfl rfl)) ?_
    refine A4 rfl (D2 ⟨_, Try.underlying5⟩ Try.underlying3 (Ab) (IntWalk.i64_in _ ⟨by omega, by omega⟩)) ?_
    refine A4 rfl (Ae (A8 rfl <| Ak rfl <| Ab)) ?_
    refine A4 rfl (Bl Bd (Ab) hl.plain) ?_
    refine A4 rfl (q_remN (Ar rfl <| Ab) (Ab) (by omega)) ?_
    refine A4 rfl (Af (Aw rfl <| Ar rfl <| Ab)) ?_
    refine A4 rfl (Af (Ak rfl <| Ab)) ?_
    refine C0 ?_
    refine Ac <| Ag <| Ai fun ds => Aa rfl (Bc B5 (A2 rfl <| A8 rfl <| Ak rfl <| Ab) rfl rfl (Bb 1 rfl)) ?_
    refine Aa rfl (Ae (A8 rfl <| Aw rfl <| Ar rfl <| Ak rfl <| Ab)) ?_
    refine Aa rfl (Ae (Ar rfl <| Ak rfl <| Ab)) ?_
    refine B0 rfl (Bg bd_37 A1 (.cons (Ar rfl <| Ab) (.cons (Ak rfl <| Ab) (.cons (Ab) .nil))) (Du hr hl _) (fun _ _ h => h.trans (secE_bad (secErr_4 hok hib hft (by rw [htn]; exact hu)) (by decide)))) ?_
    refine Aa rfl (Ae (Ab)) ?_
    refine Aa rfl (Az (Ab) rfl) ?_
    refine Aa rfl (Az (Ak rfl <| Ab) rfl) ?_
    refine Aa rfl (Az (Ar rfl <| Ab) rfl) ?_
    refine Aa rfl (Af (Ar rfl <| Ab)) ?_
    refine Aa rfl (Af (Ar rfl <| Ab)) ?_
    refine Aa rfl (Af (Ar rfl <| Ab)) ?_
    refine Ah <| Ac <| Ag <| Ai fun ds => Aa rfl (Bc B5 (Ba rfl <| Aw rfl <| Ab) rfl rfl (Bb 1 rfl)) ?_
    refine Aa rfl (Ae (A2 rfl <| A8 rfl <| Ar rfl <| Ab)) ?_
    refine Bn rfl (Cj bd_23 A1 (.cons (Ak rfl <| Ab) (.cons (Ab) .nil)) (Ej hr hl) fun v7 F8 hr9 hF10 => ?_)
    replace hl := hl.mono hF10
    have hys0 := hr9
    rw [yearsE_ok hok (by unfold fitsT at hft; exact hft)] at hys0
    obtain ⟨vy, rfl, hys⟩ := hys0
    refine Aa rfl (Ae (Ab)) ?_
    refine Aa rfl (Az (Ab) rfl) ?_
    refine Aa rfl (Az (Ak rfl <| Ab) rfl) ?_
    refine Aa rfl (Af (Ak rfl <| Ab)) ?_
    refine Aa rfl (Af (Ak rfl <| Ab)) ?_
    refine Ah <| Ac <| Ag <| Ag <| Ai fun ds => Aa rfl (Ae (Ab)) ?_
    refine Aa rfl (B1 (Ab) Ad) ?_
    refine Aa rfl (Ae (Ab)) ?_
    refine Aq rfl rfl (Ab) (decide_eq_false (fun h => h rfl)) ?_
    refine Aa rfl (Ae (Ba rfl <| Aw rfl <| Ab)) ?_
    refine Aq rfl rfl (Ak rfl <| Ab) (decide_eq_false (fun h => h rfl)) ?_
    refine Aa rfl (Ae (A2 rfl <| A8 rfl <| Ab)) ?_
    refine Aq rfl rfl (Ar rfl <| Ab) (decide_eq_false (fun h => h rfl)) ?_
    refine Aa rfl (A6 (k := (wa % l.length)) Bd (Ak rfl <| Ab) hl.plain (Ab) rfl hxl) ?_
    refine Aq rfl rfl (Ar rfl <| Ak rfl <| Ab) (decide_eq_false (fun h => h rfl)) ?_
    refine Aa rfl (Ao Bj (Ab) (hl.cell1 hxl rfl)) ?_
    refine Aq rfl rfl (Aw rfl <| Ab) (decide_eq_false (fun h => h rfl)) ?_
    refine Aa rfl (Bz (Ab) Ad) ?_
    refine Aa rfl (A9 (Aw rfl <| Ak rfl <| Ab) (decide_eq_false (fun h => h rfl)) (Ab)) ?_
    refine Ah <| Ac <| As (Ab) (by rw [De hxl]; exact decide_eq_true hu) ?_
    refine Ag <| Ai fun ds => Aa rfl (Ae (A2 rfl <| Ak rfl <| Ab)) ?_
    refine Aa rfl (B1 (Ab) Ad) ?_
    refine Aa rfl (Ae (Ab)) ?_
    refine Aq rfl rfl (Ab) (by decide) ?_
    refine Aa rfl (Ae (A8 rfl <| Aw rfl <| Ab)) ?_
    refine Aq rfl rfl (Ak rfl <| Ab) (by decide) ?_
    refine Aa rfl (Bz (Ab) Ad) ?_
    refine Aq rfl rfl (Ar rfl <| Ab) (by decide) ?_
    refine Aa rfl (Ae (Ab)) ?_
    refine Aq rfl rfl (Ab) (decide_eq_true rfl) ?_
    refine Aa rfl (Ae (A2 rfl <| Aw rfl <| Ar rfl <| Ak rfl <| Ab)) ?_
    refine Aq rfl rfl (Ak rfl <| Ab) (decide_eq_true rfl) ?_
    refine Aa rfl (Bz (Ab) Ad) ?_
    refine Aq rfl rfl (Aw rfl <| Ak rfl <| Ab) (by decide) ?_
    refine Aa rfl (A5 (Ar rfl <| Ab) (decide_eq_true rfl) (Ab)) ?_
    refine Aq rfl rfl (Aw rfl <| Ar rfl <| Ab) (by decide) ?_
    refine Aa rfl (Ae (Ab)) ?_
    refine Au rfl rfl (Ab) (.inl (congrArg Value.bool (by first | decide | rfl))) rfl ?_
    refine Au rfl rfl (Ak rfl <| Ab) (.inl (congrArg Value.bool (by first | decide | rfl))) rfl ?_
    refine Au rfl rfl (Ar rfl <| Ab) (.inl (congrArg Value.bool (by first | decide | rfl))) rfl ?_
    refine Aq rfl rfl (A8 rfl <| Ar rfl <| Ab) (by decide) ?_
    refine Aa rfl (A5 (Ar rfl <| Ak rfl <| Ab) (by first | decide | rfl) Ad) ?_
    refine Aa rfl (A5 (A8 rfl <| Ar rfl <| Ak rfl <| Ab) (by decide) (Ab)) ?_
    refine Aa rfl (Ae (Ab)) ?_
    refine Aq rfl rfl (Ab) (by first | decide | rfl) ?_
    refine B0 rfl (Bg bd_26 A1 .nil awake_ok (fun _ _ h => h)) ?_
    refine Aa rfl (A5 (Ak rfl <| Ab) (by first | decide | rfl) (Ab)) ?_
    refine Aa rfl (Af (Ab)) ?_
    refine Ah <| Ac <| A7 <| Be ?_
    refine Ax rfl (.tmp (Ab) .nil) ?_
    rfl
   ·
    obtain ⟨k, hk, hkl⟩ := ht.in_.nat hxl hu
    have hlk : l[(wa % l.length)] = (k : Int) := by rw [De hxl, hk]
    have hku : (upN l (wa % l.length)).toNat = k := by omega
    have hse := secErr_0 (z := (((wa % l.length) : Nat) : Int)) hok hib hft (by rw [htn]; exact hu)
    have hz1 := eds_zero (a := k) (b := (wa % l.length)) h0 (by omega) (by omega)
    have hol0 : (ownL s l (wa % l.length)).length ≤ s.places.length := Df
    by_cases hz0 : (secTo s l (wa % l.length) s.editions.length).2 = 0
    ·
     refine Cn (.inl rfl) (fun _ _ h => h) (by kernel_rfl) (by kernel_rfl) fun ds => ?_
     refine A4 rfl (Bp (k := 0) ar_62 (A8 rfl <| Ar rfl <| Ab) Ad rfl (by decide)) ?_
     refine A4 rfl (Ao one_5 (Ab) (Cell.own 0 rfl rfl)) ?_
     refine A4 rfl (D2 ⟨_, Try.underlying5⟩ Try.underlying3 (Ab) (IntWalk.i64_in _ ⟨by omega, by omega⟩)) ?_
     refine A4 rfl (Ae (Ar rfl <| Ak rfl <| Ab)) ?_
     refine A4 rfl (Bl Bd (Ab) hl.plain) ?_
     refine A4 rfl (q_remN (Ar rfl <| Ab) (Ab) (by omega)) ?_
     refine A4 rfl (Bp (k := 1) ar_62 (A2 rfl <| Ab) Ad rfl (by decide)) ?_
     refine A4 rfl (Ao one_5 (Ab) (Cell.own 0 rfl rfl)) ?_
     refine A4 rfl (D2 ⟨_, Try.underlying5⟩ Try.underlying3 (Ab) (IntWalk.i64_in _ ⟨by omega, by omega⟩)) ?_
     refine A4 rfl (Ae (A8 rfl <| Ak rfl <| Ab)) ?_
     refine A4 rfl (Bl Bd (Ab) hl.plain) ?_
     refine A4 rfl (q_remN (Ar rfl <| Ab) (Ab) (by omega)) ?_
     refine A4 rfl (Af (Aw rfl <| Ar rfl <| Ab)) ?_
     refine A4 rfl (Af (Ak rfl <| Ab)) ?_
     refine C0 ?_
     refine Ac <| Ag <| Ai fun ds => Aa rfl (Bc B5 (A2 rfl <| A8 rfl <| Ak rfl <| Ab) rfl rfl (Bb 1 rfl)) ?_
     refine Aa rfl (Ae (A8 rfl <| Aw rfl <| Ar rfl <| Ak rfl <| Ab)) ?_
     refine Aa rfl (Ae (Ar rfl <| Ak rfl <| Ab)) ?_
     refine B0 rfl (Bg bd_37 A1 (.cons (Ar rfl <| Ab) (.cons (Ak rfl <| Ab) (.cons (Ab) .nil))) (Du hr hl _) (fun _ _ h => h.trans (secE_zero hse (by rw [htn]; exact hz0)))) ?_
     refine Aa rfl (Ae (Ab)) ?_
     refine Aa rfl (Az (Ab) rfl) ?_
     refine Aa rfl (Az (Ak rfl <| Ab) rfl) ?_
     refine Aa rfl (Az (Ar rfl <| Ab) rfl) ?_
     refine Aa rfl (Af (Ar rfl <| Ab)) ?_
     refine Aa rfl (Af (Ar rfl <| Ab)) ?_
     refine Aa rfl (Af (Ar rfl <| Ab)) ?_
     refine Ah <| Ac <| Ag <| Ai fun ds => Aa rfl (Bc B5 (Ba rfl <| Aw rfl <| Ab) rfl rfl (Bb 1 rfl)) ?_
     refine Aa rfl (Ae (A2 rfl <| A8 rfl <| Ar rfl <| Ab)) ?_
     refine Bn rfl (Cj bd_23 A1 (.cons (Ak rfl <| Ab) (.cons (Ab) .nil)) (Ej hr hl) fun v11 F12 hr13 hF14 => ?_)
     replace hr := hr.mono hF14
     replace hle0 := Heap.le_trans hle0 hF14
     replace hl := hl.mono hF14
     have hys0 := hr13
     rw [yearsE_ok hok (by unfold fitsT at hft; exact hft)] at hys0
     obtain ⟨vy, rfl, hys⟩ := hys0
     refine Aa rfl (Ae (Ab)) ?_
     refine Aa rfl (Az (Ab) rfl) ?_
     refine Aa rfl (Az (Ak rfl <| Ab) rfl) ?_
     refine Aa rfl (Af (Ak rfl <| Ab)) ?_
     refine Aa rfl (Af (Ak rfl <| Ab)) ?_
     refine Ah <| Ac <| Ag <| Ag <| Ai fun ds => Aa rfl (Ae (Ab)) ?_
     refine Aa rfl (B1 (Ab) Ad) ?_
     refine Aa rfl (Ae (Ab)) ?_
     refine Aq rfl rfl (Ab) (decide_eq_false (fun h => h rfl)) ?_
     refine Aa rfl (Ae (Ba rfl <| Aw rfl <| Ab)) ?_
     refine Aq rfl rfl (Ak rfl <| Ab) (decide_eq_false (fun h => h rfl)) ?_
     refine Aa rfl (Ae (A2 rfl <| A8 rfl <| Ab)) ?_
     refine Aq rfl rfl (Ar rfl <| Ab) (decide_eq_false (fun h => h rfl)) ?_
     refine Aa rfl (A6 (k := (wa % l.length)) Bd (Ak rfl <| Ab) hl.plain (Ab) rfl hxl) ?_
     refine Aq rfl rfl (Ar rfl <| Ak rfl <| Ab) (decide_eq_false (fun h => h rfl)) ?_
     refine Aa rfl (Ao Bj (Ab) (hl.cell1 hxl rfl)) ?_
     refine Aq rfl rfl (Aw rfl <| Ab) (decide_eq_false (fun h => h rfl)) ?_
     refine Aa rfl (Bz (Ab) Ad) ?_
     refine Aa rfl (A9 (Aw rfl <| Ak rfl <| Ab) (decide_eq_false (fun h => h rfl)) (Ab)) ?_
     refine Ah <| Ac <| Ap (Ab) (by rw [De hxl]; exact decide_eq_false hu) ?_
     refine Ay <| Ac <| Ag ?_
     have hleS := hle0
     refine Cr (.inl rfl) (fun _ _ h => h) (.cons_cons _ <| .cons_cons _ <| .refl _) [] (by kernel_rfl) fun ds => ?_
     refine A3 0 rfl (by kernel_rfl) (by kernel_rfl) (by kernel_rfl) (by kernel_rfl) rfl rfl (fun _ h => h.drop (.cons_cons _ <| .cons_cons _ <| .refl _)) (fun _ _ _ h => h) (Bc B5 (Ba rfl <| A2 rfl <| Aw rfl <| Ak rfl <| Ab) rfl rfl (Bb 1 rfl)) ?_
     refine A3 1 rfl (by kernel_rfl) (by kernel_rfl) (by kernel_rfl) (by kernel_rfl) rfl rfl (fun _ h => h.drop (.cons_cons _ <| .cons_cons _ <| .refl _)) (fun _ _ _ h => h) (Ae (Ba rfl <| A8 rfl <| Ar rfl <| Ak rfl <| Ab)) ?_
     refine A3 2 rfl (by kernel_rfl) (by kernel_rfl) (by kernel_rfl) (by kernel_rfl) rfl rfl (fun _ h => h.drop (.cons_cons _ <| .cons_cons _ <| .refl _)) (fun _ _ _ h => h) (Ae (A2 rfl <| A8 rfl <| Aw rfl <| Ar rfl <| Ak rfl <| Ab)) ?_
     refine A3 3 rfl (by kernel_rfl) (by kernel_rfl) (by kernel_rfl) (by kernel_rfl) rfl rfl (fun _ h => h.drop (.cons_cons _ <| .cons_cons _ <| .refl _)) (fun _ _ _ h => h) (A6 (k := (wa % l.length)) Bd (Ak rfl <| Ab) hl.plain (Ab) rfl hxl) ?_
     refine A3 4 rfl (by kernel_rfl) (by kernel_rfl) (by kernel_rfl) (by kernel_rfl) rfl rfl (fun _ h => h.drop (.cons_cons _ <| .cons_cons _ <| .refl _)) (fun _ _ _ h => h) (Ao Bj (Ab) (show Cell _ (addc (base hl_v) ((wa % l.length) * 1)) (.int .i64 (k : Int)) by rw [← hlk]; exact hl.int hxl)) ?_
     refine A3 5 rfl (by kernel_rfl) (by kernel_rfl) (by kernel_rfl) (by kernel_rfl) rfl rfl (fun _ h => h.drop (.cons_cons _ <| .cons_cons _ <| .refl _)) (fun _ _ _ h => h) (Ae (Ba rfl <| Ar rfl <| Ab)) ?_
     refine WX_x 6 rfl (by kernel_rfl) rfl (Cj bd_18 A1 (.cons (Aw rfl <| Ak rfl <| Ab) (.cons (Ak rfl <| Ab) (.cons (Ab) .nil))) (Es hr (k : Int) (((wa % l.length) : Nat) : Int)) fun v15 F16 hr17 hF18 => ⟨fun _ _ _ h => (h.drop (.cons_cons _ <| .cons_cons _ <| .refl _)).weak hF18 hleS, ?_⟩)
     replace hr := hr.mono hF18
     replace hl := hl.mono hF18
     have hap0 := hr17
     rw [apartE_ok hz1] at hap0
     obtain ⟨hq1_, rfl, hq1⟩ := hap0
     replace hq1 : Nats _ hq1_ (apartL s k (wa % l.length)) := hq1
     rw [← hku] at hq1
     change Nats _ _ (ownL s l (wa % l.length)) at hq1
     refine A3 7 rfl (by kernel_rfl) (by kernel_rfl) (by kernel_rfl) (by kernel_rfl) rfl rfl (fun _ h => (h.drop (.cons_cons _ <| .cons_cons _ <| .refl _)).weak hF18 hleS) (fun _ _ _ h => h) (Ae (Ab)) ?_
     refine A3 8 rfl (by kernel_rfl) (by kernel_rfl) (by kernel_rfl) (by kernel_rfl) rfl rfl (fun _ h => (h.drop (.cons_cons _ <| .cons_cons _ <| .refl _)).weak hF18 hleS) (fun _ _ _ h => h) (Az (Ab) rfl) ?_
     refine A3 9 rfl (by kernel_rfl) (by kernel_rfl) (by kernel_rfl) (by kernel_rfl) rfl rfl (fun _ h => (h.drop (.cons_cons _ <| .cons_cons _ <| .refl _)).weak hF18 hleS) (fun _ _ _ h => h) (Az (Ak rfl <| Ab) rfl) ?_
     refine A3 10 rfl (by kernel_rfl) (by kernel_rfl) (by kernel_rfl) (by kernel_rfl) rfl rfl (fun _ h => (h.drop (.cons_cons _ <| .cons_cons _ <| .refl _)).weak hF18 hleS) (fun _ _ _ h => h) (Af (Ak rfl <| Ab)) ?_
     refine A3 11 rfl (by kernel_rfl) (by kernel_rfl) (by kernel_rfl) (by kernel_rfl) rfl rfl (fun _ h => (h.drop (.cons_cons _ <| .cons_cons _ <| .refl _)).weak hF18 hleS) (fun _ _ _ h => h) (Af (Ak rfl <| Ab)) ?_
     refine Cz (by kernel_rfl) ?_ _
     refine Ac <| Ag <| Ag <| Ai fun ds => Aa rfl (Ae (Ab)) ?_
     refine Aa rfl (B1 (Ab) Ad) ?_
     refine Aa rfl (Ae (Ab)) ?_
     refine Aq rfl rfl (Ab) (decide_eq_false (fun h => h rfl)) ?_
     refine Aa rfl (Ae (Ba rfl <| Ab)) ?_
     refine Aq rfl rfl (Ak rfl <| Ab) (decide_eq_false (fun h => h rfl)) ?_
     refine Aa rfl (B1 (Ab) Ad) ?_
     refine Aq rfl rfl (Ar rfl <| Ab) (decide_eq_false (fun h => h rfl)) ?_
     refine Aa rfl (Ae (Ab)) ?_
     refine Aq rfl rfl (Ab) (by decide) ?_
     refine Aa rfl (Ae (Ba rfl <| Ar rfl <| Ak rfl <| Ab)) ?_
     refine Aq rfl rfl (Ak rfl <| Ab) (by decide) ?_
     refine Aa rfl (B1 (Ab) Ad) ?_
     refine Aq rfl rfl (Aw rfl <| Ak rfl <| Ab) (decide_eq_false (fun h => h rfl)) ?_
     refine Aa rfl (A5 (Ar rfl <| Ab) (by decide) (Ab)) ?_
     refine Aa rfl (A9 (Aw rfl <| Ar rfl <| Ab) (decide_eq_false (fun h => h rfl)) (Ab)) ?_
     refine Ah <| Ac <| Ap (Ab) (by decide) ?_
     by_cases hcy : canT s l (wa % l.length) (wb % l.length) = true
     ·
      have hmx := secTo_max (s := s) (l := l) (x := (wa % l.length)) (n := s.editions.length) (y := (wb % l.length)) (by omega) hcy
      refine Ay <| Ac <| Ag <| Ag <| Ai fun ds => Aa rfl (Bc B5 (Ba rfl <| Ba rfl <| A8 rfl <| Ar rfl <| Ak rfl <| Ab) rfl rfl (Bb 1 rfl)) ?_
      refine Aa rfl (Ae (Ba rfl <| Ba rfl <| Ak rfl <| Ab)) ?_
      refine Aa rfl (Ae (Ba rfl <| A2 rfl <| Aw rfl <| Ak rfl <| Ab)) ?_
      refine Aa rfl (Ae (Ba rfl <| A2 rfl <| Aw rfl <| Ak rfl <| Ab)) ?_
      refine B0 rfl (Bg bd_49 A1 (.cons (Ar rfl <| Ak rfl <| Ab) (.cons (Ar rfl <| Ab) (.cons (Ak rfl <| Ab) (.cons (Ab) .nil)))) (refCan_ok hr hv hl hll ht hxl hyl) (fun _ _ h => h)) ?_
      refine Aa rfl (Ae (Ab)) ?_
      refine Aq rfl rfl (Ab) hcy ?_
      refine Aa rfl (Bc B5 (Ba rfl <| Ba rfl <| A2 rfl <| Ak rfl <| Ab) rfl rfl (Bb 1 rfl)) ?_
      refine Aq rfl rfl (Ak rfl <| Ab) hcy ?_
      refine Aa rfl (Ae (Ba rfl <| Ba rfl <| Aw rfl <| Ar rfl <| Ak rfl <| Ab)) ?_
      refine Aq rfl rfl (Ar rfl <| Ab) hcy ?_
      refine Aa rfl (Ae (Ba rfl <| A2 rfl <| A8 rfl <| Ar rfl <| Ak rfl <| Ab)) ?_
      refine Aq rfl rfl (Ar rfl <| Ak rfl <| Ab) hcy ?_
      refine Aa rfl (Ae (Ba rfl <| A2 rfl <| A8 rfl <| Ar rfl <| Ak rfl <| Ab)) ?_
      refine Aq rfl rfl (Aw rfl <| Ab) hcy ?_
      refine B0 rfl (Bg bd_50 A1 (.cons (Ar rfl <| Ak rfl <| Ab) (.cons (Ar rfl <| Ab) (.cons (Ak rfl <| Ab) (.cons (Ab) .nil)))) (refSaves_ok hr hv hl hll ht hxl hyl hu) (fun _ _ h => h)) ?_
      refine Aq rfl rfl (Aw rfl <| Ak rfl <| Ab) hcy ?_
      refine Aa rfl (Ae (Ba rfl <| A2 rfl <| Ar rfl <| Ak rfl <| Ab)) ?_
      refine Aq rfl rfl (Aw rfl <| Ar rfl <| Ab) hcy ?_
      refine Aa rfl (C2 (Ak rfl <| Ab) (Ab)) ?_
      refine Aa rfl (A5 (Aw rfl <| Ar rfl <| Ak rfl <| Ab) hcy (Ab)) ?_
      refine Ah <| Ac <| Ap (Ab) (decide_eq_false (by have := hmx; omega)) ?_
      refine Ay <| Ac <| Ag <| Ag <| Ai fun ds => Aa rfl (Ae (Ba rfl <| A2 rfl <| Aw rfl <| Ak rfl <| Ab)) ?_
      refine Aa rfl (B1 (Ab) Ad) ?_
      refine Ah <| Ac <| As (Ab) (by decide) ?_
      refine Ag <| Ai fun ds => Aa rfl (Ae (Ba rfl <| A2 rfl <| A8 rfl <| Ak rfl <| Ab)) ?_
      refine Aa rfl (Bz (Ab) Ad) ?_
      refine Aa rfl (Ae (Ab)) ?_
      refine Aq rfl rfl (Ab) (by decide) ?_
      refine Aa rfl (Ae (Ba rfl <| A2 rfl <| A8 rfl <| Ar rfl <| Ak rfl <| Ab)) ?_
      refine Aq rfl rfl (Ak rfl <| Ab) (by decide) ?_
      refine Aa rfl (Bz (Ab) Ad) ?_
      refine Aa rfl (A5 (Ar rfl <| Ab) (by decide) (Ab)) ?_
      refine Aa rfl (Ae (Ab)) ?_
      refine Aq rfl rfl (Ab) (by decide) ?_
      refine B0 rfl (Bg bd_26 A1 .nil awake_ok (fun _ _ h => h)) ?_
      refine Aa rfl (A5 (Ak rfl <| Ab) (by decide) (Ab)) ?_
      refine Aa rfl (Af (Ab)) ?_
      refine Ah <| Ac <| A7 <| Be ?_
      refine Ax rfl (.tmp (Ab) .nil) ?_
      rfl
     ·
      replace hcy : canT s l (wa % l.length) (wb % l.length) = false := by simpa using hcy
      refine Ay <| Ac <| Ag <| Ag <| Ai fun ds => Aa rfl (Bc B5 (Ba rfl <| Ba rfl <| A8 rfl <| Ar rfl <| Ak rfl <| Ab) rfl rfl (Bb 1 rfl)) ?_
      refine Aa rfl (Ae (Ba rfl <| Ba rfl <| Ak rfl <| Ab)) ?_
      refine Aa rfl (Ae (Ba rfl <| A2 rfl <| Aw rfl <| Ak rfl <| Ab)) ?_
      refine Aa rfl (Ae (Ba rfl <| A2 rfl <| Aw rfl <| Ak rfl <| Ab)) ?_
      refine B0 rfl (Bg bd_49 A1 (.cons (Ar rfl <| Ak rfl <| Ab) (.cons (Ar rfl <| Ab) (.cons (Ak rfl <| Ab) (.cons (Ab) .nil)))) (refCan_ok hr hv hl hll ht hxl hyl) (fun _ _ h => h)) ?_
      refine Aa rfl (Ae (Ab)) ?_
      refine Au rfl rfl (Ab) (.inl (congrArg Value.bool hcy)) rfl ?_
      refine Au rfl rfl (Ak rfl <| Ab) (.inl (congrArg Value.bool hcy)) rfl ?_
      refine Au rfl rfl (Ar rfl <| Ab) (.inl (congrArg Value.bool hcy)) rfl ?_
      refine Au rfl rfl (Ar rfl <| Ak rfl <| Ab) (.inl (congrArg Value.bool hcy)) rfl ?_
      refine Au rfl rfl (Aw rfl <| Ab) (.inl (congrArg Value.bool hcy)) rfl ?_
      refine Au rfl rfl (Aw rfl <| Ak rfl <| Ab) (.inl (congrArg Value.bool hcy)) rfl ?_
      refine Au rfl rfl (Aw rfl <| Ar rfl <| Ab) (.inl (congrArg Value.bool hcy)) rfl ?_
      refine Aa rfl (A9 (Aw rfl <| Ar rfl <| Ak rfl <| Ab) hcy Ad) ?_
      refine Ah <| Ac <| Ap (Ab) rfl ?_
      refine Ay <| Ac <| Ag <| Ag <| Ai fun ds => Aa rfl (Ae (Ba rfl <| A2 rfl <| Aw rfl <| Ak rfl <| Ab)) ?_
      refine Aa rfl (B1 (Ab) Ad) ?_
      refine Ah <| Ac <| As (Ab) (by decide) ?_
      refine Ag <| Ai fun ds => Aa rfl (Ae (Ba rfl <| A2 rfl <| A8 rfl <| Ak rfl <| Ab)) ?_
      refine Aa rfl (Bz (Ab) Ad) ?_
      refine Aa rfl (Ae (Ab)) ?_
      refine Aq rfl rfl (Ab) (by decide) ?_
      refine Aa rfl (Ae (Ba rfl <| A2 rfl <| A8 rfl <| Ar rfl <| Ak rfl <| Ab)) ?_
      refine Aq rfl rfl (Ak rfl <| Ab) (by decide) ?_
      refine Aa rfl (Bz (Ab) Ad) ?_
      refine Aa rfl (A5 (Ar rfl <| Ab) (by decide) (Ab)) ?_
      refine Aa rfl (Ae (Ab)) ?_
      refine Aq rfl rfl (Ab) (by decide) ?_
      refine B0 rfl (Bg bd_26 A1 .nil awake_ok (fun _ _ h => h)) ?_
      refine Aa rfl (A5 (Ak rfl <| Ab) (by decide) (Ab)) ?_
      refine Aa rfl (Af (Ab)) ?_
      refine Ah <| Ac <| A7 <| Be ?_
      refine Ax rfl (.tmp (Ab) .nil) ?_
      rfl
    ·
     obtain ⟨o, hoN, ho1, ho2, ho3⟩ := secTo_some hz0
     obtain ⟨hc1, hc2, hc3⟩ := canT_iff.1 ho2
     have hol : o < l.length := by omega
     have hsv := savesN_bound (s := s) (l := l) (x := (wa % l.length)) (o := o)
     have hsl2 : savesN s l (wa % l.length) o ≤ (ownL s l (wa % l.length)).length := by rw [← C6]; exact Dv.2
     have hop : o < ps.length := by omega
     have hro := hr.rd hop
     have hrx := hr.rd (i := (wa % l.length)) (by omega)
     have hrk := hr.rd (i := k) (by omega)
     refine Cn (.inl rfl) (fun _ _ h => h) (by kernel_rfl) (by kernel_rfl) fun ds => ?_
     refine A4 rfl (Bp (k := 0) ar_62 (A8 rfl <| Ar rfl <| Ab) Ad rfl (by decide)) ?_
     refine A4 rfl (Ao one_5 (Ab) (Cell.own 0 rfl rfl)) ?_
     refine A4 rfl (D2 ⟨_, Try.underlying5⟩ Try.underlying3 (Ab) (IntWalk.i64_in _ ⟨by omega, by omega⟩)) ?_
     refine A4 rfl (Ae (Ar rfl <| Ak rfl <| Ab)) ?_
     refine A4 rfl (Bl Bd (Ab) hl.plain) ?_
     refine A4 rfl (q_remN (Ar rfl <| Ab) (Ab) (by omega)) ?_
     refine A4 rfl (Bp (k := 1) ar_62 (A2 rfl <| Ab) Ad rfl (by decide)) ?_
     refine A4 rfl (Ao one_5 (Ab) (Cell.own 0 rfl rfl)) ?_
     refine A4 rfl (D2 ⟨_, Try.underlying5⟩ Try.underlying3 (Ab) (IntWalk.i64_in _ ⟨by omega, by omega⟩)) ?_
     refine A4 rfl (Ae (A8 rfl <| Ak rfl <| Ab)) ?_
     refine A4 rfl (Bl Bd (Ab) hl.plain) ?_
     refine A4 rfl (q_remN (Ar rfl <| Ab) (Ab) (by omega)) ?_
     refine A4 rfl (Af (Aw rfl <| Ar rfl <| Ab)) ?_
     refine A4 rfl (Af (Ak rfl <| Ab)) ?_
     refine C0 ?_
     refine Ac <| Ag <| Ai fun ds => Aa rfl (Bc B5 (A2 rfl <| A8 rfl <| Ak rfl <| Ab) rfl rfl (Bb 1 rfl)) ?_
     refine Aa rfl (Ae (A8 rfl <| Aw rfl <| Ar rfl <| Ak rfl <| Ab)) ?_
     refine Aa rfl (Ae (Ar rfl <| Ak rfl <| Ab)) ?_
     refine B0 rfl (Bg bd_37 A1 (.cons (Ar rfl <| Ab) (.cons (Ak rfl <| Ab) (.cons (Ab) .nil))) (Du hr hl _) (fun _ _ h => h.trans ((show secV s l (((wa % l.length) : Nat) : Int) = Value.tuple #[.int .i64 (o : Int), .int .i64 (secTo s l (wa % l.length) s.editions.length).2, .int .i64 0] by rw [secE_ok hse (by rw [htn]; exact hz0), htn, ho1])))) ?_
     refine Aa rfl (Ae (Ab)) ?_
     refine Aa rfl (Az (Ab) rfl) ?_
     refine Aa rfl (Az (Ak rfl <| Ab) rfl) ?_
     refine Aa rfl (Az (Ar rfl <| Ab) rfl) ?_
     refine Aa rfl (Af (Ar rfl <| Ab)) ?_
     refine Aa rfl (Af (Ar rfl <| Ab)) ?_
     refine Aa rfl (Af (Ar rfl <| Ab)) ?_
     refine Ah <| Ac <| Ag <| Ai fun ds => Aa rfl (Bc B5 (Ba rfl <| Aw rfl <| Ab) rfl rfl (Bb 1 rfl)) ?_
     refine Aa rfl (Ae (A2 rfl <| A8 rfl <| Ar rfl <| Ab)) ?_
     refine Bn rfl (Cj bd_23 A1 (.cons (Ak rfl <| Ab) (.cons (Ab) .nil)) (Ej hr hl) fun v19 F20 hr21 hF22 => ?_)
     replace hr := hr.mono hF22
     replace hle0 := Heap.le_trans hle0 hF22
     replace hl := hl.mono hF22
     replace hro := hro.mono hF22
     replace hrx := hrx.mono hF22
     replace hrk := hrk.mono hF22
     have hys0 := hr21
     rw [yearsE_ok hok (by unfold fitsT at hft; exact hft)] at hys0
     obtain ⟨vy, rfl, hys⟩ := hys0
     refine Aa rfl (Ae (Ab)) ?_
     refine Aa rfl (Az (Ab) rfl) ?_
     refine Aa rfl (Az (Ak rfl <| Ab) rfl) ?_
     refine Aa rfl (Af (Ak rfl <| Ab)) ?_
     refine Aa rfl (Af (Ak rfl <| Ab)) ?_
     refine Ah <| Ac <| Ag <| Ag <| Ai fun ds => Aa rfl (Ae (Ab)) ?_
     refine Aa rfl (B1 (Ab) Ad) ?_
     refine Aa rfl (Ae (Ab)) ?_
     refine Aq rfl rfl (Ab) (decide_eq_false (fun h => h rfl)) ?_
     refine Aa rfl (Ae (Ba rfl <| Aw rfl <| Ab)) ?_
     refine Aq rfl rfl (Ak rfl <| Ab) (decide_eq_false (fun h => h rfl)) ?_
     refine Aa rfl (Ae (A2 rfl <| A8 rfl <| Ab)) ?_
     refine Aq rfl rfl (Ar rfl <| Ab) (decide_eq_false (fun h => h rfl)) ?_
     refine Aa rfl (A6 (k := (wa % l.length)) Bd (Ak rfl <| Ab) hl.plain (Ab) rfl hxl) ?_
     refine Aq rfl rfl (Ar rfl <| Ak rfl <| Ab) (decide_eq_false (fun h => h rfl)) ?_
     refine Aa rfl (Ao Bj (Ab) (hl.cell1 hxl rfl)) ?_
     refine Aq rfl rfl (Aw rfl <| Ab) (decide_eq_false (fun h => h rfl)) ?_
     refine Aa rfl (Bz (Ab) Ad) ?_
     refine Aa rfl (A9 (Aw rfl <| Ak rfl <| Ab) (decide_eq_false (fun h => h rfl)) (Ab)) ?_
     refine Ah <| Ac <| Ap (Ab) (by rw [De hxl]; exact decide_eq_false hu) ?_
     refine Ay <| Ac <| Ag ?_
     have hleS := hle0
     refine Cr (.inl rfl) (fun _ _ h => h) (.cons_cons _ <| .cons_cons _ <| .refl _) [] (by kernel_rfl) fun ds => ?_
     refine A3 0 rfl (by kernel_rfl) (by kernel_rfl) (by kernel_rfl) (by kernel_rfl) rfl rfl (fun _ h => h.drop (.cons_cons _ <| .cons_cons _ <| .refl _)) (fun _ _ _ h => h) (Bc B5 (Ba rfl <| A2 rfl <| Aw rfl <| Ak rfl <| Ab) rfl rfl (Bb 1 rfl)) ?_
     refine A3 1 rfl (by kernel_rfl) (by kernel_rfl) (by kernel_rfl) (by kernel_rfl) rfl rfl (fun _ h => h.drop (.cons_cons _ <| .cons_cons _ <| .refl _)) (fun _ _ _ h => h) (Ae (Ba rfl <| A8 rfl <| Ar rfl <| Ak rfl <| Ab)) ?_
     refine A3 2 rfl (by kernel_rfl) (by kernel_rfl) (by kernel_rfl) (by kernel_rfl) rfl rfl (fun _ h => h.drop (.cons_cons _ <| .cons_cons _ <| .refl _)) (fun _ _ _ h => h) (Ae (A2 rfl <| A8 rfl <| Aw rfl <| Ar rfl <| Ak rfl <| Ab)) ?_
     refine A3 3 rfl (by kernel_rfl) (by kernel_rfl) (by kernel_rfl) (by kernel_rfl) rfl rfl (fun _ h => h.drop (.cons_cons _ <| .cons_cons _ <| .refl _)) (fun _ _ _ h => h) (A6 (k := (wa % l.length)) Bd (Ak rfl <| Ab) hl.plain (Ab) rfl hxl) ?_
     refine A3 4 rfl (by kernel_rfl) (by kernel_rfl) (by kernel_rfl) (by kernel_rfl) rfl rfl (fun _ h => h.drop (.cons_cons _ <| .cons_cons _ <| .refl _)) (fun _ _ _ h => h) (Ao Bj (Ab) (show Cell _ (addc (base hl_v) ((wa % l.length) * 1)) (.int .i64 (k : Int)) by rw [← hlk]; exact hl.int hxl)) ?_
     refine A3 5 rfl (by kernel_rfl) (by kernel_rfl) (by kernel_rfl) (by kernel_rfl) rfl rfl (fun _ h => h.drop (.cons_cons _ <| .cons_cons _ <| .refl _)) (fun _ _ _ h => h) (Ae (Ba rfl <| Ar rfl <| Ab)) ?_
     refine WX_x 6 rfl (by kernel_rfl) rfl (Cj bd_18 A1 (.cons (Aw rfl <| Ak rfl <| Ab) (.cons (Ak rfl <| Ab) (.cons (Ab) .nil))) (Es hr (k : Int) (((wa % l.length) : Nat) : Int)) fun v23 F24 hr25 hF26 => ⟨fun _ _ _ h => (h.drop (.cons_cons _ <| .cons_cons _ <| .refl _)).weak hF26 hleS, ?_⟩)
     replace hr := hr.mono hF26
     replace hl := hl.mono hF26
     replace hro := hro.mono hF26
     replace hrx := hrx.mono hF26
     replace hrk := hrk.mono hF26
     have hap0 := hr25
     rw [apartE_ok hz1] at hap0
     obtain ⟨hq1_, rfl, hq1⟩ := hap0
     replace hq1 : Nats _ hq1_ (apartL s k (wa % l.length)) := hq1
     rw [← hku] at hq1
     change Nats _ _ (ownL s l (wa % l.length)) at hq1
     refine A3 7 rfl (by kernel_rfl) (by kernel_rfl) (by kernel_rfl) (by kernel_rfl) rfl rfl (fun _ h => (h.drop (.cons_cons _ <| .cons_cons _ <| .refl _)).weak hF26 hleS) (fun _ _ _ h => h) (Ae (Ab)) ?_
     refine A3 8 rfl (by kernel_rfl) (by kernel_rfl) (by kernel_rfl) (by kernel_rfl) rfl rfl (fun _ h => (h.drop (.cons_cons _ <| .cons_cons _ <| .refl _)).weak hF26 hleS) (fun _ _ _ h => h) (Az (Ab) rfl) ?_
     refine A3 9 rfl (by kernel_rfl) (by kernel_rfl) (by kernel_rfl) (by kernel_rfl) rfl rfl (fun _ h => (h.drop (.cons_cons _ <| .cons_cons _ <| .refl _)).weak hF26 hleS) (fun _ _ _ h => h) (Az (Ak rfl <| Ab) rfl) ?_
     refine A3 10 rfl (by kernel_rfl) (by kernel_rfl) (by kernel_rfl) (by kernel_rfl) rfl rfl (fun _ h => (h.drop (.cons_cons _ <| .cons_cons _ <| .refl _)).weak hF26 hleS) (fun _ _ _ h => h) (Af (Ak rfl <| Ab)) ?_
     refine A3 11 rfl (by kernel_rfl) (by kernel_rfl) (by kernel_rfl) (by kernel_rfl) rfl rfl (fun _ h => (h.drop (.cons_cons _ <| .cons_cons _ <| .refl _)).weak hF26 hleS) (fun _ _ _ h => h) (Af (Ak rfl <| Ab)) ?_
     refine Cz (by kernel_rfl) ?_ _
     refine Ac <| Ag <| Ag <| Ai fun ds => Aa rfl (Ae (Ab)) ?_
     refine Aa rfl (B1 (Ab) Ad) ?_
     refine Aa rfl (Ae (Ab)) ?_
     refine Aq rfl rfl (Ab) (decide_eq_false (fun h => h rfl)) ?_
     refine Aa rfl (Ae (Ba rfl <| Ab)) ?_
     refine Aq rfl rfl (Ak rfl <| Ab) (decide_eq_false (fun h => h rfl)) ?_
     refine Aa rfl (B1 (Ab) Ad) ?_
     refine Aq rfl rfl (Ar rfl <| Ab) (decide_eq_false (fun h => h rfl)) ?_
     refine Aa rfl (Ae (Ab)) ?_
     refine Au rfl rfl (Ab) (.inl (congrArg Value.bool (by decide))) rfl ?_
     refine Au rfl rfl (Ak rfl <| Ab) (.inl (congrArg Value.bool (by decide))) rfl ?_
     refine Aq rfl rfl (Aw rfl <| Ak rfl <| Ab) (decide_eq_false (fun h => h rfl)) ?_
     refine Aa rfl (A9 (Ar rfl <| Ab) (by decide) Ad) ?_
     refine Aa rfl (A9 (Aw rfl <| Ar rfl <| Ab) (decide_eq_false (fun h => h rfl)) (Ab)) ?_
     refine Ah <| Ac <| Ap (Ab) rfl ?_
     by_cases hcy : canT s l (wa % l.length) (wb % l.length) = true
     ·
      have hmx := secTo_max (s := s) (l := l) (x := (wa % l.length)) (n := s.editions.length) (y := (wb % l.length)) (by omega) hcy
      refine Ay <| Ac <| Ag <| Ag <| Ai fun ds => Aa rfl (Bc B5 (Ba rfl <| Ba rfl <| A8 rfl <| Ar rfl <| Ak rfl <| Ab) rfl rfl (Bb 1 rfl)) ?_
      refine Aa rfl (Ae (Ba rfl <| Ba rfl <| Ak rfl <| Ab)) ?_
      refine Aa rfl (Ae (Ba rfl <| A2 rfl <| Aw rfl <| Ak rfl <| Ab)) ?_
      refine Aa rfl (Ae (Ba rfl <| A2 rfl <| Aw rfl <| Ak rfl <| Ab)) ?_
      refine B0 rfl (Bg bd_49 A1 (.cons (Ar rfl <| Ak rfl <| Ab) (.cons (Ar rfl <| Ab) (.cons (Ak rfl <| Ab) (.cons (Ab) .nil)))) (refCan_ok hr hv hl hll ht hxl hyl) (fun _ _ h => h)) ?_
      refine Aa rfl (Ae (Ab)) ?_
      refine Aq rfl rfl (Ab) hcy ?_
      refine Aa rfl (Bc B5 (Ba rfl <| Ba rfl <| A2 rfl <| Ak rfl <| Ab) rfl rfl (Bb 1 rfl)) ?_
      refine Aq rfl rfl (Ak rfl <| Ab) hcy ?_
      refine Aa rfl (Ae (Ba rfl <| Ba rfl <| Aw rfl <| Ar rfl <| Ak rfl <| Ab)) ?_
      refine Aq rfl rfl (Ar rfl <| Ab) hcy ?_
      refine Aa rfl (Ae (Ba rfl <| A2 rfl <| A8 rfl <| Ar rfl <| Ak rfl <| Ab)) ?_
      refine Aq rfl rfl (Ar rfl <| Ak rfl <| Ab) hcy ?_
      refine Aa rfl (Ae (Ba rfl <| A2 rfl <| A8 rfl <| Ar rfl <| Ak rfl <| Ab)) ?_
      refine Aq rfl rfl (Aw rfl <| Ab) hcy ?_
      refine B0 rfl (Bg bd_50 A1 (.cons (Ar rfl <| Ak rfl <| Ab) (.cons (Ar rfl <| Ab) (.cons (Ak rfl <| Ab) (.cons (Ab) .nil)))) (refSaves_ok hr hv hl hll ht hxl hyl hu) (fun _ _ h => h)) ?_
      refine Aq rfl rfl (Aw rfl <| Ak rfl <| Ab) hcy ?_
      refine Aa rfl (Ae (Ba rfl <| A2 rfl <| Ar rfl <| Ak rfl <| Ab)) ?_
      refine Aq rfl rfl (Aw rfl <| Ar rfl <| Ab) hcy ?_
      refine Aa rfl (C2 (Ak rfl <| Ab) (Ab)) ?_
      refine Aa rfl (A5 (Aw rfl <| Ar rfl <| Ak rfl <| Ab) hcy (Ab)) ?_
      refine Ah <| Ac <| Ap (Ab) (decide_eq_false (by have := hmx; omega)) ?_
      refine Ay <| Ac <| Ag <| Ag <| Ai fun ds => Aa rfl (Ae (Ba rfl <| A2 rfl <| Aw rfl <| Ak rfl <| Ab)) ?_
      refine Aa rfl (B1 (Ab) Ad) ?_
      refine Ah <| Ac <| Ap (Ab) (by decide) ?_
      refine Ay <| Ac <| Ag <| Ag <| Ai fun ds => Aa rfl (Ae (Ba rfl <| A2 rfl <| A8 rfl <| Ak rfl <| Ab)) ?_
      refine Aa rfl (Bw (Ab) Ad) ?_
      refine Aa rfl (Ae (Ab)) ?_
      refine Aq rfl rfl (Ab) (decide_eq_false (by omega)) ?_
      refine Aa rfl (Ae (Ba rfl <| A2 rfl <| A8 rfl <| Aw rfl <| Ab)) ?_
      refine Aq rfl rfl (Ak rfl <| Ab) (decide_eq_false (by omega)) ?_
      refine Aa rfl (Ae (Ba rfl <| Ba rfl <| A2 rfl <| Aw rfl <| Ab)) ?_
      refine Aq rfl rfl (Ar rfl <| Ab) (decide_eq_false (by omega)) ?_
      refine Aa rfl (Bl Bd (Ab) hl.plain) ?_
      refine Aq rfl rfl (Ar rfl <| Ak rfl <| Ab) (decide_eq_false (by omega)) ?_
      refine Aa rfl (Dx (Ar rfl <| Ab) (Ab)) ?_
      refine Aa rfl (A9 (Aw rfl <| Ab) (decide_eq_false (by omega)) (Ab)) ?_
      refine Aa rfl (Ae (Ab)) ?_
      refine Aq rfl rfl (Ab) (decide_eq_false (by omega)) ?_
      refine Aa rfl (Ae (Ba rfl <| Ba rfl <| Ar rfl <| Ab)) ?_
      refine Aq rfl rfl (Ak rfl <| Ab) (decide_eq_false (by omega)) ?_
      refine Aa rfl (Ae (Ba rfl <| Ba rfl <| A2 rfl <| A8 rfl <| Ar rfl <| Ab)) ?_
      refine Aq rfl rfl (Ar rfl <| Ab) (decide_eq_false (by omega)) ?_
      refine Aa rfl (Ae (Ba rfl <| Ba rfl <| A8 rfl <| Aw rfl <| Ar rfl <| Ab)) ?_
      refine Aq rfl rfl (Ar rfl <| Ak rfl <| Ab) (decide_eq_false (by omega)) ?_
      refine Aa rfl (A6 (k := (wa % l.length)) Bd (Ak rfl <| Ab) hl.plain (Ab) rfl hxl) ?_
      refine Aq rfl rfl (Aw rfl <| Ab) (decide_eq_false (by omega)) ?_
      refine Aa rfl (Ao Bj (Ab) (hl.cell1 hxl rfl)) ?_
      refine Aq rfl rfl (Aw rfl <| Ak rfl <| Ab) (decide_eq_false (by omega)) ?_
      refine Aa rfl (Bz (Aw rfl <| Ab) (Ab)) ?_
      refine Aa rfl (A9 (Aw rfl <| Ar rfl <| Ab) (decide_eq_false (by omega)) (Ab)) ?_
      refine Aa rfl (Ae (Ab)) ?_
      refine Aq rfl rfl (Ab) (by rw [De hxl]; exact decide_eq_false hc1) ?_
      refine Aa rfl (Ae (Ba rfl <| Ba rfl <| Ba rfl <| Ak rfl <| Ab)) ?_
      refine Aq rfl rfl (Ak rfl <| Ab) (by rw [De hxl]; exact decide_eq_false hc1) ?_
      refine Aa rfl (Ae (Ba rfl <| Ba rfl <| A8 rfl <| Ar rfl <| Ak rfl <| Ab)) ?_
      refine Aq rfl rfl (Ar rfl <| Ab) (by rw [De hxl]; exact decide_eq_false hc1) ?_
      refine Aa rfl (Ae (Ba rfl <| Ba rfl <| A2 rfl <| Aw rfl <| Ar rfl <| Ab)) ?_
      refine Aq rfl rfl (Ar rfl <| Ak rfl <| Ab) (by rw [De hxl]; exact decide_eq_false hc1) ?_
      refine B0 rfl (Bg bd_51 A1 (.cons (Ar rfl <| Ab) (.cons (Ak rfl <| Ab) (.cons (Ab) .nil))) (refUnder_ok hl ht hol (wa % l.length)) (fun _ _ h => h)) ?_
      refine Aa rfl (A9 (Aw rfl <| Ab) (by rw [De hxl]; exact decide_eq_false hc1) (Ab)) ?_
      refine Aa rfl (Ae (Ab)) ?_
      refine Aq rfl rfl (Ab) hc2 ?_
      refine Aa rfl (Ae (Ba rfl <| Ba rfl <| A8 rfl <| Aw rfl <| Ar rfl <| Ak rfl <| Ab)) ?_
      refine Aq rfl rfl (Ak rfl <| Ab) hc2 ?_
      refine Aa rfl (Bw (Ab) Ad) ?_
      refine Aa rfl (A9 (Ar rfl <| Ab) hc2 (Ab)) ?_
      refine Aa rfl (Ae (Ab)) ?_
      refine Aq rfl rfl (Ab) (decide_eq_false (by omega)) ?_
      refine Aa rfl (Ae (Ba rfl <| Ba rfl <| A2 rfl <| Ar rfl <| Ak rfl <| Ab)) ?_
      refine Aq rfl rfl (Ak rfl <| Ab) (decide_eq_false (by omega)) ?_
      refine Aa rfl (Ae (Ba rfl <| A2 rfl <| Aw rfl <| Ar rfl <| Ak rfl <| Ab)) ?_
      refine Aq rfl rfl (Ar rfl <| Ab) (decide_eq_false (by omega)) ?_
      refine Aa rfl (Bl Bd (Ab) hq1.plain) ?_
      refine Aq rfl rfl (Ar rfl <| Ak rfl <| Ab) (decide_eq_false (by omega)) ?_
      refine Aa rfl (C2 (Ar rfl <| Ab) (Ab)) ?_
      refine Aa rfl (A9 (Aw rfl <| Ab) (decide_eq_false (by omega)) (Ab)) ?_
      refine Ah <| Ac <| Ap (Ab) (decide_eq_false (by omega)) ?_
      refine Ay <| Ac <| Ag <| Ai fun ds => Aa rfl (Af Ad) ?_
      refine Ah <| Ac <| Ag <| Ag <| Ai fun ds => Aa rfl (Af Ad) ?_
      refine Ah <| Ac <| A0 <| Bv [17, 18, 19, 159, 160, 161, 162, 163, 164, 165, 166, 167, 168, 169, 170, 171, 172, 173, 174, 175, 176, 177, 178, 179, 180, 181, 182, 183, 184, 185, 186, 187, 188, 189, 190, 191, 192, 193, 194, 195, 196, 197, 198, 199, 200, 201, 202, 203, 204, 205, 206, 207, 208, 209, 210, 211, 212, 213] (fun m e σ => ∃ q : Nat, m + q = (ownL s l (wa % l.length)).length ∧ e 18 = .int .i64 (q : Int) ∧ e 17 = .int .i64 (savesTo s (ownL s l (wa % l.length)) (wa % l.length) o q) ∧ σ = ⟨F24, [(b2, bx 62 [.int .u8 (wa : Int), .int .u8 (wb : Int)]), (b1, bx 25 [vp, ve])]⟩) ((ownL s l (wa % l.length)).length) ?_ ?_
      · exact ⟨0, by omega, (Ab), (Ak rfl <| Ab), rfl⟩
      ·
       rintro m e _ ⟨q, hm, hs18, hs17, rfl⟩
       by_cases hlq : q < (ownL s l (wa % l.length)).length
       ·
        have hpm := List.getElem_mem hlq
        have hpn : (ownL s l (wa % l.length))[q] < s.places.length := selN_lt _ hpm
        have hpo : (ownL s l (wa % l.length))[q] < (s.ed o).rd.length := by rw [hv.rdl o (by omega)]; exact hpn
        have hpx : (ownL s l (wa % l.length))[q] < (s.ed (wa % l.length)).rd.length := by rw [hv.rdl _ (by omega)]; exact hpn
        have hpk : (ownL s l (wa % l.length))[q] < (s.ed k).rd.length := by rw [hv.rdl k (by omega)]; exact hpn
        have er1 := Cu hpo
        have er2 := Cu hpx
        have er3 := Cu hpk
        have hsb := Dv (s := s) (own := (ownL s l (wa % l.length))) (x := (wa % l.length)) (o := o) (k := q)
        have hdif := own_differ (s := s) hku hpm
        refine Ag <| Ag <| Ai fun ds => Aa rfl (Ae (At rfl hs18)) ?_
        refine Aa rfl (Ae (Ak rfl <| Al rfl <| Ba rfl <| A2 rfl <| A8 rfl <| Aw rfl <| Ak rfl <| Ab)) ?_
        refine Aa rfl (Bl Bd (Ab) hq1.plain) ?_
        refine Aa rfl (Bw (Ar rfl <| Ab) (Ab)) ?_
        refine Ah <| Ac <| As (Ab) (by first | rfl | exact decide_eq_true (by omega)) ?_
        by_cases hsh : sharedB s (wa % l.length) o (ownL s l (wa % l.length))[q] = true
        ·
         have hsh2 := of_decide_eq_true hsh
         refine Ay <| Ac <| Ag <| A0 <| Ag <| Ai fun ds => Aa rfl (Ae (Aw rfl <| Al rfl <| Ba rfl <| A2 rfl <| A8 rfl <| Aw rfl <| Ak rfl <| Ab)) ?_
         refine Aa rfl (Ae (Aw rfl <| Ak rfl <| At rfl hs18)) ?_
         refine Aa rfl (A6 (k := q) Bd (Ak rfl <| Ab) hq1.plain (Ab) rfl hlq) ?_
         refine Aa rfl (Ao Bj (Ab) (hq1.cell1 hlq rfl)) ?_
         refine Aa rfl (Af (Ab)) ?_
         refine Ah <| Ac <| Ag <| Cn (.inl rfl) (fun _ _ h => h) (by kernel_rfl) (by kernel_rfl) fun ds => ?_
         refine A4 rfl (Am Bq (A8 rfl <| Ak rfl <| Al rfl <| Ba rfl <| Ba rfl <| Ba rfl <| A2 rfl <| A8 rfl <| Aw rfl <| Ak rfl <| Ab)) ?_
         refine A4 rfl (Ao By (Ab) (Cell.own 1 rfl rfl)) ?_
         refine A4 rfl (Ae (A8 rfl <| Ar rfl <| Ak rfl <| Al rfl <| Ba rfl <| Ba rfl <| A2 rfl <| A8 rfl <| Ar rfl <| Ak rfl <| Ab)) ?_
         refine A4 rfl (A6 (k := o) B3 (Ak rfl <| Ab) hr.eds.plain (Ab) rfl hop) ?_
         refine A4 rfl (Bm B2 (Ab)) ?_
         refine A4 rfl (Ao B8 (Ab) (hr.eds.cell hop rfl)) ?_
         refine A4 rfl (Ae (Aw rfl <| Ar rfl <| Ab)) ?_
         refine A4 rfl (A6 (k := (ownL s l (wa % l.length))[q]) Bd (Ak rfl <| Ab) hro.plain (Ab) rfl hpo) ?_
         refine A4 rfl (Ao Bj (Ab) (hro.cell1 hpo rfl)) ?_
         refine A4 rfl (Am Bq (A2 rfl <| Ar rfl <| Al rfl <| Ba rfl <| Ba rfl <| Ba rfl <| A2 rfl <| A8 rfl <| Aw rfl <| Ak rfl <| Ab)) ?_
         refine A4 rfl (Ao By (Ab) (Cell.own 1 rfl rfl)) ?_
         refine A4 rfl (Ae (A2 rfl <| Aw rfl <| Al rfl <| Ba rfl <| Ba rfl <| Ba rfl <| Aw rfl <| Ak rfl <| Ab)) ?_
         refine A4 rfl (A6 (k := (wa % l.length)) B3 (Ak rfl <| Ab) hr.eds.plain (Ab) rfl (by omega)) ?_
         refine A4 rfl (Bm B2 (Ab)) ?_
         refine A4 rfl (Ao B8 (Ab) (hr.eds.cell (by omega) rfl)) ?_
         refine A4 rfl (Ae (A8 rfl <| Aw rfl <| Ar rfl <| Ak rfl <| Ab)) ?_
         refine A4 rfl (A6 (k := (ownL s l (wa % l.length))[q]) Bd (Ak rfl <| Ab) hrx.plain (Ab) rfl hpx) ?_
         refine A4 rfl (Ao Bj (Ab) (hrx.cell1 hpx rfl)) ?_
         refine A4 rfl (Bz (A8 rfl <| Ak rfl <| Ab) (Ab)) ?_
         refine A4 rfl (Ae (Ab)) ?_
         refine Bt rfl rfl (Ab) (by rw [er1, er2]; exact hsh) ?_
         refine A4 rfl (Am Bq (A2 rfl <| A8 rfl <| Aw rfl <| Ak rfl <| Al rfl <| Ba rfl <| Ba rfl <| Ba rfl <| A2 rfl <| A8 rfl <| Aw rfl <| Ak rfl <| Ab)) ?_
         refine Bt rfl rfl (Ak rfl <| Ab) (by rw [er1, er2]; exact hsh) ?_
         refine A4 rfl (Ao By (Ab) (Cell.own 1 rfl rfl)) ?_
         refine Bt rfl rfl (Ar rfl <| Ab) (by rw [er1, er2]; exact hsh) ?_
         refine A4 rfl (Ae (A2 rfl <| A8 rfl <| Aw rfl <| Ar rfl <| Ak rfl <| Al rfl <| Ba rfl <| Ba rfl <| A2 rfl <| A8 rfl <| Ar rfl <| Ak rfl <| Ab)) ?_
         refine Bt rfl rfl (Ar rfl <| Ak rfl <| Ab) (by rw [er1, er2]; exact hsh) ?_
         refine A4 rfl (A6 (k := o) B3 (Ak rfl <| Ab) hr.eds.plain (Ab) rfl hop) ?_
         refine Bt rfl rfl (Aw rfl <| Ab) (by rw [er1, er2]; exact hsh) ?_
         refine A4 rfl (Bm B2 (Ab)) ?_
         refine Bt rfl rfl (Aw rfl <| Ak rfl <| Ab) (by rw [er1, er2]; exact hsh) ?_
         refine A4 rfl (Ao B8 (Ab) (hr.eds.cell hop rfl)) ?_
         refine Bt rfl rfl (Aw rfl <| Ar rfl <| Ab) (by rw [er1, er2]; exact hsh) ?_
         refine A4 rfl (Ae (A2 rfl <| A8 rfl <| Ar rfl <| Ab)) ?_
         refine Bt rfl rfl (Aw rfl <| Ar rfl <| Ak rfl <| Ab) (by rw [er1, er2]; exact hsh) ?_
         refine A4 rfl (A6 (k := (ownL s l (wa % l.length))[q]) Bd (Ak rfl <| Ab) hro.plain (Ab) rfl hpo) ?_
         refine Bt rfl rfl (A8 rfl <| Ab) (by rw [er1, er2]; exact hsh) ?_
         refine A4 rfl (Ao Bj (Ab) (hro.cell1 hpo rfl)) ?_
         refine Bt rfl rfl (A8 rfl <| Ak rfl <| Ab) (by rw [er1, er2]; exact hsh) ?_
         refine A4 rfl (Am Bq (Ba rfl <| Aw rfl <| Ar rfl <| Al rfl <| Ba rfl <| Ba rfl <| Ba rfl <| A2 rfl <| A8 rfl <| Aw rfl <| Ak rfl <| Ab)) ?_
         refine Bt rfl rfl (A8 rfl <| Ar rfl <| Ab) (by rw [er1, er2]; exact hsh) ?_
         refine A4 rfl (Ao By (Ab) (Cell.own 1 rfl rfl)) ?_
         refine Bt rfl rfl (A8 rfl <| Ar rfl <| Ak rfl <| Ab) (by rw [er1, er2]; exact hsh) ?_
         refine A4 rfl (Ae (Ba rfl <| A8 rfl <| Al rfl <| Ba rfl <| Ba rfl <| Ba rfl <| A2 rfl <| Ar rfl <| Ab)) ?_
         refine Bt rfl rfl (A8 rfl <| Aw rfl <| Ab) (by rw [er1, er2]; exact hsh) ?_
         refine A4 rfl (Ae (Ba rfl <| A8 rfl <| Ak rfl <| Al rfl <| Ba rfl <| Ba rfl <| Ba rfl <| Aw rfl <| Ak rfl <| Ab)) ?_
         refine Bt rfl rfl (A8 rfl <| Aw rfl <| Ak rfl <| Ab) (by rw [er1, er2]; exact hsh) ?_
         refine A4 rfl (A6 (k := (wa % l.length)) Bd (Ak rfl <| Ab) hl.plain (Ab) rfl hxl) ?_
         refine Bt rfl rfl (A8 rfl <| Aw rfl <| Ar rfl <| Ab) (by rw [er1, er2]; exact hsh) ?_
         refine A4 rfl (Ao Bj (Ab) (show Cell _ (addc (base hl_v) ((wa % l.length) * 1)) (.int .i64 (k : Int)) by rw [← hlk]; exact hl.int hxl)) ?_
         refine Bt rfl rfl (A8 rfl <| Aw rfl <| Ar rfl <| Ak rfl <| Ab) (by rw [er1, er2]; exact hsh) ?_
         refine A4 rfl (A6 (k := k) B3 (Aw rfl <| Ab) hr.eds.plain (Ab) rfl (by omega)) ?_
         refine Bt rfl rfl (A2 rfl <| Ab) (by rw [er1, er2]; exact hsh) ?_
         refine A4 rfl (Bm B2 (Ab)) ?_
         refine Bt rfl rfl (A2 rfl <| Ak rfl <| Ab) (by rw [er1, er2]; exact hsh) ?_
         refine A4 rfl (Ao B8 (Ab) (hr.eds.cell (by omega) rfl)) ?_
         refine Bt rfl rfl (A2 rfl <| Ar rfl <| Ab) (by rw [er1, er2]; exact hsh) ?_
         refine A4 rfl (Ae (Ba rfl <| Aw rfl <| Ar rfl <| Ab)) ?_
         refine Bt rfl rfl (A2 rfl <| Ar rfl <| Ak rfl <| Ab) (by rw [er1, er2]; exact hsh) ?_
         refine A4 rfl (A6 (k := (ownL s l (wa % l.length))[q]) Bd (Ak rfl <| Ab) hrk.plain (Ab) rfl hpk) ?_
         refine Bt rfl rfl (A2 rfl <| Aw rfl <| Ab) (by rw [er1, er2]; exact hsh) ?_
         refine A4 rfl (Ao Bj (Ab) (hrk.cell1 hpk rfl)) ?_
         refine Bt rfl rfl (A2 rfl <| Aw rfl <| Ak rfl <| Ab) (by rw [er1, er2]; exact hsh) ?_
         refine A4 rfl (B1 (A8 rfl <| Aw rfl <| Ab) (Ab)) ?_
         refine A4 rfl (A5 (A2 rfl <| Aw rfl <| Ar rfl <| Ab) (by rw [er1, er2]; exact hsh) (Ab)) ?_
         refine C0 ?_
         refine Ac <| As (Ab) (by rw [er1, er3]; exact decide_eq_true (by omega)) ?_
         refine Ai fun ds => Aa rfl (Ae (Ba rfl <| A2 rfl <| Aw rfl <| At rfl hs17)) ?_
         refine Aa rfl (Bx (Ab) Ad rfl (by omega) (by omega)) ?_
         refine Aa rfl (Af (Ab)) ?_
         refine Ah <| Bf <| Ac <| Ai fun ds => Aa rfl (Ae (Ba rfl <| A2 rfl <| Aw rfl <| Ar rfl <| Ak rfl <| At rfl hs18)) ?_
         refine Aa rfl (Bx (Ab) Ad rfl (by omega) (by omega)) ?_
         refine Aa rfl (Af (Ab)) ?_
         refine Ah <| Ac ⟨_, m - 1, Off.eq (ou32 rfl <| C7 rfl <| D5 rfl <| ou2 rfl <| Bi), by omega, ?_⟩
         exact ⟨q + 1, by omega, (Ab), ((Ar rfl <| Ak rfl <| Ab)).trans (by rw [Dg hlq, if_pos hsh]), rfl⟩
        ·
         replace hsh : sharedB s (wa % l.length) o (ownL s l (wa % l.length))[q] = false := by simpa using hsh
         refine Ay <| Ac <| Ag <| A0 <| Ag <| Ai fun ds => Aa rfl (Ae (Aw rfl <| Al rfl <| Ba rfl <| A2 rfl <| A8 rfl <| Aw rfl <| Ak rfl <| Ab)) ?_
         refine Aa rfl (Ae (Aw rfl <| Ak rfl <| At rfl hs18)) ?_
         refine Aa rfl (A6 (k := q) Bd (Ak rfl <| Ab) hq1.plain (Ab) rfl hlq) ?_
         refine Aa rfl (Ao Bj (Ab) (hq1.cell1 hlq rfl)) ?_
         refine Aa rfl (Af (Ab)) ?_
         refine Ah <| Ac <| Ag <| Cn (.inl rfl) (fun _ _ h => h) (by kernel_rfl) (by kernel_rfl) fun ds => ?_
         refine A4 rfl (Am Bq (A8 rfl <| Ak rfl <| Al rfl <| Ba rfl <| Ba rfl <| Ba rfl <| A2 rfl <| A8 rfl <| Aw rfl <| Ak rfl <| Ab)) ?_
         refine A4 rfl (Ao By (Ab) (Cell.own 1 rfl rfl)) ?_
         refine A4 rfl (Ae (A8 rfl <| Ar rfl <| Ak rfl <| Al rfl <| Ba rfl <| Ba rfl <| A2 rfl <| A8 rfl <| Ar rfl <| Ak rfl <| Ab)) ?_
         refine A4 rfl (A6 (k := o) B3 (Ak rfl <| Ab) hr.eds.plain (Ab) rfl hop) ?_
         refine A4 rfl (Bm B2 (Ab)) ?_
         refine A4 rfl (Ao B8 (Ab) (hr.eds.cell hop rfl)) ?_
         refine A4 rfl (Ae (Aw rfl <| Ar rfl <| Ab)) ?_
         refine A4 rfl (A6 (k := (ownL s l (wa % l.length))[q]) Bd (Ak rfl <| Ab) hro.plain (Ab) rfl hpo) ?_
         refine A4 rfl (Ao Bj (Ab) (hro.cell1 hpo rfl)) ?_
         refine A4 rfl (Am Bq (A2 rfl <| Ar rfl <| Al rfl <| Ba rfl <| Ba rfl <| Ba rfl <| A2 rfl <| A8 rfl <| Aw rfl <| Ak rfl <| Ab)) ?_
         refine A4 rfl (Ao By (Ab) (Cell.own 1 rfl rfl)) ?_
         refine A4 rfl (Ae (A2 rfl <| Aw rfl <| Al rfl <| Ba rfl <| Ba rfl <| Ba rfl <| Aw rfl <| Ak rfl <| Ab)) ?_
         refine A4 rfl (A6 (k := (wa % l.length)) B3 (Ak rfl <| Ab) hr.eds.plain (Ab) rfl (by omega)) ?_
         refine A4 rfl (Bm B2 (Ab)) ?_
         refine A4 rfl (Ao B8 (Ab) (hr.eds.cell (by omega) rfl)) ?_
         refine A4 rfl (Ae (A8 rfl <| Aw rfl <| Ar rfl <| Ak rfl <| Ab)) ?_
         refine A4 rfl (A6 (k := (ownL s l (wa % l.length))[q]) Bd (Ak rfl <| Ab) hrx.plain (Ab) rfl hpx) ?_
         refine A4 rfl (Ao Bj (Ab) (hrx.cell1 hpx rfl)) ?_
         refine A4 rfl (Bz (A8 rfl <| Ak rfl <| Ab) (Ab)) ?_
         refine A4 rfl (Ae (Ab)) ?_
         refine Bu rfl rfl (Ab) (.inl (congrArg Value.bool (by rw [er1, er2]; exact hsh))) rfl ?_
         refine Bu rfl rfl (Ak rfl <| Ab) (.inl (congrArg Value.bool (by rw [er1, er2]; exact hsh))) rfl ?_
         refine Bu rfl rfl (Ar rfl <| Ab) (.inl (congrArg Value.bool (by rw [er1, er2]; exact hsh))) rfl ?_
         refine Bu rfl rfl (Ar rfl <| Ak rfl <| Ab) (.inl (congrArg Value.bool (by rw [er1, er2]; exact hsh))) rfl ?_
         refine Bu rfl rfl (Aw rfl <| Ab) (.inl (congrArg Value.bool (by rw [er1, er2]; exact hsh))) rfl ?_
         refine Bu rfl rfl (Aw rfl <| Ak rfl <| Ab) (.inl (congrArg Value.bool (by rw [er1, er2]; exact hsh))) rfl ?_
         refine Bu rfl rfl (Aw rfl <| Ar rfl <| Ab) (.inl (congrArg Value.bool (by rw [er1, er2]; exact hsh))) rfl ?_
         refine Bu rfl rfl (Aw rfl <| Ar rfl <| Ak rfl <| Ab) (.inl (congrArg Value.bool (by rw [er1, er2]; exact hsh))) rfl ?_
         refine Bu rfl rfl (A8 rfl <| Ab) (.inl (congrArg Value.bool (by rw [er1, er2]; exact hsh))) rfl ?_
         refine Bu rfl rfl (A8 rfl <| Ak rfl <| Ab) (.inl (congrArg Value.bool (by rw [er1, er2]; exact hsh))) rfl ?_
         refine Bu rfl rfl (A8 rfl <| Ar rfl <| Ab) (.inl (congrArg Value.bool (by rw [er1, er2]; exact hsh))) rfl ?_
         refine Bu rfl rfl (A8 rfl <| Ar rfl <| Ak rfl <| Ab) (.inl (congrArg Value.bool (by rw [er1, er2]; exact hsh))) rfl ?_
         refine Bu rfl rfl (A8 rfl <| Aw rfl <| Ab) (.inl (congrArg Value.bool (by rw [er1, er2]; exact hsh))) rfl ?_
         refine Bu rfl rfl (A8 rfl <| Aw rfl <| Ak rfl <| Ab) (.inl (congrArg Value.bool (by rw [er1, er2]; exact hsh))) rfl ?_
         refine Bu rfl rfl (A8 rfl <| Aw rfl <| Ar rfl <| Ab) (.inl (congrArg Value.bool (by rw [er1, er2]; exact hsh))) rfl ?_
         refine Bu rfl rfl (A8 rfl <| Aw rfl <| Ar rfl <| Ak rfl <| Ab) (.inl (congrArg Value.bool (by rw [er1, er2]; exact hsh))) rfl ?_
         refine Bu rfl rfl (A2 rfl <| Ab) (.inl (congrArg Value.bool (by rw [er1, er2]; exact hsh))) rfl ?_
         refine Bu rfl rfl (A2 rfl <| Ak rfl <| Ab) (.inl (congrArg Value.bool (by rw [er1, er2]; exact hsh))) rfl ?_
         refine Bu rfl rfl (A2 rfl <| Ar rfl <| Ab) (.inl (congrArg Value.bool (by rw [er1, er2]; exact hsh))) rfl ?_
         refine Bu rfl rfl (A2 rfl <| Ar rfl <| Ak rfl <| Ab) (.inl (congrArg Value.bool (by rw [er1, er2]; exact hsh))) rfl ?_
         refine Bu rfl rfl (A2 rfl <| Aw rfl <| Ab) (.inl (congrArg Value.bool (by rw [er1, er2]; exact hsh))) rfl ?_
         refine Bu rfl rfl (A2 rfl <| Aw rfl <| Ak rfl <| Ab) (.inl (congrArg Value.bool (by rw [er1, er2]; exact hsh))) rfl ?_
         refine A4 rfl (A9 (A2 rfl <| Aw rfl <| Ar rfl <| Ab) (by rw [er1, er2]; exact hsh) Ad) ?_
         refine C0 ?_
         refine Ac <| Ap (Ab) rfl ?_
         refine Ay <| Bf <| Ac <| Ai fun ds => Aa rfl (Ae (Ba rfl <| A2 rfl <| Aw rfl <| At rfl hs18)) ?_
         refine Aa rfl (Bx (Ab) Ad rfl (by omega) (by omega)) ?_
         refine Aa rfl (Af (Ab)) ?_
         refine Ah <| Ac ⟨_, m - 1, Off.eq (ou32 rfl <| C7 rfl <| Ed rfl <| ou2 rfl <| D0 rfl <| Bi), by omega, ?_⟩
         exact ⟨q + 1, by omega, (Ab), ((Ba rfl <| A2 rfl <| Aw rfl <| Ar rfl <| Ak rfl <| At rfl hs17)).trans (by rw [Dg hlq, if_neg (by rw [hsh]; simp)]), rfl⟩
       ·
        refine Ag <| Ag <| Ai fun ds => Aa rfl (Ae (At rfl hs18)) ?_
        refine Aa rfl (Ae (Ak rfl <| Al rfl <| Ba rfl <| A2 rfl <| A8 rfl <| Aw rfl <| Ak rfl <| Ab)) ?_
        refine Aa rfl (Bl Bd (Ab) hq1.plain) ?_
        refine Aa rfl (Bw (Ar rfl <| Ab) (Ab)) ?_
        refine Ah <| Ac <| Ap (Ab) (by first | rfl | exact decide_eq_false (by omega)) ?_
        obtain rfl : q = (ownL s l (wa % l.length)).length := by omega
        refine Bs ?_
        refine Bh <| Bh <| Bk <| Ac <| Ag <| Ai fun ds => Aa rfl (Ae (Aw rfl <| At rfl hs17)) ?_
        refine Aa rfl (Ae (Aw rfl <| Ak rfl <| Al rfl <| Ba rfl <| Ba rfl <| A2 rfl <| A8 rfl <| Ar rfl <| Ab)) ?_
        refine Aa rfl (Bz (Ak rfl <| Ab) (Ab)) ?_
        refine Aa rfl (Ae (Ab)) ?_
        refine Aq rfl rfl (Ab) (by rw [C6]; exact decide_eq_true ho3.symm) ?_
        refine B0 rfl (Bg bd_26 A1 .nil awake_ok (fun _ _ h => h)) ?_
        refine Aa rfl (A5 (Ak rfl <| Ab) (by rw [C6]; exact decide_eq_true ho3.symm) (Ab)) ?_
        refine Aa rfl (Af (Ab)) ?_
        refine Ah <| Ac <| A7 <| Ax rfl (.tmp (Ab) .nil) ?_
        rfl
     ·
      replace hcy : canT s l (wa % l.length) (wb % l.length) = false := by simpa using hcy
      refine Ay <| Ac <| Ag <| Ag <| Ai fun ds => Aa rfl (Bc B5 (Ba rfl <| Ba rfl <| A8 rfl <| Ar rfl <| Ak rfl <| Ab) rfl rfl (Bb 1 rfl)) ?_
      refine Aa rfl (Ae (Ba rfl <| Ba rfl <| Ak rfl <| Ab)) ?_
      refine Aa rfl (Ae (Ba rfl <| A2 rfl <| Aw rfl <| Ak rfl <| Ab)) ?_
      refine Aa rfl (Ae (Ba rfl <| A2 rfl <| Aw rfl <| Ak rfl <| Ab)) ?_
      refine B0 rfl (Bg bd_49 A1 (.cons (Ar rfl <| Ak rfl <| Ab) (.cons (Ar rfl <| Ab) (.cons (Ak rfl <| Ab) (.cons (Ab) .nil)))) (refCan_ok hr hv hl hll ht hxl hyl) (fun _ _ h => h)) ?_
      refine Aa rfl (Ae (Ab)) ?_
      refine Au rfl rfl (Ab) (.inl (congrArg Value.bool hcy)) rfl ?_
      refine Au rfl rfl (Ak rfl <| Ab) (.inl (congrArg Value.bool hcy)) rfl ?_
      refine Au rfl rfl (Ar rfl <| Ab) (.inl (congrArg Value.bool hcy)) rfl ?_
      refine Au rfl rfl (Ar rfl <| Ak rfl <| Ab) (.inl (congrArg Value.bool hcy)) rfl ?_
      refine Au rfl rfl (Aw rfl <| Ab) (.inl (congrArg Value.bool hcy)) rfl ?_
      refine Au rfl rfl (Aw rfl <| Ak rfl <| Ab) (.inl (congrArg Value.bool hcy)) rfl ?_
      refine Au rfl rfl (Aw rfl <| Ar rfl <| Ab) (.inl (congrArg Value.bool hcy)) rfl ?_
      refine Aa rfl (A9 (Aw rfl <| Ar rfl <| Ak rfl <| Ab) hcy Ad) ?_
      refine Ah <| Ac <| Ap (Ab) rfl ?_
      refine Ay <| Ac <| Ag <| Ag <| Ai fun ds => Aa rfl (Ae (Ba rfl <| A2 rfl <| Aw rfl <| Ak rfl <| Ab)) ?_
      refine Aa rfl (B1 (Ab) Ad) ?_
      refine Ah <| Ac <| Ap (Ab) (by decide) ?_
      refine Ay <| Ac <| Ag <| Ag <| Ai fun ds => Aa rfl (Ae (Ba rfl <| A2 rfl <| A8 rfl <| Ak rfl <| Ab)) ?_
      refine Aa rfl (Bw (Ab) Ad) ?_
      refine Aa rfl (Ae (Ab)) ?_
      refine Aq rfl rfl (Ab) (decide_eq_false (by omega)) ?_
      refine Aa rfl (Ae (Ba rfl <| A2 rfl <| A8 rfl <| Aw rfl <| Ab)) ?_
      refine Aq rfl rfl (Ak rfl <| Ab) (decide_eq_false (by omega)) ?_
      refine Aa rfl (Ae (Ba rfl <| Ba rfl <| A2 rfl <| Aw rfl <| Ab)) ?_
      refine Aq rfl rfl (Ar rfl <| Ab) (decide_eq_false (by omega)) ?_
      refine Aa rfl (Bl Bd (Ab) hl.plain) ?_
      refine Aq rfl rfl (Ar rfl <| Ak rfl <| Ab) (decide_eq_false (by omega)) ?_
      refine Aa rfl (Dx (Ar rfl <| Ab) (Ab)) ?_
      refine Aa rfl (A9 (Aw rfl <| Ab) (decide_eq_false (by omega)) (Ab)) ?_
      refine Aa rfl (Ae (Ab)) ?_
      refine Aq rfl rfl (Ab) (decide_eq_false (by omega)) ?_
      refine Aa rfl (Ae (Ba rfl <| Ba rfl <| Ar rfl <| Ab)) ?_
      refine Aq rfl rfl (Ak rfl <| Ab) (decide_eq_false (by omega)) ?_
      refine Aa rfl (Ae (Ba rfl <| Ba rfl <| A2 rfl <| A8 rfl <| Ar rfl <| Ab)) ?_
      refine Aq rfl rfl (Ar rfl <| Ab) (decide_eq_false (by omega)) ?_
      refine Aa rfl (Ae (Ba rfl <| Ba rfl <| A8 rfl <| Aw rfl <| Ar rfl <| Ab)) ?_
      refine Aq rfl rfl (Ar rfl <| Ak rfl <| Ab) (decide_eq_false (by omega)) ?_
      refine Aa rfl (A6 (k := (wa % l.length)) Bd (Ak rfl <| Ab) hl.plain (Ab) rfl hxl) ?_
      refine Aq rfl rfl (Aw rfl <| Ab) (decide_eq_false (by omega)) ?_
      refine Aa rfl (Ao Bj (Ab) (hl.cell1 hxl rfl)) ?_
      refine Aq rfl rfl (Aw rfl <| Ak rfl <| Ab) (decide_eq_false (by omega)) ?_
      refine Aa rfl (Bz (Aw rfl <| Ab) (Ab)) ?_
      refine Aa rfl (A9 (Aw rfl <| Ar rfl <| Ab) (decide_eq_false (by omega)) (Ab)) ?_
      refine Aa rfl (Ae (Ab)) ?_
      refine Aq rfl rfl (Ab) (by rw [De hxl]; exact decide_eq_false hc1) ?_
      refine Aa rfl (Ae (Ba rfl <| Ba rfl <| Ba rfl <| Ak rfl <| Ab)) ?_
      refine Aq rfl rfl (Ak rfl <| Ab) (by rw [De hxl]; exact decide_eq_false hc1) ?_
      refine Aa rfl (Ae (Ba rfl <| Ba rfl <| A8 rfl <| Ar rfl <| Ak rfl <| Ab)) ?_
      refine Aq rfl rfl (Ar rfl <| Ab) (by rw [De hxl]; exact decide_eq_false hc1) ?_
      refine Aa rfl (Ae (Ba rfl <| Ba rfl <| A2 rfl <| Aw rfl <| Ar rfl <| Ab)) ?_
      refine Aq rfl rfl (Ar rfl <| Ak rfl <| Ab) (by rw [De hxl]; exact decide_eq_false hc1) ?_
      refine B0 rfl (Bg bd_51 A1 (.cons (Ar rfl <| Ab) (.cons (Ak rfl <| Ab) (.cons (Ab) .nil))) (refUnder_ok hl ht hol (wa % l.length)) (fun _ _ h => h)) ?_
      refine Aa rfl (A9 (Aw rfl <| Ab) (by rw [De hxl]; exact decide_eq_false hc1) (Ab)) ?_
      refine Aa rfl (Ae (Ab)) ?_
      refine Aq rfl rfl (Ab) hc2 ?_
      refine Aa rfl (Ae (Ba rfl <| Ba rfl <| A8 rfl <| Aw rfl <| Ar rfl <| Ak rfl <| Ab)) ?_
      refine Aq rfl rfl (Ak rfl <| Ab) hc2 ?_
      refine Aa rfl (Bw (Ab) Ad) ?_
      refine Aa rfl (A9 (Ar rfl <| Ab) hc2 (Ab)) ?_
      refine Aa rfl (Ae (Ab)) ?_
      refine Aq rfl rfl (Ab) (decide_eq_false (by omega)) ?_
      refine Aa rfl (Ae (Ba rfl <| Ba rfl <| A2 rfl <| Ar rfl <| Ak rfl <| Ab)) ?_
      refine Aq rfl rfl (Ak rfl <| Ab) (decide_eq_false (by omega)) ?_
      refine Aa rfl (Ae (Ba rfl <| A2 rfl <| Aw rfl <| Ar rfl <| Ak rfl <| Ab)) ?_
      refine Aq rfl rfl (Ar rfl <| Ab) (decide_eq_false (by omega)) ?_
      refine Aa rfl (Bl Bd (Ab) hq1.plain) ?_
      refine Aq rfl rfl (Ar rfl <| Ak rfl <| Ab) (decide_eq_false (by omega)) ?_
      refine Aa rfl (C2 (Ar rfl <| Ab) (Ab)) ?_
      refine Aa rfl (A9 (Aw rfl <| Ab) (decide_eq_false (by omega)) (Ab)) ?_
      refine Ah <| Ac <| Ap (Ab) (decide_eq_false (by omega)) ?_
      refine Ay <| Ac <| Ag <| Ai fun ds => Aa rfl (Af Ad) ?_
      refine Ah <| Ac <| Ag <| Ag <| Ai fun ds => Aa rfl (Af Ad) ?_
      refine Ah <| Ac <| A0 <| Bv [17, 18, 19, 159, 160, 161, 162, 163, 164, 165, 166, 167, 168, 169, 170, 171, 172, 173, 174, 175, 176, 177, 178, 179, 180, 181, 182, 183, 184, 185, 186, 187, 188, 189, 190, 191, 192, 193, 194, 195, 196, 197, 198, 199, 200, 201, 202, 203, 204, 205, 206, 207, 208, 209, 210, 211, 212, 213] (fun m e σ => ∃ q : Nat, m + q = (ownL s l (wa % l.length)).length ∧ e 18 = .int .i64 (q : Int) ∧ e 17 = .int .i64 (savesTo s (ownL s l (wa % l.length)) (wa % l.length) o q) ∧ σ = ⟨F24, [(b2, bx 62 [.int .u8 (wa : Int), .int .u8 (wb : Int)]), (b1, bx 25 [vp, ve])]⟩) ((ownL s l (wa % l.length)).length) ?_ ?_
      · exact ⟨0, by omega, (Ab), (Ak rfl <| Ab), rfl⟩
      ·
       rintro m e _ ⟨q, hm, hs18, hs17, rfl⟩
       by_cases hlq : q < (ownL s l (wa % l.length)).length
       ·
        have hpm := List.getElem_mem hlq
        have hpn : (ownL s l (wa % l.length))[q] < s.places.length := selN_lt _ hpm
        have hpo : (ownL s l (wa % l.length))[q] < (s.ed o).rd.length := by rw [hv.rdl o (by omega)]; exact hpn
        have hpx : (ownL s l (wa % l.length))[q] < (s.ed (wa % l.length)).rd.length := by rw [hv.rdl _ (by omega)]; exact hpn
        have hpk : (ownL s l (wa % l.length))[q] < (s.ed k).rd.length := by rw [hv.rdl k (by omega)]; exact hpn
        have er1 := Cu hpo
        have er2 := Cu hpx
        have er3 := Cu hpk
        have hsb := Dv (s := s) (own := (ownL s l (wa % l.length))) (x := (wa % l.length)) (o := o) (k := q)
        have hdif := own_differ (s := s) hku hpm
        refine Ag <| Ag <| Ai fun ds => Aa rfl (Ae (At rfl hs18)) ?_
        refine Aa rfl (Ae (Ak rfl <| Al rfl <| Ba rfl <| A2 rfl <| A8 rfl <| Aw rfl <| Ak rfl <| Ab)) ?_
        refine Aa rfl (Bl Bd (Ab) hq1.plain) ?_
        refine Aa rfl (Bw (Ar rfl <| Ab) (Ab)) ?_
        refine Ah <| Ac <| As (Ab) (by first | rfl | exact decide_eq_true (by omega)) ?_
        by_cases hsh : sharedB s (wa % l.length) o (ownL s l (wa % l.length))[q] = true
        ·
         have hsh2 := of_decide_eq_true hsh
         refine Ay <| Ac <| Ag <| A0 <| Ag <| Ai fun ds => Aa rfl (Ae (Aw rfl <| Al rfl <| Ba rfl <| A2 rfl <| A8 rfl <| Aw rfl <| Ak rfl <| Ab)) ?_
         refine Aa rfl (Ae (Aw rfl <| Ak rfl <| At rfl hs18)) ?_
         refine Aa rfl (A6 (k := q) Bd (Ak rfl <| Ab) hq1.plain (Ab) rfl hlq) ?_
         refine Aa rfl (Ao Bj (Ab) (hq1.cell1 hlq rfl)) ?_
         refine Aa rfl (Af (Ab)) ?_
         refine Ah <| Ac <| Ag <| Cn (.inl rfl) (fun _ _ h => h) (by kernel_rfl) (by kernel_rfl) fun ds => ?_
         refine A4 rfl (Am Bq (A8 rfl <| Ak rfl <| Al rfl <| Ba rfl <| Ba rfl <| Ba rfl <| A2 rfl <| A8 rfl <| Aw rfl <| Ak rfl <| Ab)) ?_
         refine A4 rfl (Ao By (Ab) (Cell.own 1 rfl rfl)) ?_
         refine A4 rfl (Ae (A8 rfl <| Ar rfl <| Ak rfl <| Al rfl <| Ba rfl <| Ba rfl <| A2 rfl <| A8 rfl <| Ar rfl <| Ak rfl <| Ab)) ?_
         refine A4 rfl (A6 (k := o) B3 (Ak rfl <| Ab) hr.eds.plain (Ab) rfl hop) ?_
         refine A4 rfl (Bm B2 (Ab)) ?_
         refine A4 rfl (Ao B8 (Ab) (hr.eds.cell hop rfl)) ?_
         refine A4 rfl (Ae (Aw rfl <| Ar rfl <| Ab)) ?_
         refine A4 rfl (A6 (k := (ownL s l (wa % l.length))[q]) Bd (Ak rfl <| Ab) hro.plain (Ab) rfl hpo) ?_
         refine A4 rfl (Ao Bj (Ab) (hro.cell1 hpo rfl)) ?_
         refine A4 rfl (Am Bq (A2 rfl <| Ar rfl <| Al rfl <| Ba rfl <| Ba rfl <| Ba rfl <| A2 rfl <| A8 rfl <| Aw rfl <| Ak rfl <| Ab)) ?_
         refine A4 rfl (Ao By (Ab) (Cell.own 1 rfl rfl)) ?_
         refine A4 rfl (Ae (A2 rfl <| Aw rfl <| Al rfl <| Ba rfl <| Ba rfl <| Ba rfl <| Aw rfl <| Ak rfl <| Ab)) ?_
         refine A4 rfl (A6 (k := (wa % l.length)) B3 (Ak rfl <| Ab) hr.eds.plain (Ab) rfl (by omega)) ?_
         refine A4 rfl (Bm B2 (Ab)) ?_
         refine A4 rfl (Ao B8 (Ab) (hr.eds.cell (by omega) rfl)) ?_
         refine A4 rfl (Ae (A8 rfl <| Aw rfl <| Ar rfl <| Ak rfl <| Ab)) ?_
         refine A4 rfl (A6 (k := (ownL s l (wa % l.length))[q]) Bd (Ak rfl <| Ab) hrx.plain (Ab) rfl hpx) ?_
         refine A4 rfl (Ao Bj (Ab) (hrx.cell1 hpx rfl)) ?_
         refine A4 rfl (Bz (A8 rfl <| Ak rfl <| Ab) (Ab)) ?_
         refine A4 rfl (Ae (Ab)) ?_
         refine Bt rfl rfl (Ab) (by rw [er1, er2]; exact hsh) ?_
         refine A4 rfl (Am Bq (A2 rfl <| A8 rfl <| Aw rfl <| Ak rfl <| Al rfl <| Ba rfl <| Ba rfl <| Ba rfl <| A2 rfl <| A8 rfl <| Aw rfl <| Ak rfl <| Ab)) ?_
         refine Bt rfl rfl (Ak rfl <| Ab) (by rw [er1, er2]; exact hsh) ?_
         refine A4 rfl (Ao By (Ab) (Cell.own 1 rfl rfl)) ?_
         refine Bt rfl rfl (Ar rfl <| Ab) (by rw [er1, er2]; exact hsh) ?_
         refine A4 rfl (Ae (A2 rfl <| A8 rfl <| Aw rfl <| Ar rfl <| Ak rfl <| Al rfl <| Ba rfl <| Ba rfl <| A2 rfl <| A8 rfl <| Ar rfl <| Ak rfl <| Ab)) ?_
         refine Bt rfl rfl (Ar rfl <| Ak rfl <| Ab) (by rw [er1, er2]; exact hsh) ?_
         refine A4 rfl (A6 (k := o) B3 (Ak rfl <| Ab) hr.eds.plain (Ab) rfl hop) ?_
         refine Bt rfl rfl (Aw rfl <| Ab) (by rw [er1, er2]; exact hsh) ?_
         refine A4 rfl (Bm B2 (Ab)) ?_
         refine Bt rfl rfl (Aw rfl <| Ak rfl <| Ab) (by rw [er1, er2]; exact hsh) ?_
         refine A4 rfl (Ao B8 (Ab) (hr.eds.cell hop rfl)) ?_
         refine Bt rfl rfl (Aw rfl <| Ar rfl <| Ab) (by rw [er1, er2]; exact hsh) ?_
         refine A4 rfl (Ae (A2 rfl <| A8 rfl <| Ar rfl <| Ab)) ?_
         refine Bt rfl rfl (Aw rfl <| Ar rfl <| Ak rfl <| Ab) (by rw [er1, er2]; exact hsh) ?_
         refine A4 rfl (A6 (k := (ownL s l (wa % l.length))[q]) Bd (Ak rfl <| Ab) hro.plain (Ab) rfl hpo) ?_
         refine Bt rfl rfl (A8 rfl <| Ab) (by rw [er1, er2]; exact hsh) ?_
         refine A4 rfl (Ao Bj (Ab) (hro.cell1 hpo rfl)) ?_
         refine Bt rfl rfl (A8 rfl <| Ak rfl <| Ab) (by rw [er1, er2]; exact hsh) ?_
         refine A4 rfl (Am Bq (Ba rfl <| Aw rfl <| Ar rfl <| Al rfl <| Ba rfl <| Ba rfl <| Ba rfl <| A2 rfl <| A8 rfl <| Aw rfl <| Ak rfl <| Ab)) ?_
         refine Bt rfl rfl (A8 rfl <| Ar rfl <| Ab) (by rw [er1, er2]; exact hsh) ?_
         refine A4 rfl (Ao By (Ab) (Cell.own 1 rfl rfl)) ?_
         refine Bt rfl rfl (A8 rfl <| Ar rfl <| Ak rfl <| Ab) (by rw [er1, er2]; exact hsh) ?_
         refine A4 rfl (Ae (Ba rfl <| A8 rfl <| Al rfl <| Ba rfl <| Ba rfl <| Ba rfl <| A2 rfl <| Ar rfl <| Ab)) ?_
         refine Bt rfl rfl (A8 rfl <| Aw rfl <| Ab) (by rw [er1, er2]; exact hsh) ?_
         refine A4 rfl (Ae (Ba rfl <| A8 rfl <| Ak rfl <| Al rfl <| Ba rfl <| Ba rfl <| Ba rfl <| Aw rfl <| Ak rfl <| Ab)) ?_
         refine Bt rfl rfl (A8 rfl <| Aw rfl <| Ak rfl <| Ab) (by rw [er1, er2]; exact hsh) ?_
         refine A4 rfl (A6 (k := (wa % l.length)) Bd (Ak rfl <| Ab) hl.plain (Ab) rfl hxl) ?_
         refine Bt rfl rfl (A8 rfl <| Aw rfl <| Ar rfl <| Ab) (by rw [er1, er2]; exact hsh) ?_
         refine A4 rfl (Ao Bj (Ab) (show Cell _ (addc (base hl_v) ((wa % l.length) * 1)) (.int .i64 (k : Int)) by rw [← hlk]; exact hl.int hxl)) ?_
         refine Bt rfl rfl (A8 rfl <| Aw rfl <| Ar rfl <| Ak rfl <| Ab) (by rw [er1, er2]; exact hsh) ?_
         refine A4 rfl (A6 (k := k) B3 (Aw rfl <| Ab) hr.eds.plain (Ab) rfl (by omega)) ?_
         refine Bt rfl rfl (A2 rfl <| Ab) (by rw [er1, er2]; exact hsh) ?_
         refine A4 rfl (Bm B2 (Ab)) ?_
         refine Bt rfl rfl (A2 rfl <| Ak rfl <| Ab) (by rw [er1, er2]; exact hsh) ?_
         refine A4 rfl (Ao B8 (Ab) (hr.eds.cell (by omega) rfl)) ?_
         refine Bt rfl rfl (A2 rfl <| Ar rfl <| Ab) (by rw [er1, er2]; exact hsh) ?_
         refine A4 rfl (Ae (Ba rfl <| Aw rfl <| Ar rfl <| Ab)) ?_
         refine Bt rfl rfl (A2 rfl <| Ar rfl <| Ak rfl <| Ab) (by rw [er1, er2]; exact hsh) ?_
         refine A4 rfl (A6 (k := (ownL s l (wa % l.length))[q]) Bd (Ak rfl <| Ab) hrk.plain (Ab) rfl hpk) ?_
         refine Bt rfl rfl (A2 rfl <| Aw rfl <| Ab) (by rw [er1, er2]; exact hsh) ?_
         refine A4 rfl (Ao Bj (Ab) (hrk.cell1 hpk rfl)) ?_
         refine Bt rfl rfl (A2 rfl <| Aw rfl <| Ak rfl <| Ab) (by rw [er1, er2]; exact hsh) ?_
         refine A4 rfl (B1 (A8 rfl <| Aw rfl <| Ab) (Ab)) ?_
         refine A4 rfl (A5 (A2 rfl <| Aw rfl <| Ar rfl <| Ab) (by rw [er1, er2]; exact hsh) (Ab)) ?_
         refine C0 ?_
         refine Ac <| As (Ab) (by rw [er1, er3]; exact decide_eq_true (by omega)) ?_
         refine Ai fun ds => Aa rfl (Ae (Ba rfl <| A2 rfl <| Aw rfl <| At rfl hs17)) ?_
         refine Aa rfl (Bx (Ab) Ad rfl (by omega) (by omega)) ?_
         refine Aa rfl (Af (Ab)) ?_
         refine Ah <| Bf <| Ac <| Ai fun ds => Aa rfl (Ae (Ba rfl <| A2 rfl <| Aw rfl <| Ar rfl <| Ak rfl <| At rfl hs18)) ?_
         refine Aa rfl (Bx (Ab) Ad rfl (by omega) (by omega)) ?_
         refine Aa rfl (Af (Ab)) ?_
         refine Ah <| Ac ⟨_, m - 1, Off.eq (ou32 rfl <| C7 rfl <| D5 rfl <| ou2 rfl <| Bi), by omega, ?_⟩
         exact ⟨q + 1, by omega, (Ab), ((Ar rfl <| Ak rfl <| Ab)).trans (by rw [Dg hlq, if_pos hsh]), rfl⟩
        ·
         replace hsh : sharedB s (wa % l.length) o (ownL s l (wa % l.length))[q] = false := by simpa using hsh
         refine Ay <| Ac <| Ag <| A0 <| Ag <| Ai fun ds => Aa rfl (Ae (Aw rfl <| Al rfl <| Ba rfl <| A2 rfl <| A8 rfl <| Aw rfl <| Ak rfl <| Ab)) ?_
         refine Aa rfl (Ae (Aw rfl <| Ak rfl <| At rfl hs18)) ?_
         refine Aa rfl (A6 (k := q) Bd (Ak rfl <| Ab) hq1.plain (Ab) rfl hlq) ?_
         refine Aa rfl (Ao Bj (Ab) (hq1.cell1 hlq rfl)) ?_
         refine Aa rfl (Af (Ab)) ?_
         refine Ah <| Ac <| Ag <| Cn (.inl rfl) (fun _ _ h => h) (by kernel_rfl) (by kernel_rfl) fun ds => ?_
         refine A4 rfl (Am Bq (A8 rfl <| Ak rfl <| Al rfl <| Ba rfl <| Ba rfl <| Ba rfl <| A2 rfl <| A8 rfl <| Aw rfl <| Ak rfl <| Ab)) ?_
         refine A4 rfl (Ao By (Ab) (Cell.own 1 rfl rfl)) ?_
         refine A4 rfl (Ae (A8 rfl <| Ar rfl <| Ak rfl <| Al rfl <| Ba rfl <| Ba rfl <| A2 rfl <| A8 rfl <| Ar rfl <| Ak rfl <| Ab)) ?_
         refine A4 rfl (A6 (k := o) B3 (Ak rfl <| Ab) hr.eds.plain (Ab) rfl hop) ?_
         refine A4 rfl (Bm B2 (Ab)) ?_
         refine A4 rfl (Ao B8 (Ab) (hr.eds.cell hop rfl)) ?_
         refine A4 rfl (Ae (Aw rfl <| Ar rfl <| Ab)) ?_
         refine A4 rfl (A6 (k := (ownL s l (wa % l.length))[q]) Bd (Ak rfl <| Ab) hro.plain (Ab) rfl hpo) ?_
         refine A4 rfl (Ao Bj (Ab) (hro.cell1 hpo rfl)) ?_
         refine A4 rfl (Am Bq (A2 rfl <| Ar rfl <| Al rfl <| Ba rfl <| Ba rfl <| Ba rfl <| A2 rfl <| A8 rfl <| Aw rfl <| Ak rfl <| Ab)) ?_
         refine A4 rfl (Ao By (Ab) (Cell.own 1 rfl rfl)) ?_
         refine A4 rfl (Ae (A2 rfl <| Aw rfl <| Al rfl <| Ba rfl <| Ba rfl <| Ba rfl <| Aw rfl <| Ak rfl <| Ab)) ?_
         refine A4 rfl (A6 (k := (wa % l.length)) B3 (Ak rfl <| Ab) hr.eds.plain (Ab) rfl (by omega)) ?_
         refine A4 rfl (Bm B2 (Ab)) ?_
         refine A4 rfl (Ao B8 (Ab) (hr.eds.cell (by omega) rfl)) ?_
         refine A4 rfl (Ae (A8 rfl <| Aw rfl <| Ar rfl <| Ak rfl <| Ab)) ?_
         refine A4 rfl (A6 (k := (ownL s l (wa % l.length))[q]) Bd (Ak rfl <| Ab) hrx.plain (Ab) rfl hpx) ?_
         refine A4 rfl (Ao Bj (Ab) (hrx.cell1 hpx rfl)) ?_
         refine A4 rfl (Bz (A8 rfl <| Ak rfl <| Ab) (Ab)) ?_
         refine A4 rfl (Ae (Ab)) ?_
         refine Bu rfl rfl (Ab) (.inl (congrArg Value.bool (by rw [er1, er2]; exact hsh))) rfl ?_
         refine Bu rfl rfl (Ak rfl <| Ab) (.inl (congrArg Value.bool (by rw [er1, er2]; exact hsh))) rfl ?_
         refine Bu rfl rfl (Ar rfl <| Ab) (.inl (congrArg Value.bool (by rw [er1, er2]; exact hsh))) rfl ?_
         refine Bu rfl rfl (Ar rfl <| Ak rfl <| Ab) (.inl (congrArg Value.bool (by rw [er1, er2]; exact hsh))) rfl ?_
         refine Bu rfl rfl (Aw rfl <| Ab) (.inl (congrArg Value.bool (by rw [er1, er2]; exact hsh))) rfl ?_
         refine Bu rfl rfl (Aw rfl <| Ak rfl <| Ab) (.inl (congrArg Value.bool (by rw [er1, er2]; exact hsh))) rfl ?_
         refine Bu rfl rfl (Aw rfl <| Ar rfl <| Ab) (.inl (congrArg Value.bool (by rw [er1, er2]; exact hsh))) rfl ?_
         refine Bu rfl rfl (Aw rfl <| Ar rfl <| Ak rfl <| Ab) (.inl (congrArg Value.bool (by rw [er1, er2]; exact hsh))) rfl ?_
         refine Bu rfl rfl (A8 rfl <| Ab) (.inl (congrArg Value.bool (by rw [er1, er2]; exact hsh))) rfl ?_
         refine Bu rfl rfl (A8 rfl <| Ak rfl <| Ab) (.inl (congrArg Value.bool (by rw [er1, er2]; exact hsh))) rfl ?_
         refine Bu rfl rfl (A8 rfl <| Ar rfl <| Ab) (.inl (congrArg Value.bool (by rw [er1, er2]; exact hsh))) rfl ?_
         refine Bu rfl rfl (A8 rfl <| Ar rfl <| Ak rfl <| Ab) (.inl (congrArg Value.bool (by rw [er1, er2]; exact hsh))) rfl ?_
         refine Bu rfl rfl (A8 rfl <| Aw rfl <| Ab) (.inl (congrArg Value.bool (by rw [er1, er2]; exact hsh))) rfl ?_
         refine Bu rfl rfl (A8 rfl <| Aw rfl <| Ak rfl <| Ab) (.inl (congrArg Value.bool (by rw [er1, er2]; exact hsh))) rfl ?_
         refine Bu rfl rfl (A8 rfl <| Aw rfl <| Ar rfl <| Ab) (.inl (congrArg Value.bool (by rw [er1, er2]; exact hsh))) rfl ?_
         refine Bu rfl rfl (A8 rfl <| Aw rfl <| Ar rfl <| Ak rfl <| Ab) (.inl (congrArg Value.bool (by rw [er1, er2]; exact hsh))) rfl ?_
         refine Bu rfl rfl (A2 rfl <| Ab) (.inl (congrArg Value.bool (by rw [er1, er2]; exact hsh))) rfl ?_
         refine Bu rfl rfl (A2 rfl <| Ak rfl <| Ab) (.inl (congrArg Value.bool (by rw [er1, er2]; exact hsh))) rfl ?_
         refine Bu rfl rfl (A2 rfl <| Ar rfl <| Ab) (.inl (congrArg Value.bool (by rw [er1, er2]; exact hsh))) rfl ?_
         refine Bu rfl rfl (A2 rfl <| Ar rfl <| Ak rfl <| Ab) (.inl (congrArg Value.bool (by rw [er1, er2]; exact hsh))) rfl ?_
         refine Bu rfl rfl (A2 rfl <| Aw rfl <| Ab) (.inl (congrArg Value.bool (by rw [er1, er2]; exact hsh))) rfl ?_
         refine Bu rfl rfl (A2 rfl <| Aw rfl <| Ak rfl <| Ab) (.inl (congrArg Value.bool (by rw [er1, er2]; exact hsh))) rfl ?_
         refine A4 rfl (A9 (A2 rfl <| Aw rfl <| Ar rfl <| Ab) (by rw [er1, er2]; exact hsh) Ad) ?_
         refine C0 ?_
         refine Ac <| Ap (Ab) rfl ?_
         refine Ay <| Bf <| Ac <| Ai fun ds => Aa rfl (Ae (Ba rfl <| A2 rfl <| Aw rfl <| At rfl hs18)) ?_
         refine Aa rfl (Bx (Ab) Ad rfl (by omega) (by omega)) ?_
         refine Aa rfl (Af (Ab)) ?_
         refine Ah <| Ac ⟨_, m - 1, Off.eq (ou32 rfl <| C7 rfl <| Ed rfl <| ou2 rfl <| D0 rfl <| Bi), by omega, ?_⟩
         exact ⟨q + 1, by omega, (Ab), ((Ba rfl <| A2 rfl <| Aw rfl <| Ar rfl <| Ak rfl <| At rfl hs17)).trans (by rw [Dg hlq, if_neg (by rw [hsh]; simp)]), rfl⟩
       ·
        refine Ag <| Ag <| Ai fun ds => Aa rfl (Ae (At rfl hs18)) ?_
        refine Aa rfl (Ae (Ak rfl <| Al rfl <| Ba rfl <| A2 rfl <| A8 rfl <| Aw rfl <| Ak rfl <| Ab)) ?_
        refine Aa rfl (Bl Bd (Ab) hq1.plain) ?_
        refine Aa rfl (Bw (Ar rfl <| Ab) (Ab)) ?_
        refine Ah <| Ac <| Ap (Ab) (by first | rfl | exact decide_eq_false (by omega)) ?_
        obtain rfl : q = (ownL s l (wa % l.length)).length := by omega
        refine Bs ?_
        refine Bh <| Bh <| Bk <| Ac <| Ag <| Ai fun ds => Aa rfl (Ae (Aw rfl <| At rfl hs17)) ?_
        refine Aa rfl (Ae (Aw rfl <| Ak rfl <| Al rfl <| Ba rfl <| Ba rfl <| A2 rfl <| A8 rfl <| Ar rfl <| Ab)) ?_
        refine Aa rfl (Bz (Ak rfl <| Ab) (Ab)) ?_
        refine Aa rfl (Ae (Ab)) ?_
        refine Aq rfl rfl (Ab) (by rw [C6]; exact decide_eq_true ho3.symm) ?_
        refine B0 rfl (Bg bd_26 A1 .nil awake_ok (fun _ _ h => h)) ?_
        refine Aa rfl (A5 (Ak rfl <| Ab) (by rw [C6]; exact decide_eq_true ho3.symm) (Ab)) ?_
        refine Aa rfl (Af (Ab)) ?_
        refine Ah <| Ac <| A7 <| Ax rfl (.tmp (Ab) .nil) ?_
        rfl
  ·
   replace hft : fitsT s l = false := by simpa using hft
   refine Cn (.inl rfl) (fun _ _ h => h) (by kernel_rfl) (by kernel_rfl) fun ds => ?_
   refine A4 rfl (Bp (k := 0) ar_62 (A8 rfl <| Ar rfl <| Ab) Ad rfl (by decide)) ?_
   refine A4 rfl (Ao one_5 (Ab) (Cell.own 0 rfl rfl)) ?_
   refine A4 rfl (D2 ⟨_, Try.underlying5⟩ Try.underlying3 (Ab) (IntWalk.i64_in _ ⟨by omega, by omega⟩)) ?_
   refine A4 rfl (Ae (Ar rfl <| Ak rfl <| Ab)) ?_
   refine A4 rfl (Bl Bd (Ab) hl.plain) ?_
   refine A4 rfl (q_remN (Ar rfl <| Ab) (Ab) (by omega)) ?_
   refine A4 rfl (Bp (k := 1) ar_62 (A2 rfl <| Ab) Ad rfl (by decide)) ?_
   refine A4 rfl (Ao one_5 (Ab) (Cell.own 0 rfl rfl)) ?_
   refine A4 rfl (D2 ⟨_, Try.underlying5⟩ Try.underlying3 (Ab) (IntWalk.i64_in _ ⟨by omega, by omega⟩)) ?_
   refine A4 rfl (Ae (A8 rfl <| Ak rfl <| Ab)) ?_
   refine A4 rfl (Bl Bd (Ab) hl.plain) ?_
   refine A4 rfl (q_remN (Ar rfl <| Ab) (Ab) (by omega)) ?_
   refine A4 rfl (Af (Aw rfl <| Ar rfl <| Ab)) ?_
   refine A4 rfl (Af (Ak rfl <| Ab)) ?_
   refine C0 ?_
   refine Ac <| Ag <| Ai fun ds => Aa rfl (Bc B5 (A2 rfl <| A8 rfl <| Ak rfl <| Ab) rfl rfl (Bb 1 rfl)) ?_
   refine Aa rfl (Ae (A8 rfl <| Aw rfl <| Ar rfl <| Ak rfl <| Ab)) ?_
   refine Aa rfl (Ae (Ar rfl <| Ak rfl <| Ab)) ?_
   refine B0 rfl (Bg bd_37 A1 (.cons (Ar rfl <| Ab) (.cons (Ak rfl <| Ab) (.cons (Ab) .nil))) (Du hr hl _) (fun _ _ h => h.trans (secE_bad (secErr_3 hok hib hft) (by decide)))) ?_
   refine Aa rfl (Ae (Ab)) ?_
   refine Aa rfl (Az (Ab) rfl) ?_
   refine Aa rfl (Az (Ak rfl <| Ab) rfl) ?_
   refine Aa rfl (Az (Ar rfl <| Ab) rfl) ?_
   refine Aa rfl (Af (Ar rfl <| Ab)) ?_
   refine Aa rfl (Af (Ar rfl <| Ab)) ?_
   refine Aa rfl (Af (Ar rfl <| Ab)) ?_
   refine Ah <| Ac <| Ag <| Ai fun ds => Aa rfl (Bc B5 (Ba rfl <| Aw rfl <| Ab) rfl rfl (Bb 1 rfl)) ?_
   refine Aa rfl (Ae (A2 rfl <| A8 rfl <| Ar rfl <| Ab)) ?_
   refine Bn rfl (Cj bd_23 A1 (.cons (Ak rfl <| Ab) (.cons (Ab) .nil)) (Ej hr hl) fun v29 F30 hr31 hF32 => ?_)
   have hys0 := hr31
   rw [yearsE_down hok (by unfold fitsT at hft; exact hft)] at hys0
   obtain ⟨vy, rfl, hys⟩ := hys0
   refine Aa rfl (Ae (Ab)) ?_
   refine Aa rfl (Az (Ab) rfl) ?_
   refine Aa rfl (Az (Ak rfl <| Ab) rfl) ?_
   refine Aa rfl (Af (Ak rfl <| Ab)) ?_
   refine Aa rfl (Af (Ak rfl <| Ab)) ?_
   refine Ah <| Ac <| Ag <| Ag <| Ai fun ds => Aa rfl (Ae (Ab)) ?_
   refine Aa rfl (B1 (Ab) Ad) ?_
   refine Aa rfl (Ae (Ab)) ?_
   refine Au rfl rfl (Ab) (.inl (congrArg Value.bool (by decide))) rfl ?_
   refine Au rfl rfl (Ak rfl <| Ab) (.inl (congrArg Value.bool (by decide))) rfl ?_
   refine Au rfl rfl (Ar rfl <| Ab) (.inl (congrArg Value.bool (by decide))) rfl ?_
   refine Au rfl rfl (Ar rfl <| Ak rfl <| Ab) (.inl (congrArg Value.bool (by decide))) rfl ?_
   refine Au rfl rfl (Aw rfl <| Ab) (.inl (congrArg Value.bool (by decide))) rfl ?_
   refine Aa rfl (A5 (Aw rfl <| Ak rfl <| Ab) (by decide) Ad) ?_
   refine Ah <| Ac <| As (Ab) rfl ?_
   refine Ag <| Ai fun ds => Aa rfl (Ae (A2 rfl <| Ak rfl <| Ab)) ?_
   refine Aa rfl (B1 (Ab) Ad) ?_
   refine Aa rfl (Ae (Ab)) ?_
   refine Aq rfl rfl (Ab) (by decide) ?_
   refine Aa rfl (Ae (A8 rfl <| Aw rfl <| Ab)) ?_
   refine Aq rfl rfl (Ak rfl <| Ab) (by decide) ?_
   refine Aa rfl (Bz (Ab) Ad) ?_
   refine Aq rfl rfl (Ar rfl <| Ab) (by decide) ?_
   refine Aa rfl (Ae (Ab)) ?_
   refine Au rfl rfl (Ab) (.inl (congrArg Value.bool (by decide))) rfl ?_
   refine Au rfl rfl (Ak rfl <| Ab) (.inl (congrArg Value.bool (by decide))) rfl ?_
   refine Aq rfl rfl (Aw rfl <| Ak rfl <| Ab) (by decide) ?_
   refine Aa rfl (A9 (Ar rfl <| Ab) (by decide) Ad) ?_
   refine Aq rfl rfl (Aw rfl <| Ar rfl <| Ab) (by decide) ?_
   refine Aa rfl (Ae (Ab)) ?_
   refine Aq rfl rfl (Ab) rfl ?_
   refine Aa rfl (Ae (A2 rfl <| A8 rfl <| Ar rfl <| Ak rfl <| Ab)) ?_
   refine Aq rfl rfl (Ak rfl <| Ab) rfl ?_
   refine Aa rfl (Ae (A2 rfl <| Aw rfl <| Ab)) ?_
   refine Aq rfl rfl (Ar rfl <| Ab) rfl ?_
   refine Aa rfl (Bz (Ak rfl <| Ab) (Ab)) ?_
   refine Aq rfl rfl (A8 rfl <| Ar rfl <| Ab) (by decide) ?_
   refine Aa rfl (A9 (Ar rfl <| Ak rfl <| Ab) rfl (Ab)) ?_
   refine Aa rfl (A5 (A8 rfl <| Ar rfl <| Ak rfl <| Ab) (by decide) (Ab)) ?_
   refine Aa rfl (Ae (Ab)) ?_
   refine Aq rfl rfl (Ab) (by decide) ?_
   refine B0 rfl (Bg bd_26 A1 .nil awake_ok (fun _ _ h => h)) ?_
   refine Aa rfl (A5 (Ak rfl <| Ab) (by decide) (Ab)) ?_
   refine Aa rfl (Af (Ab)) ?_
   refine Ah <| Ac <| A7 <| Be ?_
   refine Ax rfl (.tmp (Ab) .nil) ?_
   rfl
 ·
  refine Ag <| Ai fun ds => Bn rfl (B7 (Aj rfl) rfl fun b33 hb33 nb33 => ?_)
  refine Bn rfl (B7 (Ak rfl <| Aj rfl) rfl fun b34 hb34 nb34 => ?_)
  refine Aa rfl (Af Ad) ?_
  refine Ah <| Ac <| Ag <| Ag <| Ai fun ds => Aa rfl (Bc B5 (Ar rfl <| Ab) rfl rfl (Bb 1 rfl)) ?_
  refine B0 rfl (Bg bd_40 A1 (.cons (Ab) .nil) (valid_ok hr) (fun _ _ h => h)) ?_
  refine Aa rfl (Cp (Ab)) ?_
  refine Ah <| Ac <| As (Ab) (by simp [h0]) ?_
  refine Ag <| Ai fun ds => B0 rfl (Bg bd_26 A1 .nil awake_ok (fun _ _ h => h)) ?_
  refine Aa rfl (Af (Ab)) ?_
  refine Ah <| Ac <| A7 <| Be ?_
  refine Ax rfl (.tmp (Ab) .nil) ?_
  rfl
end Go.Proofs.Ytccogmkhijgelaa
namespace Go.Proofs.Ytccogmkhijgelaa
open Go.ChangeShapes Go.WideShapes Go.ChangeAt Go.RowKit
set_option maxRecDepth 100000 in
theorem stemSecondLifted (os : Os) (started : os.Started) (H : Type) (enc : TypeId × Value → H) :
   ReturnsInHanded {} Try.checked os 15 .any (Rows.stemSecondSpec.pre6 enc Try.prog Try.f15 Rows.stemSecondRow.domain false) (Rows.stemSecondSpec.post enc Try.prog Try.f15 false true false false) := by
 refine returnsInHanded_of_change_sized (C := Try.checked) ownKnob0 started (by kernel_rfl) Try.func15
   (ChangeSpec.witness6 (enc := enc) (C := Try.checked) false ⟨#[], #[.agg #[.slice none 0 0, .slice none 0 0], .slice none 0 0, .agg #[.int .u8 0, .int .u8 0]], []⟩ 8 (by kernel_rfl) (by kernel_rfl) (by kernel_rfl) (by kernel_rfl)) ?_
 intro W base args ds gs before hval0 hW hcnd hsz _
 have hval : ∀ (j : Nat) t v, Try.f15.params[j]? = some t → args[j]? = some v → Value.okWide Try.prog W .any base t v := hval0
 have hW' := hW
 obtain ⟨p, q, hA0, hV, rfl, hfz, hnd⟩ := hW
 have hA : DataW.TrodAll enc Try.prog W 0 (fun _ => true) true Try.f15.params.toList args.toList ds p := hA0
 rw [Try.params15] at hA hval
 obtain ⟨v0, vs0, d0, ds0, p0, q0, hargs, rfl, rfl, h0, r0⟩ := trodAll_cons hA
 obtain ⟨v1, vs1, d1, ds1, p1, q1, rfl, rfl, rfl, h1, r1⟩ := trodAll_cons r0
 obtain ⟨v2, vs2, d2, ds2, p2, q2, rfl, rfl, rfl, h2, r2⟩ := trodAll_cons r1
 obtain ⟨rfl, rfl, rfl⟩ := trodAll_nil r2
 obtain rfl : args = #[v0, v1, v2] := by cases args; simp_all
 obtain ⟨rfl, rfl⟩ := trodVars_none hV
 have hsz' : (DataW.weightsEach Try.prog (Try.f15.params.toList ++ []) ([d0, d1, d2] ++ [])).all (· ≤ reachBytes) = true := hsz
 rw [Try.params15] at hsz'
 have k0 := h0
 have lt0 : ∀ x ∈ p0, x.block < W.heap.size := by obtain ⟨m, hm⟩ := k0; exact DataW.trod_lt m _ _ _ hm
 have k1 := h1
 have lt1 : ∀ x ∈ p1, x.block < W.heap.size := by obtain ⟨m, hm⟩ := k1; exact DataW.trod_lt m _ _ _ hm
 have k2 := h2
 have lt2 : ∀ x ∈ p2, x.block < W.heap.size := by obtain ⟨m, hm⟩ := k2; exact DataW.trod_lt m _ _ _ hm
 obtain ⟨vp, ve, ps, s, rfl, hr⟩ := arg_stem (hval 0 25 v0 rfl rfl) h0 (weights_at hsz' (j := 0) rfl rfl)
 obtain ⟨xs, hxs, hxb⟩ := arg_bytes (hval 1 50 v1 rfl rfl) h1 (weights_at hsz' (j := 1) rfl rfl)
 obtain ⟨wa, wb, rfl, hwa, hwb⟩ := arg_two (hval 2 62 v2 rfl rfl) h2 (weights_at hsz' (j := 2) rfl rfl)
 clear hA0 hval0
 refine (Ok.law (secondLaw_ok hr hxs hxb hwa hwb)).mono fun e W' ⟨he, bel⟩ => ?_
 subst he
 exact ⟨_, rfl, _, _, _, [], _, [], hW', trodAll_mk1 (shut_bool Try.underlying4 _), (trodAll_cons_mk (Below.trod laidOut (by kernel_rfl) (of_decide_eq_true (by kernel_rfl)) k0 bel lt0) (trodAll_cons_mk (Below.trod laidOut (by kernel_rfl) (of_decide_eq_true (by kernel_rfl)) k1 bel lt1) (trodAll_cons_mk (Below.trod laidOut (by kernel_rfl) (of_decide_eq_true (by kernel_rfl)) k2 bel lt2) trodAll_mk0))), rfl, bel.frame _, fun h => by cases h⟩
theorem stemSecond : Rows.StemSecondSaid :=
 OpenClaim.holds_of_wide 15 Try.f15 rfl rfl rfl rfl rfl rfl rfl ⟨rfl, rfl, rfl, rfl, rfl⟩ rfl rfl rfl rfl rfl (by kernel_rfl) Try.func15 (by kernel_rfl)
   (of_decide_eq_true (by kernel_rfl)) (by unfold Func.isWrapper; first | (rw [if_pos (by decide +kernel)]; kernel_rfl) | (rw [if_neg (by decide +kernel)]; exact ⟨rfl, rfl⟩))
   (fun os started H enc _ => stemSecondLifted os started H enc)
#print axioms stemSecond
end Go.Proofs.Ytccogmkhijgelaa
