/-
  StemMore returns true of any stem, numbers, edition, place and reading, and leaves what it is handed as it was. No conditions.
-/
import Derived.Test.YtccogmkhijgelaaPae
namespace Go.Proofs.Ytccogmkhijgelaa
open Go.RowKit
theorem ar_68 : ArrT Try.prog 68 3 5 1 := arrT_of (by kernel_rfl)
theorem el_70 : ElemT Try.prog 70 2 24 (.agg #[.string ⟨#[]⟩, .int .i64 0]) := elemT_of (by kernel_rfl) rfl (by decide)
theorem sz_22 : SizeT Try.prog 22 1 := Cx (by kernel_rfl)
set_option maxRecDepth 100000 in
set_option maxHeartbeats 2000000 in
theorem moreLaw_ok {F : Heap} {vp ve : Value} {ps : List (Value × Edn)} {s : Stm} (hr : StmR F vp ve ps s) {vx : Value} {xs : List Nat} (hxs : Sl F vx 1 u8E xs) (hxb : ∀ x ∈ xs, x < 256) {wa wb wc : Nat} (hwa : wa < 256) (hwb : wb < 256) (hwc : wc < 256) : Ok Try.prog 11 [.agg #[vp, ve], vx, .agg #[.int .u8 (wa : Int), .int .u8 (wb : Int), .int .u8 (wc : Int)]].toArray F fun u _ => u = .bool true := by
 have hle0 : F.le F := Heap.le_refl _
 refine Ok.intro Try.func11 rfl Try.ntmps11 rfl fun w0 => ?_
 have hL1 := hr.eds.plain.lt
 have hL2 := hr.places.plain.lt
 have hlen := hr.len
 by_cases h0 : (checkT s).2.2 = 0
 ·
  have hv := Cw h0
  have hne := hv.ne
  have hnp := hv.np
  refine Af <| Ai fun ds => Bg rfl (B4 (Ak rfl) rfl fun b1 hb1 nb1 => ?_)
  refine Bg rfl (B4 (Am rfl <| Ak rfl) rfl fun b2 hb2 nb2 => ?_)
  refine Aa rfl (Ae Ad) ?_
  refine Ah <| Ac <| Af <| Af <| Ai fun ds => Aa rfl (A8 B2 (Aq rfl <| Ab) rfl rfl (A7 1 rfl)) ?_
  refine Bx rfl (Ba bd_40 Az (.cons (Ab) .nil) (valid_ok hr) (fun _ _ h => h)) ?_
  refine Aa rfl (Cr (Ab)) ?_
  refine Ah <| Ac <| Ao (Ab) (by simp [h0]) ?_
  refine Ax <| Ac <| Af <| Ai fun ds => Aa rfl (Al Bo (A1 rfl <| Am rfl <| Ab)) ?_
  refine Aa rfl (Ap By (Ab) (Cell.own 1 rfl rfl)) ?_
  refine Aa rfl (Bk B1 (Ab) hr.eds.plain) ?_
  refine Aa rfl (Ag (A5 rfl <| Am rfl <| Ak rfl)) ?_
  refine Bg rfl (Cp bd_41 Az (.cons (Am rfl <| Ab) (.cons (Ab) .nil)) (tree_ok7 hxs hxb (many := ps.length) (by omega) (by omega)) fun v3 F4 hr5 hF6 => ?_)
  replace hr := hr.mono hF6
  replace hle0 := Heap.le_trans hle0 hF6
  obtain ⟨l, hl, hll0, ht⟩ := hr5
  have hll : l.length = s.editions.length := by omega
  have hok := tree_err0 h0 hll ht
  obtain ⟨hl_v, hlv⟩ : ∃ y, y = v3 := ⟨_, rfl⟩
  subst hlv
  refine Aa rfl (Ae (Ab)) ?_
  refine Ah <| Ac <| Af ?_
  have hxe : (wa % ps.length) < s.editions.length := by have : (wa % ps.length) < ps.length := Nat.mod_lt _ (by omega); omega
  have hpe : (wb % s.places.length) < s.places.length := Nat.mod_lt _ (by omega)
  have hxp : (wa % ps.length) < ps.length := by omega
  have hw3 : wc % 3 < 3 := Nat.mod_lt _ (by decide)
  have hcb := Er (s := s) (l := l)
  have hrx := hr.rd hxp
  have hpx : (wb % s.places.length) < (s.ed (wa % ps.length)).rd.length := by rw [hv.rdl _ hxe]; exact hpe
  have er := rdT_at hpx
  have hok1 := tree_err0 (one_check h0 hpe) (show l.length = (oneS s (wb % s.places.length)).editions.length from hll) ht
  have hok2 : treeErr (setS s (wa % ps.length) (wb % s.places.length) (1 + ((wc % 3 : Nat) : Int))) l = 0 := tree_err_set h0 ht hll hxe (by omega)
  have hcb1 := Er (s := (oneS s (wb % s.places.length))) (l := l)
  have hcb2 := Er (s := (setS s (wa % ps.length) (wb % s.places.length) (1 + ((wc % 3 : Nat) : Int)))) (l := l)
  refine Dh (.inl rfl) (fun _ _ h => h) (by kernel_rfl) (by kernel_rfl) fun ds => ?_
  refine Bm rfl (Bq (k := 0) ar_68 (A5 rfl <| Aq rfl <| Ab) Ad rfl (by decide)) ?_
  refine Bm rfl (Ap one_5 (Ab) (Cell.own 0 rfl rfl)) ?_
  refine Bm rfl (q_convert ⟨_, Try.underlying5⟩ Try.underlying3 (Ab) (IntWalk.i64_in _ ⟨by omega, by omega⟩)) ?_
  refine Bm rfl (Al Bo (A5 rfl <| A1 rfl <| Aq rfl <| Ab)) ?_
  refine Bm rfl (Ap By (Ab) (Cell.own 1 rfl rfl)) ?_
  refine Bm rfl (Bk B1 (Ab) hr.eds.plain) ?_
  refine Bm rfl (q_remN (Aq rfl <| Am rfl <| Ab) (Ab) (by omega)) ?_
  refine Bm rfl (Bq (k := 1) ar_68 (A2 rfl <| Am rfl <| Ab) Ad rfl (by decide)) ?_
  refine Bm rfl (Ap one_5 (Ab) (Cell.own 0 rfl rfl)) ?_
  refine Bm rfl (q_convert ⟨_, Try.underlying5⟩ Try.underlying3 (Ab) (IntWalk.i64_in _ ⟨by omega, by omega⟩)) ?_
  refine Bm rfl (Al Cn (A2 rfl <| A1 rfl <| Am rfl <| Ab)) ?_
  refine Bm rfl (Ap Cz (Ab) (Cell.own 1 rfl rfl)) ?_
  refine Bm rfl (Bk C1 (Ab) hr.places.plain) ?_
  refine Bm rfl (q_remN (Aq rfl <| Am rfl <| Ab) (Ab) (by omega)) ?_
  refine Bm rfl (Bq (k := 2) ar_68 (A2 rfl <| A5 rfl <| Ab) Ad rfl (by decide)) ?_
  refine Bm rfl (Ap one_5 (Ab) (Cell.own 0 rfl rfl)) ?_
  refine Bm rfl (q_convert ⟨_, Try.underlying5⟩ Try.underlying3 (Ab) (IntWalk.i64_in _ ⟨by omega, by omega⟩)) ?_
  refine Bm rfl (q_remN (b := 3) (Ab) Ad (by decide)) ?_
  refine Bm rfl (Bt Ad (Ab) rfl (by omega) (by omega)) ?_
  refine Bm rfl (Ae (A5 rfl <| A1 rfl <| Ab)) ?_
  refine Bm rfl (Ae (A1 rfl <| Aq rfl <| Ab)) ?_
  refine Bm rfl (Ae (Aq rfl <| Ab)) ?_
  refine D8 ?_
  refine Ac <| Af <| Ai fun ds => Aa rfl (A8 B2 (Bl rfl <| Am rfl <| Ab) rfl rfl (A7 1 rfl)) ?_
  refine Aa rfl (Ag (A2 rfl <| A1 rfl <| Aq rfl <| Am rfl <| Ab)) ?_
  refine Bx rfl (Ba bd_21 Az (.cons (Am rfl <| Ab) (.cons (Ab) .nil)) (Cv hr hl) (fun _ _ h => h.trans (show changesEV s l = .tuple #[.int .i64 (changesE s l).1, .int .i64 (changesE s l).2] from rfl))) ?_
  refine Aa rfl (Ag (Ab)) ?_
  refine Aa rfl (Ay (Ab) rfl) ?_
  refine Aa rfl (Ay (Am rfl <| Ab) rfl) ?_
  refine Aa rfl (Ae (Am rfl <| Ab)) ?_
  refine Aa rfl (Ae (Am rfl <| Ab)) ?_
  refine Ah <| Ac <| Af <| Ai fun ds => Aa rfl (A8 B2 (Bl rfl <| A5 rfl <| Am rfl <| Ab) rfl rfl (A7 1 rfl)) ?_
  refine Bg rfl (B6 zr_25 rfl fun b7 hb7 nb7 => ?_)
  refine Cc (Ca sz_25 (Ab) (Am rfl <| Ab) (i := 0) rfl rfl rfl rfl hr.ones (.here) ?_)
  refine Ah <| Ac <| Af <| Ai fun ds => Bg rfl (x_build0 C1 fun b8 hb8 nb8 => ?_)
  refine Aa rfl (Al Cn (Bl rfl <| A5 rfl <| A1 rfl <| Ab)) ?_
  refine Aa rfl (Ap Cz (Ab) (Cell.own 3 rfl rfl)) ?_
  refine Bg rfl (Cg C1 el_70 (Aq rfl <| Ab) (Eg rfl) (Ab) (hr.places.src (fun _ => rfl) (fun _ => Plc.enc_one)) (by omega) (by omega) (.z) .box fun v9 R10 ho11 => ?_)
  have hoP : Own 70 2 v9 s.places.length (s.places.flatMap Plc.enc) R10 := by simpa using ho11
  refine Aa rfl (Al Cn (A1 rfl <| Ab)) ?_
  refine Ds (.one (.skip <| .here) <| .one (.skip <| .here) <| .one (.lastS) <| .lastb (.last)) ?_
  refine Cc (Cd sz_22 (Ab) (Am rfl <| Ab) (i := 0) rfl (.here) (Own.one hoP) (.here) ?_)
  refine Ah <| Ac <| Af <| Ai fun ds => Aa rfl (Al Cn (A1 rfl <| Am rfl <| Ab)) ?_
  refine Aa rfl (Ap Cz (Ab) (Cell.own 0 rfl rfl)) ?_
  refine Aa rfl (Ag (A2 rfl <| Aq rfl <| Ab)) ?_
  refine Aa rfl (Be (k := (wb % s.places.length)) C1 (Am rfl <| Ab) (hoP.plain (by omega)) (Ab) rfl hpe) ?_
  refine Aa rfl (Bs fd_70_1 (Ab)) ?_
  refine Cc (x_storeR sz_3 (Ab) Ad hoP (by rw [Dp (enc := Plc.enc) (s := 2) (fun _ => rfl)]; omega) rfl (.s <| .s <| .s <| .z) .last fun R12 ho13 => ?_)
  have hoP2 := pl_own_set ho13 hpe
  refine Ah <| Ac <| Af <| Cj (σ := ⟨_, _⟩) (by rfl) hoP2 (.s <| .s <| .s <| .z) .last fun F14 hF15 hz16 => ?_
  replace hr := hr.mono hF15
  replace hle0 := Heap.le_trans hle0 hF15
  replace hl := hl.mono hF15
  replace hrx := hrx.mono hF15
  have hop1 := hoP2.sl (fun _ => rfl) hz16 (by simp only [oneS, List.length_set]; omega)
  refine B9 (i := 0) rfl hb7 (.here) fun F17 hF18 hz13 => ?_
  replace hr := hr.mono hF18
  replace hle0 := Heap.le_trans hle0 hF18
  replace hl := hl.mono hF18
  replace hrx := hrx.mono hF18
  replace hop1 := hop1.mono hF18
  have hr1 := hr.kind hop1
  refine Ai fun ds => Aa rfl (A8 B2 (A5 rfl <| Aq rfl <| Ab) rfl rfl (Cm hz13)) ?_
  refine Aa rfl (Ag (Bl rfl <| A5 rfl <| Aq rfl <| Am rfl <| Ab)) ?_
  refine Bx rfl (Ba bd_21 Az (.cons (Am rfl <| Ab) (.cons (Ab) .nil)) (Cv hr1 hl) (fun _ _ h => h.trans (show changesEV (oneS s (wb % s.places.length)) l = .tuple #[.int .i64 (changesE (oneS s (wb % s.places.length)) l).1, .int .i64 (changesE (oneS s (wb % s.places.length)) l).2] from rfl))) ?_
  refine Aa rfl (Ag (Ab)) ?_
  refine Aa rfl (Ay (Ab) rfl) ?_
  refine Aa rfl (Ay (Am rfl <| Ab) rfl) ?_
  refine Aa rfl (Ae (Am rfl <| Ab)) ?_
  refine Aa rfl (Ae (Am rfl <| Ab)) ?_
  refine Ah <| Ac <| Af <| Af <| WC_cut [75, 76, 77, 78, 79, 80, 81, 82, 83, 84, 85] (fun st σ => st 85 = .bool false ∧ σ = ⟨F17, [(b2, bx 68 [.int .u8 (wa : Int), .int .u8 (wb : Int), .int .u8 (wc : Int)]), (b1, bx 25 [vp, ve])]⟩) ?_ ?_
  ·
   by_cases hc2 : costL (oneS s (wb % s.places.length)) l = 1000
   ·
    have hce2 := Eb hok1 hc2
    refine Ai fun ds => Aa rfl (Ag (Ab)) ?_
    refine Aa rfl (Bw (Ab) Ad) ?_
    refine Aa rfl (Ag (Ab)) ?_
    refine Au rfl rfl (Ab) (.inl (congrArg Value.bool (by rw [hce2]; decide))) rfl ?_
    refine Au rfl rfl (Am rfl <| Ab) (.inl (congrArg Value.bool (by rw [hce2]; decide))) rfl ?_
    refine Au rfl rfl (Aq rfl <| Ab) (.inl (congrArg Value.bool (by rw [hce2]; decide))) rfl ?_
    refine Au rfl rfl (Ab) (.inr rfl) rfl ?_
    refine Au rfl rfl (Am rfl <| Ab) (.inr rfl) rfl ?_
    refine Au rfl rfl (Aq rfl <| Ab) (.inr rfl) rfl ?_
    refine Au rfl rfl (A1 rfl <| Aq rfl <| Ab) (.inl (congrArg Value.bool (by rw [hce2]; decide))) rfl ?_
    refine Aa rfl (Bc (A1 rfl <| Aq rfl <| Am rfl <| Ab) (by rw [hce2]; decide) Ad) ?_
    refine Ah <| Ac ⟨_, Off.eq (D1 rfl <| ou2 rfl <| Dy rfl <| D9), ?_⟩
    exact ⟨(Ab), rfl⟩
   ·
    have hce2 := Dd hok1 hc2
    obtain ⟨q1, q2⟩ := one_le h0 hpe hll ht (show costL (oneS s (wb % s.places.length)) l < 1000 by omega)
    have hce := Dd hok (show costL s l ≠ 1000 by omega)
    refine Ai fun ds => Aa rfl (Ag (Ab)) ?_
    refine Aa rfl (Bw (Ab) Ad) ?_
    refine Aa rfl (Ag (Ab)) ?_
    refine As rfl rfl (Ab) (by rw [hce2]; exact decide_eq_true rfl) ?_
    refine Aa rfl (Ag (A2 rfl <| A1 rfl <| Aq rfl <| Am rfl <| Ab)) ?_
    refine As rfl rfl (Am rfl <| Ab) (by rw [hce2]; exact decide_eq_true rfl) ?_
    refine Aa rfl (B3 (Ab) Ad) ?_
    refine As rfl rfl (Aq rfl <| Ab) (by rw [hce2]; exact decide_eq_true rfl) ?_
    refine Aa rfl (Ag (Ab)) ?_
    refine As rfl rfl (Ab) (by rw [hce]; exact decide_eq_false (fun h => h rfl)) ?_
    refine Aa rfl (Ag (A1 rfl <| Aq rfl <| Am rfl <| Ab)) ?_
    refine As rfl rfl (Am rfl <| Ab) (by rw [hce]; exact decide_eq_false (fun h => h rfl)) ?_
    refine Aa rfl (Ag (A2 rfl <| A5 rfl <| A1 rfl <| Ab)) ?_
    refine As rfl rfl (Aq rfl <| Ab) (by rw [hce]; exact decide_eq_false (fun h => h rfl)) ?_
    refine Aa rfl (Bv (Am rfl <| Ab) (Ab)) ?_
    refine As rfl rfl (A1 rfl <| Aq rfl <| Ab) (by rw [hce2]; exact decide_eq_true rfl) ?_
    refine Aa rfl (Bc (Aq rfl <| Am rfl <| Ab) (by rw [hce]; exact decide_eq_false (fun h => h rfl)) (Ab)) ?_
    refine Aa rfl (A6 (A1 rfl <| Aq rfl <| Am rfl <| Ab) (by rw [hce2]; exact decide_eq_true rfl) (Ab)) ?_
    refine Ah <| Ac ⟨_, Off.eq (D1 rfl <| ou2 rfl <| Dy rfl <| D9), ?_⟩
    exact ⟨((Ab)).trans (congrArg Value.bool (by rw [hce2, hce]; exact decide_eq_false (by simp only; omega))), rfl⟩
  rintro e10 _ ⟨hc85, rfl⟩
  refine Ao (At rfl hc85) rfl ?_
  refine Ax <| Ac <| Af <| Af <| Ai fun ds => Aa rfl (Al Bo (Aj rfl <| Bl rfl <| A2 rfl <| A5 rfl <| A1 rfl <| Am rfl <| Ab)) ?_
  refine Aa rfl (Ap By (Ab) (Cell.own 1 rfl rfl)) ?_
  refine Aa rfl (Ag (Aq rfl <| Aj rfl <| A2 rfl <| A5 rfl <| A1 rfl <| Aq rfl <| Ab)) ?_
  refine Aa rfl (Be (k := (wa % ps.length)) B1 (Am rfl <| Ab) hr.eds.plain (Ab) rfl hxp) ?_
  refine Aa rfl (Bs Cb (Ab)) ?_
  refine Aa rfl (Ap Ch (Ab) (hr.eds.cell hxp rfl)) ?_
  refine Aa rfl (Ag (A1 rfl <| Aq rfl <| Aj rfl <| A2 rfl <| A5 rfl <| A1 rfl <| Am rfl <| Ab)) ?_
  refine Aa rfl (Be (k := (wb % s.places.length)) Bj (Am rfl <| Ab) hrx.plain (Ab) rfl hpx) ?_
  refine Aa rfl (Ap Bn (Ab) (hrx.cell1 hpx rfl)) ?_
  refine Aa rfl (Bw (Ab) Ad) ?_
  refine Ah <| Ac <| WC_cut [6, 14, 15, 96, 97, 98, 99, 100, 101, 102, 103, 104, 105, 106, 107, 108, 109, 110, 111, 112, 113, 114, 115, 116] (fun st σ => ∃ G, F.le G ∧ StmR G vp ve ps s ∧ Ints G hl_v l ∧ σ = ⟨G, [(b2, bx 68 [.int .u8 (wa : Int), .int .u8 (wb : Int), .int .u8 (wc : Int)]), (b1, bx 25 [vp, ve])]⟩) ?_ ?_
  ·
   by_cases hk0 : s.r (wa % ps.length) (wb % s.places.length) = 0
   ·
    refine Ar (Ab) (by rw [er]; exact decide_eq_true hk0) ?_
    by_cases hc2 : costL (setS s (wa % ps.length) (wb % s.places.length) (1 + ((wc % 3 : Nat) : Int))) l = 1000
    ·
     have hce2 := Eb hok2 hc2
     refine Af <| Ai fun ds => Aa rfl (A8 B2 (A5 rfl <| Aq rfl <| Aj rfl <| Bl rfl <| A2 rfl <| A5 rfl <| A1 rfl <| Am rfl <| Ab) rfl rfl (A7 1 rfl)) ?_
     refine Aa rfl (Ag (A5 rfl <| Aq rfl <| Am rfl <| Aj rfl <| A2 rfl <| A5 rfl <| A1 rfl <| Aq rfl <| Ab)) ?_
     refine Aa rfl (Ag (A5 rfl <| A1 rfl <| Aj rfl <| A2 rfl <| A5 rfl <| A1 rfl <| Am rfl <| Ab)) ?_
     refine Aa rfl (Ag (A5 rfl <| A1 rfl <| Am rfl <| Aj rfl <| A2 rfl <| A5 rfl <| A1 rfl <| Ab)) ?_
     refine Bg rfl (Cp bd_45 Az (.cons (Aq rfl <| Am rfl <| Ab) (.cons (Aq rfl <| Ab) (.cons (Am rfl <| Ab) (.cons (Ab) .nil)))) (with_ok7 hr hv hxe hpe _) fun v19 F20 hr21 hF22 => ?_)
     replace hr := hr.mono hF22
     replace hle0 := Heap.le_trans hle0 hF22
     replace hl := hl.mono hF22
     obtain ⟨ve2, ps2, rfl, hr2⟩ := hr21
     refine Aa rfl (Ag (A5 rfl <| A1 rfl <| Aq rfl <| Am rfl <| Aj rfl <| Bl rfl <| A2 rfl <| Aq rfl <| Ab)) ?_
     refine Bx rfl (Ba bd_21 Az (.cons (Am rfl <| Ab) (.cons (Ab) .nil)) (Cv hr2 hl) (fun _ _ h => h.trans (show changesEV (setS s (wa % ps.length) (wb % s.places.length) (1 + ((wc % 3 : Nat) : Int))) l = .tuple #[.int .i64 (changesE (setS s (wa % ps.length) (wb % s.places.length) (1 + ((wc % 3 : Nat) : Int))) l).1, .int .i64 (changesE (setS s (wa % ps.length) (wb % s.places.length) (1 + ((wc % 3 : Nat) : Int))) l).2] from rfl))) ?_
     refine Aa rfl (Ag (Ab)) ?_
     refine Aa rfl (Ay (Ab) rfl) ?_
     refine Aa rfl (Ay (Am rfl <| Ab) rfl) ?_
     refine Aa rfl (Ae (Am rfl <| Ab)) ?_
     refine Aa rfl (Ae (Am rfl <| Ab)) ?_
     refine Ah <| Ac <| Af <| Ai fun ds => Aa rfl (Ag (Ab)) ?_
     refine Aa rfl (Bw (Ab) Ad) ?_
     refine Aa rfl (Ag (Ab)) ?_
     refine Au rfl rfl (Ab) (.inl (congrArg Value.bool (by rw [hce2]; decide))) rfl ?_
     refine Au rfl rfl (Am rfl <| Ab) (.inl (congrArg Value.bool (by rw [hce2]; decide))) rfl ?_
     refine Au rfl rfl (Aq rfl <| Ab) (.inl (congrArg Value.bool (by rw [hce2]; decide))) rfl ?_
     refine Au rfl rfl (Ab) (.inr rfl) rfl ?_
     refine Au rfl rfl (Am rfl <| Ab) (.inr rfl) rfl ?_
     refine Au rfl rfl (Aq rfl <| Ab) (.inr rfl) rfl ?_
     refine Au rfl rfl (A1 rfl <| Aq rfl <| Ab) (.inl (congrArg Value.bool (by rw [hce2]; decide))) rfl ?_
     refine Aa rfl (Bc (A1 rfl <| Aq rfl <| Am rfl <| Ab) (by rw [hce2]; decide) Ad) ?_
     refine Ah <| Ac <| Ao (Ab) rfl ?_
     refine Ax <| Ac ⟨_, Off.eq (C8 rfl <| Es rfl <| ou2 rfl <| Dy rfl <| D9), ?_⟩
     exact ⟨_, hle0, hr, hl, rfl⟩
    ·
     have hce2 := Dd hok2 hc2
     obtain ⟨q1, q2⟩ := set_le h0 hxe hpe hll ht (by omega) hk0 (show costL (setS s (wa % ps.length) (wb % s.places.length) (1 + ((wc % 3 : Nat) : Int))) l < 1000 by omega)
     have hce := Dd hok (show costL s l ≠ 1000 by omega)
     refine Af <| Ai fun ds => Aa rfl (A8 B2 (A5 rfl <| Aq rfl <| Aj rfl <| Bl rfl <| A2 rfl <| A5 rfl <| A1 rfl <| Am rfl <| Ab) rfl rfl (A7 1 rfl)) ?_
     refine Aa rfl (Ag (A5 rfl <| Aq rfl <| Am rfl <| Aj rfl <| A2 rfl <| A5 rfl <| A1 rfl <| Aq rfl <| Ab)) ?_
     refine Aa rfl (Ag (A5 rfl <| A1 rfl <| Aj rfl <| A2 rfl <| A5 rfl <| A1 rfl <| Am rfl <| Ab)) ?_
     refine Aa rfl (Ag (A5 rfl <| A1 rfl <| Am rfl <| Aj rfl <| A2 rfl <| A5 rfl <| A1 rfl <| Ab)) ?_
     refine Bg rfl (Cp bd_45 Az (.cons (Aq rfl <| Am rfl <| Ab) (.cons (Aq rfl <| Ab) (.cons (Am rfl <| Ab) (.cons (Ab) .nil)))) (with_ok7 hr hv hxe hpe _) fun v23 F24 hr25 hF26 => ?_)
     replace hr := hr.mono hF26
     replace hle0 := Heap.le_trans hle0 hF26
     replace hl := hl.mono hF26
     obtain ⟨ve2, ps2, rfl, hr2⟩ := hr25
     refine Aa rfl (Ag (A5 rfl <| A1 rfl <| Aq rfl <| Am rfl <| Aj rfl <| Bl rfl <| A2 rfl <| Aq rfl <| Ab)) ?_
     refine Bx rfl (Ba bd_21 Az (.cons (Am rfl <| Ab) (.cons (Ab) .nil)) (Cv hr2 hl) (fun _ _ h => h.trans (show changesEV (setS s (wa % ps.length) (wb % s.places.length) (1 + ((wc % 3 : Nat) : Int))) l = .tuple #[.int .i64 (changesE (setS s (wa % ps.length) (wb % s.places.length) (1 + ((wc % 3 : Nat) : Int))) l).1, .int .i64 (changesE (setS s (wa % ps.length) (wb % s.places.length) (1 + ((wc % 3 : Nat) : Int))) l).2] from rfl))) ?_
     refine Aa rfl (Ag (Ab)) ?_
     refine Aa rfl (Ay (Ab) rfl) ?_
     refine Aa rfl (Ay (Am rfl <| Ab) rfl) ?_
     refine Aa rfl (Ae (Am rfl <| Ab)) ?_
     refine Aa rfl (Ae (Am rfl <| Ab)) ?_
     refine Ah <| Ac <| Af <| Ai fun ds => Aa rfl (Ag (Ab)) ?_
     refine Aa rfl (Bw (Ab) Ad) ?_
     refine Aa rfl (Ag (Ab)) ?_
     refine As rfl rfl (Ab) (by rw [hce2]; exact decide_eq_true rfl) ?_
     refine Aa rfl (Ag (A2 rfl <| A5 rfl <| Am rfl <| Aj rfl <| A2 rfl <| A1 rfl <| Ab)) ?_
     refine As rfl rfl (Am rfl <| Ab) (by rw [hce2]; exact decide_eq_true rfl) ?_
     refine Aa rfl (B3 (Ab) Ad) ?_
     refine As rfl rfl (Aq rfl <| Ab) (by rw [hce2]; exact decide_eq_true rfl) ?_
     refine Aa rfl (Ag (Ab)) ?_
     refine As rfl rfl (Ab) (by rw [hce]; exact decide_eq_false (fun h => h rfl)) ?_
     refine Aa rfl (Ag (A1 rfl <| Aq rfl <| Am rfl <| Ab)) ?_
     refine As rfl rfl (Am rfl <| Ab) (by rw [hce]; exact decide_eq_false (fun h => h rfl)) ?_
     refine Aa rfl (Ag (A2 rfl <| A5 rfl <| A1 rfl <| Am rfl <| Aj rfl <| A2 rfl <| A1 rfl <| Am rfl <| Ab)) ?_
     refine As rfl rfl (Aq rfl <| Ab) (by rw [hce]; exact decide_eq_false (fun h => h rfl)) ?_
     refine Aa rfl (Bv (Am rfl <| Ab) (Ab)) ?_
     refine As rfl rfl (A1 rfl <| Aq rfl <| Ab) (by rw [hce2]; exact decide_eq_true rfl) ?_
     refine Aa rfl (Bc (Aq rfl <| Am rfl <| Ab) (by rw [hce]; exact decide_eq_false (fun h => h rfl)) (Ab)) ?_
     refine Aa rfl (A6 (A1 rfl <| Aq rfl <| Am rfl <| Ab) (by rw [hce2]; exact decide_eq_true rfl) (Ab)) ?_
     refine Ah <| Ac <| Ao (Ab) (by rw [hce2, hce]; exact decide_eq_false (by simp only; omega)) ?_
     refine Ax <| Ac ⟨_, Off.eq (C8 rfl <| Es rfl <| ou2 rfl <| Dy rfl <| D9), ?_⟩
     exact ⟨_, hle0, hr, hl, rfl⟩
   ·
    refine Ao (Ab) (by rw [er]; exact decide_eq_false hk0) ?_
    refine Ax <| Ac ⟨_, Off.eq (D9), ?_⟩
    exact ⟨_, hle0, hr, hl, rfl⟩
  rintro e12 _ ⟨G12, hle0, hr, hl, rfl⟩
  refine Af <| Ai fun ds => Aa rfl (A8 B2 (Aj rfl <| A5 rfl <| Aq rfl <| Aj rfl <| Bl rfl <| A2 rfl <| A5 rfl <| A1 rfl <| Am rfl <| Ab) rfl rfl (A7 1 rfl)) ?_
  refine Bg rfl (B6 zr_25 rfl fun b27 hb27 nb27 => ?_)
  refine Cc (Ca sz_25 (Ab) (Am rfl <| Ab) (i := 0) rfl rfl rfl rfl hr.ones (.here) ?_)
  refine Ah <| Ac <| Af ?_
  have hleS := hle0
  refine Cy (.inl rfl) (fun _ _ h => h) (.cons _ <| .cons_cons _ <| .cons_cons _ <| .refl _) [13] (by kernel_rfl) fun ds => ?_
  refine A4 1 rfl (by kernel_rfl) (by kernel_rfl) (by kernel_rfl) (by kernel_rfl) rfl rfl (fun _ h => h.drop (.cons _ <| .cons_cons _ <| .cons_cons _ <| .refl _)) (fun _ _ _ h => h) (Al Cn (Aq rfl <| Aj rfl <| A5 rfl <| Aq rfl <| Aj rfl <| Bl rfl <| A2 rfl <| A5 rfl <| A1 rfl <| Am rfl <| Ab)) ?_
  refine A4 2 rfl (by kernel_rfl) (by kernel_rfl) (by kernel_rfl) (by kernel_rfl) rfl rfl (fun _ h => h.drop (.cons _ <| .cons_cons _ <| .cons_cons _ <| .refl _)) (fun _ _ _ h => h) (Ap Cz (Ab) (Cell.own 1 rfl rfl)) ?_
  refine A4 3 rfl (by kernel_rfl) (by kernel_rfl) (by kernel_rfl) (by kernel_rfl) rfl rfl (fun _ h => h.drop (.cons _ <| .cons_cons _ <| .cons_cons _ <| .refl _)) (fun _ _ _ h => h) (Ag (A1 rfl <| Aj rfl <| A5 rfl <| Aq rfl <| Aj rfl <| A2 rfl <| A5 rfl <| A1 rfl <| Am rfl <| Ab)) ?_
  refine A4 4 rfl (by kernel_rfl) (by kernel_rfl) (by kernel_rfl) (by kernel_rfl) rfl rfl (fun _ h => h.drop (.cons _ <| .cons_cons _ <| .cons_cons _ <| .refl _)) (fun _ _ _ h => h) (Em C1 (Am rfl <| Ab) hr.places.plain (Ab) (k := (wb % s.places.length)) rfl (by omega)) ?_
  refine A4 6 rfl (by kernel_rfl) (by kernel_rfl) (by kernel_rfl) (by kernel_rfl) rfl rfl (fun _ h => h.drop (.cons _ <| .cons_cons _ <| .cons_cons _ <| .refl _)) (fun _ _ _ h => h) (Al Cn (A1 rfl <| Aq rfl <| Aj rfl <| A5 rfl <| Aq rfl <| Aj rfl <| Bl rfl <| A2 rfl <| A5 rfl <| A1 rfl <| Am rfl <| Ab)) ?_
  refine A4 7 rfl (by kernel_rfl) (by kernel_rfl) (by kernel_rfl) (by kernel_rfl) rfl rfl (fun _ h => h.drop (.cons _ <| .cons_cons _ <| .cons_cons _ <| .refl _)) (fun _ _ _ h => h) (Ap Cz (Ab) (Cell.own 1 rfl rfl)) ?_
  refine A4 8 rfl (by kernel_rfl) (by kernel_rfl) (by kernel_rfl) (by kernel_rfl) rfl rfl (fun _ h => h.drop (.cons _ <| .cons_cons _ <| .cons_cons _ <| .refl _)) (fun _ _ _ h => h) (Ag (A5 rfl <| Aj rfl <| A5 rfl <| Aq rfl <| Aj rfl <| A2 rfl <| A5 rfl <| A1 rfl <| Am rfl <| Ab)) ?_
  refine A4 9 rfl (by kernel_rfl) (by kernel_rfl) (by kernel_rfl) (by kernel_rfl) rfl rfl (fun _ h => h.drop (.cons _ <| .cons_cons _ <| .cons_cons _ <| .refl _)) (fun _ _ _ h => h) (Bt (Ab) Ad rfl (by omega) (by omega)) ?_
  refine A4 10 rfl (by kernel_rfl) (by kernel_rfl) (by kernel_rfl) (by kernel_rfl) rfl rfl (fun _ h => h.drop (.cons _ <| .cons_cons _ <| .cons_cons _ <| .refl _)) (fun _ _ _ h => h) (q_sliceFrom C1 (Aq rfl <| Ab) hr.places.plain (Ab) (k := (wb % s.places.length) + 1) (by push_cast; rfl) (by omega)) ?_
  refine WX_x 0 rfl (by kernel_rfl) rfl (x_build0 C1 fun b28 hb28 nb28 => ⟨fun _ _ => (fun _ h => h.drop (.cons _ <| .cons _ <| .cons_cons _ <| .cons_cons _ <| .refl _)), ?_⟩)
  refine WX_x 5 rfl (by kernel_rfl) rfl (Cg C1 el_70 (Ab) (Eg rfl) (A1 rfl <| Aq rfl <| Ab) ((hr.places.to (k := (wb % s.places.length)) (by omega)).src (fun _ => rfl) (fun _ => Plc.enc_one)) (by simp only [List.length_take]; omega) (by simp only [List.length_take]; omega) (.z) .box fun v29 R30 ho31 => ⟨fun _ _ => (fun _ h => h.drop (List.sublist_append_of_sublist_right <| .cons _ <| .cons_cons _ <| .cons_cons _ <| .refl _)), ?_⟩)
  refine WX_x 11 rfl (by kernel_rfl) rfl (Cg C1 el_70 (Ab) ho31 (Aq rfl <| Ab) ((hr.places.from (k := (wb % s.places.length) + 1) (by omega)).src (fun _ => rfl) (fun _ => Plc.enc_one)) (by simp only [List.length_take, List.length_drop]; omega) (by simp only [List.length_take, List.length_drop]; omega) (.z) .more fun v32 R33 ho34 => ⟨fun _ _ => (fun _ h => h.drop (List.sublist_append_of_sublist_right <| .cons _ <| .cons_cons _ <| .cons_cons _ <| .refl _)), ?_⟩)
  have hoL : Own 70 2 v32 (s.places.take (wb % s.places.length) ++ s.places.drop ((wb % s.places.length) + 1)).length ((s.places.take (wb % s.places.length) ++ s.places.drop ((wb % s.places.length) + 1)).flatMap Plc.enc) R33 := by have := ho34; simpa using this
  obtain ⟨hpl_v, hplv⟩ : ∃ y, y = v32 := ⟨_, rfl⟩
  subst hplv
  refine A4 12 rfl (by kernel_rfl) (by kernel_rfl) (by kernel_rfl) (by kernel_rfl) rfl rfl (fun _ h => h.drop (List.sublist_append_of_sublist_right <| .cons _ <| .cons_cons _ <| .cons_cons _ <| .refl _)) (fun _ _ _ h => h) (Al Cn (A5 rfl <| A1 rfl <| Ab)) ?_
  refine WX_orderB (.one (.skip <| .here) <| .one (.skip <| .here) <| .one (.lastS) <| .lastb (.last)) ?_
  refine WX_x0 13 rfl (by kernel_rfl) (Cd sz_22 (Ab) (Am rfl <| Ab) (i := 0) rfl (.here) (Own.one hoL) (.here) ⟨(fun h => nomatch h), ?_⟩)
  refine C2 (by kernel_rfl) ?_ _
  refine Ac <| Af <| Cj (σ := ⟨_, _⟩) (by rfl) hoL (.s <| .s <| .s <| .z) .last fun F35 hF36 hz37 => ?_
  replace hr := hr.mono hF36
  replace hl := hl.mono hF36
  replace hle0 := Heap.le_trans hle0 hF36
  have hpl := hoL.sl (fun _ => rfl) hz37 (by simp only [List.length_append, List.length_take, List.length_drop]; omega)
  refine Ai fun ds => Aa rfl (Al Bo (A5 rfl <| A1 rfl <| Am rfl <| Ab)) ?_
  refine Cc (Cd sz_23 (Ab) Ad (i := 0) rfl (.next <| .here) rfl (.here) ?_)
  refine Ah <| Ac <| Af <| Af <| Ai fun ds => Aa rfl (Ae Ad) ?_
  refine Ah <| Ac <| A0 <| Bu [17, 18, 132, 133, 134, 135, 136, 137, 138, 139, 140, 141, 142, 143, 144, 145, 146, 147, 148, 149, 150, 151, 152, 153, 154, 155, 156, 157, 158, 159, 160, 161, 162] (fun m e σ => ∃ k : Nat, m + k = ps.length ∧ e 17 = .int .i64 (k : Int) ∧ ∃ G, F.le G ∧ StmR G vp ve ps s ∧ Ints G hl_v l ∧ Sl G hpl_v 2 Plc.enc (s.places.take (wb % s.places.length) ++ s.places.drop ((wb % s.places.length) + 1)) ∧ ∃ w S qs, Own 64 4 w qs.length (qs.flatMap edE) S ∧ EdsR G qs ((s.editions.map fun x => x.cut (wb % s.places.length)).take k) ∧ σ = ⟨G, (b27, bx 25 [hpl_v, w]) :: (b2, bx 68 [.int .u8 (wa : Int), .int .u8 (wb : Int), .int .u8 (wc : Int)]) :: (b1, bx 25 [vp, ve]) :: S⟩) (ps.length) ?_ ?_
  · exact ⟨0, by omega, (Ab), _, hle0, hr, hl, hpl, _, [], [], Ef, EdsR.nil, rfl⟩
  ·
   rintro m e _ ⟨k, hm, hs17, G17, hle0, hr, hl, hpl, w16, R16, qs, ho, hE, rfl⟩
   by_cases hlt : k < ps.length
   ·
    have hrk := hr.rd hlt
    have hrdk := hv.rdl k (by omega)
    have e1 := hr.at hlt
    have hpk : (wb % s.places.length) < (s.ed k).rd.length := by omega
    have hqs := hE.len
    have hqk : qs.length ≤ 5 := by rw [hqs, List.length_take, List.length_map]; omega
    refine Af <| Af <| Ai fun ds => Aa rfl (Ag (At rfl hs17)) ?_
    refine Aa rfl (Al Bo (Am rfl <| Aj rfl <| A2 rfl <| Am rfl <| Aj rfl <| A5 rfl <| Aq rfl <| Aj rfl <| Bl rfl <| A2 rfl <| A5 rfl <| A1 rfl <| Am rfl <| Ab)) ?_
    refine Aa rfl (Ap By (Ab) (Cell.own 2 rfl rfl)) ?_
    refine Aa rfl (Bk B1 (Ab) hr.eds.plain) ?_
    refine Aa rfl (Bv (Aq rfl <| Am rfl <| Ab) (Ab)) ?_
    refine Ah <| Ac <| Ar (Ab) (by first | rfl | exact decide_eq_true (by omega)) ?_
    refine Ax <| Ac <| Af <| A0 <| Af <| Ai fun ds => Aa rfl (Al Bo (A1 rfl <| Am rfl <| Aj rfl <| A2 rfl <| Am rfl <| Aj rfl <| A5 rfl <| Aq rfl <| Aj rfl <| Bl rfl <| A2 rfl <| A5 rfl <| A1 rfl <| Am rfl <| Ab)) ?_
    refine Aa rfl (Ap By (Ab) (Cell.own 2 rfl rfl)) ?_
    refine Aa rfl (Ag (A1 rfl <| Aq rfl <| Am rfl <| At rfl hs17)) ?_
    refine Aa rfl (Be (k := k) B1 (Am rfl <| Ab) hr.eds.plain (Ab) rfl hlt) ?_
    refine Aa rfl (A8 D7 (Ab) rfl rfl (hr.eds.whole hlt)) ?_
    refine Bg rfl (B6 zr_64 rfl fun b39 hb39 nb39 => ?_)
    refine Cc (Ca sz_64 (Ab) (Am rfl <| Ab) (i := 0) rfl rfl rfl rfl (edE_one (hr.one _ (List.getElem_mem hlt))) (.here) ?_)
    refine Ah <| Ac <| Af ?_
    have hleS := hle0
    refine Cy (.inl rfl) (fun _ _ h => h) (.cons_cons _ <| .cons_cons _ <| .cons_cons _ <| .cons_cons _ <| .refl _) [13] (by kernel_rfl) fun ds => ?_
    refine A4 1 rfl (by kernel_rfl) (by kernel_rfl) (by kernel_rfl) (by kernel_rfl) rfl rfl (fun _ h => h.drop (.cons_cons _ <| .cons_cons _ <| .cons_cons _ <| .cons_cons _ <| .refl _)) (fun _ _ _ h => h) (Al Cb (Ab)) ?_
    refine A4 2 rfl (by kernel_rfl) (by kernel_rfl) (by kernel_rfl) (by kernel_rfl) rfl rfl (fun _ h => h.drop (.cons_cons _ <| .cons_cons _ <| .cons_cons _ <| .cons_cons _ <| .refl _)) (fun _ _ _ h => h) (Ap Ch (Ab) (Cell.own 0 rfl rfl)) ?_
    refine A4 3 rfl (by kernel_rfl) (by kernel_rfl) (by kernel_rfl) (by kernel_rfl) rfl rfl (fun _ h => h.drop (.cons_cons _ <| .cons_cons _ <| .cons_cons _ <| .cons_cons _ <| .refl _)) (fun _ _ _ h => h) (Ag (A5 rfl <| A1 rfl <| Am rfl <| Aj rfl <| A2 rfl <| Am rfl <| Aj rfl <| A5 rfl <| Aq rfl <| Aj rfl <| A2 rfl <| A5 rfl <| A1 rfl <| Am rfl <| Ab)) ?_
    refine A4 4 rfl (by kernel_rfl) (by kernel_rfl) (by kernel_rfl) (by kernel_rfl) rfl rfl (fun _ h => h.drop (.cons_cons _ <| .cons_cons _ <| .cons_cons _ <| .cons_cons _ <| .refl _)) (fun _ _ _ h => h) (Em Bj (Am rfl <| Ab) hrk.plain (Ab) (k := (wb % s.places.length)) rfl (by omega)) ?_
    refine A4 6 rfl (by kernel_rfl) (by kernel_rfl) (by kernel_rfl) (by kernel_rfl) rfl rfl (fun _ h => h.drop (.cons_cons _ <| .cons_cons _ <| .cons_cons _ <| .cons_cons _ <| .refl _)) (fun _ _ _ h => h) (Al Cb (A1 rfl <| Ab)) ?_
    refine A4 7 rfl (by kernel_rfl) (by kernel_rfl) (by kernel_rfl) (by kernel_rfl) rfl rfl (fun _ h => h.drop (.cons_cons _ <| .cons_cons _ <| .cons_cons _ <| .cons_cons _ <| .refl _)) (fun _ _ _ h => h) (Ap Ch (Ab) (Cell.own 0 rfl rfl)) ?_
    refine A4 8 rfl (by kernel_rfl) (by kernel_rfl) (by kernel_rfl) (by kernel_rfl) rfl rfl (fun _ h => h.drop (.cons_cons _ <| .cons_cons _ <| .cons_cons _ <| .cons_cons _ <| .refl _)) (fun _ _ _ h => h) (Ag (A2 rfl <| Am rfl <| Aj rfl <| A2 rfl <| Am rfl <| Aj rfl <| A5 rfl <| Aq rfl <| Aj rfl <| A2 rfl <| A5 rfl <| A1 rfl <| Am rfl <| Ab)) ?_
    refine A4 9 rfl (by kernel_rfl) (by kernel_rfl) (by kernel_rfl) (by kernel_rfl) rfl rfl (fun _ h => h.drop (.cons_cons _ <| .cons_cons _ <| .cons_cons _ <| .cons_cons _ <| .refl _)) (fun _ _ _ h => h) (Bt (Ab) Ad rfl (by omega) (by omega)) ?_
    refine A4 10 rfl (by kernel_rfl) (by kernel_rfl) (by kernel_rfl) (by kernel_rfl) rfl rfl (fun _ h => h.drop (.cons_cons _ <| .cons_cons _ <| .cons_cons _ <| .cons_cons _ <| .refl _)) (fun _ _ _ h => h) (q_sliceFrom Bj (Aq rfl <| Ab) hrk.plain (Ab) (k := (wb % s.places.length) + 1) (by push_cast; rfl) (by omega)) ?_
    refine WX_x 0 rfl (by kernel_rfl) rfl (x_build0 Bj fun b40 hb40 nb40 => ⟨fun _ _ => (fun _ h => h.drop (.cons _ <| .cons_cons _ <| .cons_cons _ <| .cons_cons _ <| .cons_cons _ <| .refl _)), ?_⟩)
    refine WX_x 5 rfl (by kernel_rfl) rfl (Cg Bj el_3 (Ab) (Eg rfl) (A1 rfl <| Aq rfl <| Ab) (Sl.srcInt (hrk.to (k := (wb % s.places.length)) (by omega))) (by simp only [List.length_take]; omega) (by simp only [List.length_take]; omega) (.z) .box fun v41 R42 ho43 => ⟨fun _ _ => (fun _ h => h.drop (List.sublist_append_of_sublist_right <| .cons_cons _ <| .cons_cons _ <| .cons_cons _ <| .cons_cons _ <| .refl _)), ?_⟩)
    refine WX_x 11 rfl (by kernel_rfl) rfl (Cg Bj el_3 (Ab) ho43 (Aq rfl <| Ab) (Sl.srcInt (hrk.from (k := (wb % s.places.length) + 1) (by omega))) (by simp only [List.length_take, List.length_drop]; omega) (by simp only [List.length_take, List.length_drop]; omega) (.z) .more fun v44 R45 ho46 => ⟨fun _ _ => (fun _ h => h.drop (List.sublist_append_of_sublist_right <| .cons_cons _ <| .cons_cons _ <| .cons_cons _ <| .cons_cons _ <| .refl _)), ?_⟩)
    have hoD : Own 3 1 v44 ((s.ed k).rd.take (wb % s.places.length) ++ (s.ed k).rd.drop ((wb % s.places.length) + 1)).length (((s.ed k).rd.take (wb % s.places.length) ++ (s.ed k).rd.drop ((wb % s.places.length) + 1)).flatMap intE) R45 := by have := ho46; simpa using this
    refine A4 12 rfl (by kernel_rfl) (by kernel_rfl) (by kernel_rfl) (by kernel_rfl) rfl rfl (fun _ h => h.drop (List.sublist_append_of_sublist_right <| .cons_cons _ <| .cons_cons _ <| .cons_cons _ <| .cons_cons _ <| .refl _)) (fun _ _ _ h => h) (Al Cb (A5 rfl <| A1 rfl <| Ab)) ?_
    refine WX_orderB (.one (.skip <| .here) <| .one (.skip <| .here) <| .one (.skip <| .here) <| .one (.skip <| .here) <| .blk (.lastS) <| .lastb (.last)) ?_
    refine WX_x0 13 rfl (by kernel_rfl) (Cd sz_26 (Ab) (Am rfl <| Ab) (i := 0) rfl (.next <| .next <| .next <| .here) (Own.one hoD) (.here) ⟨(fun h => nomatch h), ?_⟩)
    refine C2 (by kernel_rfl) ?_ _
    refine Ac <| Cj (σ := ⟨_, _⟩) (by rfl) hoD (.s <| .s <| .s <| .s <| .k <| .z) .last fun F47 hF48 hz49 => ?_
    replace hr := hr.mono hF48
    replace hl := hl.mono hF48
    replace hle0 := Heap.le_trans hle0 hF48
    replace hpl := hpl.mono hF48
    replace hE := hE.mono hF48
    refine WC_pickB (.one (.here) <| .one (.here) <| .one (.here) <| .one (.here) <| .lastb (.here)) ?_
    have hrd2 := hoD.sl (fun _ => rfl) hz49 (by simp only [List.length_append, List.length_take, List.length_drop]; omega)
    refine Ai fun ds => Aa rfl (Al Bo (A2 rfl <| A5 rfl <| Aj rfl <| A5 rfl <| A1 rfl <| Aq rfl <| Am rfl <| Ab)) ?_
    refine Aa rfl (Ap By (Ab) (Cell.own 1 rfl rfl)) ?_
    refine Aa rfl (A8 D7 (A5 rfl <| A1 rfl <| Aq rfl <| Am rfl <| Ab) rfl rfl (A7 0 rfl)) ?_
    refine Bg rfl (x_buildN (offs := [(0, 4)]) (zl := [.string ⟨#[]⟩, .int .i64 0, .int .i64 0, .slice none 0 0]) B1 zr_64 rfl (.cons (Ab) rfl .nil) (by intro i p h; rcases i with _ | i <;> simp at h <;> subst h <;> rfl) (.cons rfl rfl (Nat.le_of_ble_eq_true rfl) (.cons (.here) (.cons (.next <| .here) (.cons (.next <| .next <| .here) (.cons (.next <| .next <| .next <| .here) .nil)))) .nil) (by decide) (by decide) fun b50 hb50 nb50 => ?_)
    refine Bg rfl (Cg B1 el_64 (Aq rfl <| Ab) ho (Ab) (Dg (s := 4) 0 rfl rfl (by intro u hu; simp only [List.mem_cons, List.not_mem_nil, or_false] at hu; rcases hu with rfl | rfl | rfl | rfl; rfl; rfl; rfl; exact hrd2.plain.one)) (by omega) (by omega) (.s <| .s <| .s <| .s <| .s <| .z) .last fun v51 R52 ho53 => ?_)
    have ho2 := ho53.snoc (x := ((_, (ps[k]'hlt).2.cut (wb % s.places.length)) : Value × Edn)) rfl rfl
    refine Aa rfl (Al Bo (A2 rfl <| A5 rfl <| A1 rfl <| Am rfl <| Aj rfl <| A5 rfl <| A1 rfl <| Aq rfl <| Am rfl <| Ab)) ?_
    refine Cc (Cd sz_23 (Ab) (Am rfl <| Ab) (i := 2) rfl (.next <| .here) ho2.one (.next <| .next <| .here) ?_)
    refine Ah <| Bb <| Ac <| Df (fun _ _ h => h.drop (.cons _ <| .cons _ <| .cons_cons _ <| .cons_cons _ <| .cons_cons _ <| .refl _)) ?_
    refine Ai fun ds => Aa rfl (Ag (A2 rfl <| A5 rfl <| A1 rfl <| Aq rfl <| At rfl hs17)) ?_
    refine Aa rfl (Bt (Ab) Ad rfl (by omega) (by omega)) ?_
    refine Aa rfl (Ae (Ab)) ?_
    refine Ah <| Ac ⟨_, m - 1, Off.eq (ou32 rfl <| Dy rfl <| Bf), by omega, ?_⟩
    exact ⟨k + 1, by omega, (Ab), _, hle0, hr, hl, hpl, _, _, qs ++ [_], ho2, by rw [take_map_snoc (by omega), ed_at (by omega), ← e1]; exact hE.snoc (by rw [e1]; exact hrd2), rfl⟩
   ·
    refine Af <| Af <| Ai fun ds => Aa rfl (Ag (At rfl hs17)) ?_
    refine Aa rfl (Al Bo (Am rfl <| Aj rfl <| A2 rfl <| Am rfl <| Aj rfl <| A5 rfl <| Aq rfl <| Aj rfl <| Bl rfl <| A2 rfl <| A5 rfl <| A1 rfl <| Am rfl <| Ab)) ?_
    refine Aa rfl (Ap By (Ab) (Cell.own 2 rfl rfl)) ?_
    refine Aa rfl (Bk B1 (Ab) hr.eds.plain) ?_
    refine Aa rfl (Bv (Aq rfl <| Am rfl <| Ab) (Ab)) ?_
    refine Ah <| Ac <| Ao (Ab) (by first | rfl | exact decide_eq_false (by omega)) ?_
    obtain rfl : k = ps.length := by omega
    rw [List.take_of_length_le (by rw [List.length_map]; omega)] at hE
    have hqs := hE.len
    have hqk : qs.length ≤ 5 := by rw [hqs, List.length_map]; omega
    refine Cj (σ := ⟨_, _⟩) (by rfl) ho (.s <| .s <| .s <| .z) .last fun F54 hF55 hz56 => ?_
    replace hr := hr.mono hF55
    replace hl := hl.mono hF55
    replace hle0 := Heap.le_trans hle0 hF55
    replace hpl := hpl.mono hF55
    replace hE := hE.mono hF55
    have hen := ho.sl (fun _ => rfl) hz56 (by omega)
    refine B9 (i := 0) rfl hb27 (.here) fun F57 hF58 hz16 => ?_
    replace hr := hr.mono hF58
    replace hl := hl.mono hF58
    replace hle0 := Heap.le_trans hle0 hF58
    replace hpl := hpl.mono hF58
    replace hE := hE.mono hF58
    replace hen := hen.mono hF58
    have hrL : StmR _ hpl_v w16 qs (lessS s (wb % s.places.length)) := EdsR.stm (s := (lessS s (wb % s.places.length))) hE hpl hen
    have hpll : (s.places.take (wb % s.places.length) ++ s.places.drop ((wb % s.places.length) + 1)).length = s.places.length - 1 := by simp only [List.length_append, List.length_take, List.length_drop]; omega
    refine Br ?_
    refine Bd <| Bd <| Bh <| Ac <| Af <| Af <| Ai fun ds => Aa rfl (Al Cn (A1 rfl <| Am rfl <| Aj rfl <| A5 rfl <| A1 rfl <| Aq rfl <| Am rfl <| Ab)) ?_
    refine Aa rfl (Ap Cz (Ab) (CellF.own hz16 rfl).cell) ?_
    refine Aa rfl (Bk C1 (Ab) hpl.plain) ?_
    refine Aa rfl (C7 (Ab) Ad) ?_
    refine Ah <| Ac <| WC_cut [6, 14, 15, 167, 168, 169, 170, 171, 172, 173, 174, 175, 176, 177, 178, 179, 180, 181, 182, 183] (fun st σ => ∃ G, F.le G ∧ StmR G vp ve ps s ∧ Ints G hl_v l ∧ σ = ⟨G, [(b2, bx 68 [.int .u8 (wa : Int), .int .u8 (wb : Int), .int .u8 (wc : Int)]), (b1, bx 25 [vp, ve])]⟩) ?_ ?_
    ·
     by_cases hn2 : 2 ≤ s.places.length
     ·
      have hokL := tree_err0 (less_check h0 hpe hn2) (show l.length = _ by rw [less_elen]; exact hll) ht
      refine Ar (Ab) (decide_eq_true (by rw [hpll]; omega)) ?_
      by_cases hc : costL s l = 1000
      ·
       have hce := Eb hok hc
       refine Af <| Ai fun ds => Aa rfl (A8 B2 (A5 rfl <| Am rfl <| Aj rfl <| A5 rfl <| A1 rfl <| Aq rfl <| Am rfl <| Ab) rfl rfl (Cm hz16)) ?_
       refine Aa rfl (Ag (A5 rfl <| Aq rfl <| Aj rfl <| A2 rfl <| Am rfl <| Aj rfl <| A5 rfl <| Aq rfl <| Aj rfl <| Bl rfl <| A2 rfl <| Aq rfl <| Ab)) ?_
       refine Bx rfl (Ba bd_21 Az (.cons (Am rfl <| Ab) (.cons (Ab) .nil)) (Cv hrL hl) (fun _ _ h => h.trans (show changesEV (lessS s (wb % s.places.length)) l = .tuple #[.int .i64 (changesE (lessS s (wb % s.places.length)) l).1, .int .i64 (changesE (lessS s (wb % s.places.length)) l).2] from rfl))) ?_
       refine Aa rfl (Ag (Ab)) ?_
       refine Aa rfl (Ay (Ab) rfl) ?_
       refine Aa rfl (Ay (Am rfl <| Ab) rfl) ?_
       refine Aa rfl (Ae (Am rfl <| Ab)) ?_
       refine Aa rfl (Ae (Am rfl <| Ab)) ?_
       refine Ah <| Ac <| Af <| Ai fun ds => Aa rfl (Ag (A2 rfl <| Am rfl <| Aj rfl <| A2 rfl <| Am rfl <| Aj rfl <| A5 rfl <| Aq rfl <| Aj rfl <| A2 rfl <| A1 rfl <| Ab)) ?_
       refine Aa rfl (Bw (Ab) Ad) ?_
       refine Aa rfl (Ag (Ab)) ?_
       refine Au rfl rfl (Ab) (.inl (congrArg Value.bool (by rw [hce]; decide))) rfl ?_
       refine Au rfl rfl (Am rfl <| Ab) (.inl (congrArg Value.bool (by rw [hce]; decide))) rfl ?_
       refine Au rfl rfl (Aq rfl <| Ab) (.inl (congrArg Value.bool (by rw [hce]; decide))) rfl ?_
       refine Au rfl rfl (Ab) (.inr rfl) rfl ?_
       refine Au rfl rfl (Am rfl <| Ab) (.inr rfl) rfl ?_
       refine Au rfl rfl (Aq rfl <| Ab) (.inr rfl) rfl ?_
       refine Au rfl rfl (A1 rfl <| Aq rfl <| Ab) (.inl (congrArg Value.bool (by rw [hce]; decide))) rfl ?_
       refine Aa rfl (Bc (A1 rfl <| Aq rfl <| Am rfl <| Ab) (by rw [hce]; decide) Ad) ?_
       refine Ah <| Ac <| Ao (Ab) rfl ?_
       refine Ax <| Ac ⟨_, Off.eq (C8 rfl <| ou2 rfl <| Dy rfl <| D9), ?_⟩
       exact ⟨_, hle0, hr, hl, rfl⟩
      ·
       have hce := Dd hok hc
       obtain ⟨q1, q2⟩ := less_le h0 hpe hn2 hll ht (show costL s l < 1000 by omega)
       have hceL := Dd hokL (show costL (lessS s (wb % s.places.length)) l ≠ 1000 by omega)
       refine Af <| Ai fun ds => Aa rfl (A8 B2 (A5 rfl <| Am rfl <| Aj rfl <| A5 rfl <| A1 rfl <| Aq rfl <| Am rfl <| Ab) rfl rfl (Cm hz16)) ?_
       refine Aa rfl (Ag (A5 rfl <| Aq rfl <| Aj rfl <| A2 rfl <| Am rfl <| Aj rfl <| A5 rfl <| Aq rfl <| Aj rfl <| Bl rfl <| A2 rfl <| Aq rfl <| Ab)) ?_
       refine Bx rfl (Ba bd_21 Az (.cons (Am rfl <| Ab) (.cons (Ab) .nil)) (Cv hrL hl) (fun _ _ h => h.trans (show changesEV (lessS s (wb % s.places.length)) l = .tuple #[.int .i64 (changesE (lessS s (wb % s.places.length)) l).1, .int .i64 (changesE (lessS s (wb % s.places.length)) l).2] from rfl))) ?_
       refine Aa rfl (Ag (Ab)) ?_
       refine Aa rfl (Ay (Ab) rfl) ?_
       refine Aa rfl (Ay (Am rfl <| Ab) rfl) ?_
       refine Aa rfl (Ae (Am rfl <| Ab)) ?_
       refine Aa rfl (Ae (Am rfl <| Ab)) ?_
       refine Ah <| Ac <| Af <| Ai fun ds => Aa rfl (Ag (A2 rfl <| Am rfl <| Aj rfl <| A2 rfl <| Am rfl <| Aj rfl <| A5 rfl <| Aq rfl <| Aj rfl <| A2 rfl <| A1 rfl <| Ab)) ?_
       refine Aa rfl (Bw (Ab) Ad) ?_
       refine Aa rfl (Ag (Ab)) ?_
       refine As rfl rfl (Ab) (by rw [hce]; exact decide_eq_true rfl) ?_
       refine Aa rfl (Ag (Aq rfl <| Am rfl <| Ab)) ?_
       refine As rfl rfl (Am rfl <| Ab) (by rw [hce]; exact decide_eq_true rfl) ?_
       refine Aa rfl (B3 (Ab) Ad) ?_
       refine As rfl rfl (Aq rfl <| Ab) (by rw [hce]; exact decide_eq_true rfl) ?_
       refine Aa rfl (Ag (Ab)) ?_
       refine As rfl rfl (Ab) (by rw [hceL]; exact decide_eq_false (fun h => h rfl)) ?_
       refine Aa rfl (Ag (A1 rfl <| Aq rfl <| Am rfl <| Ab)) ?_
       refine As rfl rfl (Am rfl <| Ab) (by rw [hceL]; exact decide_eq_false (fun h => h rfl)) ?_
       refine Aa rfl (Ag (A2 rfl <| A5 rfl <| Aj rfl <| A2 rfl <| Am rfl <| Aj rfl <| A5 rfl <| Aq rfl <| Aj rfl <| A2 rfl <| A1 rfl <| Am rfl <| Ab)) ?_
       refine As rfl rfl (Aq rfl <| Ab) (by rw [hceL]; exact decide_eq_false (fun h => h rfl)) ?_
       refine Aa rfl (C7 (Am rfl <| Ab) (Ab)) ?_
       refine As rfl rfl (A1 rfl <| Aq rfl <| Ab) (by rw [hce]; exact decide_eq_true rfl) ?_
       refine Aa rfl (Bc (Aq rfl <| Am rfl <| Ab) (by rw [hceL]; exact decide_eq_false (fun h => h rfl)) (Ab)) ?_
       refine Aa rfl (A6 (A1 rfl <| Aq rfl <| Am rfl <| Ab) (by rw [hce]; exact decide_eq_true rfl) (Ab)) ?_
       refine Ah <| Ac <| Ao (Ab) (by rw [hceL, hce]; exact decide_eq_false (by simp only; omega)) ?_
       refine Ax <| Ac ⟨_, Off.eq (C8 rfl <| ou2 rfl <| Dy rfl <| D9), ?_⟩
       exact ⟨_, hle0, hr, hl, rfl⟩
     ·
      refine Ao (Ab) (decide_eq_false (by rw [hpll]; omega)) ?_
      refine Ax <| Ac ⟨_, Off.eq (D9), ?_⟩
      exact ⟨_, hle0, hr, hl, rfl⟩
    rintro e27 _ ⟨G27, hle0, hr, hl, rfl⟩
    refine Af <| Af <| Ai fun ds => Aa rfl (Ae Ad) ?_
    refine Ah <| Ac <| A0 <| Bu [6, 19, 184, 185, 186, 187, 188, 189, 190, 191, 192, 193, 194, 195, 196] (fun m e σ => ∃ k : Nat, m + k = l.length ∧ e 19 = .int .i64 (k : Int) ∧ (∀ j, j < k → upN l j ≠ (((wa % ps.length) : Nat) : Int)) ∧ σ = ⟨G27, [(b2, bx 68 [.int .u8 (wa : Int), .int .u8 (wb : Int), .int .u8 (wc : Int)]), (b1, bx 25 [vp, ve])]⟩) (l.length) ?_ ?_
    · exact ⟨0, by omega, (Ab), fun j hj => absurd hj (by omega), rfl⟩
    ·
     rintro m e _ ⟨k, hm, hs19, hno, rfl⟩
     by_cases hlt : k < l.length
     ·
      have hupk := up_at hlt
      refine Af <| Af <| Ai fun ds => Aa rfl (Ag (At rfl hs19)) ?_
      refine Aa rfl (Ag (Am rfl <| Aj rfl <| Am rfl <| Aj rfl <| A5 rfl <| Am rfl <| Aj rfl <| A2 rfl <| Am rfl <| Aj rfl <| A5 rfl <| Aq rfl <| Aj rfl <| Bl rfl <| A2 rfl <| Aq rfl <| Ab)) ?_
      refine Aa rfl (Bk Bj (Ab) hl.plain) ?_
      refine Aa rfl (Bv (Aq rfl <| Ab) (Ab)) ?_
      refine Ah <| Ac <| Ar (Ab) (by first | rfl | exact decide_eq_true (by omega)) ?_
      by_cases hu : upN l k = (((wa % ps.length) : Nat) : Int)
      ·
       refine Ax <| Ac <| Af <| A0 <| Af <| Ai fun ds => Aa rfl (Ag (A1 rfl <| Aj rfl <| Am rfl <| Aj rfl <| A5 rfl <| Am rfl <| Aj rfl <| A2 rfl <| Am rfl <| Aj rfl <| A5 rfl <| Aq rfl <| Aj rfl <| Bl rfl <| A2 rfl <| Aq rfl <| Ab)) ?_
       refine Aa rfl (Ag (A1 rfl <| Am rfl <| At rfl hs19)) ?_
       refine Aa rfl (Be (k := k) Bj (Am rfl <| Ab) hl.plain (Ab) rfl hlt) ?_
       refine Aa rfl (Ap Bn (Ab) (hl.cell1 hlt rfl)) ?_
       refine Aa rfl (Ag (A5 rfl <| Aj rfl <| Am rfl <| Aj rfl <| A5 rfl <| Am rfl <| Aj rfl <| A2 rfl <| Am rfl <| Aj rfl <| A5 rfl <| Aq rfl <| Aj rfl <| A2 rfl <| A5 rfl <| A1 rfl <| Aq rfl <| Ab)) ?_
       refine Aa rfl (Bw (Am rfl <| Ab) (Ab)) ?_
       refine Ah <| Ac <| Ar (Ab) (by rw [hupk]; exact decide_eq_true hu) ?_
       refine Af <| Ai fun ds => Bx rfl (Ba bd_26 Az .nil awake_ok (fun _ _ h => h)) ?_
       refine Aa rfl (Ae (Ab)) ?_
       refine Ah <| Ac <| A3 <| Bi (A9 (A9 (Bi (A9 ?_))))
       refine Aw rfl (.tmp (Ab) .nil) ?_
       rfl
      ·
       refine Ax <| Ac <| Af <| A0 <| Af <| Ai fun ds => Aa rfl (Ag (A1 rfl <| Aj rfl <| Am rfl <| Aj rfl <| A5 rfl <| Am rfl <| Aj rfl <| A2 rfl <| Am rfl <| Aj rfl <| A5 rfl <| Aq rfl <| Aj rfl <| Bl rfl <| A2 rfl <| Aq rfl <| Ab)) ?_
       refine Aa rfl (Ag (A1 rfl <| Am rfl <| At rfl hs19)) ?_
       refine Aa rfl (Be (k := k) Bj (Am rfl <| Ab) hl.plain (Ab) rfl hlt) ?_
       refine Aa rfl (Ap Bn (Ab) (hl.cell1 hlt rfl)) ?_
       refine Aa rfl (Ag (A5 rfl <| Aj rfl <| Am rfl <| Aj rfl <| A5 rfl <| Am rfl <| Aj rfl <| A2 rfl <| Am rfl <| Aj rfl <| A5 rfl <| Aq rfl <| Aj rfl <| A2 rfl <| A5 rfl <| A1 rfl <| Aq rfl <| Ab)) ?_
       refine Aa rfl (Bw (Am rfl <| Ab) (Ab)) ?_
       refine Ah <| Ac <| Ao (Ab) (by rw [hupk]; exact decide_eq_false hu) ?_
       refine Ax <| Bb <| Ac <| Ai fun ds => Aa rfl (Ag (A5 rfl <| Aq rfl <| At rfl hs19)) ?_
       refine Aa rfl (Bt (Ab) Ad rfl (by omega) (by omega)) ?_
       refine Aa rfl (Ae (Ab)) ?_
       refine Ah <| Ac ⟨_, m - 1, Off.eq (D1 rfl <| Es rfl <| Dy rfl <| Bf), by omega, ?_⟩
       refine ⟨k + 1, by omega, (Ab), fun j hj => ?_, rfl⟩
       by_cases hjk : j = k
       · subst hjk; exact hu
       · exact hno j (by omega)
     ·
      refine Af <| Af <| Ai fun ds => Aa rfl (Ag (At rfl hs19)) ?_
      refine Aa rfl (Ag (Am rfl <| Aj rfl <| Am rfl <| Aj rfl <| A5 rfl <| Am rfl <| Aj rfl <| A2 rfl <| Am rfl <| Aj rfl <| A5 rfl <| Aq rfl <| Aj rfl <| Bl rfl <| A2 rfl <| Aq rfl <| Ab)) ?_
      refine Aa rfl (Bk Bj (Ab) hl.plain) ?_
      refine Aa rfl (Bv (Aq rfl <| Ab) (Ab)) ?_
      refine Ah <| Ac <| Ao (Ab) (by first | rfl | exact decide_eq_false (by omega)) ?_
      obtain rfl : k = l.length := by omega
      by_cases hn1 : l.length = 1
      ·
       refine Br ?_
       refine Bd <| Bd <| Bh <| Ac <| Af <| Af <| Ai fun ds => Aa rfl (Ag (A1 rfl <| Aj rfl <| Am rfl <| Aj rfl <| A5 rfl <| Am rfl <| Aj rfl <| A2 rfl <| Am rfl <| Aj rfl <| A5 rfl <| Aq rfl <| Aj rfl <| Bl rfl <| A2 rfl <| Aq rfl <| Ab)) ?_
       refine Aa rfl (Bk Bj (Ab) hl.plain) ?_
       refine Aa rfl (Bw (Ab) Ad) ?_
       refine Ah <| Ac <| Ar (Ab) (decide_eq_true (by omega)) ?_
       refine Af <| Ai fun ds => Bx rfl (Ba bd_26 Az .nil awake_ok (fun _ _ h => h)) ?_
       refine Aa rfl (Ae (Ab)) ?_
       refine Ah <| Ac <| A3 <| A9 ?_
       refine Aw rfl (.tmp (Ab) .nil) ?_
       rfl
      ·
       refine Br ?_
       refine Bd <| Bd <| Bh <| Ac <| Af <| Af <| Ai fun ds => Aa rfl (Ag (A1 rfl <| Aj rfl <| Am rfl <| Aj rfl <| A5 rfl <| Am rfl <| Aj rfl <| A2 rfl <| Am rfl <| Aj rfl <| A5 rfl <| Aq rfl <| Aj rfl <| Bl rfl <| A2 rfl <| Aq rfl <| Ab)) ?_
       refine Aa rfl (Bk Bj (Ab) hl.plain) ?_
       refine Aa rfl (Bw (Ab) Ad) ?_
       refine Ah <| Ac <| Ao (Ab) (decide_eq_false (by omega)) ?_
       refine Ax <| Ac <| Af <| Ai fun ds => Aa rfl (A8 B2 (A1 rfl <| Aq rfl <| Am rfl <| Aj rfl <| Am rfl <| Aj rfl <| A5 rfl <| Am rfl <| Aj rfl <| A2 rfl <| Am rfl <| Aj rfl <| A5 rfl <| Aq rfl <| Aj rfl <| Bl rfl <| A2 rfl <| A5 rfl <| A1 rfl <| Am rfl <| Ab) rfl rfl (A7 1 rfl)) ?_
       refine Bg rfl (B6 zr_25 rfl fun b60 hb60 nb60 => ?_)
       refine Cc (Ca sz_25 (Ab) (Am rfl <| Ab) (i := 0) rfl rfl rfl rfl hr.ones (.here) ?_)
       refine Ah <| Ac <| Af ?_
       have hleS := hle0
       refine Cy (.inl rfl) (fun _ _ h => h) (.cons _ <| .cons_cons _ <| .cons_cons _ <| .refl _) [13] (by kernel_rfl) fun ds => ?_
       refine A4 1 rfl (by kernel_rfl) (by kernel_rfl) (by kernel_rfl) (by kernel_rfl) rfl rfl (fun _ h => h.drop (.cons _ <| .cons_cons _ <| .cons_cons _ <| .refl _)) (fun _ _ _ h => h) (Al Bo (A5 rfl <| Am rfl <| Aj rfl <| Am rfl <| Aj rfl <| A5 rfl <| Am rfl <| Aj rfl <| A2 rfl <| Am rfl <| Aj rfl <| A5 rfl <| Aq rfl <| Aj rfl <| Bl rfl <| A2 rfl <| A5 rfl <| A1 rfl <| Am rfl <| Ab)) ?_
       refine A4 2 rfl (by kernel_rfl) (by kernel_rfl) (by kernel_rfl) (by kernel_rfl) rfl rfl (fun _ h => h.drop (.cons _ <| .cons_cons _ <| .cons_cons _ <| .refl _)) (fun _ _ _ h => h) (Ap By (Ab) (Cell.own 1 rfl rfl)) ?_
       refine A4 3 rfl (by kernel_rfl) (by kernel_rfl) (by kernel_rfl) (by kernel_rfl) rfl rfl (fun _ h => h.drop (.cons _ <| .cons_cons _ <| .cons_cons _ <| .refl _)) (fun _ _ _ h => h) (Ag (A5 rfl <| Aq rfl <| Am rfl <| Aj rfl <| Am rfl <| Aj rfl <| A5 rfl <| Am rfl <| Aj rfl <| A2 rfl <| Am rfl <| Aj rfl <| A5 rfl <| Aq rfl <| Aj rfl <| A2 rfl <| A5 rfl <| A1 rfl <| Aq rfl <| Ab)) ?_
       refine A4 4 rfl (by kernel_rfl) (by kernel_rfl) (by kernel_rfl) (by kernel_rfl) rfl rfl (fun _ h => h.drop (.cons _ <| .cons_cons _ <| .cons_cons _ <| .refl _)) (fun _ _ _ h => h) (Em B1 (Am rfl <| Ab) hr.eds.plain (Ab) (k := (wa % ps.length)) rfl (by omega)) ?_
       refine A4 6 rfl (by kernel_rfl) (by kernel_rfl) (by kernel_rfl) (by kernel_rfl) rfl rfl (fun _ h => h.drop (.cons _ <| .cons_cons _ <| .cons_cons _ <| .refl _)) (fun _ _ _ h => h) (Al Bo (A5 rfl <| A1 rfl <| Am rfl <| Aj rfl <| Am rfl <| Aj rfl <| A5 rfl <| Am rfl <| Aj rfl <| A2 rfl <| Am rfl <| Aj rfl <| A5 rfl <| Aq rfl <| Aj rfl <| Bl rfl <| A2 rfl <| A5 rfl <| A1 rfl <| Am rfl <| Ab)) ?_
       refine A4 7 rfl (by kernel_rfl) (by kernel_rfl) (by kernel_rfl) (by kernel_rfl) rfl rfl (fun _ h => h.drop (.cons _ <| .cons_cons _ <| .cons_cons _ <| .refl _)) (fun _ _ _ h => h) (Ap By (Ab) (Cell.own 1 rfl rfl)) ?_
       refine A4 8 rfl (by kernel_rfl) (by kernel_rfl) (by kernel_rfl) (by kernel_rfl) rfl rfl (fun _ h => h.drop (.cons _ <| .cons_cons _ <| .cons_cons _ <| .refl _)) (fun _ _ _ h => h) (Ag (A5 rfl <| A1 rfl <| Aq rfl <| Am rfl <| Aj rfl <| Am rfl <| Aj rfl <| A5 rfl <| Am rfl <| Aj rfl <| A2 rfl <| Am rfl <| Aj rfl <| A5 rfl <| Aq rfl <| Aj rfl <| A2 rfl <| A5 rfl <| A1 rfl <| Aq rfl <| Ab)) ?_
       refine A4 9 rfl (by kernel_rfl) (by kernel_rfl) (by kernel_rfl) (by kernel_rfl) rfl rfl (fun _ h => h.drop (.cons _ <| .cons_cons _ <| .cons_cons _ <| .refl _)) (fun _ _ _ h => h) (Bt (Ab) Ad rfl (by omega) (by omega)) ?_
       refine A4 10 rfl (by kernel_rfl) (by kernel_rfl) (by kernel_rfl) (by kernel_rfl) rfl rfl (fun _ h => h.drop (.cons _ <| .cons_cons _ <| .cons_cons _ <| .refl _)) (fun _ _ _ h => h) (q_sliceFrom B1 (Aq rfl <| Ab) hr.eds.plain (Ab) (k := (wa % ps.length) + 1) (by push_cast; rfl) (by omega)) ?_
       refine WX_x 0 rfl (by kernel_rfl) rfl (x_build0 B1 fun b61 hb61 nb61 => ⟨fun _ _ => (fun _ h => h.drop (.cons _ <| .cons _ <| .cons_cons _ <| .cons_cons _ <| .refl _)), ?_⟩)
       refine WX_x 5 rfl (by kernel_rfl) rfl (Cg B1 el_64 (Ab) (Eg rfl) (A1 rfl <| Aq rfl <| Ab) (src_eds (hr.eds.to (k := (wa % ps.length)) (by omega)) (fun p hp => hr.one p (List.mem_of_mem_take hp))) (by simp only [List.length_take]; omega) (by simp only [List.length_take]; omega) (.z) .box fun v62 R63 ho64 => ⟨fun _ _ => (fun _ h => h.drop (List.sublist_append_of_sublist_right <| .cons _ <| .cons_cons _ <| .cons_cons _ <| .refl _)), ?_⟩)
       refine WX_x 11 rfl (by kernel_rfl) rfl (Cg B1 el_64 (Ab) ho64 (Aq rfl <| Ab) (src_eds (hr.eds.from (k := (wa % ps.length) + 1) (by omega)) (fun p hp => hr.one p (List.mem_of_mem_drop hp))) (by simp only [List.length_take, List.length_drop]; omega) (by simp only [List.length_take, List.length_drop]; omega) (.z) .more fun v65 R66 ho67 => ⟨fun _ _ => (fun _ h => h.drop (List.sublist_append_of_sublist_right <| .cons _ <| .cons_cons _ <| .cons_cons _ <| .refl _)), ?_⟩)
       have hoF : Own 64 4 v65 (ps.take (wa % ps.length) ++ ps.drop ((wa % ps.length) + 1)).length ((ps.take (wa % ps.length) ++ ps.drop ((wa % ps.length) + 1)).flatMap edE) R66 := by have := ho67; simpa using this
       refine A4 12 rfl (by kernel_rfl) (by kernel_rfl) (by kernel_rfl) (by kernel_rfl) rfl rfl (fun _ h => h.drop (List.sublist_append_of_sublist_right <| .cons _ <| .cons_cons _ <| .cons_cons _ <| .refl _)) (fun _ _ _ h => h) (Al Bo (A5 rfl <| A1 rfl <| Ab)) ?_
       refine WX_orderB (.one (.skip <| .here) <| .one (.skip <| .here) <| .one (.lastS) <| .lastb (.last)) ?_
       refine WX_x0 13 rfl (by kernel_rfl) (Cd sz_23 (Ab) (Am rfl <| Ab) (i := 0) rfl (.next <| .here) (Own.one hoF) (.here) ⟨(fun h => nomatch h), ?_⟩)
       refine C2 (by kernel_rfl) ?_ _
       refine Ac <| Af <| Cj (σ := ⟨_, _⟩) (by rfl) hoF (.s <| .s <| .s <| .z) .last fun F68 hF69 hz70 => ?_
       replace hr := hr.mono hF69
       replace hl := hl.mono hF69
       have hef := hoF.sl (fun _ => rfl) hz70 (by simp only [List.length_append, List.length_take, List.length_drop]; omega)
       refine B9 (i := 0) rfl hb60 (.here) fun F71 hF72 hz20 => ?_
       replace hr := hr.mono hF72
       replace hl := hl.mono hF72
       replace hef := hef.mono hF72
       have hrf := hr.few hef
       refine Ai fun ds => Aa rfl (Ae Ad) ?_
       refine Ah <| Ac <| Af <| Af <| Ai fun ds => Aa rfl (Ae Ad) ?_
       refine Ah <| Ac <| A0 <| Bu [21, 22, 23, 215, 216, 217, 218, 219, 220, 221, 222, 223, 224, 225, 226, 227, 228, 229, 230, 231, 232, 233, 234, 235, 236] (fun m e σ => ∃ k : Nat, m + k = l.length ∧ e 22 = .int .i64 (k : Int) ∧ ∃ w S, e 21 = w ∧ Own 3 1 w (restTo l (wa % ps.length) k).length ((restTo l (wa % ps.length) k).flatMap intE) S ∧ σ = ⟨F71, (b2, bx 68 [.int .u8 (wa : Int), .int .u8 (wb : Int), .int .u8 (wc : Int)]) :: (b1, bx 25 [vp, ve]) :: S⟩) (l.length) ?_ ?_
       · exact ⟨0, by omega, (Ab), _, _, (Am rfl <| Ab), Own.nil, rfl⟩
       ·
        rintro m e _ ⟨k, hm, hs22, v21, R21, hs21, ho, rfl⟩
        by_cases hlt : k < l.length
        ·
         have hti := ht.in_ k hlt
         have hupk := up_at hlt
         have hrl := restTo_len (l := l) (i := (wa % ps.length)) (k := k)
         refine Af <| Af <| Ai fun ds => Aa rfl (Ag (At rfl hs22)) ?_
         refine Aa rfl (Ag (Am rfl <| Aj rfl <| A2 rfl <| A5 rfl <| Aj rfl <| Am rfl <| Aj rfl <| A5 rfl <| Am rfl <| Aj rfl <| A2 rfl <| Am rfl <| Aj rfl <| A5 rfl <| Aq rfl <| Aj rfl <| Bl rfl <| A2 rfl <| Aq rfl <| Ab)) ?_
         refine Aa rfl (Bk Bj (Ab) hl.plain) ?_
         refine Aa rfl (Bv (Aq rfl <| Ab) (Ab)) ?_
         refine Ah <| Ac <| Ar (Ab) (by first | rfl | exact decide_eq_true (by omega)) ?_
         refine Ax <| Ac <| Af <| A0 <| Af <| Ai fun ds => Aa rfl (Ag (A1 rfl <| Aj rfl <| A2 rfl <| A5 rfl <| Aj rfl <| Am rfl <| Aj rfl <| A5 rfl <| Am rfl <| Aj rfl <| A2 rfl <| Am rfl <| Aj rfl <| A5 rfl <| Aq rfl <| Aj rfl <| Bl rfl <| A2 rfl <| Aq rfl <| Ab)) ?_
         refine Aa rfl (Ag (A1 rfl <| Am rfl <| At rfl hs22)) ?_
         refine Aa rfl (Be (k := k) Bj (Am rfl <| Ab) hl.plain (Ab) rfl hlt) ?_
         refine Aa rfl (Ap Bn (Ab) (hl.cell1 hlt rfl)) ?_
         refine Aa rfl (Ae (Ab)) ?_
         refine Ah <| Ac <| Af <| Af <| Ai fun ds => Aa rfl (Ag (Ab)) ?_
         refine Aa rfl (Ag (A5 rfl <| Aq rfl <| Aj rfl <| A2 rfl <| A5 rfl <| Aj rfl <| Am rfl <| Aj rfl <| A5 rfl <| Am rfl <| Aj rfl <| A2 rfl <| Am rfl <| Aj rfl <| A5 rfl <| Aq rfl <| Aj rfl <| A2 rfl <| A5 rfl <| A1 rfl <| Aq rfl <| Ab)) ?_
         refine Aa rfl (C7 (Am rfl <| Ab) (Ab)) ?_
         refine Ah <| Ac <| WC_cut [23, 228, 229] (fun st σ => st 23 = .int .i64 (dnI (wa % ps.length) (upN l k)) ∧ σ = ⟨F71, (b2, bx 68 [.int .u8 (wa : Int), .int .u8 (wb : Int), .int .u8 (wc : Int)]) :: (b1, bx 25 [vp, ve]) :: R21⟩) ?_ ?_
         ·
          by_cases hgt : (((wa % ps.length) : Nat) : Int) < upN l k
          ·
           refine Ar (Ab) (by rw [up_at hlt]; exact decide_eq_true (by omega)) ?_
           refine Ai fun ds => Aa rfl (Ag (Aq rfl <| Am rfl <| Ab)) ?_
           refine Aa rfl (q_sub (Ab) Ad rfl (by omega) (by omega)) ?_
           refine Aa rfl (Ae (Ab)) ?_
           refine Ah <| Ac ⟨_, Off.eq (ou2 rfl <| Dy rfl <| D9), ?_⟩
           exact ⟨((Ab)).trans (by unfold dnI; rw [if_pos hgt, up_at hlt]), rfl⟩
          ·
           refine Ao (Ab) (by rw [up_at hlt]; exact decide_eq_false (by omega)) ?_
           refine Ax <| Ac ⟨_, Off.eq (D9), ?_⟩
           exact ⟨((Aq rfl <| Am rfl <| Ab)).trans (by unfold dnI; rw [if_neg hgt, up_at hlt]), rfl⟩
         rintro e43 _ ⟨hc23, rfl⟩
         by_cases hne : k = (wa % ps.length)
         ·
          refine Af <| Ai fun ds => Aa rfl (Ag (Aj rfl <| A5 rfl <| A1 rfl <| At rfl hs22)) ?_
          refine Aa rfl (Ag (Am rfl <| Aj rfl <| A5 rfl <| A1 rfl <| Aj rfl <| A2 rfl <| A5 rfl <| Aj rfl <| Am rfl <| Aj rfl <| A5 rfl <| Am rfl <| Aj rfl <| A2 rfl <| Am rfl <| Aj rfl <| A5 rfl <| Aq rfl <| Aj rfl <| A2 rfl <| A5 rfl <| A1 rfl <| Aq rfl <| Ab)) ?_
          refine Aa rfl (B3 (Am rfl <| Ab) (Ab)) ?_
          refine Ah <| Ac <| Ao (Ab) (decide_eq_false (by omega)) ?_
          refine Ax <| Bb <| Ac <| Ai fun ds => Aa rfl (Ag (Aq rfl <| Am rfl <| Aj rfl <| A5 rfl <| A1 rfl <| At rfl hs22)) ?_
          refine Aa rfl (Bt (Ab) Ad rfl (by omega) (by omega)) ?_
          refine Aa rfl (Ae (Ab)) ?_
          refine Ah <| Ac ⟨_, m - 1, Off.eq (Es rfl <| ou2 rfl <| off_in rfl <| D1 rfl <| Es rfl <| Bf), by omega, ?_⟩
          exact ⟨k + 1, by omega, (Ab), _, _, (A1 rfl <| Aq rfl <| Aj rfl <| A5 rfl <| A1 rfl <| At rfl hs21), by rw [restTo_no hne]; exact ho, rfl⟩
         ·
          refine Af <| Ai fun ds => Aa rfl (Ag (Aj rfl <| A5 rfl <| A1 rfl <| At rfl hs22)) ?_
          refine Aa rfl (Ag (Am rfl <| Aj rfl <| A5 rfl <| A1 rfl <| Aj rfl <| A2 rfl <| A5 rfl <| Aj rfl <| Am rfl <| Aj rfl <| A5 rfl <| Am rfl <| Aj rfl <| A2 rfl <| Am rfl <| Aj rfl <| A5 rfl <| Aq rfl <| Aj rfl <| A2 rfl <| A5 rfl <| A1 rfl <| Aq rfl <| Ab)) ?_
          refine Aa rfl (B3 (Am rfl <| Ab) (Ab)) ?_
          refine Ah <| Ac <| Ar (Ab) (decide_eq_true (by omega)) ?_
          refine Ai fun ds => Aa rfl (Ag (Aq rfl <| Am rfl <| Aj rfl <| A5 rfl <| A1 rfl <| At rfl hs21)) ?_
          refine Aa rfl (Ag (A1 rfl <| At rfl hc23)) ?_
          refine Bg rfl (B7 Bj C9 rfl (.cons (Ab) .nil) rfl rfl (by decide) (by simp [Value.oneCell']) fun b74 hb74 nb74 => ?_)
          refine Bg rfl (Cg Bj el_3 (Aq rfl <| Ab) ho (Ab) (Dg (s := 1) 0 rfl rfl (by simp [Value.oneCell'])) (by omega) (by omega) (.s <| .s <| .s <| .z) .last fun v75 R76 ho77 => ?_)
          have ho2 := ho77.snoc (x := dnI (wa % ps.length) (upN l k)) rfl rfl
          refine Aa rfl (Ae (Ab)) ?_
          refine Ah <| Bb <| Ac <| Df (fun _ _ h => h.drop (.cons _ <| .cons_cons _ <| .cons_cons _ <| .refl _)) ?_
          refine Ai fun ds => Aa rfl (Ag (A5 rfl <| Aj rfl <| A5 rfl <| A1 rfl <| At rfl hs22)) ?_
          refine Aa rfl (Bt (Ab) Ad rfl (by omega) (by omega)) ?_
          refine Aa rfl (Ae (Ab)) ?_
          refine Ah <| Ac ⟨_, m - 1, Off.eq (D1 rfl <| ou2 rfl <| Dy rfl <| off_in rfl <| D1 rfl <| Es rfl <| Bf), by omega, ?_⟩
          exact ⟨k + 1, by omega, (Ab), _, _, (Aq rfl <| Am rfl <| Ab), by rw [restTo_yes hne]; exact ho2, rfl⟩
        ·
         refine Af <| Af <| Ai fun ds => Aa rfl (Ag (At rfl hs22)) ?_
         refine Aa rfl (Ag (Am rfl <| Aj rfl <| A2 rfl <| A5 rfl <| Aj rfl <| Am rfl <| Aj rfl <| A5 rfl <| Am rfl <| Aj rfl <| A2 rfl <| Am rfl <| Aj rfl <| A5 rfl <| Aq rfl <| Aj rfl <| Bl rfl <| A2 rfl <| Aq rfl <| Ab)) ?_
         refine Aa rfl (Bk Bj (Ab) hl.plain) ?_
         refine Aa rfl (Bv (Aq rfl <| Ab) (Ab)) ?_
         refine Ah <| Ac <| Ao (Ab) (by first | rfl | exact decide_eq_false (by omega)) ?_
         obtain rfl : k = l.length := by omega
         have hrl := restTo_len (l := l) (i := (wa % ps.length)) (k := l.length)
         refine Cj (σ := ⟨_, _⟩) (by rfl) ho (.s <| .s <| .z) .last fun F78 hF79 hz80 => ?_
         replace hrf := hrf.mono hF79
         replace hz20 := hF79 _ _ hz20
         have hrest := ho.sl (fun _ => rfl) hz80 (by omega)
         rw [restTo_all (show (wa % ps.length) < l.length by omega)] at hrest
         have hn2 : 2 ≤ l.length := by omega
         have hf0 := few_check h0 hxe (by omega)
         have hrt := rest_tree ht (show (wa % ps.length) < l.length by omega) hn2 hno
         have hokF := tree_err0 hf0 (show (restL l (wa % ps.length)).length = _ by rw [Dr, few_len hxe, hll]) hrt
         by_cases hc : costL s l = 1000
         ·
          have hce := Eb hok hc
          refine Br ?_
          refine Bd <| Bd <| Bh <| Ac <| Af <| Ai fun ds => Aa rfl (A8 B2 (A1 rfl <| Aj rfl <| A5 rfl <| A1 rfl <| Aq rfl <| Am rfl <| Ab) rfl rfl (Cm hz20)) ?_
          refine Aa rfl (Ag (A1 rfl <| Am rfl <| At rfl hs21)) ?_
          refine Bx rfl (Ba bd_21 Az (.cons (Am rfl <| Ab) (.cons (Ab) .nil)) (Cv hrf hrest) (fun _ _ h => h.trans (show changesEV (fewS s (wa % ps.length)) (restL l (wa % ps.length)) = .tuple #[.int .i64 (changesE (fewS s (wa % ps.length)) (restL l (wa % ps.length))).1, .int .i64 (changesE (fewS s (wa % ps.length)) (restL l (wa % ps.length))).2] from rfl))) ?_
          refine Aa rfl (Ag (Ab)) ?_
          refine Aa rfl (Ay (Ab) rfl) ?_
          refine Aa rfl (Ay (Am rfl <| Ab) rfl) ?_
          refine Aa rfl (Ae (Am rfl <| Ab)) ?_
          refine Aa rfl (Ae (Am rfl <| Ab)) ?_
          refine Ah <| Ac <| Af <| Ai fun ds => Aa rfl (Ag (A5 rfl <| A1 rfl <| Aj rfl <| A2 rfl <| A5 rfl <| Aj rfl <| Am rfl <| Aj rfl <| A5 rfl <| Am rfl <| Aj rfl <| A2 rfl <| Am rfl <| Aj rfl <| A5 rfl <| Aq rfl <| Aj rfl <| A2 rfl <| A1 rfl <| Ab)) ?_
          refine Aa rfl (B3 (Ab) Ad) ?_
          refine Aa rfl (Ag (Ab)) ?_
          refine Au rfl rfl (Ab) (.inl (congrArg Value.bool (by rw [hce]; decide))) rfl ?_
          refine Au rfl rfl (Am rfl <| Ab) (.inl (congrArg Value.bool (by rw [hce]; decide))) rfl ?_
          refine Au rfl rfl (Aq rfl <| Ab) (.inl (congrArg Value.bool (by rw [hce]; decide))) rfl ?_
          refine Au rfl rfl (Ab) (.inr rfl) rfl ?_
          refine Au rfl rfl (Am rfl <| Ab) (.inr rfl) rfl ?_
          refine Au rfl rfl (Aq rfl <| Ab) (.inr rfl) rfl ?_
          refine Au rfl rfl (A1 rfl <| Aq rfl <| Ab) (.inl (congrArg Value.bool (by rw [hce]; decide))) rfl ?_
          refine Aa rfl (A6 (A1 rfl <| Aq rfl <| Am rfl <| Ab) (by rw [hce]; decide) Ad) ?_
          refine Aa rfl (Ag (Ab)) ?_
          refine As rfl rfl (Ab) rfl ?_
          refine Bx rfl (Ba bd_26 Az .nil awake_ok (fun _ _ h => h)) ?_
          refine Aa rfl (A6 (Am rfl <| Ab) rfl (Ab)) ?_
          refine Aa rfl (Ae (Ab)) ?_
          refine Ah <| Ac <| A3 <| Aw rfl (.tmp (Ab) .nil) ?_
          rfl
         ·
          have hce := Dd hok hc
          obtain ⟨q1, q2⟩ := few_cost h0 hll ht (show (wa % ps.length) < l.length by omega) hn2 hno (show costL s l < 1000 by omega)
          have hceF := Dd hokF (show costL (fewS s (wa % ps.length)) (restL l (wa % ps.length)) ≠ 1000 by omega)
          refine Br ?_
          refine Bd <| Bd <| Bh <| Ac <| Af <| Ai fun ds => Aa rfl (A8 B2 (A1 rfl <| Aj rfl <| A5 rfl <| A1 rfl <| Aq rfl <| Am rfl <| Ab) rfl rfl (Cm hz20)) ?_
          refine Aa rfl (Ag (A1 rfl <| Am rfl <| At rfl hs21)) ?_
          refine Bx rfl (Ba bd_21 Az (.cons (Am rfl <| Ab) (.cons (Ab) .nil)) (Cv hrf hrest) (fun _ _ h => h.trans (show changesEV (fewS s (wa % ps.length)) (restL l (wa % ps.length)) = .tuple #[.int .i64 (changesE (fewS s (wa % ps.length)) (restL l (wa % ps.length))).1, .int .i64 (changesE (fewS s (wa % ps.length)) (restL l (wa % ps.length))).2] from rfl))) ?_
          refine Aa rfl (Ag (Ab)) ?_
          refine Aa rfl (Ay (Ab) rfl) ?_
          refine Aa rfl (Ay (Am rfl <| Ab) rfl) ?_
          refine Aa rfl (Ae (Am rfl <| Ab)) ?_
          refine Aa rfl (Ae (Am rfl <| Ab)) ?_
          refine Ah <| Ac <| Af <| Ai fun ds => Aa rfl (Ag (A5 rfl <| A1 rfl <| Aj rfl <| A2 rfl <| A5 rfl <| Aj rfl <| Am rfl <| Aj rfl <| A5 rfl <| Am rfl <| Aj rfl <| A2 rfl <| Am rfl <| Aj rfl <| A5 rfl <| Aq rfl <| Aj rfl <| A2 rfl <| A1 rfl <| Ab)) ?_
          refine Aa rfl (B3 (Ab) Ad) ?_
          refine Aa rfl (Ag (Ab)) ?_
          refine As rfl rfl (Ab) (by rw [hce]; exact decide_eq_false (fun h => h rfl)) ?_
          refine Aa rfl (Ag (Aq rfl <| Am rfl <| Ab)) ?_
          refine As rfl rfl (Am rfl <| Ab) (by rw [hce]; exact decide_eq_false (fun h => h rfl)) ?_
          refine Aa rfl (Bw (Ab) Ad) ?_
          refine As rfl rfl (Aq rfl <| Ab) (by rw [hce]; exact decide_eq_false (fun h => h rfl)) ?_
          refine Aa rfl (Ag (Ab)) ?_
          refine As rfl rfl (Ab) (by rw [hceF]; exact decide_eq_true rfl) ?_
          refine Aa rfl (Ag (A1 rfl <| Aq rfl <| Am rfl <| Ab)) ?_
          refine As rfl rfl (Am rfl <| Ab) (by rw [hceF]; exact decide_eq_true rfl) ?_
          refine Aa rfl (Ag (A2 rfl <| Aq rfl <| Am rfl <| Aj rfl <| A2 rfl <| A5 rfl <| Aj rfl <| Am rfl <| Aj rfl <| A5 rfl <| Am rfl <| Aj rfl <| A2 rfl <| Am rfl <| Aj rfl <| A5 rfl <| Aq rfl <| Aj rfl <| A2 rfl <| A1 rfl <| Am rfl <| Ab)) ?_
          refine As rfl rfl (Aq rfl <| Ab) (by rw [hceF]; exact decide_eq_true rfl) ?_
          refine Aa rfl (q_leq (Am rfl <| Ab) (Ab)) ?_
          refine As rfl rfl (A1 rfl <| Aq rfl <| Ab) (by rw [hce]; exact decide_eq_false (fun h => h rfl)) ?_
          refine Aa rfl (A6 (Aq rfl <| Am rfl <| Ab) (by rw [hceF]; exact decide_eq_true rfl) (Ab)) ?_
          refine Aa rfl (Bc (A1 rfl <| Aq rfl <| Am rfl <| Ab) (by rw [hce]; exact decide_eq_false (fun h => h rfl)) (Ab)) ?_
          refine Aa rfl (Ag (Ab)) ?_
          refine As rfl rfl (Ab) (by rw [hceF, hce]; exact decide_eq_true (by simp only; omega)) ?_
          refine Bx rfl (Ba bd_26 Az .nil awake_ok (fun _ _ h => h)) ?_
          refine Aa rfl (A6 (Am rfl <| Ab) (by rw [hceF, hce]; exact decide_eq_true (by simp only; omega)) (Ab)) ?_
          refine Aa rfl (Ae (Ab)) ?_
          refine Ah <| Ac <| A3 <| Aw rfl (.tmp (Ab) .nil) ?_
          rfl
 ·
  refine Af <| Ai fun ds => Bg rfl (B4 (Ak rfl) rfl fun b81 hb81 nb81 => ?_)
  refine Bg rfl (B4 (Am rfl <| Ak rfl) rfl fun b82 hb82 nb82 => ?_)
  refine Aa rfl (Ae Ad) ?_
  refine Ah <| Ac <| Af <| Af <| Ai fun ds => Aa rfl (A8 B2 (Aq rfl <| Ab) rfl rfl (A7 1 rfl)) ?_
  refine Bx rfl (Ba bd_40 Az (.cons (Ab) .nil) (valid_ok hr) (fun _ _ h => h)) ?_
  refine Aa rfl (Cr (Ab)) ?_
  refine Ah <| Ac <| Ar (Ab) (by simp [h0]) ?_
  refine Af <| Ai fun ds => Bx rfl (Ba bd_26 Az .nil awake_ok (fun _ _ h => h)) ?_
  refine Aa rfl (Ae (Ab)) ?_
  refine Ah <| Ac <| A3 <| A9 ?_
  refine Aw rfl (.tmp (Ab) .nil) ?_
  rfl
end Go.Proofs.Ytccogmkhijgelaa
namespace Go.Proofs.Ytccogmkhijgelaa
open Go.ChangeShapes Go.WideShapes Go.ChangeAt Go.RowKit
set_option maxRecDepth 100000 in
theorem stemMoreLifted (os : Os) (started : os.Started) (H : Type) (enc : TypeId × Value → H) :
   ReturnsInHanded {} Try.checked os 11 .any (Rows.stemMoreSpec.pre6 enc Try.prog Try.f11 Rows.stemMoreRow.domain false) (Rows.stemMoreSpec.post enc Try.prog Try.f11 false true false false) := by
 refine returnsInHanded_of_change_sized (C := Try.checked) ownKnob0 started (by kernel_rfl) Try.func11
   (ChangeSpec.witness6 (enc := enc) (C := Try.checked) false ⟨#[], #[.agg #[.slice none 0 0, .slice none 0 0], .slice none 0 0, .agg #[.int .u8 0, .int .u8 0, .int .u8 0]], []⟩ 8 (by kernel_rfl) (by kernel_rfl) (by kernel_rfl) (by kernel_rfl)) ?_
 intro W base args ds gs before hval0 hW hcnd hsz _
 have hval : ∀ (j : Nat) t v, Try.f11.params[j]? = some t → args[j]? = some v → Value.okWide Try.prog W .any base t v := hval0
 have hW' := hW
 obtain ⟨p, q, hA0, hV, rfl, hfz, hnd⟩ := hW
 have hA : DataW.TrodAll enc Try.prog W 0 (fun _ => true) true Try.f11.params.toList args.toList ds p := hA0
 rw [Try.params11] at hA hval
 obtain ⟨v0, vs0, d0, ds0, p0, q0, hargs, rfl, rfl, h0, r0⟩ := trodAll_cons hA
 obtain ⟨v1, vs1, d1, ds1, p1, q1, rfl, rfl, rfl, h1, r1⟩ := trodAll_cons r0
 obtain ⟨v2, vs2, d2, ds2, p2, q2, rfl, rfl, rfl, h2, r2⟩ := trodAll_cons r1
 obtain ⟨rfl, rfl, rfl⟩ := trodAll_nil r2
 obtain rfl : args = #[v0, v1, v2] := by cases args; simp_all
 obtain ⟨rfl, rfl⟩ := trodVars_none hV
 have hsz' : (DataW.weightsEach Try.prog (Try.f11.params.toList ++ []) ([d0, d1, d2] ++ [])).all (· ≤ reachBytes) = true := hsz
 rw [Try.params11] at hsz'
 have k0 := h0
 have lt0 : ∀ x ∈ p0, x.block < W.heap.size := by obtain ⟨m, hm⟩ := k0; exact DataW.trod_lt m _ _ _ hm
 have k1 := h1
 have lt1 : ∀ x ∈ p1, x.block < W.heap.size := by obtain ⟨m, hm⟩ := k1; exact DataW.trod_lt m _ _ _ hm
 have k2 := h2
 have lt2 : ∀ x ∈ p2, x.block < W.heap.size := by obtain ⟨m, hm⟩ := k2; exact DataW.trod_lt m _ _ _ hm
 obtain ⟨vp, ve, ps, s, rfl, hr⟩ := arg_stem (hval 0 25 v0 rfl rfl) h0 (weights_at hsz' (j := 0) rfl rfl)
 obtain ⟨xs, hxs, hxb⟩ := arg_bytes (hval 1 50 v1 rfl rfl) h1 (weights_at hsz' (j := 1) rfl rfl)
 obtain ⟨wa, wb, wc, rfl, hwa, hwb, hwc⟩ := arg_three (hval 2 68 v2 rfl rfl) h2 (weights_at hsz' (j := 2) rfl rfl)
 clear hA0 hval0
 refine (Ok.law (moreLaw_ok hr hxs hxb hwa hwb hwc)).mono fun e W' ⟨he, bel⟩ => ?_
 subst he
 exact ⟨_, rfl, _, _, _, [], _, [], hW', trodAll_mk1 (shut_bool Try.underlying4 _), (trodAll_cons_mk (Below.trod laidOut (by kernel_rfl) (of_decide_eq_true (by kernel_rfl)) k0 bel lt0) (trodAll_cons_mk (Below.trod laidOut (by kernel_rfl) (of_decide_eq_true (by kernel_rfl)) k1 bel lt1) (trodAll_cons_mk (Below.trod laidOut (by kernel_rfl) (of_decide_eq_true (by kernel_rfl)) k2 bel lt2) trodAll_mk0))), rfl, bel.frame _, fun h => by cases h⟩
theorem stemMore : Rows.StemMoreSaid :=
 OpenClaim.holds_of_wide 11 Try.f11 rfl rfl rfl rfl rfl rfl rfl ⟨rfl, rfl, rfl, rfl, rfl⟩ rfl rfl rfl rfl rfl (by kernel_rfl) Try.func11 (by kernel_rfl)
   (of_decide_eq_true (by kernel_rfl)) (by unfold Func.isWrapper; first | (rw [if_pos (by decide +kernel)]; kernel_rfl) | (rw [if_neg (by decide +kernel)]; exact ⟨rfl, rfl⟩))
   (fun os started H enc _ => stemMoreLifted os started H enc)
#print axioms stemMore
end Go.Proofs.Ytccogmkhijgelaa
