/-
  StemKnown returns true. No conditions.
-/
import Derived.Test.YtccogmkhijgelaaPac
import Derived.KernelRfl
namespace Go.Proofs.Ytccogmkhijgelaa
open Go.RowKit
theorem bd_110 : Body Try.prog 110 := Bo (by kernel_rfl)
theorem bd_112 : Body Try.prog 112 := Bo (by kernel_rfl)
theorem bd_75 : Body Try.prog 75 := Bo (by kernel_rfl)
theorem bd_76 : Body Try.prog 76 := Bo (by kernel_rfl)
set_option maxRecDepth 100000 in
theorem indexTree_ok {F : Heap} {v : Value} {xs : List (List Int)} (h : Sl F v 5 treeC xs) (p : _ → Bool) {g : FuncId} {cs : List Value} (hg : Body Try.prog g) (hp : ∀ k (hk : k < xs.length), Ok Try.prog g ([Value.agg (treeC xs[k]).toArray] ++ cs).toArray F fun r _ => r = .bool (p xs[k])) : Ok Try.prog 112 [v, .func (.func g) #[] cs.toArray].toArray F fun r _ => r = .int .i64 (findI p xs) := by
 refine Ok.intro Try.func112 rfl Try.ntmps112 rfl fun w0 => ?_
 have hlen := h.plain.lt
 refine Af <| Ai fun ds => Aa rfl (Ad Ab) ?_
 refine Ah <| Ae <| Af <| Af <| Ai fun ds => Aa rfl (Ag (Ak rfl <| Aj rfl)) ?_
 refine Aa rfl (Bp sl_110 (Ac) h.plain) ?_
 refine Aa rfl (Ag Ab) ?_
 refine Ah <| Ae <| Az <| By [4, 5, 8, 9, 10, 11, 12, 13, 14, 15, 16, 17, 18] (fun m e σ => ∃ k : Nat, m + k = xs.length ∧ e 8 = .int .i64 k ∧ σ = ⟨F, []⟩ ∧ ∀ j (hj : j < xs.length), j < k → p xs[j] = false) (xs.length) ?_ ?_
 · exact ⟨0, by omega, (Ac), rfl, fun j hj h => absurd h (by omega)⟩
 ·
  rintro m e _ ⟨k, hm, hs8, rfl, hno⟩
  by_cases hlt : k < xs.length
  ·
   refine Af <| Ai fun ds => Aa rfl (Bz (Au rfl hs8) (Al rfl <| Ak rfl <| Ac)) ?_
   refine Ah <| Ae <| Af <| Aq (Ac) (by first | rfl | exact decide_eq_true (by omega)) ?_
   by_cases hpk : p xs[k] = true
   ·
    refine Ay <| Ae <| Af <| Az <| Af <| Ai fun ds => Aa rfl (Ag (Ak rfl <| Au rfl hs8)) ?_
    refine Aa rfl (Ad (Ac)) ?_
    refine Ah <| Ae <| Af <| Ai fun ds => Aa rfl (Ag (Ar rfl <| Ak rfl <| Al rfl <| A0 rfl <| Aj rfl)) ?_
    refine Aa rfl (Ag (A0 rfl <| Al rfl <| A0 rfl <| Aj rfl)) ?_
    refine Aa rfl (Ag (Ar rfl <| Ac)) ?_
    refine Aa rfl (Bh  sl_110 (Ak rfl <| Ac) h.plain (Ac) rfl (by omega)) ?_
    refine Aa rfl (A7 Bs (Ac) rfl rfl (h.whole (by omega))) ?_
    refine B0 rfl (Bc hg (A0 rfl <| Ac) (.cons (Ac) .nil) (hp k hlt) (fun _ _ h => h)) ?_
    refine Ah <| Ae <| Aq (Ac) hpk ?_
    refine Af <| Ai fun ds => Aa rfl (Ag (A0 rfl <| Ar rfl <| Ac)) ?_
    refine Aa rfl (Ad (Ac)) ?_
    refine Ah <| Ae <| A4 <| Bd (A9 (A9 (Bd (A9 ?_))))
    refine Aw rfl (.tmp (Ac) .nil) ?_
    show _ = _
    rw [Do hlt hpk hno]; rfl
   ·
    replace hpk : p xs[k] = false := by simpa using hpk
    refine Ay <| Ae <| Af <| Az <| Af <| Ai fun ds => Aa rfl (Ag (Ak rfl <| Au rfl hs8)) ?_
    refine Aa rfl (Ad (Ac)) ?_
    refine Ah <| Ae <| Af <| Ai fun ds => Aa rfl (Ag (Ar rfl <| Ak rfl <| Al rfl <| A0 rfl <| Aj rfl)) ?_
    refine Aa rfl (Ag (A0 rfl <| Al rfl <| A0 rfl <| Aj rfl)) ?_
    refine Aa rfl (Ag (Ar rfl <| Ac)) ?_
    refine Aa rfl (Bh  sl_110 (Ak rfl <| Ac) h.plain (Ac) rfl (by omega)) ?_
    refine Aa rfl (A7 Bs (Ac) rfl rfl (h.whole (by omega))) ?_
    refine B0 rfl (Bc hg (A0 rfl <| Ac) (.cons (Ac) .nil) (hp k hlt) (fun _ _ h => h)) ?_
    refine Ah <| Ae <| Am (Ac) hpk ?_
    refine Ay <| Ba <| Ae <| Ai fun ds => Aa rfl (Bw (A8 rfl <| Ak rfl <| Au rfl hs8) Ab rfl (by omega) (by omega)) ?_
    refine Aa rfl (Ag (Ac)) ?_
    refine Ah <| Ae ⟨_, m - 1, Off.eq (ou8 rfl <| ou2 rfl <| ou1 rfl <| Be), by omega, ?_⟩
    refine ⟨k + 1, by omega, (Ac), rfl, fun j hj hjk => ?_⟩
    rcases Nat.lt_succ_iff_lt_or_eq.1 hjk with hjk | rfl
    · exact hno j hj hjk
    · exact hpk
  ·
   refine Af <| Ai fun ds => Aa rfl (Bz (Au rfl hs8) (Al rfl <| Ak rfl <| Ac)) ?_
   refine Ah <| Ae <| Af <| Am (Ac) (by first | rfl | exact decide_eq_false (by omega)) ?_
   refine Bt ?_
   refine Bg <| Bg <| Bj <| Ae <| Af <| Ai fun ds => Aa rfl (Ad Ab) ?_
   refine Ah <| Ae <| A4 <| Aw rfl (.tmp (Ac) .nil) ?_
   show _ = _
   rw [findI_none fun j hj => hno j hj (by omega)]; rfl
set_option maxRecDepth 100000 in
theorem C0 {F : Heap} {v : Value} {xs : List (List Int)} (h : Sl F v 5 treeC xs) (p : _ → Bool) {g : FuncId} {cs : List Value} (hg : Body Try.prog g) (hp : ∀ k (hk : k < xs.length), Ok Try.prog g ([Value.agg (treeC xs[k]).toArray] ++ cs).toArray F fun r _ => r = .bool (p xs[k])) : Ok Try.prog 78 [v, .func (.func g) #[] cs.toArray].toArray F fun r _ => r = .bool (xs.any p) := by
 refine Ok.intro Try.func78 rfl Try.ntmps78 rfl fun w0 => ?_
 refine Af <| Ai fun ds => Aa rfl (Ad Ab) ?_
 refine Ah <| Ae <| Af <| Ai fun ds => Aa rfl (Ag (Ak rfl <| Aj rfl)) ?_
 refine Aa rfl (Ag (Ar rfl <| Aj rfl)) ?_
 refine B0 rfl (Bc bd_112 Ax (.cons (Ak rfl <| Ac) (.cons (Ac) .nil)) (indexTree_ok h p hg hp) (fun _ _ h => h)) ?_
 refine Aa rfl (q_geq (Ac) Ab) ?_
 refine Aa rfl (Ad (Ac)) ?_
 refine Ah <| Ae <| A4 <| Aw rfl (.tmp (Ac) .nil) ?_
 show _ = _
 rw [← findI_any]; rfl
set_option maxRecDepth 100000 in
theorem cloneInt_ok {F : Heap} {v : Value} {xs : List Int} (h : Ints F v xs) (hn : xs.length ≤ 1000) : Ok Try.prog 76 [v].toArray F fun u F' => Ints F' u xs := by
 obtain ⟨a0, c0, rfl, g1, g2, g3, g4⟩ := h.plain
 refine Ok.intro Try.func76 rfl Try.ntmps76 rfl fun w0 => ?_
 cases a0
 ·
  refine Af <| Ai fun ds => Aa rfl (Ad Ab) ?_
  refine Ah <| Ae <| Af <| Af <| Ai fun ds => Aa rfl (Ag (Ak rfl <| Aj rfl)) ?_
  refine Aa rfl (q_eqlNil Try.underlying26 (Ac) Ab) ?_
  refine Ah <| Ae <| Aq (Ac) rfl ?_
  refine Af <| Ai fun ds => Aa rfl (Ad Ab) ?_
  refine Ah <| Ae <| A4 <| A9 ?_
  refine Aw rfl (.tmp (Ac) .nil) ?_
  obtain ⟨h0, -⟩ := g2 rfl
  have : xs = [] := List.eq_nil_of_length_eq_zero h0
  subst this
  exact Sl.nil
 ·
  refine Af <| Ai fun ds => Aa rfl (Ad Ab) ?_
  refine Ah <| Ae <| Af <| Af <| Ai fun ds => Aa rfl (Ag (Ak rfl <| Aj rfl)) ?_
  refine Aa rfl (q_eqlNil Try.underlying26 (Ac) Ab) ?_
  refine Ah <| Ae <| Am (Ac) rfl ?_
  refine Ay <| Ae <| Af <| Ai fun ds => Bb rfl (B1 Bm Cy rfl .nil rfl rfl (by decide) (by simp [Value.oneCell']) fun b1 hb1 nb1 => ?_)
  refine Aa rfl (Ag (A0 rfl <| Aj rfl)) ?_
  refine Bb rfl (C1 Bm el_3 (Ak rfl <| Ac) (own_box rfl) (Ac) h.srcInt (by omega) (by omega) (.z) .box fun v2 R3 ho4 => ?_)
  have ho1 : Own 3 1 v2 xs.length (xs.flatMap intE) R3 := by simpa using ho4
  refine WL_freezeR (σ := ⟨_, _⟩) (by rfl) ho1 (.z) .more fun F5 hF6 hz7 => ?_
  have hn7 := ho1.sl (fun _ => rfl) hz7 (by omega)
  refine Aa rfl (Ad (Ac)) ?_
  refine Ah <| Ae <| A4 <| Aw rfl (.tmp (Ac) .nil) ?_
  exact hn7
set_option maxRecDepth 100000 in
theorem cloneInt_own {F : Heap} {v : Value} {xs : List Int} (h : Ints F v xs) (hn : xs.length ≤ 1000) : OkN Try.prog 76 [v].toArray F fun u _F' Hn => Own 3 1 u xs.length (xs.flatMap intE) Hn := by
 obtain ⟨a0, c0, rfl, g1, g2, g3, g4⟩ := h.plain
 refine OkN.intro Try.func76 rfl Try.ntmps76 rfl fun w0 => ?_
 cases a0
 ·
  refine Af <| Ai fun ds => Aa rfl (Ad Ab) ?_
  refine Ah <| Ae <| Af <| Af <| Ai fun ds => Aa rfl (Ag (Ak rfl <| Aj rfl)) ?_
  refine Aa rfl (q_eqlNil Try.underlying26 (Ac) Ab) ?_
  refine Ah <| Ae <| Aq (Ac) rfl ?_
  refine Af <| Ai fun ds => Aa rfl (Ad Ab) ?_
  refine Ah <| Ae <| A4 <| A9 ?_
  refine Ds rfl (.tmp (Ac) .nil) (List.nil_sublist _) ?_
  obtain ⟨h0, -⟩ := g2 rfl
  have : xs = [] := List.eq_nil_of_length_eq_zero h0
  subst this
  exact own_nil
 ·
  refine Af <| Ai fun ds => Aa rfl (Ad Ab) ?_
  refine Ah <| Ae <| Af <| Af <| Ai fun ds => Aa rfl (Ag (Ak rfl <| Aj rfl)) ?_
  refine Aa rfl (q_eqlNil Try.underlying26 (Ac) Ab) ?_
  refine Ah <| Ae <| Am (Ac) rfl ?_
  refine Ay <| Ae <| Af <| Ai fun ds => Bb rfl (B1 Bm Cy rfl .nil rfl rfl (by decide) (by simp [Value.oneCell']) fun b1 hb1 nb1 => ?_)
  refine Aa rfl (Ag (A0 rfl <| Aj rfl)) ?_
  refine Bb rfl (C1 Bm el_3 (Ak rfl <| Ac) (own_box rfl) (Ac) h.srcInt (by omega) (by omega) (.z) .box fun v2 R3 ho4 => ?_)
  have ho1 : Own 3 1 v2 xs.length (xs.flatMap intE) R3 := by simpa using ho4
  refine Aa rfl (Ad (Ac)) ?_
  refine Ah <| Ae <| A4 <| Ds rfl (.tmp (Ac) .nil) (List.sublist_append_left _ _) ?_
  exact ho1
def AskR (F : Heap) (u : Value) (s : Stm) : Prop := ∃ v, u = .tuple #[v, .int .i64 (askedE s).2.1, .int .i64 (askedE s).2.2] ∧ Sl F v 5 treeC (askedE s).1
theorem AskR.ok {F : Heap} {u : Value} {s : Stm} (h : AskR F u s) (h0 : askedT s = 0) : ∃ v, u = .tuple #[v, .int .i64 (bestsM s), .int .i64 0] ∧ Sl F v 5 treeC (bestsL s) := by
 unfold AskR at h; rw [askedE_ok h0] at h; exact h
theorem AskR.bad {F : Heap} {u : Value} {s : Stm} (h : AskR F u s) (h0 : askedT s ≠ 0) : ∃ v, u = .tuple #[v, .int .i64 0, .int .i64 (askedT s)] := by
 unfold AskR at h; rw [askedE_bad h0] at h; obtain ⟨v, rfl, -⟩ := h; exact ⟨v, rfl⟩
theorem upV_ok {s : Stm} (h : bestsL s ≠ []) : upV (bestsM s) = bestsM s := if_neg fun h2 => h (bestsL_nil.2 h2)
set_option maxRecDepth 100000 in
theorem asked_ok {F : Heap} {vp ve : Value} {ps : List (Value × Edn)} {s : Stm} (hr : StmR F vp ve ps s) : Ok Try.prog 75 [.agg #[vp, ve]].toArray F fun u F' => AskR F' u s := by
 refine Ok.intro Try.func75 rfl Try.ntmps75 rfl fun w0 => ?_
 by_cases h0 : (checkT s).2.2 = 0
 ·
  have hv := Db h0
  have hne := hv.ne
  refine Af <| Ai fun ds => Bb rfl (B9 (Aj rfl) rfl fun b1 hb1 nb1 => ?_)
  refine Aa rfl (Ad Ab) ?_
  refine Aa rfl (Ad Ab) ?_
  refine Aa rfl (Ad Ab) ?_
  refine Ah <| Ae <| Af <| Ai fun ds => Aa rfl (A7 B8 (Ar rfl <| Ak rfl <| Ac) rfl rfl (A2 0 rfl)) ?_
  refine Bb rfl (C6 bd_65 Ax (.cons (Ac) .nil) (open_ok hr h0) fun v2 F3 R6 hr4 hF5 => ?_)
  obtain ⟨ba, kb, rfl, hX, rfl⟩ := hr4
  refine Aa rfl (Ag (Ac)) ?_
  refine Aa rfl (As (Ac) rfl) ?_
  refine Aa rfl (As (Ak rfl <| Ac) rfl) ?_
  refine Aa rfl (Ad (Ak rfl <| Ac)) ?_
  refine Aa rfl (Ad (Ak rfl <| Ac)) ?_
  refine Ah <| Ae <| Af <| Af <| Ai fun ds => Aa rfl (Ag (Ac)) ?_
  refine Aa rfl (B6 (Ac) Ab) ?_
  refine Ah <| Ae <| Am (Ac) (by decide) ?_
  refine Ay <| Ae <| Af <| Ai fun ds => Aa rfl (Ag (Ar rfl <| Ak rfl <| Ac)) ?_
  refine WL_order (.cons (.next <| .here) <| .cons (.here) <| .nil) ?_
  refine Bb rfl (x_callM bd_110 Ax (.cons (Ac) .nil) rfl (best_ok hX hv KnownT.nil) fun v11 F12 H15 hr13 hF14 => ?_)
  obtain ⟨es2, rfl, hK2, vb9, rfl, hsp, hnl⟩ := hr13
  refine Aa rfl (Ag (Ac)) ?_
  refine Aa rfl (As (Ac) rfl) ?_
  refine Aa rfl (As (Ak rfl <| Ac) rfl) ?_
  refine Aa rfl (Ad (Ak rfl <| Ac)) ?_
  refine Aa rfl (Ad (Ak rfl <| Ac)) ?_
  refine Ah <| Ae <| Af <| Af ?_
  by_cases hb : bestsL s = []
  ·
   obtain rfl := hnl hb
   refine Ai fun ds => Aa rfl (Ag (Ak rfl <| Ac)) ?_
   refine Aa rfl (q_eqlNil Try.underlying110 (Ac) Ab) ?_
   refine Ah <| Ae <| Aq (Ac) rfl ?_
   refine Af <| Ai fun ds => Aa rfl (Ad Ab) ?_
   refine Aa rfl (Ad Ab) ?_
   refine Aa rfl (Ad Ab) ?_
   refine Ah <| Ae <| A4 <| A9 ?_
   refine Aw rfl (.tmp (Ar rfl <| Ac) (.tmp (Ak rfl <| Ac) (.tmp (Ac) .nil))) ?_
   unfold AskR; rw [askedE_bad (by rw [askedT_nil h0 hb]; decide), askedT_nil h0 hb]
   exact ⟨_, rfl, Sl.nil⟩
  ·
   obtain ⟨a0, c0, hv9, -, g2, -, -⟩ := hsp.plain
   subst hv9
   obtain ⟨a1, rfl⟩ : ∃ a1, a0 = some a1 := by cases a0 with | none => exact absurd (List.eq_nil_of_length_eq_zero (g2 rfl).1) hb | some a1 => exact ⟨a1, rfl⟩
   refine Ai fun ds => Aa rfl (Ag (Ak rfl <| Ac)) ?_
   refine Aa rfl (q_eqlNil Try.underlying110 (Ac) Ab) ?_
   refine Ah <| Ae <| Am (Ac) rfl ?_
   refine Ay <| Ae <| Af <| Ai fun ds => Aa rfl (Ag (Ar rfl <| Ak rfl <| Ac)) ?_
   refine Aa rfl (Ag (Ar rfl <| Ak rfl <| Ac)) ?_
   refine Aa rfl (Ad (Ak rfl <| Ac)) ?_
   refine Aa rfl (Ad (Ak rfl <| Ac)) ?_
   refine Aa rfl (Ad Ab) ?_
   refine Ah <| Ae <| A4 <| Aw rfl (.tmp (Ar rfl <| Ac) (.tmp (Ak rfl <| Ac) (.tmp (Ac) .nil))) ?_
   unfold AskR; rw [askedE_ok (askedT_some h0 hb), upV_ok hb]
   exact ⟨_, rfl, hsp⟩
 ·
  refine Af <| Ai fun ds => Bb rfl (B9 (Aj rfl) rfl fun b16 hb16 nb16 => ?_)
  refine Aa rfl (Ad Ab) ?_
  refine Aa rfl (Ad Ab) ?_
  refine Aa rfl (Ad Ab) ?_
  refine Ah <| Ae <| Af <| Ai fun ds => Aa rfl (A7 B8 (Ar rfl <| Ak rfl <| Ac) rfl rfl (A2 0 rfl)) ?_
  refine B0 rfl (Bc bd_65 Ax (.cons (Ac) .nil) (open_bad hr h0) (fun _ _ h => h)) ?_
  refine Aa rfl (Ag (Ac)) ?_
  refine Aa rfl (As (Ac) rfl) ?_
  refine Aa rfl (As (Ak rfl <| Ac) rfl) ?_
  refine Aa rfl (Ad (Ak rfl <| Ac)) ?_
  refine Aa rfl (Ad (Ak rfl <| Ac)) ?_
  refine Ah <| Ae <| Af <| Af <| Ai fun ds => Aa rfl (Ag (Ac)) ?_
  refine Aa rfl (B6 (Ac) Ab) ?_
  refine Ah <| Ae <| Aq (Ac) (decide_eq_true h0) ?_
  refine Af <| Ai fun ds => Aa rfl (Ag (Ar rfl <| Ac)) ?_
  refine Aa rfl (Ad Ab) ?_
  refine Aa rfl (Ad Ab) ?_
  refine Aa rfl (Ad (Ar rfl <| Ac)) ?_
  refine Ah <| Ae <| A4 <| A9 ?_
  refine Aw rfl (.tmp (Ar rfl <| Ac) (.tmp (Ak rfl <| Ac) (.tmp (Ac) .nil))) ?_
  unfold AskR; rw [askedE_bad (by rw [askedT_bad h0]; exact h0), askedT_bad h0]
  exact ⟨_, rfl, Sl.nil⟩
def BestTR (F : Heap) (u : Value) (p : List Int × Int × Int × Int) : Prop := ∃ v, u = .tuple #[v, .int .i64 p.2.1, .int .i64 p.2.2.1, .int .i64 p.2.2.2] ∧ Ints F v p.1
theorem BestTR.mono {F F' : Heap} {u : Value} {p : List Int × Int × Int × Int} (h : BestTR F u p) (hF : F.le F') : BestTR F' u p := by obtain ⟨v, h1, h2⟩ := h; exact ⟨v, h1, h2.mono hF⟩
set_option maxRecDepth 100000 in
theorem best_top_ok {F : Heap} {vp ve : Value} {ps : List (Value × Edn)} {s : Stm} (hr : StmR F vp ve ps s) : Ok Try.prog 27 [.agg #[vp, ve]].toArray F fun u F' => BestTR F' u (bestTE s) := by
 have hle0 : F.le F := Heap.le_refl _
 refine Ok.intro Try.func27 rfl Try.ntmps27 rfl fun w0 => ?_
 by_cases hok : askedT s = 0
 ·
  obtain ⟨h0, hb⟩ := askedT_ok hok
  have hv := Db h0
  have hne := hv.ne
  have hlen := hr.len
  have hL1 := hr.eds.plain.lt
  have h0l : 0 < (bestsL s).length := List.length_pos_iff.2 hb
  have hbl : ((bestsL s)[0]'h0l).length = s.editions.length := (bestsL_at (List.getElem_mem h0l)).1
  have hbl2 := bestsL_len hv
  refine Af <| Ai fun ds => Bb rfl (B9 (Aj rfl) rfl fun b1 hb1 nb1 => ?_)
  refine Aa rfl (Ad Ab) ?_
  refine Aa rfl (Ad Ab) ?_
  refine Aa rfl (Ad Ab) ?_
  refine Aa rfl (Ad Ab) ?_
  refine Ah <| Ae <| Af <| Ai fun ds => Aa rfl (A7 B8 (A0 rfl <| Ac) rfl rfl (A2 0 rfl)) ?_
  refine Bb rfl (Ch bd_75 Ax (.cons (Ac) .nil) (asked_ok hr) fun v2 F3 hr4 hF5 => ?_)
  replace hr := hr.mono hF5
  replace hle0 := Heap.le_trans hle0 hF5
  obtain ⟨vq, rfl, hq⟩ := hr4.ok hok
  refine Aa rfl (Ag (Ac)) ?_
  refine Aa rfl (As (Ac) rfl) ?_
  refine Aa rfl (As (Ak rfl <| Ac) rfl) ?_
  refine Aa rfl (As (Ar rfl <| Ac) rfl) ?_
  refine Aa rfl (Ad (Ar rfl <| Ac)) ?_
  refine Aa rfl (Ad (Ar rfl <| Ac)) ?_
  refine Aa rfl (Ad (Ar rfl <| Ac)) ?_
  refine Ah <| Ae <| Af <| Af <| Ai fun ds => Aa rfl (Ag (Ac)) ?_
  refine Aa rfl (B6 (Ac) Ab) ?_
  refine Ah <| Ae <| Am (Ac) (by decide) ?_
  refine Ay <| Ae <| Af ?_
  have hleS := hle0
  refine Cu (.inl rfl) (fun _ _ h => h) (.cons_cons _ <| .refl _) [] (by kernel_rfl) fun ds => ?_
  refine A5 0 rfl (by kernel_rfl) (by kernel_rfl) (by kernel_rfl) (by kernel_rfl) rfl rfl (fun _ h => h.drop (.cons_cons _ <| .refl _)) (fun _ _ _ h => h) (Ag (A0 rfl <| Ac)) ?_
  refine A5 1 rfl (by kernel_rfl) (by kernel_rfl) (by kernel_rfl) (by kernel_rfl) rfl rfl (fun _ h => h.drop (.cons_cons _ <| .refl _)) (fun _ _ _ h => h) (Bh (k := 0) sl_110 (Ac) hq.plain Ab rfl h0l) ?_
  refine A5 2 rfl (by kernel_rfl) (by kernel_rfl) (by kernel_rfl) (by kernel_rfl) rfl rfl (fun _ h => h.drop (.cons_cons _ <| .refl _)) (fun _ _ _ h => h) (Ao Br (A6 rfl <| Ak rfl <| Ac)) ?_
  refine A5 3 rfl (by kernel_rfl) (by kernel_rfl) (by kernel_rfl) (by kernel_rfl) rfl rfl (fun _ h => h.drop (.cons_cons _ <| .refl _)) (fun _ _ _ h => h) (Ap B3 (Ac) (Cell.own 0 rfl rfl)) ?_
  refine A5 4 rfl (by kernel_rfl) (by kernel_rfl) (by kernel_rfl) (by kernel_rfl) rfl rfl (fun _ h => h.drop (.cons_cons _ <| .refl _)) (fun _ _ _ h => h) (Bp Cc (Ac) hr.eds.plain) ?_
  refine A5 5 rfl (by kernel_rfl) (by kernel_rfl) (by kernel_rfl) (by kernel_rfl) rfl rfl (fun _ h => h.drop (.cons_cons _ <| .refl _)) (fun _ _ _ h => h) (q_sliceArrAt (s := 1) (k := s.editions.length) Try.underlying100 (Co (by kernel_rfl)) (Ar rfl <| Ak rfl <| Ac) (Ac) (by omega) (by omega) (by omega)) ?_
  refine A5 7 rfl (by kernel_rfl) (by kernel_rfl) (by kernel_rfl) (by kernel_rfl) rfl rfl (fun _ h => h.drop (.cons_cons _ <| .refl _)) (fun _ _ _ h => h) (Ag (A8 rfl <| Ak rfl <| Ac)) ?_
  refine A5 8 rfl (by kernel_rfl) (by kernel_rfl) (by kernel_rfl) (by kernel_rfl) rfl rfl (fun _ h => h.drop (.cons_cons _ <| .refl _)) (fun _ _ _ h => h) (Ag (A8 rfl <| Ar rfl <| Ak rfl <| Ac)) ?_
  refine A5 9 rfl (by kernel_rfl) (by kernel_rfl) (by kernel_rfl) (by kernel_rfl) rfl rfl (fun _ h => h.drop (.cons_cons _ <| .refl _)) (fun _ _ _ h => h) (Bp sl_110 (Ac) hq.plain) ?_
  refine WX_x 6 rfl (by kernel_rfl) rfl (Ch bd_76 Ax (.cons (Ar rfl <| Ak rfl <| Ac) .nil) (cloneInt_ok (tree_cut hq h0l hbl (by omega)) (by omega)) fun v6 F7 hr8 hF9 => ⟨fun _ _ _ h => (h.drop (.cons_cons _ <| .refl _)).weak hF9 hleS, ?_⟩)
  have hcl := hr8
  refine A5 10 rfl (by kernel_rfl) (by kernel_rfl) (by kernel_rfl) (by kernel_rfl) rfl rfl (fun _ h => (h.drop (.cons_cons _ <| .refl _)).weak hF9 hleS) (fun _ _ _ h => h) (Ad (Ac)) ?_
  refine A5 11 rfl (by kernel_rfl) (by kernel_rfl) (by kernel_rfl) (by kernel_rfl) rfl rfl (fun _ h => (h.drop (.cons_cons _ <| .refl _)).weak hF9 hleS) (fun _ _ _ h => h) (Ad (A0 rfl <| Ac)) ?_
  refine A5 12 rfl (by kernel_rfl) (by kernel_rfl) (by kernel_rfl) (by kernel_rfl) rfl rfl (fun _ h => (h.drop (.cons_cons _ <| .refl _)).weak hF9 hleS) (fun _ _ _ h => h) (Ad (Ar rfl <| Ak rfl <| Ac)) ?_
  refine A5 13 rfl (by kernel_rfl) (by kernel_rfl) (by kernel_rfl) (by kernel_rfl) rfl rfl (fun _ h => (h.drop (.cons_cons _ <| .refl _)).weak hF9 hleS) (fun _ _ _ h => h) (Ad Ab) ?_
  refine C2 (by kernel_rfl) ?_ _
  refine Ae <| A4 <| Aw rfl (.tmp (Ar rfl <| Ak rfl <| Ac) (.tmp (Ar rfl <| Ac) (.tmp (Ak rfl <| Ac) (.tmp (Ac) .nil)))) ?_
  rw [bestTE_ok hok, List.getElem?_eq_getElem h0l]
  exact ⟨_, rfl, hcl⟩
 ·
  refine Af <| Ai fun ds => Bb rfl (B9 (Aj rfl) rfl fun b10 hb10 nb10 => ?_)
  refine Aa rfl (Ad Ab) ?_
  refine Aa rfl (Ad Ab) ?_
  refine Aa rfl (Ad Ab) ?_
  refine Aa rfl (Ad Ab) ?_
  refine Ah <| Ae <| Af <| Ai fun ds => Aa rfl (A7 B8 (A0 rfl <| Ac) rfl rfl (A2 0 rfl)) ?_
  refine Bb rfl (Ch bd_75 Ax (.cons (Ac) .nil) (asked_ok hr) fun v11 F12 hr13 hF14 => ?_)
  obtain ⟨vq, rfl⟩ := hr13.bad hok
  refine Aa rfl (Ag (Ac)) ?_
  refine Aa rfl (As (Ac) rfl) ?_
  refine Aa rfl (As (Ak rfl <| Ac) rfl) ?_
  refine Aa rfl (As (Ar rfl <| Ac) rfl) ?_
  refine Aa rfl (Ad (Ar rfl <| Ac)) ?_
  refine Aa rfl (Ad (Ar rfl <| Ac)) ?_
  refine Aa rfl (Ad (Ar rfl <| Ac)) ?_
  refine Ah <| Ae <| Af <| Af <| Ai fun ds => Aa rfl (Ag (Ac)) ?_
  refine Aa rfl (B6 (Ac) Ab) ?_
  refine Ah <| Ae <| Aq (Ac) (decide_eq_true hok) ?_
  refine Af <| Ai fun ds => Aa rfl (Ag (Ar rfl <| Ac)) ?_
  refine Aa rfl (Ad Ab) ?_
  refine Aa rfl (Ad Ab) ?_
  refine Aa rfl (Ad Ab) ?_
  refine Aa rfl (Ad (Ar rfl <| Ak rfl <| Ac)) ?_
  refine Ah <| Ae <| A4 <| A9 ?_
  refine Aw rfl (.tmp (Ar rfl <| Ak rfl <| Ac) (.tmp (Ar rfl <| Ac) (.tmp (Ak rfl <| Ac) (.tmp (Ac) .nil)))) ?_
  rw [bestTE_bad hok]
  exact ⟨_, rfl, Sl.nil⟩
end Go.Proofs.Ytccogmkhijgelaa
namespace Go.Proofs.Ytccogmkhijgelaa
open Go.RowKit
theorem zr_118 : ZeroT Try.prog 118 (.nilFunc) := Cv (by kernel_rfl)
theorem bd_18 : Body Try.prog 18 := Bo (by kernel_rfl)
theorem bd_78 : Body Try.prog 78 := Bo (by kernel_rfl)
theorem bd_79 : Body Try.prog 79 := Bo (by kernel_rfl)
theorem bd_80 : Body Try.prog 80 := Bo (by kernel_rfl)
theorem bd_81 : Body Try.prog 81 := Bo (by kernel_rfl)
theorem sz_118 : SizeT Try.prog 118 1 := Co (by kernel_rfl)
set_option maxRecDepth 100000 in
theorem first1_ok {F : Heap} {c TB i : Nat} (hc : F c = some (bx TB [.int .i64 (i : Int)])) (hi : i < 5) (t : List Int) : Ok Try.prog 79 [.agg (treeC t).toArray, .pointer (some ⟨c, 0, none⟩)].toArray F fun u _ => u = .bool (decide (upN t i = -1)) := by
 refine Ok.intro Try.func79 rfl Try.ntmps79 rfl fun w0 => ?_
 refine Af <| Ai fun ds => Bb rfl (B9 (Aj rfl) rfl fun b1 hb1 nb1 => ?_)
 refine Aa rfl (Ad Ab) ?_
 refine Ah <| Ae <| Af <| Ai fun ds => Aa rfl (Ap Bk (Ar rfl <| Aj rfl) (CellF.own hc rfl).cell) ?_
 refine Aa rfl (Bl (k := i) Cm (Ar rfl <| Ac) (Ac) rfl hi) ?_
 refine Aa rfl (Ap Bk (Ac) (Cell.own 0 rfl (Ce hi))) ?_
 refine Aa rfl (Bx (Ac) Ab) ?_
 refine Aa rfl (Ad (Ac)) ?_
 refine Ah <| Ae <| A4 <| Aw rfl (.tmp (Ac) .nil) ?_
 rfl
set_option maxRecDepth 100000 in
theorem from1_ok {F : Heap} {c e TB TE a i : Nat} (hc : F c = some (bx TB [.int .i64 (i : Int)])) (he : F e = some (bx TE [.int .i64 (a : Int)])) (hi : i < 5) (t : List Int) : Ok Try.prog 80 [.agg (treeC t).toArray, .pointer (some ⟨c, 0, none⟩), .pointer (some ⟨e, 0, none⟩)].toArray F fun u _ => u = .bool (fromB a i t) := by
 refine Ok.intro Try.func80 rfl Try.ntmps80 rfl fun w0 => ?_
 refine Af <| Ai fun ds => Bb rfl (B9 (Aj rfl) rfl fun b1 hb1 nb1 => ?_)
 refine Aa rfl (Ad Ab) ?_
 refine Ah <| Ae <| Af <| Dg (.inl rfl) (fun _ _ h => h) (by kernel_rfl) (by kernel_rfl) fun ds => ?_
 refine Bi rfl (Ap Bk (Ar rfl <| Aj rfl) (CellF.own hc rfl).cell) ?_
 refine Bi rfl (Bl (k := i) Cm (Ar rfl <| Ac) (Ac) rfl hi) ?_
 refine Bi rfl (Ap Bk (Ac) (Cell.own 0 rfl (Ce hi))) ?_
 refine Bi rfl (Ap Bk (A0 rfl <| Ak rfl <| Aj rfl) (CellF.own he rfl).cell) ?_
 refine Bi rfl (Bx (Ak rfl <| Ac) (Ac)) ?_
 refine Bi rfl (Ad (Ac)) ?_
 refine WQ_nil ?_
 refine Ae <| A4 <| Aw rfl (.tmp (Ac) .nil) ?_
 rfl
set_option maxRecDepth 100000 in
theorem from2_ok {F : Heap} {c e g TB TE TG a i : Nat} (hc : F c = some (bx TB [.int .i64 (i : Int)])) (he : F e = some (bx TE [.int .i64 (a : Int)])) (hg : F g = some (bx TG [.func (.func 80) #[] #[.pointer (some ⟨c, 0, none⟩), .pointer (some ⟨e, 0, none⟩)]])) (hi : i < 5) (t : List Int) : Ok Try.prog 81 [.agg (treeC t).toArray, .pointer (some ⟨g, 0, none⟩)].toArray F fun u _ => u = .bool (!(fromB a i t)) := by
 refine Ok.intro Try.func81 rfl Try.ntmps81 rfl fun w0 => ?_
 refine Af <| Ai fun ds => Bb rfl (B9 (Aj rfl) rfl fun b1 hb1 nb1 => ?_)
 refine Aa rfl (Ad Ab) ?_
 refine Ah <| Ae <| Af <| Ai fun ds => Aa rfl (Ap one_118 (Ar rfl <| Aj rfl) (CellF.own hg rfl).cell) ?_
 refine Aa rfl (A7 Bs (Ar rfl <| Ac) rfl rfl (A2 0 rfl)) ?_
 refine B0 rfl (Bc bd_80 (Ak rfl <| Ac) (.cons (Ac) .nil) (from1_ok hc he hi t) (fun _ _ h => h)) ?_
 refine Aa rfl (C4 (Ac)) ?_
 refine Aa rfl (Ad (Ac)) ?_
 refine Ah <| Ae <| A4 <| Aw rfl (.tmp (Ac) .nil) ?_
 rfl
set_option maxRecDepth 100000 in
theorem first_top_ok {F : Heap} {vp ve : Value} {ps : List (Value × Edn)} {s : Stm} (hr : StmR F vp ve ps s) : Ok Try.prog 29 [.agg #[vp, ve]].toArray F fun u F' => NatsR F' u (firstTE s) := by
 have hle0 : F.le F := Heap.le_refl _
 refine Ok.intro Try.func29 rfl Try.ntmps29 rfl fun w0 => ?_
 by_cases hok : askedT s = 0
 ·
  obtain ⟨h0, hb⟩ := askedT_ok hok
  have hv := Db h0
  have hne := hv.ne
  have hlen := hr.len
  have hL1 := hr.eds.plain.lt
  refine Af <| Ai fun ds => Bb rfl (B9 (Aj rfl) rfl fun b1 hb1 nb1 => ?_)
  refine Aa rfl (Ad Ab) ?_
  refine Aa rfl (Ad Ab) ?_
  refine Ah <| Ae <| Af <| Ai fun ds => Aa rfl (A7 B8 (Ar rfl <| Ac) rfl rfl (A2 0 rfl)) ?_
  refine Bb rfl (Ch bd_75 Ax (.cons (Ac) .nil) (asked_ok hr) fun v2 F3 hr4 hF5 => ?_)
  replace hr := hr.mono hF5
  obtain ⟨vq, rfl, hq⟩ := hr4.ok hok
  refine Aa rfl (Ag (Ac)) ?_
  refine Aa rfl (As (Ac) rfl) ?_
  refine Aa rfl (As (Ak rfl <| Ac) rfl) ?_
  refine Aa rfl (As (Ar rfl <| Ac) rfl) ?_
  refine Aa rfl (Ad (Ar rfl <| Ac)) ?_
  refine Aa rfl (Ad (Ar rfl <| Ac)) ?_
  refine Aa rfl (Ad (Ar rfl <| Ac)) ?_
  refine Ah <| Ae <| Af <| Af <| Ai fun ds => Aa rfl (Ag (Ac)) ?_
  refine Aa rfl (B6 (Ac) Ab) ?_
  refine Ah <| Ae <| Am (Ac) (by decide) ?_
  refine Ay <| Ae <| Af <| Af <| Ai fun ds => Aa rfl (Ao Br (A8 rfl <| A0 rfl <| Ak rfl <| Ac)) ?_
  refine Aa rfl (Ap B3 (Ac) (Cell.own 0 rfl rfl)) ?_
  refine Aa rfl (Bp Cc (Ac) hr.eds.plain) ?_
  refine Aa rfl (Ag Ab) ?_
  refine Ah <| Ae <| Az <| By [2, 6, 19, 20, 21, 22, 23, 24, 25, 26, 27, 28, 29] (fun m e σ => ∃ G, F3.le G ∧ ∃ k : Nat, m + k = ps.length ∧ e 19 = .int .i64 (k : Int) ∧ ∃ v2 R2, e 2 = v2 ∧ Own 3 1 v2 (selN (firstB s) k).length ((selN (firstB s) k).flatMap natE) R2 ∧ σ = ⟨G, (b1, bx 25 [vp, ve]) :: R2⟩) (ps.length) ?_ ?_
  · exact ⟨_, Heap.le_refl _, 0, by omega, (Ac), _, _, (A6 rfl <| Ac), Own.nil, rfl⟩
  ·
   rintro m e _ ⟨G, hFG2, k, hm, hs19, v2, R2, hs2, ho, rfl⟩; have hsl := Dr (p := firstB s) (k := k); replace hr := hr.mono hFG2; replace hq := hq.mono hFG2
   by_cases hlt : k < ps.length
   ·
    have hk5 : k < 5 := by omega
    refine Af <| Ai fun ds => Aa rfl (Bz (Au rfl hs19) (Al rfl <| Ak rfl <| Ac)) ?_
    refine Ah <| Ae <| Af <| Aq (Ac) (by first | rfl | exact decide_eq_true (by omega)) ?_
    refine Ay <| Ae <| Af <| Az <| Af <| Ai fun ds => Aa rfl (Ag (Ak rfl <| Au rfl hs19)) ?_
    refine Bb rfl (B2 Cy rfl fun b7 hb7 nb7 => ?_)
    refine Cf (Cg sz_3 (Ac) (Ak rfl <| Ac) (i := 0) rfl (.here) rfl (.here) ?_)
    refine Ah <| Ae <| Af <| Ca (i := 0) rfl hb7 (.here) fun F8 hF9 hz6 => ?_
    replace hq := hq.mono hF9
    replace hFG2 := Heap.le_trans hFG2 hF9
    by_cases hfb : firstB s k = true
    ·
     refine Ai fun ds => Aa rfl (Ag (Ar rfl <| Ak rfl <| Al rfl <| A8 rfl <| Ac)) ?_
     refine Aa rfl (Cj (.cons (Ak rfl <| Ac) .nil)) ?_
     refine B0 rfl (Bc bd_78 Ax (.cons (Ak rfl <| Ac) (.cons (Ac) .nil)) (C0 hq (fun t => decide (upN t k = -1)) bd_79 fun j hj => first1_ok hz6 hk5 _) (fun _ _ h => h)) ?_
     refine Ah <| Ae <| Aq (Ac) hfb ?_
     refine Ai fun ds => Aa rfl (Ag (A0 rfl <| Ar rfl <| Au rfl hs2)) ?_
     refine Aa rfl (Ap Bk (A0 rfl <| Ac) (CellF.own hz6 rfl).cell) ?_
     refine Bb rfl (B1 Bm Cy rfl (.cons (Ac) .nil) rfl rfl (by decide) (by simp [Value.oneCell']) fun b10 hb10 nb10 => ?_)
     refine Bb rfl (C1 Bm el_3 (Ar rfl <| Ac) ho (Ac) (src_box (s := 1) 0 rfl rfl (by simp [Value.oneCell'])) (by omega) (by omega) (.s <| .s <| .z) .last fun v11 R12 ho13 => ?_)
     have ho2 := ho13.snoc (x := k) rfl rfl
     refine Aa rfl (Ad (Ac)) ?_
     refine Ah <| Ba <| Ae <| Dp (fun _ _ h => h.drop (.cons _ <| .cons_cons _ <| .refl _)) ?_
     refine Ai fun ds => Aa rfl (Bw (A8 rfl <| Ar rfl <| Ak rfl <| Au rfl hs19) Ab rfl (by omega) (by omega)) ?_
     refine Aa rfl (Ag (Ac)) ?_
     refine Ah <| Ae ⟨_, m - 1, Off.eq (ou8 rfl <| ou4 rfl <| ou1 rfl <| Be), by omega, ?_⟩
     exact ⟨_, hFG2, k + 1, by omega, (Ac), _, _, (Ar rfl <| Ac), by rw [Dq, if_pos hfb]; exact ho2, rfl⟩
    ·
     replace hfb : firstB s k = false := by simpa using hfb
     refine Ai fun ds => Aa rfl (Ag (Ar rfl <| Ak rfl <| Al rfl <| A8 rfl <| Ac)) ?_
     refine Aa rfl (Cj (.cons (Ak rfl <| Ac) .nil)) ?_
     refine B0 rfl (Bc bd_78 Ax (.cons (Ak rfl <| Ac) (.cons (Ac) .nil)) (C0 hq (fun t => decide (upN t k = -1)) bd_79 fun j hj => first1_ok hz6 hk5 _) (fun _ _ h => h)) ?_
     refine Ah <| Ae <| Am (Ac) hfb ?_
     refine Ay <| Ba <| Ae <| Ai fun ds => Aa rfl (Bw (A0 rfl <| Ar rfl <| Au rfl hs19) Ab rfl (by omega) (by omega)) ?_
     refine Aa rfl (Ag (Ac)) ?_
     refine Ah <| Ae ⟨_, m - 1, Off.eq (ou8 rfl <| Be), by omega, ?_⟩
     exact ⟨_, hFG2, k + 1, by omega, (Ac), _, _, (A8 rfl <| Au rfl hs2), by rw [Dq, if_neg (by rw [hfb]; simp)]; exact ho, rfl⟩
   ·
    refine Af <| Ai fun ds => Aa rfl (Bz (Au rfl hs19) (Al rfl <| Ak rfl <| Ac)) ?_
    refine Ah <| Ae <| Af <| Am (Ac) (by first | rfl | exact decide_eq_false (by omega)) ?_
    obtain rfl : k = s.editions.length := by omega
    refine Cx (σ := ⟨_, _⟩) (by rfl) ho (.s <| .z) .last fun F14 hF15 hz16 => ?_
    have hn2 := ho.sl (fun _ => rfl) hz16 (by omega)
    refine Bt ?_
    refine Bg <| Bg <| Bj <| Ae <| Af <| Ai fun ds => Aa rfl (Ag (Ak rfl <| Au rfl hs2)) ?_
    refine Aa rfl (Ad (Ac)) ?_
    refine Aa rfl (Ad Ab) ?_
    refine Ah <| Ae <| A4 <| Aw rfl (.tmp (Ak rfl <| Ac) (.tmp (Ac) .nil)) ?_
    rw [firstTE_ok hok]
    exact ⟨_, rfl, hn2⟩
 ·
  refine Af <| Ai fun ds => Bb rfl (B9 (Aj rfl) rfl fun b17 hb17 nb17 => ?_)
  refine Aa rfl (Ad Ab) ?_
  refine Aa rfl (Ad Ab) ?_
  refine Ah <| Ae <| Af <| Ai fun ds => Aa rfl (A7 B8 (Ar rfl <| Ac) rfl rfl (A2 0 rfl)) ?_
  refine Bb rfl (Ch bd_75 Ax (.cons (Ac) .nil) (asked_ok hr) fun v18 F19 hr20 hF21 => ?_)
  obtain ⟨vq, rfl⟩ := hr20.bad hok
  refine Aa rfl (Ag (Ac)) ?_
  refine Aa rfl (As (Ac) rfl) ?_
  refine Aa rfl (As (Ak rfl <| Ac) rfl) ?_
  refine Aa rfl (As (Ar rfl <| Ac) rfl) ?_
  refine Aa rfl (Ad (Ar rfl <| Ac)) ?_
  refine Aa rfl (Ad (Ar rfl <| Ac)) ?_
  refine Aa rfl (Ad (Ar rfl <| Ac)) ?_
  refine Ah <| Ae <| Af <| Af <| Ai fun ds => Aa rfl (Ag (Ac)) ?_
  refine Aa rfl (B6 (Ac) Ab) ?_
  refine Ah <| Ae <| Aq (Ac) (decide_eq_true hok) ?_
  refine Af <| Ai fun ds => Aa rfl (Ag (Ar rfl <| Ac)) ?_
  refine Aa rfl (Ad Ab) ?_
  refine Aa rfl (Ad (Ak rfl <| Ac)) ?_
  refine Ah <| Ae <| A4 <| A9 ?_
  refine Aw rfl (.tmp (Ak rfl <| Ac) (.tmp (Ac) .nil)) ?_
  rw [firstTE_bad hok]
  exact ⟨_, rfl, Sl.nil⟩
theorem eds_cases {s : Stm} {a b : Int} (h : edsErr s a b = 0) : (checkT s).2.2 = 0 ∧ ∃ i j : Nat, a = (i : Int) ∧ b = (j : Int) ∧ i < s.editions.length ∧ j < s.editions.length := by
 unfold edsErr at h
 split at h
 · rename_i h1; exact absurd h h1
 · rename_i h1
   split at h
   · cases h
   · rename_i h2
     have h3 : (inB 0 (s.editions.length - 1) a && inB 0 (s.editions.length - 1) b) = true := by simpa using h2
     rw [Bool.and_eq_true] at h3
     obtain ⟨i, rfl, hi⟩ := inB_nat h3.1
     obtain ⟨j, rfl, hj⟩ := inB_nat h3.2
     exact ⟨Classical.not_not.1 h1, i, j, rfl, rfl, hi, hj⟩
theorem apartE_snd {s : Stm} {a b : Int} : (apartE s a b).2 = edsErr s a b := by
 unfold apartE
 split
 · rfl
 · rename_i h; exact (Classical.not_not.1 h).symm
def fromV (s : Stm) (a b : Int) : Value := .tuple #[.int .i64 (fromE s a b).1, .int .i64 (fromE s a b).2]
set_option maxRecDepth 100000 in
theorem from_top_ok {F : Heap} {vp ve : Value} {ps : List (Value × Edn)} {s : Stm} (hr : StmR F vp ve ps s) (a b : Int) : Ok Try.prog 31 [.agg #[vp, ve], .int .i64 a, .int .i64 b].toArray F fun u _ => u = fromV s a b := by
 have hle0 : F.le F := Heap.le_refl _
 refine Ok.intro Try.func31 rfl Try.ntmps31 rfl fun w0 => ?_
 by_cases he0 : edsErr s a b = 0
 ·
  obtain ⟨h0, i, j, rfl, rfl, hi, hj⟩ := eds_cases he0
  have hv := Db h0
  have hne := hv.ne
  refine Af <| Ai fun ds => Bb rfl (B9 (Aj rfl) rfl fun b1 hb1 nb1 => ?_)
  refine Bb rfl (B9 (Ak rfl <| Aj rfl) rfl fun b2 hb2 nb2 => ?_)
  refine Bb rfl (B9 (Ar rfl <| Aj rfl) rfl fun b3 hb3 nb3 => ?_)
  refine Aa rfl (Ad Ab) ?_
  refine Aa rfl (Ad Ab) ?_
  refine Ah <| Ae <| Af <| Af <| Ai fun ds => Aa rfl (A7 B8 (A0 rfl <| Ac) rfl rfl (A2 2 rfl)) ?_
  refine Aa rfl (Ap Bk (A0 rfl <| Ac) (Cell.own 1 rfl rfl)) ?_
  refine Aa rfl (Ap Bk (A0 rfl <| Ac) (Cell.own 0 rfl rfl)) ?_
  refine Bb rfl (Ch bd_18 Ax (.cons (Ar rfl <| Ac) (.cons (Ak rfl <| Ac) (.cons (Ac) .nil))) (apart_top_ok hr _ _) fun v4 F5 hr6 hF7 => ?_)
  replace hr := hr.mono hF7
  obtain ⟨vap, rfl, hap⟩ := hr6
  refine Aa rfl (Ag (Ac)) ?_
  refine Aa rfl (As (Ac) rfl) ?_
  refine Aa rfl (As (Ak rfl <| Ac) rfl) ?_
  refine Aa rfl (Ad (Ak rfl <| Ac)) ?_
  refine Aa rfl (Ad (Ak rfl <| Ac)) ?_
  refine Ah <| Ae <| Af <| Ai fun ds => Aa rfl (Ag (Ac)) ?_
  refine Aa rfl (B6 (Ac) Ab) ?_
  refine Ah <| Ae <| Am (Ac) (by rw [apartE_snd, he0]; decide) ?_
  by_cases hok : askedT s = 0
  ·
   refine Ay <| Ae <| Af <| Ai fun ds => Aa rfl (A7 B8 (A8 rfl <| A0 rfl <| Ar rfl <| Ak rfl <| Ac) rfl rfl (A2 2 rfl)) ?_
   refine Bb rfl (Ch bd_75 Ax (.cons (Ac) .nil) (asked_ok hr) fun v8 F9 hr10 hF11 => ?_)
   obtain ⟨vq, rfl, hq⟩ := hr10.ok hok
   refine Aa rfl (Ag (Ac)) ?_
   refine Aa rfl (As (Ac) rfl) ?_
   refine Aa rfl (As (Ak rfl <| Ac) rfl) ?_
   refine Aa rfl (As (Ar rfl <| Ac) rfl) ?_
   refine Aa rfl (Ad (Ar rfl <| Ac)) ?_
   refine Aa rfl (Ad (Ar rfl <| Ac)) ?_
   refine Aa rfl (Ad (Ar rfl <| Ac)) ?_
   refine Ah <| Ae <| Af <| Af <| Ai fun ds => Aa rfl (Ag (Ac)) ?_
   refine Aa rfl (B6 (Ac) Ab) ?_
   refine Ah <| Ae <| Am (Ac) (by decide) ?_
   refine Ay <| Ae <| Af <| Ca (i := 0) rfl hb3 (.here) fun F12 hF13 hz5 => ?_
   replace hq := hq.mono hF13
   refine Ca (i := 0) rfl hb2 (.here) fun F14 hF15 hz4 => ?_
   replace hq := hq.mono hF15
   replace hz5 := hF15 _ _ hz5
   refine Ai fun ds => Aa rfl (Cj (.cons (A6 rfl <| A8 rfl <| Ac) (.cons (A6 rfl <| A8 rfl <| Ak rfl <| Ac) .nil))) ?_
   refine Bb rfl (B2 zr_118 rfl fun b16 hb16 nb16 => ?_)
   refine Cf (Cg sz_118 (Ac) (Ak rfl <| Ac) (i := 0) rfl (.here) rfl (.here) ?_)
   refine Ah <| Ae <| Af <| Az <| Af <| Ca (i := 0) rfl hb16 (.here) fun F17 hF18 hz13 => ?_
   replace hq := hq.mono hF18
   replace hz5 := hF18 _ _ hz5
   replace hz4 := hF18 _ _ hz4
   by_cases ha : (bestsL s).any (fromB i j) = true
   ·
    refine Ai fun ds => Aa rfl (Ag (A0 rfl <| Ar rfl <| Ac)) ?_
    refine Aa rfl (Ap one_118 (Ak rfl <| Ac) (CellF.own hz13 rfl).cell) ?_
    refine B0 rfl (Bc bd_78 Ax (.cons (Ak rfl <| Ac) (.cons (Ac) .nil)) (C0 hq (fromB i j) bd_80 fun k hk => from1_ok hz5 hz4 (by omega) _) (fun _ _ h => h)) ?_
    refine Aa rfl (C4 (Ac)) ?_
    refine Aa rfl (Ad (Ac)) ?_
    refine Ah <| Ae <| Am (Ac) (by rw [ha]; rfl) ?_
    by_cases ha2 : (bestsL s).any (fun t => !(fromB i j t)) = true
    ·
     refine Af <| Ai fun ds => Aa rfl (Ag (A8 rfl <| Ar rfl <| Ak rfl <| Ac)) ?_
     refine Aa rfl (Cj (.cons (A0 rfl <| Ar rfl <| Ac) .nil)) ?_
     refine B0 rfl (Bc bd_78 Ax (.cons (Ak rfl <| Ac) (.cons (Ac) .nil)) (C0 hq (fun t => !(fromB i j t)) bd_81 fun k hk => from2_ok hz5 hz4 hz13 (by omega) _) (fun _ _ h => h)) ?_
     refine Aa rfl (C4 (Ac)) ?_
     refine Aa rfl (Ad (Ac)) ?_
     refine Ah <| Ae <| Am (Ac) (by rw [ha2]; rfl) ?_
     refine Ay <| Ba <| Ae <| Af <| Ai fun ds => Aa rfl (Ad Ab) ?_
     refine Aa rfl (Ad Ab) ?_
     refine Ah <| Ae <| A4 <| Aw rfl (.tmp (Ak rfl <| Ac) (.tmp (Ac) .nil)) ?_
     show _ = _
     rw [fromV, fromE, if_neg (fun k : edsErr s (i : Int) (j : Int) ≠ 0 => k he0), if_neg (fun k : askedT s ≠ 0 => k hok), Int.toNat_natCast, Int.toNat_natCast, if_neg (by rw [ha]; simp), if_neg (by rw [ha2]; simp)]; rfl
    ·
     replace ha2 : (bestsL s).any (fun t => !(fromB i j t)) = false := by simpa using ha2
     refine Af <| Ai fun ds => Aa rfl (Ag (A8 rfl <| Ar rfl <| Ak rfl <| Ac)) ?_
     refine Aa rfl (Cj (.cons (A0 rfl <| Ar rfl <| Ac) .nil)) ?_
     refine B0 rfl (Bc bd_78 Ax (.cons (Ak rfl <| Ac) (.cons (Ac) .nil)) (C0 hq (fun t => !(fromB i j t)) bd_81 fun k hk => from2_ok hz5 hz4 hz13 (by omega) _) (fun _ _ h => h)) ?_
     refine Aa rfl (C4 (Ac)) ?_
     refine Aa rfl (Ad (Ac)) ?_
     refine Ah <| Ae <| Aq (Ac) (by rw [ha2]; rfl) ?_
     refine Af <| Ai fun ds => Aa rfl (Ad Ab) ?_
     refine Aa rfl (Ad Ab) ?_
     refine Ah <| Ae <| A4 <| Bd (A9 ?_)
     refine Aw rfl (.tmp (Ak rfl <| Ac) (.tmp (Ac) .nil)) ?_
     show _ = _
     rw [fromV, fromE, if_neg (fun k : edsErr s (i : Int) (j : Int) ≠ 0 => k he0), if_neg (fun k : askedT s ≠ 0 => k hok), Int.toNat_natCast, Int.toNat_natCast, if_neg (by rw [ha]; simp), if_pos ha2]; rfl
   ·
    replace ha : (bestsL s).any (fromB i j) = false := by simpa using ha
    refine Ai fun ds => Aa rfl (Ag (A0 rfl <| Ar rfl <| Ac)) ?_
    refine Aa rfl (Ap one_118 (Ak rfl <| Ac) (CellF.own hz13 rfl).cell) ?_
    refine B0 rfl (Bc bd_78 Ax (.cons (Ak rfl <| Ac) (.cons (Ac) .nil)) (C0 hq (fromB i j) bd_80 fun k hk => from1_ok hz5 hz4 (by omega) _) (fun _ _ h => h)) ?_
    refine Aa rfl (C4 (Ac)) ?_
    refine Aa rfl (Ad (Ac)) ?_
    refine Ah <| Ae <| Aq (Ac) (by rw [ha]; rfl) ?_
    refine Af <| Ai fun ds => Aa rfl (Ad Ab) ?_
    refine Aa rfl (Ad Ab) ?_
    refine Ah <| Ae <| A4 <| Bd (A9 ?_)
    refine Aw rfl (.tmp (Ak rfl <| Ac) (.tmp (Ac) .nil)) ?_
    show _ = _
    rw [fromV, fromE, if_neg (fun k : edsErr s (i : Int) (j : Int) ≠ 0 => k he0), if_neg (fun k : askedT s ≠ 0 => k hok), Int.toNat_natCast, Int.toNat_natCast, if_pos ha]; rfl
  ·
   refine Ay <| Ae <| Af <| Ai fun ds => Aa rfl (A7 B8 (A8 rfl <| A0 rfl <| Ar rfl <| Ak rfl <| Ac) rfl rfl (A2 2 rfl)) ?_
   refine Bb rfl (Ch bd_75 Ax (.cons (Ac) .nil) (asked_ok hr) fun v19 F20 hr21 hF22 => ?_)
   obtain ⟨vq, rfl⟩ := hr21.bad hok
   refine Aa rfl (Ag (Ac)) ?_
   refine Aa rfl (As (Ac) rfl) ?_
   refine Aa rfl (As (Ak rfl <| Ac) rfl) ?_
   refine Aa rfl (As (Ar rfl <| Ac) rfl) ?_
   refine Aa rfl (Ad (Ar rfl <| Ac)) ?_
   refine Aa rfl (Ad (Ar rfl <| Ac)) ?_
   refine Aa rfl (Ad (Ar rfl <| Ac)) ?_
   refine Ah <| Ae <| Af <| Af <| Ai fun ds => Aa rfl (Ag (Ac)) ?_
   refine Aa rfl (B6 (Ac) Ab) ?_
   refine Ah <| Ae <| Aq (Ac) (decide_eq_true hok) ?_
   refine Af <| Ai fun ds => Aa rfl (Ag (Ar rfl <| Ac)) ?_
   refine Aa rfl (Ad Ab) ?_
   refine Aa rfl (Ad (Ak rfl <| Ac)) ?_
   refine Ah <| Ae <| A4 <| A9 ?_
   refine Aw rfl (.tmp (Ak rfl <| Ac) (.tmp (Ac) .nil)) ?_
   show _ = _
   unfold fromV fromE; rw [if_neg (fun k => k he0), if_pos hok]; rfl
 ·
  refine Af <| Ai fun ds => Bb rfl (B9 (Aj rfl) rfl fun b23 hb23 nb23 => ?_)
  refine Bb rfl (B9 (Ak rfl <| Aj rfl) rfl fun b24 hb24 nb24 => ?_)
  refine Bb rfl (B9 (Ar rfl <| Aj rfl) rfl fun b25 hb25 nb25 => ?_)
  refine Aa rfl (Ad Ab) ?_
  refine Aa rfl (Ad Ab) ?_
  refine Ah <| Ae <| Af <| Af <| Ai fun ds => Aa rfl (A7 B8 (A0 rfl <| Ac) rfl rfl (A2 2 rfl)) ?_
  refine Aa rfl (Ap Bk (A0 rfl <| Ac) (Cell.own 1 rfl rfl)) ?_
  refine Aa rfl (Ap Bk (A0 rfl <| Ac) (Cell.own 0 rfl rfl)) ?_
  refine Bb rfl (Ch bd_18 Ax (.cons (Ar rfl <| Ac) (.cons (Ak rfl <| Ac) (.cons (Ac) .nil))) (apart_top_ok hr _ _) fun v26 F27 hr28 hF29 => ?_)
  obtain ⟨vap, rfl, hap⟩ := hr28
  refine Aa rfl (Ag (Ac)) ?_
  refine Aa rfl (As (Ac) rfl) ?_
  refine Aa rfl (As (Ak rfl <| Ac) rfl) ?_
  refine Aa rfl (Ad (Ak rfl <| Ac)) ?_
  refine Aa rfl (Ad (Ak rfl <| Ac)) ?_
  refine Ah <| Ae <| Af <| Ai fun ds => Aa rfl (Ag (Ac)) ?_
  refine Aa rfl (B6 (Ac) Ab) ?_
  refine Ah <| Ae <| Aq (Ac) (by rw [apartE_snd]; exact decide_eq_true he0) ?_
  refine Af <| Ai fun ds => Aa rfl (Ag (Ar rfl <| Ac)) ?_
  refine Aa rfl (Ad Ab) ?_
  refine Aa rfl (Ad (Ak rfl <| Ac)) ?_
  refine Ah <| Ae <| A4 <| A9 ?_
  refine Aw rfl (.tmp (Ak rfl <| Ac) (.tmp (Ac) .nil)) ?_
  show _ = _
  unfold fromV fromE; rw [if_pos he0, apartE_snd]; rfl
end Go.Proofs.Ytccogmkhijgelaa
namespace Go.Proofs.Ytccogmkhijgelaa
def sharedB (s : Stm) (x o p : Nat) : Bool := decide (s.r o p = s.r x p)
def ownL (s : Stm) (l : List Int) (x : Nat) : List Nat := apartL s (upN l x).toNat x
def savesTo (s : Stm) (own : List Nat) (x o : Nat) (k : Nat) : Int := ((own.take k).countP (sharedB s x o) : Nat)
def savesN (s : Stm) (l : List Int) (x o : Nat) : Int := ((ownL s l x).countP (sharedB s x o) : Nat)
theorem savesTo_succ {s : Stm} {own : List Nat} {x o k : Nat} (h : k < own.length) : savesTo s own x o (k + 1) = if sharedB s x o own[k] = true then savesTo s own x o k + 1 else savesTo s own x o k := by
 unfold savesTo
 rw [List.take_succ_eq_append_getElem h, List.countP_append, List.countP_singleton]
 split <;> simp
theorem savesTo_end {s : Stm} {l : List Int} {x o : Nat} : savesTo s (ownL s l x) x o (ownL s l x).length = savesN s l x o := by unfold savesTo savesN; rw [List.take_length]
theorem savesTo_bound {s : Stm} {own : List Nat} {x o k : Nat} : 0 ≤ savesTo s own x o k ∧ savesTo s own x o k ≤ own.length := by
 unfold savesTo
 have h1 := List.countP_le_length (p := sharedB s x o) (l := own.take k)
 rw [List.length_take] at h1
 omega
def fitsT2 (s : Stm) (l : List Int) (x o : Nat) : Bool := fitsE s (treeE l ++ [(o, x)])
def canT (s : Stm) (l : List Int) (x o : Nat) : Bool := decide ((o : Int) ≠ upN l x) && (!(underB l o x) && fitsT2 s l x o)
def secTo (s : Stm) (l : List Int) (x : Nat) : Nat → Int × Int
 | 0 => (0, 0)
 | k + 1 => if canT s l x k = true ∧ (secTo s l x k).2 < savesN s l x k then ((k : Int), savesN s l x k) else secTo s l x k
theorem savesN_bound {s : Stm} {l : List Int} {x o : Nat} : 0 ≤ savesN s l x o ∧ savesN s l x o ≤ s.places.length := by
 have h1 := savesTo_bound (s := s) (own := ownL s l x) (x := x) (o := o) (k := (ownL s l x).length)
 rw [savesTo_end] at h1
 have h2 : (ownL s l x).length ≤ s.places.length := Dr
 omega
theorem secTo_bound {s : Stm} {l : List Int} {x : Nat} : ∀ k, 0 ≤ (secTo s l x k).2 ∧ (secTo s l x k).2 ≤ s.places.length
 | 0 => by simp [secTo]
 | k + 1 => by
   have := secTo_bound (s := s) (l := l) (x := x) k
   have := savesN_bound (s := s) (l := l) (x := x) (o := k)
   unfold secTo
   split <;> (try simp only) <;> omega
theorem secTo_yes {s : Stm} {l : List Int} {x k : Nat} (h : canT s l x k = true) (h2 : (secTo s l x k).2 < savesN s l x k) : secTo s l x (k + 1) = ((k : Int), savesN s l x k) := if_pos ⟨h, h2⟩
theorem secTo_no {s : Stm} {l : List Int} {x k : Nat} (h : ¬ (canT s l x k = true ∧ (secTo s l x k).2 < savesN s l x k)) : secTo s l x (k + 1) = secTo s l x k := if_neg h
def secErr (s : Stm) (l : List Int) (z : Int) : Int := if treeErr s l ≠ 0 then treeErr s l else if inB 0 (s.editions.length - 1) z = false then 4 else if fitsT s l = false then 9 else if upN l z.toNat = -1 then 2 else 0
def secE (s : Stm) (l : List Int) (z : Int) : Int × Int × Int := if secErr s l z ≠ 0 then (0, 0, secErr s l z) else if (secTo s l z.toNat s.editions.length).2 = 0 then (0, 0, 8) else ((secTo s l z.toNat s.editions.length).1, (secTo s l z.toNat s.editions.length).2, 0)
def secV (s : Stm) (l : List Int) (z : Int) : Go.Value := .tuple #[.int .i64 (secE s l z).1, .int .i64 (secE s l z).2.1, .int .i64 (secE s l z).2.2]
section
variable {s : Stm} {l : List Int} {z : Int}
theorem secE_bad {e : Int} (h : secErr s l z = e) (he : e ≠ 0) : secV s l z = .tuple #[.int .i64 0, .int .i64 0, .int .i64 e] := by subst h; unfold secV secE; rw [if_pos he]
theorem secE_zero (h : secErr s l z = 0) (h2 : (secTo s l z.toNat s.editions.length).2 = 0) : secV s l z = .tuple #[.int .i64 0, .int .i64 0, .int .i64 8] := by unfold secV secE; rw [if_neg (fun k => k h), if_pos h2]
theorem secE_ok (h : secErr s l z = 0) (h2 : (secTo s l z.toNat s.editions.length).2 ≠ 0) : secV s l z = .tuple #[.int .i64 (secTo s l z.toNat s.editions.length).1, .int .i64 (secTo s l z.toNat s.editions.length).2, .int .i64 0] := by unfold secV secE; rw [if_neg (fun k => k h), if_neg h2]
theorem secErr_1 (h : treeErr s l ≠ 0) : secErr s l z = treeErr s l := if_pos h
theorem secErr_2 (h : treeErr s l = 0) (h2 : inB 0 (s.editions.length - 1) z = false) : secErr s l z = 4 := by unfold secErr; rw [if_neg (fun k => k h), if_pos h2]
theorem secErr_3 (h : treeErr s l = 0) (h2 : inB 0 (s.editions.length - 1) z = true) (h3 : fitsT s l = false) : secErr s l z = 9 := by unfold secErr; rw [if_neg (fun k => k h), if_neg (by rw [h2]; simp), if_pos h3]
theorem secErr_4 (h : treeErr s l = 0) (h2 : inB 0 (s.editions.length - 1) z = true) (h3 : fitsT s l = true) (h4 : upN l z.toNat = -1) : secErr s l z = 2 := by unfold secErr; rw [if_neg (fun k => k h), if_neg (by rw [h2]; simp), if_neg (by rw [h3]; simp), if_pos h4]
theorem secErr_0 (h : treeErr s l = 0) (h2 : inB 0 (s.editions.length - 1) z = true) (h3 : fitsT s l = true) (h4 : upN l z.toNat ≠ -1) : secErr s l z = 0 := by unfold secErr; rw [if_neg (fun k => k h), if_neg (by rw [h2]; simp), if_neg (by rw [h3]; simp), if_neg h4]
end
/-- What comes before an edition, with one more. -/
def srcL (l : List Int) (i : Nat) : List Nat := if upN l i = -1 then [] else [(upN l i).toNat]
def befL (l : List Int) (x o k : Nat) : List Nat := if k = x then srcL l k ++ [o] else srcL l k
theorem befL_mem {l : List Int} {x o : Nat} (hx : x < l.length) {k i : Nat} : (k, i) ∈ treeE l ++ [(o, x)] ↔ i < l.length ∧ k ∈ befL l x o i := by
 have h1 : (k, i) ∈ treeE l ↔ i < l.length ∧ k ∈ srcL l i := by
   rw [treeE_mem]
   unfold srcL
   by_cases h : upN l i = -1
   · simp [h]
   · rw [if_neg h]; simp [h]
 rw [List.mem_append, h1]
 unfold befL
 by_cases h : i = x
 · subst h; simp [hx]
 · rw [if_neg h]; simp [h]
/-- Up from an edition, step by step. -/
theorem under_up {l : List Int} (ht : IsTree l) {k o : Nat} (hk : k < l.length) : underB l k o = (decide (k = o) || (if upN l k = -1 then false else underB l (upN l k).toNat o)) := by
 by_cases h : upN l k = -1
 · rw [if_pos h]
   unfold underB
   cases hl : l.length with
   | zero => omega
   | succ n => unfold under; rw [if_pos h]
 · rw [if_neg h]
   obtain ⟨j, hj, hjl⟩ := ht.in_.nat hk h
   unfold underB
   rw [under_edge hj (ht.reach k hk), hj, Int.toNat_natCast]
theorem under_self' {l : List Int} {k : Nat} : underB l k k = true := under_self
def metB (s : Stm) (p v : Nat) : Bool := (List.range s.editions.length).any fun i => decide (s.r i p = (v : Int))
def kindTo (s : Stm) (p : Nat) (k : Nat) : Int := sumN k fun j => if metB s p (j + 1) = true then 1 else 0
def kindsN (s : Stm) (p : Nat) : Int := kindTo s p 3
def needN (s : Stm) (p : Nat) : Int := max 0 (kindsN s p - 1)
def setTo (s : Stm) (p : Nat) : Nat → Nat
 | 0 => 0
 | k + 1 => setTo s p k ||| 2 ^ (s.r k p).toNat
theorem kindTo_bound {s : Stm} {p : Nat} : ∀ k, 0 ≤ kindTo s p k ∧ kindTo s p k ≤ k
 | 0 => by simp [kindTo, sumN]
 | k + 1 => by
   have h1 := kindTo_bound (s := s) (p := p) k
   have h2 : kindTo s p (k + 1) = kindTo s p k + if metB s p (k + 1) = true then 1 else 0 := rfl
   rw [h2]; split <;> omega
theorem needN_bound {s : Stm} {p : Nat} : 0 ≤ needN s p ∧ needN s p ≤ 2 := by have := kindTo_bound (s := s) (p := p) 3; unfold needN kindsN; omega
theorem setTo_bit {s : Stm} {p v : Nat} (hp : ∀ i, i < s.editions.length → 0 ≤ s.r i p) : ∀ {k : Nat}, k ≤ s.editions.length → (setTo s p k).testBit v = (List.range k).any fun i => decide (s.r i p = (v : Int))
 | 0, _ => by simp [setTo]
 | k + 1, hk => by
   unfold setTo
   rw [Nat.testBit_or, setTo_bit hp (by omega), List.range_succ, List.any_append, Nat.testBit_two_pow]
   have := hp k (by omega)
   simp
   congr 1
   rw [decide_eq_decide]
   omega
theorem setTo_lt {s : Stm} {p : Nat} (hp : ∀ i, i < s.editions.length → 0 ≤ s.r i p ∧ s.r i p ≤ 3) : ∀ {k : Nat}, k ≤ s.editions.length → setTo s p k < 16
 | 0, _ => by simp [setTo]
 | k + 1, hk => by
   have h1 := setTo_lt hp (k := k) (by omega)
   have h2 := hp k (by omega)
   unfold setTo
   refine Nat.or_lt_two_pow (n := 4) h1 ?_
   exact Nat.pow_lt_pow_right (by omega) (by omega)
def uncleanB (s : Stm) (l : List Int) (p : Nat) : Bool := decide (leastL s l p ≠ needN s p)
def uncleanL (s : Stm) (l : List Int) : List Nat := selN (uncleanB s l) s.places.length
theorem unclean_place {s : Stm} {l : List Int} (ht : IsTree l) (hv : ValidT s) (hl : l.length = s.editions.length) {p : Nat} : (placeN s l p ≠ needN s p) ↔ uncleanB s l p = true := by
 have h1 := place_leastV (p := p) ht hv hl
 have h2 := needN_bound (s := s) (p := p)
 have h3 := least_bound (s := s) (l := l) (p := p)
 unfold uncleanB
 rw [decide_eq_true_eq, h1]
 unfold never
 split <;> omega
def cleanStep (s : Stm) (st : Option (List Nat)) (t : List Int) : Option (List Nat) := match st with
 | none => some (uncleanL s t)
 | some b => if (uncleanL s t).length < b.length ∨ ((uncleanL s t).length = b.length ∧ cmpL (uncleanL s t) b < 0) then some (uncleanL s t) else some b
def cleanR (s : Stm) (xs : List (List Int)) : Option (List Nat) := xs.foldl (cleanStep s) none
theorem cleanR_snoc {s : Stm} {xs : List (List Int)} {t : List Int} : cleanR s (xs ++ [t]) = cleanStep s (cleanR s xs) t := by unfold cleanR; rw [List.foldl_append]; rfl
def cleanE (s : Stm) : List Nat × Int := if (checkT s).2.2 ≠ 0 then ([], (checkT s).2.2) else match cleanR s (allTrees s) with
 | none => ([], 9)
 | some b => (b, 0)
theorem cleanE_bad {s : Stm} (h : (checkT s).2.2 ≠ 0) : cleanE s = ([], (checkT s).2.2) := if_pos h
theorem cleanE_none {s : Stm} (h : (checkT s).2.2 = 0) (h2 : cleanR s (allTrees s) = none) : cleanE s = ([], 9) := by unfold cleanE; rw [if_neg (fun k => k h), h2]
theorem cleanE_some {s : Stm} (h : (checkT s).2.2 = 0) {b : List Nat} (h2 : cleanR s (allTrees s) = some b) : cleanE s = (b, 0) := by unfold cleanE; rw [if_neg (fun k => k h), h2]
def Edn.setR (x : Edn) (p : Nat) (v : Int) : Edn := ⟨x.name, x.lo, x.hi, x.rd.set p v⟩
/-- With another reading. -/
def setS (s : Stm) (x p : Nat) (v : Int) : Stm := ⟨s.places, s.editions.set x ((s.ed x).setR p v)⟩
section
variable {s : Stm} {x p : Nat} {v : Int}
theorem setS_len : (setS s x p v).editions.length = s.editions.length := by simp [setS]
theorem setS_ed {i : Nat} (hx : x < s.editions.length) : (setS s x p v).ed i = if i = x then (s.ed x).setR p v else s.ed i := by
 unfold setS
 show ((s.editions.set x ((s.ed x).setR p v))[i]?).getD _ = _
 rw [List.getElem?_set]
 by_cases h : x = i
 · subst h; rw [if_pos rfl, if_pos hx, if_pos rfl]; rfl
 · rw [if_neg h, if_neg (fun k => h k.symm)]; rfl
theorem setS_r {i q : Nat} (hx : x < s.editions.length) (hp : p < (s.ed x).rd.length) : (setS s x p v).r i q = if i = x ∧ q = p then v else s.r i q := by
 unfold Stm.r
 rw [setS_ed hx]
 by_cases h : i = x
 · subst h
   rw [if_pos rfl]
   show ((s.ed i).rd.set p v)[q]?.getD 0 = _
   rw [List.getElem?_set]
   by_cases h2 : p = q
   · subst h2; rw [if_pos rfl, if_pos hp, if_pos ⟨rfl, rfl⟩]; rfl
   · rw [if_neg h2, if_neg (fun k => h2 k.2.symm)]
 · rw [if_neg h, if_neg (fun k => h k.1)]
theorem setS_valid (hv : ValidT s) (hx : x < s.editions.length) (hp : p < s.places.length) (h3 : 0 ≤ v ∧ v ≤ 3) : ValidT (setS s x p v) := by
 have hpl : p < (s.ed x).rd.length := by rw [hv.rdl x hx]; exact hp
 refine ⟨hv.np, by rw [setS_len]; exact hv.ne, hv.kind, fun i hi => ?_, fun i hi => ?_, fun i q hi hq => ?_⟩
 · rw [setS_len] at hi
   rw [setS_ed hx]
   split
   · exact hv.year x hx
   · exact hv.year i hi
 · rw [setS_len] at hi
   rw [setS_ed hx]
   split
   · show ((s.ed x).rd.set p v).length = _; rw [List.length_set]; exact hv.rdl x hx
   · exact hv.rdl i hi
 · rw [setS_len] at hi
   rw [setS_r hx hpl]
   split
   · exact h3
   · exact hv.rd i q hi hq
end
def readB (s : Stm) (l : List Int) (x p n : Nat) : Bool := (decide (s.r x p = 0) || decide (s.r x p = (n : Int) + 1)) && decide (placeN (setS s x p ((n : Int) + 1)) l p = placeN s l p)
def readTo (s : Stm) (l : List Int) (x p k : Nat) : List Int := (selN (readB s l x p) k).map fun n : Nat => (n : Int) + 1
theorem readTo_succ {s : Stm} {l : List Int} {x p k : Nat} : readTo s l x p (k + 1) = if readB s l x p k = true then readTo s l x p k ++ [(k : Int) + 1] else readTo s l x p k := by
 unfold readTo
 rw [Dq]
 split
 · rw [List.map_append]; rfl
 · rfl
theorem readTo_len {s : Stm} {l : List Int} {x p k : Nat} : (readTo s l x p k).length ≤ k := by unfold readTo; rw [List.length_map]; exact Dr
def readErr (s : Stm) (l : List Int) (z q : Int) : Int := if treeErr s l ≠ 0 then treeErr s l else if (inB 0 (s.editions.length - 1) z && inB 0 (s.places.length - 1) q) = false then 4 else if costL s l = 1000 then 9 else 0
def readE (s : Stm) (l : List Int) (z q : Int) : List Int × Int := if readErr s l z q ≠ 0 then ([], readErr s l z q) else (readTo s l z.toNat q.toNat 3, 0)
section
variable {s : Stm} {l : List Int} {z q : Int}
theorem readE_bad {e : Int} (h : readErr s l z q = e) (he : e ≠ 0) : readE s l z q = ([], e) := by subst h; exact if_pos he
theorem readE_ok (h : readErr s l z q = 0) : readE s l z q = (readTo s l z.toNat q.toNat 3, 0) := if_neg (fun k => k h)
theorem readErr_1 (h : treeErr s l ≠ 0) : readErr s l z q = treeErr s l := if_pos h
theorem readErr_2 (h : treeErr s l = 0) (h2 : (inB 0 (s.editions.length - 1) z && inB 0 (s.places.length - 1) q) = false) : readErr s l z q = 4 := by unfold readErr; rw [if_neg (fun k => k h), if_pos h2]
theorem readErr_3 (h : treeErr s l = 0) (h2 : (inB 0 (s.editions.length - 1) z && inB 0 (s.places.length - 1) q) = true) (h3 : costL s l = 1000) : readErr s l z q = 9 := by unfold readErr; rw [if_neg (fun k => k h), if_neg (by rw [h2]; simp), if_pos h3]
theorem readErr_0 (h : treeErr s l = 0) (h2 : (inB 0 (s.editions.length - 1) z && inB 0 (s.places.length - 1) q) = true) (h3 : costL s l ≠ 1000) : readErr s l z q = 0 := by unfold readErr; rw [if_neg (fun k => k h), if_neg (by rw [h2]; simp), if_neg h3]
end
end Go.Proofs.Ytccogmkhijgelaa
namespace Go.Proofs.Ytccogmkhijgelaa
open Go.RowKit
set_option maxRecDepth 100000 in
theorem under_ok {F : Heap} {l : List Int} (ht : IsTree l) (h5 : l.length ≤ 5) {i : Nat} (hi : i < l.length) (o : Nat) : Ok Try.prog 92 [treeV l, .int .i64 (i : Int), .int .i64 (o : Int)].toArray F fun u _ => u = .bool (underB l i o) := by
 refine Ok.intro Try.func92 rfl Try.ntmps92 rfl fun w0 => ?_
 have hl5 : l.length ≤ 5 := h5
 refine Af <| Ai fun ds => Bb rfl (B9 (Aj rfl) rfl fun b1 hb1 nb1 => ?_)
 refine Aa rfl (Ad Ab) ?_
 refine Ah <| Ae <| Af <| Az <| By [1, 6, 7, 8, 9, 10, 11, 12, 13, 14] (fun m e σ => ∃ z : Int, e 1 = .int .i64 z ∧ (z = -1 ∧ m = 0 ∧ underB l i o = false ∨ ∃ k : Nat, z = (k : Int) ∧ k < l.length ∧ m = dep l l.length k + 1 ∧ underB l i o = underB l k o) ∧ σ = ⟨F, [(b1, bx 100 (treeC l))]⟩) (dep l l.length i + 1) ?_ ?_
 · exact ⟨_, (Ar rfl <| Aj rfl), .inr ⟨i, rfl, hi, rfl, rfl⟩, rfl⟩
 ·
  rintro m e _ ⟨z, hs1, hz, rfl⟩
  rcases hz with ⟨hz, hm0, hu⟩ | ⟨k, hz, hk, hm0, hu⟩
  ·
   refine Af <| Af <| Ai fun ds => Aa rfl (Ag (Au rfl hs1)) ?_
   refine Aa rfl (B6 (Ac) Ab) ?_
   refine Ah <| Ae <| Am (Ac) (decide_eq_false (fun h => h hz)) ?_
   refine Bt ?_
   refine Bg <| Bg <| Bj <| Ae <| Af <| Ai fun ds => Aa rfl (Ad Ab) ?_
   refine Ah <| Ae <| A4 <| Aw rfl (.tmp (Ac) .nil) ?_
   show _ = _
   rw [hu]; rfl
  ·
   have hk5 : k < 5 := by omega
   refine Af <| Af <| Ai fun ds => Aa rfl (Ag (Au rfl hs1)) ?_
   refine Aa rfl (B6 (Ac) Ab) ?_
   refine Ah <| Ae <| Aq (Ac) (decide_eq_true (by omega)) ?_
   by_cases hko : k = o
   ·
    refine Ay <| Ae <| Af <| Az <| Af <| Ai fun ds => Aa rfl (Ag (Ar rfl <| Au rfl hs1)) ?_
    refine Aa rfl (Ag (Ar rfl <| Ak rfl <| Al rfl <| Ar rfl <| Aj rfl)) ?_
    refine Aa rfl (Bx (Ak rfl <| Ac) (Ac)) ?_
    refine Ah <| Ae <| Aq (Ac) (decide_eq_true (by omega)) ?_
    refine Af <| Ai fun ds => Aa rfl (Ad Ab) ?_
    refine Ah <| Ae <| A4 <| Bd (A9 (A9 (Bd (A9 ?_))))
    refine Aw rfl (.tmp (Ac) .nil) ?_
    show _ = _
    rw [hu, show k = o by omega, under_self']; rfl
   ·
    refine Ay <| Ae <| Af <| Az <| Af <| Ai fun ds => Aa rfl (Ag (Ar rfl <| Au rfl hs1)) ?_
    refine Aa rfl (Ag (Ar rfl <| Ak rfl <| Al rfl <| Ar rfl <| Aj rfl)) ?_
    refine Aa rfl (Bx (Ak rfl <| Ac) (Ac)) ?_
    refine Ah <| Ae <| Am (Ac) (decide_eq_false (by omega)) ?_
    have hup := under_up ht (o := o) hk
    refine Ay <| Ba <| Ae <| Ai fun ds => Aa rfl (Ag (A0 rfl <| Ak rfl <| Au rfl hs1)) ?_
    refine Aa rfl (Bl (k := k) Cm (A0 rfl <| Ar rfl <| Al rfl <| Ak rfl <| Ac) (Ac) hz hk5) ?_
    refine Aa rfl (Ap Bk (Ac) (Cell.own 0 rfl (Ce hk5))) ?_
    refine Aa rfl (Ad (Ac)) ?_
    refine Ah <| Ae ⟨_, (if upN l k = -1 then 0 else dep l l.length (upN l k).toNat + 1), Off.eq (ou8 rfl <| ou1 rfl <| Be), (by rw [hm0]; split; omega; rename_i h1; obtain ⟨j, hj, hjl⟩ := ht.in_.nat hk h1; have := dep_edge hj (ht.reach k hk); rw [hj, Int.toNat_natCast]; omega), ?_⟩
    refine ⟨_, (Ac), ?_, rfl⟩
    by_cases h1 : upN l k = -1
    · rw [if_pos h1]; rw [if_pos h1, decide_eq_false hko] at hup; exact .inl ⟨h1, rfl, by rw [hu, hup]; rfl⟩
    · rw [if_neg h1]
      obtain ⟨j, hj, hjl⟩ := ht.in_.nat hk h1
      rw [if_neg h1, decide_eq_false hko, hj, Int.toNat_natCast] at hup
      exact .inr ⟨j, hj, hjl, by rw [hj]; rfl, by rw [hu, hup]; rfl⟩
set_option maxRecDepth 100000 in
theorem source_own {F : Heap} {l : List Int} {i : Nat} (hi : i < 5) : OkN Try.prog 73 [treeV l, .int .i64 (i : Int)].toArray F fun u _F' Hn => Own 3 1 u (sourceL l i).length ((sourceL l i).flatMap intE) Hn := by
 refine OkN.intro Try.func73 rfl Try.ntmps73 rfl fun w0 => ?_
 by_cases h1 : upN l i = -1
 ·
  refine Af <| Ai fun ds => Bb rfl (B9 (Aj rfl) rfl fun b1 hb1 nb1 => ?_)
  refine Aa rfl (Ad Ab) ?_
  refine Ah <| Ae <| Af <| Af <| Ai fun ds => Aa rfl (Ag (Ar rfl <| Aj rfl)) ?_
  refine Aa rfl (Bl (k := i) Cm (Ar rfl <| Ac) (Ac) rfl hi) ?_
  refine Aa rfl (Ap Bk (Ac) (Cell.own 0 rfl (Ce hi))) ?_
  refine Aa rfl (Bx (Ac) Ab) ?_
  refine Ah <| Ae <| Aq (Ac) (decide_eq_true h1) ?_
  refine Af <| Ai fun ds => Aa rfl (Ad Ab) ?_
  refine Ah <| Ae <| A4 <| A9 ?_
  refine Ds rfl (.tmp (Ac) .nil) (List.nil_sublist _) ?_
  unfold sourceL; rw [if_pos h1]; exact own_nil
 ·
  refine Af <| Ai fun ds => Bb rfl (B9 (Aj rfl) rfl fun b2 hb2 nb2 => ?_)
  refine Aa rfl (Ad Ab) ?_
  refine Ah <| Ae <| Af <| Af <| Ai fun ds => Aa rfl (Ag (Ar rfl <| Aj rfl)) ?_
  refine Aa rfl (Bl (k := i) Cm (Ar rfl <| Ac) (Ac) rfl hi) ?_
  refine Aa rfl (Ap Bk (Ac) (Cell.own 0 rfl (Ce hi))) ?_
  refine Aa rfl (Bx (Ac) Ab) ?_
  refine Ah <| Ae <| Am (Ac) (decide_eq_false h1) ?_
  refine Ay <| Ae <| Af <| Ai fun ds => Aa rfl (Ag (A0 rfl <| Ar rfl <| Aj rfl)) ?_
  refine Aa rfl (Bl (k := i) Cm (A0 rfl <| Ar rfl <| Ac) (Ac) rfl hi) ?_
  refine Aa rfl (Ap Bk (Ac) (Cell.own 0 rfl (Ce hi))) ?_
  refine Bb rfl (B1 Bm Cy rfl (.cons (Ac) .nil) rfl rfl (by decide) (by simp [Value.oneCell']) fun b3 hb3 nb3 => ?_)
  refine Aa rfl (Ad (Ac)) ?_
  refine Ah <| Ae <| A4 <| Ds rfl (.tmp (Ac) .nil) (.cons_cons _ <| .cons _ <| .refl _) ?_
  unfold sourceL; rw [if_neg h1]; exact own_box rfl
theorem srcL_src {l : List Int} {i : Nat} : srcN l i = srcL l i := by
 unfold srcN sourceL srcL
 split <;> rfl
theorem sourceL_len {l : List Int} {i : Nat} : (sourceL l i).length ≤ 1 := by unfold sourceL; split <;> simp
set_option maxRecDepth 100000 in
theorem second1_ok {F : Heap} {c5 c10 c12 T5 T12 x o : Nat} {l : List Int} (ht : IsTree l) (h5 : l.length ≤ 5) (hc5 : F c5 = some (bx T5 [.int .i64 (x : Int)])) (hc10 : F c10 = some (bx 100 (treeC l))) (hc12 : F c12 = some (bx T12 [.int .i64 (o : Int)])) {k : Nat} (hk : k < l.length) : Ok Try.prog 93 [.int .i64 (k : Int), .pointer (some ⟨c5, 0, none⟩), .pointer (some ⟨c10, 0, none⟩), .pointer (some ⟨c12, 0, none⟩)].toArray F fun u F' => Nats F' u (befL l x o k) := by
 have hle0 : F.le F := Heap.le_refl _
 refine Ok.intro Try.func93 rfl Try.ntmps93 rfl fun w0 => ?_
 have hsl := sourceL_len (l := l) (i := k)
 by_cases hkx : k = x
 ·
  refine Af <| Ai fun ds => Aa rfl (Ad Ab) ?_
  refine Ah <| Ae <| Af <| Af <| Ai fun ds => Aa rfl (Ag (Ak rfl <| Aj rfl)) ?_
  refine Aa rfl (Ap Bk (Ar rfl <| Aj rfl) (CellF.own hc5 rfl).cell) ?_
  refine Aa rfl (Bx (Ak rfl <| Ac) (Ac)) ?_
  refine Ah <| Ae <| Aq (Ac) (decide_eq_true (by omega)) ?_
  refine Af ?_
  have hleS := hle0
  refine Cu (.inl rfl) (fun _ _ h => h) (List.nil_sublist _) [] (by kernel_rfl) fun ds => ?_
  refine A5 0 rfl (by kernel_rfl) (by kernel_rfl) (by kernel_rfl) (by kernel_rfl) rfl rfl (fun _ h => h.drop (List.nil_sublist _)) (fun _ _ _ h => h) (A7 (vs := treeC l) Bs (A0 rfl <| Aj rfl) rfl rfl (Cp hc10)) ?_
  refine A5 1 rfl (by kernel_rfl) (by kernel_rfl) (by kernel_rfl) (by kernel_rfl) rfl rfl (fun _ h => h.drop (List.nil_sublist _)) (fun _ _ _ h => h) (Ag (A0 rfl <| Ak rfl <| Aj rfl)) ?_
  refine A5 3 rfl (by kernel_rfl) (by kernel_rfl) (by kernel_rfl) (by kernel_rfl) rfl rfl (fun _ h => h.drop (List.nil_sublist _)) (fun _ _ _ h => h) (Ap Bk (A0 rfl <| Ar rfl <| Aj rfl) (CellF.own hc12 rfl).cell) ?_
  refine WX_pick [2, 4] (by kernel_rfl) (by decide) (in2 ?_ ?_)
  ·
   refine WXop_x rfl rfl (C6 bd_73 Ax (.cons (Ar rfl <| Ac) (.cons (Ak rfl <| Ac) .nil)) (source_own (l := l) (i := k) (by omega)) fun v1 F2 R5 hr3 hF4 => ⟨fun _ _ _ h => (h.drop (List.nil_sublist _)).weak hF4 hleS, ?_⟩)
   have hoC := hr3
   refine WX_x 4 rfl (by kernel_rfl) rfl (B1 Bm Cy rfl (.cons (Ak rfl <| Ac) .nil) rfl rfl (by decide) (by simp [Value.oneCell']) fun b6 hb6 nb6 => ⟨fun _ _ => (fun _ h => (h.drop (List.nil_sublist _)).weak hF4 hleS), ?_⟩)
   refine WX_x 5 rfl (by kernel_rfl) rfl (C1 Bm el_3 (Ak rfl <| Ac) hoC (Ac) (src_box (s := 1) 0 rfl rfl (by simp [Value.oneCell'])) (by omega) (by omega) (.s <| .z) .last fun v7 R8 ho9 => ⟨fun _ _ => (fun _ h => (h.drop (List.nil_sublist _)).weak hF4 hleS), ?_⟩)
   have ho14 := ho9.snoc (x := (o : Int)) rfl rfl
   refine A5 6 rfl (by kernel_rfl) (by kernel_rfl) (by kernel_rfl) (by kernel_rfl) rfl rfl (fun _ h => (h.drop (List.nil_sublist _)).weak hF4 hleS) (fun _ _ _ h => h) (Ad (Ac)) ?_
   refine C2 (by kernel_rfl) ?_ _
   refine Ae <| Cx (σ := ⟨_, _⟩) (by rfl) ho14 (.s <| .z) .last fun F10 hF11 hz12 => ?_
   have hn14 := ho14.sl (fun _ => rfl) hz12 (by simp; omega)
   refine A4 <| A9 ?_
   refine Aw rfl (.tmp (Ac) .nil) ?_
   have hn := Ints.nats hn14 (by intro z hz; rcases List.mem_append.1 hz with hz | hz; exact src_nonneg ht.in_ hk z hz; simp at hz; omega)
   unfold befL; rw [if_pos hkx, ← srcL_src]
   unfold srcN
   show Nats _ _ _
   have hn2 := hn
   rw [List.map_append] at hn2
   exact hn2
  ·
   refine WXop_x rfl rfl (B1 Bm Cy rfl (.cons (Ac) .nil) rfl rfl (by decide) (by simp [Value.oneCell']) fun b13 hb13 nb13 => ⟨fun _ _ => (fun _ h => h.drop (List.nil_sublist _)), ?_⟩)
   refine WX_x 2 rfl (by kernel_rfl) rfl (C6 bd_73 Ax (.cons (Ar rfl <| Ak rfl <| Ac) (.cons (Ar rfl <| Ac) .nil)) (source_own (l := l) (i := k) (by omega)) fun v14 F15 R18 hr16 hF17 => ⟨fun _ _ _ h => (h.drop (List.nil_sublist _)).weak hF17 hleS, ?_⟩)
   have hoC := hr16
   refine WX_x 5 rfl (by kernel_rfl) rfl (C1 Bm el_3 (Ac) hoC (Ak rfl <| Ac) (src_box (s := 1) 0 rfl rfl (by simp [Value.oneCell'])) (by omega) (by omega) (.s <| .z) .last fun v19 R20 ho21 => ⟨fun _ _ => (fun _ h => (h.drop (List.nil_sublist _)).weak hF17 hleS), ?_⟩)
   have ho14 := ho21.snoc (x := (o : Int)) rfl rfl
   refine A5 6 rfl (by kernel_rfl) (by kernel_rfl) (by kernel_rfl) (by kernel_rfl) rfl rfl (fun _ h => (h.drop (List.nil_sublist _)).weak hF17 hleS) (fun _ _ _ h => h) (Ad (Ac)) ?_
   refine C2 (by kernel_rfl) ?_ _
   refine Ae <| Cx (σ := ⟨_, _⟩) (by rfl) ho14 (.s <| .z) .last fun F22 hF23 hz24 => ?_
   have hn14 := ho14.sl (fun _ => rfl) hz24 (by simp; omega)
   refine A4 <| A9 ?_
   refine Aw rfl (.tmp (Ac) .nil) ?_
   have hn := Ints.nats hn14 (by intro z hz; rcases List.mem_append.1 hz with hz | hz; exact src_nonneg ht.in_ hk z hz; simp at hz; omega)
   unfold befL; rw [if_pos hkx, ← srcL_src]
   unfold srcN
   show Nats _ _ _
   have hn2 := hn
   rw [List.map_append] at hn2
   exact hn2
 ·
  refine Af <| Ai fun ds => Aa rfl (Ad Ab) ?_
  refine Ah <| Ae <| Af <| Af <| Ai fun ds => Aa rfl (Ag (Ak rfl <| Aj rfl)) ?_
  refine Aa rfl (Ap Bk (Ar rfl <| Aj rfl) (CellF.own hc5 rfl).cell) ?_
  refine Aa rfl (Bx (Ak rfl <| Ac) (Ac)) ?_
  refine Ah <| Ae <| Am (Ac) (decide_eq_false (by omega)) ?_
  refine Ay <| Ae <| Af <| Ai fun ds => Aa rfl (A7 Bs (A0 rfl <| Aj rfl) rfl rfl (Cp hc10)) ?_
  refine Aa rfl (Ag (A0 rfl <| Ak rfl <| Aj rfl)) ?_
  refine Bb rfl (Ch bd_73 Ax (.cons (Ak rfl <| Ac) (.cons (Ac) .nil)) (source_nat ht.in_ hk h5) fun v25 F26 hr27 hF28 => ?_)
  have hsrc := hr27
  refine Aa rfl (Ad (Ac)) ?_
  refine Ah <| Ae <| A4 <| Aw rfl (.tmp (Ac) .nil) ?_
  unfold befL; rw [if_neg hkx, ← srcL_src]
  exact hsrc
end Go.Proofs.Ytccogmkhijgelaa
namespace Go.Proofs.Ytccogmkhijgelaa
open Go.RowKit
theorem bd_92 : Body Try.prog 92 := Bo (by kernel_rfl)
theorem bd_93 : Body Try.prog 93 := Bo (by kernel_rfl)
set_option maxRecDepth 100000 in
theorem second_top_ok {F : Heap} {vp ve : Value} {ps : List (Value × Edn)} {s : Stm} (hr : StmR F vp ve ps s) {v : Value} {l : List Int} (hl : Ints F v l) (z : Int) : Ok Try.prog 37 [.agg #[vp, ve], v, .int .i64 z].toArray F fun u _ => u = secV s l z := by
 have hle0 : F.le F := Heap.le_refl _
 refine Ok.intro Try.func37 rfl Try.ntmps37 rfl fun w0 => ?_
 have hL := hl.plain.lt
 have hlen := hr.len
 have hL1 := hr.eds.plain.lt
 by_cases hok : treeErr s l = 0
 ·
  obtain ⟨hv, hll, ht⟩ := tree_ok hok
  have hne := hv.ne
  have hnp := hv.np
  have hl5 : l.length ≤ 5 := by omega
  refine Af <| Ai fun ds => Bb rfl (B9 (Aj rfl) rfl fun b1 hb1 nb1 => ?_)
  refine Bb rfl (B9 (Ak rfl <| Aj rfl) rfl fun b2 hb2 nb2 => ?_)
  refine Aa rfl (Ad Ab) ?_
  refine Aa rfl (Ad Ab) ?_
  refine Aa rfl (Ad Ab) ?_
  refine Ah <| Ae <| Af <| Ai fun ds => Aa rfl (A7 B8 (A0 rfl <| Ac) rfl rfl (A2 1 rfl)) ?_
  refine Aa rfl (Ag (A0 rfl <| Ar rfl <| Aj rfl)) ?_
  refine Bb rfl (C6 bd_68 Ax (.cons (Ak rfl <| Ac) (.cons (Ac) .nil)) (enter_ok hr hl hok) fun v3 F4 R7 hr5 hF6 => ?_)
  replace hr := hr.mono hF6
  replace hle0 := Heap.le_trans hle0 hF6
  obtain ⟨ba, kb, rfl, hX, rfl⟩ := hr5
  refine Aa rfl (Ag (Ac)) ?_
  refine Aa rfl (As (Ac) rfl) ?_
  refine Aa rfl (As (Ak rfl <| Ac) rfl) ?_
  refine Aa rfl (As (Ar rfl <| Ac) rfl) ?_
  refine Bb rfl (B2 Di rfl fun b8 hb8 nb8 => ?_)
  refine Aa rfl (Ad (Ar rfl <| Ak rfl <| Ac)) ?_
  refine Cf (Cb Dn (Ak rfl <| Ac) (Ar rfl <| Ak rfl <| Ac) (i := 0) rfl rfl rfl rfl Cz (.here) ?_)
  refine Aa rfl (Ad (Ar rfl <| Ac)) ?_
  refine Ah <| Ae <| Af <| Az <| Af <| Ca (i := 2) rfl hb1 (.next <| .next <| .here) fun F9 hF10 hz3 => ?_
  replace hr := hr.mono hF10
  replace hle0 := Heap.le_trans hle0 hF10
  replace hX := hX.mono hF10
  refine Ca (i := 1) rfl hb2 (.next <| .here) fun F11 hF12 hz5 => ?_
  replace hr := hr.mono hF12
  replace hle0 := Heap.le_trans hle0 hF12
  replace hX := hX.mono hF12
  replace hz3 := hF12 _ _ hz3
  refine Ca (i := 0) rfl hb8 (.here) fun F13 hF14 hz10 => ?_
  replace hr := hr.mono hF14
  replace hle0 := Heap.le_trans hle0 hF14
  replace hX := hX.mono hF14
  replace hz3 := hF14 _ _ hz3
  replace hz5 := hF14 _ _ hz5
  refine Ai fun ds => Aa rfl (Ag (Ac)) ?_
  refine Aa rfl (B6 (Ac) Ab) ?_
  refine Aa rfl (Ad (Ac)) ?_
  refine Ah <| Ae <| Am (Ac) (by decide) ?_
  by_cases h1 : inB 0 (s.editions.length - 1) z = true
  ·
   obtain ⟨x, rfl, hx⟩ := inB_nat h1
   have hx5 : x < 5 := by omega
   have hxl : x < l.length := by omega
   have hxp : x < ps.length := by omega
   have hrx := hr.rd hxp
   refine Af <| Ai fun ds => Aa rfl (Ao Br (A6 rfl <| Ak rfl <| Ac)) ?_
   refine Aa rfl (Ap B3 (Ac) (CellF.own hz3 rfl).cell) ?_
   refine Aa rfl (Bp Cc (Ac) hr.eds.plain) ?_
   refine Aa rfl (q_sub (Ac) Ab rfl (by omega) (by omega)) ?_
   refine Aa rfl (Ap Bk (A6 rfl <| A0 rfl <| Ac) (CellF.own hz5 rfl).cell) ?_
   refine Bb rfl (B1 Bm Cy rfl (.cons (Ac) .nil) rfl rfl (by decide) (by simp [Value.oneCell']) fun b15 hb15 nb15 => ?_)
   refine Bu (i := 0) rfl hb15 .here fun F16 hF17 hz18 => ?_
   replace hr := hr.mono hF17
   replace hle0 := Heap.le_trans hle0 hF17
   replace hX := hX.mono hF17
   replace hrx := hrx.mono hF17
   replace hz3 := hF17 _ _ hz3
   replace hz5 := hF17 _ _ hz5
   replace hz10 := hF17 _ _ hz10
   have hsl19 := Cn hz18
   refine B0 rfl (Bc Dk Ax (.cons Ab (.cons (Ar rfl <| Ac) (.cons (Ac) .nil))) (Cd _ _ hsl19) (fun _ _ h => h)) ?_
   refine Aa rfl (Ad (Ac)) ?_
   refine Ah <| Ae <| Am (Ac) (by simp [hlen, h1]) ?_
   by_cases hft : fitsT s l = true
   ·
    refine Af <| Ai fun ds => Aa rfl (Ag (A8 rfl <| A0 rfl <| Ac)) ?_
    refine Aa rfl (A7 Bs (A8 rfl <| A0 rfl <| Ar rfl <| Ac) rfl rfl (Cp hz10)) ?_
    refine B0 rfl (Bc bd_91 Ax (.cons (Ak rfl <| Ac) (.cons (Ac) .nil)) (fits_ok hX ht hll hv) (fun _ _ h => h)) ?_
    refine Aa rfl (C4 (Ac)) ?_
    refine Aa rfl (Ad (Ac)) ?_
    refine Ah <| Ae <| Am (Ac) (by unfold fitsT at hft; rw [hft]; first | done | rfl) ?_
    by_cases hu : upN l x = -1
    ·
     refine Af <| Ai fun ds => Aa rfl (Ap Bk (A6 rfl <| A8 rfl <| A0 rfl <| Ak rfl <| Ac) (CellF.own hz5 rfl).cell) ?_
     refine Aa rfl (Bl (k := x) Cm (A6 rfl <| Ar rfl <| Ak rfl <| Ac) (Ac) rfl hx5) ?_
     refine Aa rfl (Ap Bk (Ac) (CellF.own hz10 (Ce hx5)).cell) ?_
     refine Aa rfl (Bx (Ac) Ab) ?_
     refine Aa rfl (Ad (Ac)) ?_
     refine Ah <| Ae <| Aq (Ac) (decide_eq_true hu) ?_
     refine Af <| Ai fun ds => Aa rfl (Ad Ab) ?_
     refine Aa rfl (Ad Ab) ?_
     refine Aa rfl (Ad Ab) ?_
     refine Ah <| Ae <| A4 <| Bd (A9 ?_)
     refine Aw rfl (.tmp (Ar rfl <| Ac) (.tmp (Ak rfl <| Ac) (.tmp (Ac) .nil))) ?_
     show _ = _
     rw [secE_bad (secErr_4 hok h1 hft hu) (by decide)]; rfl
    ·
     obtain ⟨y, hy, hyl⟩ := ht.in_.nat hxl hu
     have hse := secErr_0 hok h1 hft hu
     have hyn : (upN l x).toNat = y := by omega
     have hol : (ownL s l x).length ≤ s.places.length := Dr
     refine Af <| Ai fun ds => Aa rfl (Ap Bk (A6 rfl <| A8 rfl <| A0 rfl <| Ak rfl <| Ac) (CellF.own hz5 rfl).cell) ?_
     refine Aa rfl (Bl (k := x) Cm (A6 rfl <| Ar rfl <| Ak rfl <| Ac) (Ac) rfl hx5) ?_
     refine Aa rfl (Ap Bk (Ac) (CellF.own hz10 (Ce hx5)).cell) ?_
     refine Aa rfl (Bx (Ac) Ab) ?_
     refine Aa rfl (Ad (Ac)) ?_
     refine Ah <| Ae <| Am (Ac) (decide_eq_false hu) ?_
     refine Ay <| Ba <| Ae <| Af ?_
     have hleS := hle0
     refine Cu (.inl rfl) (fun _ _ h => h) (.cons_cons _ <| .refl _) [] (by kernel_rfl) fun ds => ?_
     refine A5 0 rfl (by kernel_rfl) (by kernel_rfl) (by kernel_rfl) (by kernel_rfl) rfl rfl (fun _ h => h.drop (.cons_cons _ <| .refl _)) (fun _ _ _ h => h) (Ag (A6 rfl <| A0 rfl <| Ar rfl <| Ac)) ?_
     refine A5 1 rfl (by kernel_rfl) (by kernel_rfl) (by kernel_rfl) (by kernel_rfl) rfl rfl (fun _ h => h.drop (.cons_cons _ <| .refl _)) (fun _ _ _ h => h) (Ap Bk (Bf rfl <| Ar rfl <| Ak rfl <| Ac) (CellF.own hz5 rfl).cell) ?_
     refine A5 2 rfl (by kernel_rfl) (by kernel_rfl) (by kernel_rfl) (by kernel_rfl) rfl rfl (fun _ h => h.drop (.cons_cons _ <| .refl _)) (fun _ _ _ h => h) (Bl (k := x) Cm (A6 rfl <| A8 rfl <| Ak rfl <| Ac) (Ac) rfl hx5) ?_
     refine A5 3 rfl (by kernel_rfl) (by kernel_rfl) (by kernel_rfl) (by kernel_rfl) rfl rfl (fun _ h => h.drop (.cons_cons _ <| .refl _)) (fun _ _ _ h => h) (Ap Bk (Ac) (CellF.own hz10 (hy ▸ Ce hx5)).cell) ?_
     refine A5 4 rfl (by kernel_rfl) (by kernel_rfl) (by kernel_rfl) (by kernel_rfl) rfl rfl (fun _ h => h.drop (.cons_cons _ <| .refl _)) (fun _ _ _ h => h) (Ap Bk (Bf rfl <| A0 rfl <| Ar rfl <| Ac) (CellF.own hz5 rfl).cell) ?_
     refine WX_x 5 rfl (by kernel_rfl) rfl (Ch bd_66 Ax (.cons (A0 rfl <| Ac) (.cons (Ak rfl <| Ac) (.cons (Ac) .nil))) (apart_ok hX hv (a := y) (c := x) (by omega) hx) fun v20 F21 hr22 hF23 => ⟨fun _ _ _ h => (h.drop (.cons_cons _ <| .refl _)).weak hF23 hleS, ?_⟩)
     replace hr := hr.mono hF23
     replace hX := hX.mono hF23
     replace hrx := hrx.mono hF23
     replace hz3 := hF23 _ _ hz3
     replace hz5 := hF23 _ _ hz5
     replace hz10 := hF23 _ _ hz10
     have hap := hr22
     rw [← hyn] at hap
     change Nats _ _ (ownL s l x) at hap
     refine A5 6 rfl (by kernel_rfl) (by kernel_rfl) (by kernel_rfl) (by kernel_rfl) rfl rfl (fun _ h => (h.drop (.cons_cons _ <| .refl _)).weak hF23 hleS) (fun _ _ _ h => h) (Ad (Ac)) ?_
     refine C2 (by kernel_rfl) ?_ _
     refine Ae <| Af <| Af <| Ai fun ds => Aa rfl (Ao Br (Bf rfl <| A8 rfl <| Ar rfl <| Ac)) ?_
     refine Aa rfl (Ap B3 (Ac) (CellF.own hz3 rfl).cell) ?_
     refine Aa rfl (Bp Cc (Ac) hr.eds.plain) ?_
     refine Aa rfl (Ag Ab) ?_
     refine Ah <| Ae <| Az <| By [6, 7, 12, 13, 14, 15, 16, 18, 57, 58, 59, 60, 61, 62, 63, 64, 65, 66, 67, 68, 69, 70, 71, 72, 73, 74, 75, 76, 77, 78, 79, 80, 81, 82, 83, 84, 85, 86, 87, 88, 89, 90, 91, 92, 93, 94, 95, 96, 97, 98, 99, 100, 101, 102, 103, 104, 105, 106, 107, 108, 109, 110, 111] (fun m e σ => ∃ G, F21.le G ∧ ∃ k : Nat, m + k = ps.length ∧ e 57 = .int .i64 (k : Int) ∧ e 6 = .int .i64 (secTo s l x k).1 ∧ e 7 = .int .i64 (secTo s l x k).2 ∧ σ = ⟨G, [(kb, mapO [])]⟩) (ps.length) ?_ ?_
     · exact ⟨_, Heap.le_refl _, 0, by omega, (Ac), (Bf rfl <| A8 rfl <| A0 rfl <| Ac), (Bf rfl <| A8 rfl <| Ar rfl <| Ak rfl <| Ac), rfl⟩
     ·
      rintro m e _ ⟨G, hFG, k, hm, hs57, hs6, hs7, rfl⟩; replace hr := hr.mono hFG; replace hX := hX.mono hFG; replace hap := hap.mono hFG; replace hrx := hrx.mono hFG; replace hz3 := hFG _ _ hz3; replace hz5 := hFG _ _ hz5; replace hz10 := hFG _ _ hz10
      by_cases hlt : k < ps.length
      ·
       have hkl : k < l.length := by omega
       have hrk := hr.rd hlt
       have e1 := hr.at hlt
       have hsb := secTo_bound (s := s) (l := l) (x := x) k
       refine Af <| Ai fun ds => Aa rfl (Bz (Au rfl hs57) (Al rfl <| Ak rfl <| Ac)) ?_
       refine Ah <| Ae <| Af <| Aq (Ac) (by first | rfl | exact decide_eq_true (by omega)) ?_
       refine Ay <| Ae <| Af <| Az <| Af <| Ai fun ds => Aa rfl (Ag (Ak rfl <| Au rfl hs57)) ?_
       refine Aa rfl (Bh (k := k) Cc (Ar rfl <| Al rfl <| Ar rfl <| Ac) hr.eds.plain (Ar rfl <| Au rfl hs57) rfl hlt) ?_
       refine Aa rfl (A7 agg_64 (Ac) rfl rfl (hr.eds.whole hlt)) ?_
       refine Bb rfl (B2 Cy rfl fun b25 hb25 nb25 => ?_)
       refine Bb rfl (B2 zr_64 rfl fun b26 hb26 nb26 => ?_)
       refine Cf (Cg sz_3 (Ak rfl <| Ac) (A0 rfl <| Ac) (i := 1) rfl (.here) rfl (.next <| .here) ?_)
       refine Cf (Cb sz_64 (Ac) (Ar rfl <| Ac) (i := 0) rfl rfl rfl rfl (edE_one (hr.one _ (List.getElem_mem hlt))) (.here) ?_)
       refine Ah <| Ae <| Af <| Af <| Ca (i := 1) rfl hb25 (.next <| .here) fun F27 hF28 hz12 => ?_
       replace hr := hr.mono hF28
       replace hX := hX.mono hF28
       replace hap := hap.mono hF28
       replace hrx := hrx.mono hF28
       replace hFG := Heap.le_trans hFG hF28
       replace hrk := hrk.mono hF28
       replace hz3 := hF28 _ _ hz3
       replace hz5 := hF28 _ _ hz5
       replace hz10 := hF28 _ _ hz10
       by_cases hku : (k : Int) ≠ upN l x
       ·
        refine Dg (.inl rfl) (fun _ _ h => h) (by kernel_rfl) (by kernel_rfl) fun ds => ?_
        refine Bi rfl (Ap Bk (Ak rfl <| Ac) (CellF.own hz12 rfl).cell) ?_
        refine Bi rfl (Ap Bk (A0 rfl <| Ar rfl <| Ak rfl <| Al rfl <| Bf rfl <| A8 rfl <| A0 rfl <| Ak rfl <| Ac) (CellF.own hz5 rfl).cell) ?_
        refine Bi rfl (Bl (k := x) Cm (A8 rfl <| Al rfl <| Bf rfl <| Ar rfl <| Ac) (Ac) rfl hx5) ?_
        refine Bi rfl (Ap Bk (Ac) (CellF.own hz10 (Ce hx5)).cell) ?_
        refine Bi rfl (Bx (Ar rfl <| Ak rfl <| Ac) (Ac)) ?_
        refine Bi rfl (Ag (Ac)) ?_
        refine Ck rfl rfl (Ac) (decide_eq_false hku) ?_
        refine Bi rfl (A7 Bs (A8 rfl <| A0 rfl <| Al rfl <| Bf rfl <| Ar rfl <| Ac) rfl rfl (Cp hz10)) ?_
        refine Ck rfl rfl (Ak rfl <| Ac) (decide_eq_false hku) ?_
        refine Bi rfl (Ap Bk (A8 rfl <| Ac) (CellF.own hz12 rfl).cell) ?_
        refine Ck rfl rfl (Ar rfl <| Ac) (decide_eq_false hku) ?_
        refine Bi rfl (Ap Bk (A8 rfl <| A0 rfl <| Ar rfl <| Al rfl <| Bf rfl <| A8 rfl <| A0 rfl <| Ak rfl <| Ac) (CellF.own hz5 rfl).cell) ?_
        refine Ck rfl rfl (Ar rfl <| Ak rfl <| Ac) (decide_eq_false hku) ?_
        refine WQ_c rfl (Bc bd_92 Ax (.cons (Ar rfl <| Ac) (.cons (Ak rfl <| Ac) (.cons (Ac) .nil))) (under_ok ht hl5 hkl x) (fun _ _ h => h)) ?_
        refine Bi rfl (Bn (A0 rfl <| Ac) (decide_eq_false hku) (Ac)) ?_
        refine WQ_nil ?_
        refine Ae ?_
        by_cases hun : underB l k x = true
        ·
         refine Aq (Ac) hun ?_
         refine Bt ?_
         refine Bg (Bj ?_)
         refine Ae <| Dp (fun _ _ h => h.drop (.cons _ <| .cons_cons _ <| .refl _)) ?_
         refine Ai fun ds => Aa rfl (Bw (A6 rfl <| Ak rfl <| Au rfl hs57) Ab rfl (by omega) (by omega)) ?_
         refine Aa rfl (Ag (Ac)) ?_
         refine Ah <| Ae ⟨_, m - 1, Off.eq (Dj rfl <| ou2 rfl <| ou1 rfl <| Be), by omega, ?_⟩
         refine ⟨_, hFG, k + 1, by omega, (Ac), ((A6 rfl <| Ar rfl <| Ak rfl <| Au rfl hs6)).trans (by rw [secTo_no (fun h => by unfold canT at h; rw [hun] at h; simp at h)]), ((A6 rfl <| Ar rfl <| Ak rfl <| Au rfl hs7)).trans (by rw [secTo_no (fun h => by unfold canT at h; rw [hun] at h; simp at h)]), rfl⟩
        ·
         replace hun : underB l k x = false := by simpa using hun
         refine Am (Ac) hun ?_
         refine Ay <| Ae <| Af <| Ai fun ds => Aa rfl (Ag (A6 rfl <| Ak rfl <| Al rfl <| Bf rfl <| Ak rfl <| Ac)) ?_
         refine Aa rfl (Cj (.cons (A6 rfl <| Ar rfl <| Al rfl <| Bf rfl <| A8 rfl <| A0 rfl <| Ak rfl <| Ac) (.cons (A6 rfl <| Ar rfl <| Al rfl <| Bf rfl <| Ar rfl <| Ac) (.cons (A8 rfl <| A0 rfl <| Ak rfl <| Ac) .nil)))) ?_
         refine Bb rfl (Ch bd_72 Ax (.cons (Ak rfl <| Ac) (.cons (Ac) .nil)) (spans_ok hX hv (fs := []) (cs := [.pointer (some ⟨b2, 0, none⟩), .pointer (some ⟨b8, 0, none⟩), .pointer (some ⟨b25, 0, none⟩)]) bd_93 (bef := befL l x k) (fun G hG i hi => second1_ok ht hl5 (hG _ _ hz5) (hG _ _ hz10) (hG _ _ hz12) (by omega)) (E := treeE l ++ [(k, x)]) (fun a b => by rw [befL_mem hxl, hll]) (by rw [← hll]; exact ht.dag2 hkl hxl hun)) fun v29 F30 hr31 hF32 => ?_)
         replace hr := hr.mono hF32
         replace hap := hap.mono hF32
         replace hrx := hrx.mono hF32
         replace hFG := Heap.le_trans hFG hF32
         replace hrk := hrk.mono hF32
         replace hz3 := hF32 _ _ hz3
         replace hz5 := hF32 _ _ hz5
         replace hz12 := hF32 _ _ hz12
         obtain ⟨vsp, rfl, hsp⟩ := hr31
         refine Aa rfl (Ag (Ac)) ?_
         refine Aa rfl (As (Ac) rfl) ?_
         refine Aa rfl (As (Ak rfl <| Ac) rfl) ?_
         refine Aa rfl (Ad (Ak rfl <| Ac)) ?_
         refine Aa rfl (Ad (Ak rfl <| Ac)) ?_
         refine Ah <| Ae <| Af <| Ai fun ds => Aa rfl (Ad Ab) ?_
         refine Ah <| Ae <| Af <| Af <| Ai fun ds => Aa rfl (Ag (A6 rfl <| A8 rfl <| Ar rfl <| Al rfl <| A0 rfl <| Ac)) ?_
         refine Aa rfl (Bp Bm (Ac) hap.plain) ?_
         refine Aa rfl (Ag Ab) ?_
         refine Ah <| Ae <| Az <| By [16, 18, 81, 82, 83, 84, 85, 86, 87, 88, 89, 90, 91, 92, 93, 94, 95, 96, 97, 98, 99, 100, 101, 102] (fun m e σ => ∃ q : Nat, m + q = (ownL s l x).length ∧ e 81 = .int .i64 (q : Int) ∧ e 16 = .int .i64 (savesTo s (ownL s l x) x k q) ∧ σ = ⟨F30, [(b26, bx 64 (edE ps[k])), (kb, mapO [])]⟩) ((ownL s l x).length) ?_ ?_
         · exact ⟨0, by omega, (Ac), (Ar rfl <| Ak rfl <| Ac), rfl⟩
         ·
          rintro m2 e2 _ ⟨q, hm2, ht981, ht916, rfl⟩
          by_cases hlq : q < (ownL s l x).length
          ·
           have hpn : (ownL s l x)[q] < s.places.length := selN_lt _ (List.getElem_mem hlq)
           have hpk : (ownL s l x)[q] < (s.ed k).rd.length := by rw [hv.rdl k (by omega)]; exact hpn
           have hpx : (ownL s l x)[q] < (s.ed x).rd.length := by rw [hv.rdl x (by omega)]; exact hpn
           have er1 := rdT_at hpk
           have er2 := rdT_at hpx
           have hsb := savesTo_bound (s := s) (own := (ownL s l x)) (x := x) (o := k) (k := q)
           refine Af <| Ai fun ds => Aa rfl (Bz (Au rfl ht981) (Al rfl <| Ak rfl <| Ac)) ?_
           refine Ah <| Ae <| Af <| Aq (Ac) (by first | rfl | exact decide_eq_true (by omega)) ?_
           by_cases hsh : sharedB s x k (ownL s l x)[q] = true
           ·
            refine Ay <| Ae <| Af <| Az <| Af <| Ai fun ds => Aa rfl (Bh (k := q) Bm (Ak rfl <| Al rfl <| Ar rfl <| Ac) hap.plain (Ak rfl <| Au rfl ht981) rfl hlq) ?_
            refine Aa rfl (Ap Bk (Ac) (hap.cell1 hlq rfl)) ?_
            refine Aa rfl (Ad (Ac)) ?_
            refine Ah <| Ae <| Af <| Dg (.inl rfl) (fun _ _ h => h) (by kernel_rfl) (by kernel_rfl) fun ds => ?_
            refine Bi rfl (Ao Cr (A0 rfl <| Al rfl <| A6 rfl <| A0 rfl <| Ar rfl <| Ak rfl <| Ac)) ?_
            refine Bi rfl (Ap Cq (Ac) (Cell.own 0 rfl rfl)) ?_
            refine Bi rfl (Ag (Ar rfl <| Ac)) ?_
            refine Bi rfl (Bh (k := (ownL s l x)[q]) Bm (Ak rfl <| Ac) hrk.plain (Ac) rfl hpk) ?_
            refine Bi rfl (Ap Bk (Ac) (hrk.cell1 hpk rfl)) ?_
            refine Bi rfl (Ao Br (A8 rfl <| Ak rfl <| Al rfl <| A6 rfl <| A8 rfl <| A0 rfl <| Ak rfl <| Al rfl <| Bf rfl <| A8 rfl <| A0 rfl <| Ar rfl <| Ac)) ?_
            refine Bi rfl (Ap B3 (Ac) (CellF.own hz3 rfl).cell) ?_
            refine Bi rfl (Ap Bk (A8 rfl <| Ar rfl <| Ak rfl <| Al rfl <| A6 rfl <| A8 rfl <| A0 rfl <| Ak rfl <| Al rfl <| Bf rfl <| A8 rfl <| A0 rfl <| Ak rfl <| Ac) (CellF.own hz5 rfl).cell) ?_
            refine Bi rfl (Bh (k := x) Cc (Ak rfl <| Ac) hr.eds.plain (Ac) rfl hxp) ?_
            refine Bi rfl (Bv Cr (Ac)) ?_
            refine Bi rfl (Ap Cq (Ac) (hr.eds.cell hxp rfl)) ?_
            refine Bi rfl (Ag (A8 rfl <| Ar rfl <| Ak rfl <| Ac)) ?_
            refine Bi rfl (Bh (k := (ownL s l x)[q]) Bm (Ak rfl <| Ac) hrx.plain (Ac) rfl hpx) ?_
            refine Bi rfl (Ap Bk (Ac) (hrx.cell1 hpx rfl)) ?_
            refine Bi rfl (Bx (A8 rfl <| Ak rfl <| Ac) (Ac)) ?_
            refine WQ_nil ?_
            refine Ae <| Aq (Ac) (by rw [er1, er2]; exact hsh) ?_
            refine Ai fun ds => Aa rfl (Ag (A6 rfl <| Ar rfl <| Ak rfl <| Au rfl ht916)) ?_
            refine Aa rfl (Bw (Ac) Ab rfl (by omega) (by omega)) ?_
            refine Aa rfl (Ad (Ac)) ?_
            refine Ah <| Ba <| Ae <| Ai fun ds => Aa rfl (Bw (A6 rfl <| A0 rfl <| Ar rfl <| Au rfl ht981) Ab rfl (by omega) (by omega)) ?_
            refine Aa rfl (Ag (Ac)) ?_
            refine Ah <| Ae ⟨_, m2 - 1, Off.eq (Dj rfl <| ou8 rfl <| Be), by omega, ?_⟩
            exact ⟨q + 1, by omega, (Ac), ((Ar rfl <| Ac)).trans (by rw [savesTo_succ hlq, if_pos hsh]), rfl⟩
           ·
            replace hsh : sharedB s x k (ownL s l x)[q] = false := by simpa using hsh
            refine Ay <| Ae <| Af <| Az <| Af <| Ai fun ds => Aa rfl (Bh (k := q) Bm (Ak rfl <| Al rfl <| Ar rfl <| Ac) hap.plain (Ak rfl <| Au rfl ht981) rfl hlq) ?_
            refine Aa rfl (Ap Bk (Ac) (hap.cell1 hlq rfl)) ?_
            refine Aa rfl (Ad (Ac)) ?_
            refine Ah <| Ae <| Af <| Dg (.inl rfl) (fun _ _ h => h) (by kernel_rfl) (by kernel_rfl) fun ds => ?_
            refine Bi rfl (Ao Cr (A0 rfl <| Al rfl <| A6 rfl <| A0 rfl <| Ar rfl <| Ak rfl <| Ac)) ?_
            refine Bi rfl (Ap Cq (Ac) (Cell.own 0 rfl rfl)) ?_
            refine Bi rfl (Ag (Ar rfl <| Ac)) ?_
            refine Bi rfl (Bh (k := (ownL s l x)[q]) Bm (Ak rfl <| Ac) hrk.plain (Ac) rfl hpk) ?_
            refine Bi rfl (Ap Bk (Ac) (hrk.cell1 hpk rfl)) ?_
            refine Bi rfl (Ao Br (A8 rfl <| Ak rfl <| Al rfl <| A6 rfl <| A8 rfl <| A0 rfl <| Ak rfl <| Al rfl <| Bf rfl <| A8 rfl <| A0 rfl <| Ar rfl <| Ac)) ?_
            refine Bi rfl (Ap B3 (Ac) (CellF.own hz3 rfl).cell) ?_
            refine Bi rfl (Ap Bk (A8 rfl <| Ar rfl <| Ak rfl <| Al rfl <| A6 rfl <| A8 rfl <| A0 rfl <| Ak rfl <| Al rfl <| Bf rfl <| A8 rfl <| A0 rfl <| Ak rfl <| Ac) (CellF.own hz5 rfl).cell) ?_
            refine Bi rfl (Bh (k := x) Cc (Ak rfl <| Ac) hr.eds.plain (Ac) rfl hxp) ?_
            refine Bi rfl (Bv Cr (Ac)) ?_
            refine Bi rfl (Ap Cq (Ac) (hr.eds.cell hxp rfl)) ?_
            refine Bi rfl (Ag (A8 rfl <| Ar rfl <| Ak rfl <| Ac)) ?_
            refine Bi rfl (Bh (k := (ownL s l x)[q]) Bm (Ak rfl <| Ac) hrx.plain (Ac) rfl hpx) ?_
            refine Bi rfl (Ap Bk (Ac) (hrx.cell1 hpx rfl)) ?_
            refine Bi rfl (Bx (A8 rfl <| Ak rfl <| Ac) (Ac)) ?_
            refine WQ_nil ?_
            refine Ae <| Am (Ac) (by rw [er1, er2]; exact hsh) ?_
            refine Ay <| Ba <| Ae <| Ai fun ds => Aa rfl (Bw (A6 rfl <| Ar rfl <| Ak rfl <| Au rfl ht981) Ab rfl (by omega) (by omega)) ?_
            refine Aa rfl (Ag (Ac)) ?_
            refine Ah <| Ae ⟨_, m2 - 1, Off.eq (Dj rfl <| ou4 rfl <| ou1 rfl <| Be), by omega, ?_⟩
            exact ⟨q + 1, by omega, (Ac), ((A6 rfl <| A0 rfl <| Ak rfl <| Au rfl ht916)).trans (by rw [savesTo_succ hlq, if_neg (by rw [hsh]; simp)]), rfl⟩
          ·
           refine Af <| Ai fun ds => Aa rfl (Bz (Au rfl ht981) (Al rfl <| Ak rfl <| Ac)) ?_
           refine Ah <| Ae <| Af <| Am (Ac) (by first | rfl | exact decide_eq_false (by omega)) ?_
           obtain rfl : q = (ownL s l x).length := by omega
           by_cases hf2 : fitsT2 s l x k = true
           ·
            have hcan : canT s l x k = true := by unfold canT; rw [decide_eq_true hku, hun, hf2]; rfl
            refine Bt ?_
            refine Bg <| Bg <| Bj <| Ae <| Af <| Ai fun ds => Aa rfl (Ag (Ak rfl <| Al rfl <| A0 rfl <| Ac)) ?_
            refine Aa rfl (Ag (Ac)) ?_
            refine At rfl rfl (Ac) (by unfold fitsT2 at hf2; exact hf2) ?_
            refine Aa rfl (Ag (Ar rfl <| Ak rfl <| Au rfl ht916)) ?_
            refine At rfl rfl (Ak rfl <| Ac) (by unfold fitsT2 at hf2; exact hf2) ?_
            refine Aa rfl (Ag (A0 rfl <| Al rfl <| A6 rfl <| A8 rfl <| A0 rfl <| Ak rfl <| Au rfl hs7)) ?_
            refine At rfl rfl (Ar rfl <| Ac) (by unfold fitsT2 at hf2; exact hf2) ?_
            refine Aa rfl (Dh (Ak rfl <| Ac) (Ac)) ?_
            refine Aa rfl (A1 (Ar rfl <| Ak rfl <| Ac) (by unfold fitsT2 at hf2; exact hf2) (Ac)) ?_
            refine Ah <| Ae ?_
            by_cases hgt : (secTo s l x k).2 < savesN s l x k
            ·
             refine Aq (Ac) (by rw [savesTo_end]; exact decide_eq_true hgt) ?_
             refine Ai fun ds => Aa rfl (Ap Bk (A0 rfl <| Ar rfl <| Ak rfl <| Al rfl <| A6 rfl <| A8 rfl <| Ac) (CellF.own hz12 rfl).cell) ?_
             refine Aa rfl (Ag (A8 rfl <| Au rfl ht916)) ?_
             refine Aa rfl (Ad (Ak rfl <| Ac)) ?_
             refine Aa rfl (Ad (Ak rfl <| Ac)) ?_
             refine Ah <| Ba <| Ae <| Dp (fun _ _ h => h.drop (.cons _ <| .cons_cons _ <| .refl _)) ?_
             refine Ai fun ds => Aa rfl (Bw (A8 rfl <| Ar rfl <| Ak rfl <| Al rfl <| A6 rfl <| A8 rfl <| A0 rfl <| Ak rfl <| Au rfl hs57) Ab rfl (by omega) (by omega)) ?_
             refine Aa rfl (Ag (Ac)) ?_
             refine Ah <| Ae ⟨_, m - 1, Off.eq (ou8 rfl <| ou4 rfl <| ou1 rfl <| off_in rfl <| Dj rfl <| ou8 rfl <| ou4 rfl <| ou1 rfl <| Be), by omega, ?_⟩
             refine ⟨_, hFG, k + 1, by omega, (Ac), ((Ar rfl <| Ak rfl <| Ac)).trans (by rw [secTo_yes hcan hgt]; first | done | rfl | rw [savesTo_end]), ((Ar rfl <| Ac)).trans (by rw [secTo_yes hcan hgt]; first | done | rfl | rw [savesTo_end]), rfl⟩
            ·
             refine Am (Ac) (by rw [savesTo_end]; exact decide_eq_false hgt) ?_
             refine Ay <| Ba <| Ae <| Dp (fun _ _ h => h.drop (.cons _ <| .cons_cons _ <| .refl _)) ?_
             refine Ai fun ds => Aa rfl (Bw (A0 rfl <| Ar rfl <| Ak rfl <| Al rfl <| A6 rfl <| A8 rfl <| A0 rfl <| Ak rfl <| Au rfl hs57) Ab rfl (by omega) (by omega)) ?_
             refine Aa rfl (Ag (Ac)) ?_
             refine Ah <| Ae ⟨_, m - 1, Off.eq (ou8 rfl <| ou1 rfl <| off_in rfl <| Dj rfl <| ou8 rfl <| ou4 rfl <| ou1 rfl <| Be), by omega, ?_⟩
             refine ⟨_, hFG, k + 1, by omega, (Ac), ((A8 rfl <| Ak rfl <| Al rfl <| A6 rfl <| A8 rfl <| A0 rfl <| Ak rfl <| Au rfl hs6)).trans (by rw [secTo_no (fun h => hgt h.2)]), ((A8 rfl <| Ak rfl <| Al rfl <| A6 rfl <| A8 rfl <| A0 rfl <| Ak rfl <| Au rfl hs7)).trans (by rw [secTo_no (fun h => hgt h.2)]), rfl⟩
           ·
            replace hf2 : fitsT2 s l x k = false := by simpa using hf2
            have hcan : canT s l x k = false := by unfold canT; rw [hf2]; simp
            refine Bt ?_
            refine Bg <| Bg <| Bj <| Ae <| Af <| Ai fun ds => Aa rfl (Ag (Ak rfl <| Al rfl <| A0 rfl <| Ac)) ?_
            refine Aa rfl (Ag (Ac)) ?_
            refine A3 rfl rfl (Ac) (.inl (congrArg Value.bool (by unfold fitsT2 at hf2; exact hf2))) rfl ?_
            refine A3 rfl rfl (Ak rfl <| Ac) (.inl (congrArg Value.bool (by unfold fitsT2 at hf2; exact hf2))) rfl ?_
            refine A3 rfl rfl (Ar rfl <| Ac) (.inl (congrArg Value.bool (by unfold fitsT2 at hf2; exact hf2))) rfl ?_
            refine Aa rfl (Bn (Ar rfl <| Ak rfl <| Ac) (by unfold fitsT2 at hf2; exact hf2) Ab) ?_
            refine Ah <| Ae <| Am (Ac) rfl ?_
            refine Ay <| Ba <| Ae <| Dp (fun _ _ h => h.drop (.cons _ <| .cons_cons _ <| .refl _)) ?_
            refine Ai fun ds => Aa rfl (Bw (A0 rfl <| Ar rfl <| Ak rfl <| Al rfl <| A6 rfl <| A8 rfl <| A0 rfl <| Ak rfl <| Au rfl hs57) Ab rfl (by omega) (by omega)) ?_
            refine Aa rfl (Ag (Ac)) ?_
            refine Ah <| Ae ⟨_, m - 1, Off.eq (ou8 rfl <| ou1 rfl <| off_in rfl <| Dj rfl <| ou8 rfl <| ou4 rfl <| ou1 rfl <| Be), by omega, ?_⟩
            refine ⟨_, hFG, k + 1, by omega, (Ac), ((A8 rfl <| Ak rfl <| Al rfl <| A6 rfl <| A8 rfl <| A0 rfl <| Ak rfl <| Au rfl hs6)).trans (by rw [secTo_no (fun h => by rw [hcan] at h; exact absurd h.1 (by decide))]), ((A8 rfl <| Ak rfl <| Al rfl <| A6 rfl <| A8 rfl <| A0 rfl <| Ak rfl <| Au rfl hs7)).trans (by rw [secTo_no (fun h => by rw [hcan] at h; exact absurd h.1 (by decide))]), rfl⟩
       ·
        refine Dg (.inl rfl) (fun _ _ h => h) (by kernel_rfl) (by kernel_rfl) fun ds => ?_
        refine Bi rfl (Ap Bk (Ak rfl <| Ac) (CellF.own hz12 rfl).cell) ?_
        refine Bi rfl (Ap Bk (A0 rfl <| Ar rfl <| Ak rfl <| Al rfl <| Bf rfl <| A8 rfl <| A0 rfl <| Ak rfl <| Ac) (CellF.own hz5 rfl).cell) ?_
        refine Bi rfl (Bl (k := x) Cm (A8 rfl <| Al rfl <| Bf rfl <| Ar rfl <| Ac) (Ac) rfl hx5) ?_
        refine Bi rfl (Ap Bk (Ac) (CellF.own hz10 (Ce hx5)).cell) ?_
        refine Bi rfl (Bx (Ar rfl <| Ak rfl <| Ac) (Ac)) ?_
        refine Bi rfl (Ag (Ac)) ?_
        refine Cl rfl rfl (Ac) (.inl (congrArg Value.bool (decide_eq_true (Classical.not_not.1 hku)))) rfl ?_
        refine Cl rfl rfl (Ak rfl <| Ac) (.inl (congrArg Value.bool (decide_eq_true (Classical.not_not.1 hku)))) rfl ?_
        refine Cl rfl rfl (Ar rfl <| Ac) (.inl (congrArg Value.bool (decide_eq_true (Classical.not_not.1 hku)))) rfl ?_
        refine Cl rfl rfl (Ar rfl <| Ak rfl <| Ac) (.inl (congrArg Value.bool (decide_eq_true (Classical.not_not.1 hku)))) rfl ?_
        refine Bi rfl (A1 (A0 rfl <| Ac) (decide_eq_true (Classical.not_not.1 hku)) Ab) ?_
        refine WQ_nil ?_
        refine Ae <| Aq (Ac) rfl ?_
        refine Bt ?_
        refine Bg (Bj ?_)
        refine Ae <| Dp (fun _ _ h => h.drop (.cons _ <| .cons_cons _ <| .refl _)) ?_
        refine Ai fun ds => Aa rfl (Bw (A6 rfl <| Ak rfl <| Au rfl hs57) Ab rfl (by omega) (by omega)) ?_
        refine Aa rfl (Ag (Ac)) ?_
        refine Ah <| Ae ⟨_, m - 1, Off.eq (Dj rfl <| ou2 rfl <| ou1 rfl <| Be), by omega, ?_⟩
        refine ⟨_, hFG, k + 1, by omega, (Ac), ((A6 rfl <| Ar rfl <| Ak rfl <| Au rfl hs6)).trans (by rw [secTo_no (fun h => by unfold canT at h; rw [decide_eq_false hku] at h; simp at h)]), ((A6 rfl <| Ar rfl <| Ak rfl <| Au rfl hs7)).trans (by rw [secTo_no (fun h => by unfold canT at h; rw [decide_eq_false hku] at h; simp at h)]), rfl⟩
      ·
       refine Af <| Ai fun ds => Aa rfl (Bz (Au rfl hs57) (Al rfl <| Ak rfl <| Ac)) ?_
       refine Ah <| Ae <| Af <| Am (Ac) (by first | rfl | exact decide_eq_false (by omega)) ?_
       obtain rfl : k = s.editions.length := by omega
       by_cases hz0 : (secTo s l x s.editions.length).2 = 0
       ·
        refine Bt ?_
        refine Bg <| Bg <| Bj <| Ae <| Af <| Af <| Ai fun ds => Aa rfl (Ag (Ak rfl <| Au rfl hs7)) ?_
        refine Aa rfl (Bx (Ac) Ab) ?_
        refine Ah <| Ae <| Aq (Ac) (decide_eq_true hz0) ?_
        refine Af <| Ai fun ds => Aa rfl (Ad Ab) ?_
        refine Aa rfl (Ad Ab) ?_
        refine Aa rfl (Ad Ab) ?_
        refine Ah <| Ae <| A4 <| A9 ?_
        refine Aw rfl (.tmp (Ar rfl <| Ac) (.tmp (Ak rfl <| Ac) (.tmp (Ac) .nil))) ?_
        show _ = _
        rw [secE_zero hse hz0]; rfl
       ·
        refine Bt ?_
        refine Bg <| Bg <| Bj <| Ae <| Af <| Af <| Ai fun ds => Aa rfl (Ag (Ak rfl <| Au rfl hs7)) ?_
        refine Aa rfl (Bx (Ac) Ab) ?_
        refine Ah <| Ae <| Am (Ac) (decide_eq_false hz0) ?_
        refine Ay <| Ae <| Af <| Ai fun ds => Aa rfl (Ag (Ar rfl <| Ak rfl <| Au rfl hs6)) ?_
        refine Aa rfl (Ag (A0 rfl <| Au rfl hs7)) ?_
        refine Aa rfl (Ad (Ak rfl <| Ac)) ?_
        refine Aa rfl (Ad (Ak rfl <| Ac)) ?_
        refine Aa rfl (Ad Ab) ?_
        refine Ah <| Ae <| A4 <| Aw rfl (.tmp (Ar rfl <| Ac) (.tmp (Ak rfl <| Ac) (.tmp (Ac) .nil))) ?_
        show _ = _
        rw [secE_ok hse hz0]; rfl
   ·
    replace hft : fitsT s l = false := by simpa using hft
    refine Af <| Ai fun ds => Aa rfl (Ag (A8 rfl <| A0 rfl <| Ac)) ?_
    refine Aa rfl (A7 Bs (A8 rfl <| A0 rfl <| Ar rfl <| Ac) rfl rfl (Cp hz10)) ?_
    refine B0 rfl (Bc bd_91 Ax (.cons (Ak rfl <| Ac) (.cons (Ac) .nil)) (fits_ok hX ht hll hv) (fun _ _ h => h)) ?_
    refine Aa rfl (C4 (Ac)) ?_
    refine Aa rfl (Ad (Ac)) ?_
    refine Ah <| Ae <| Aq (Ac) (by unfold fitsT at hft; rw [hft]; first | done | rfl) ?_
    refine Af <| Ai fun ds => Aa rfl (Ad Ab) ?_
    refine Aa rfl (Ad Ab) ?_
    refine Aa rfl (Ad Ab) ?_
    refine Ah <| Ae <| A4 <| Bd (A9 ?_)
    refine Aw rfl (.tmp (Ar rfl <| Ac) (.tmp (Ak rfl <| Ac) (.tmp (Ac) .nil))) ?_
    show _ = _
    rw [secE_bad (secErr_3 hok h1 hft) (by decide)]; rfl
  ·
   replace h1 : inB 0 (s.editions.length - 1) z = false := by simpa using h1
   refine Af <| Ai fun ds => Aa rfl (Ao Br (A6 rfl <| Ak rfl <| Ac)) ?_
   refine Aa rfl (Ap B3 (Ac) (CellF.own hz3 rfl).cell) ?_
   refine Aa rfl (Bp Cc (Ac) hr.eds.plain) ?_
   refine Aa rfl (q_sub (Ac) Ab rfl (by omega) (by omega)) ?_
   refine Aa rfl (Ap Bk (A6 rfl <| A0 rfl <| Ac) (CellF.own hz5 rfl).cell) ?_
   refine Bb rfl (B1 Bm Cy rfl (.cons (Ac) .nil) rfl rfl (by decide) (by simp [Value.oneCell']) fun b34 hb34 nb34 => ?_)
   refine Bu (i := 0) rfl hb34 .here fun F35 hF36 hz37 => ?_
   have hsl38 := Cn hz37
   refine B0 rfl (Bc Dk Ax (.cons Ab (.cons (Ar rfl <| Ac) (.cons (Ac) .nil))) (Cd _ _ hsl38) (fun _ _ h => h)) ?_
   refine Aa rfl (Ad (Ac)) ?_
   refine Ah <| Ae <| Aq (Ac) (by simp [hlen, h1]) ?_
   refine Af <| Ai fun ds => Aa rfl (Ad Ab) ?_
   refine Aa rfl (Ad Ab) ?_
   refine Aa rfl (Ad Ab) ?_
   refine Ah <| Ae <| A4 <| Bd (A9 ?_)
   refine Aw rfl (.tmp (Ar rfl <| Ac) (.tmp (Ak rfl <| Ac) (.tmp (Ac) .nil))) ?_
   show _ = _
   rw [secE_bad (secErr_2 hok h1) (by decide)]; rfl
 ·
  refine Af <| Ai fun ds => Bb rfl (B9 (Aj rfl) rfl fun b39 hb39 nb39 => ?_)
  refine Bb rfl (B9 (Ak rfl <| Aj rfl) rfl fun b40 hb40 nb40 => ?_)
  refine Aa rfl (Ad Ab) ?_
  refine Aa rfl (Ad Ab) ?_
  refine Aa rfl (Ad Ab) ?_
  refine Ah <| Ae <| Af <| Ai fun ds => Aa rfl (A7 B8 (A0 rfl <| Ac) rfl rfl (A2 1 rfl)) ?_
  refine Aa rfl (Ag (A0 rfl <| Ar rfl <| Aj rfl)) ?_
  refine Bb rfl (Ch bd_68 Ax (.cons (Ak rfl <| Ac) (.cons (Ac) .nil)) (enter_bad hr hl hok) fun v41 F42 hr43 hF44 => ?_)
  obtain ⟨l2, rfl⟩ := hr43
  refine Aa rfl (Ag (Ac)) ?_
  refine Aa rfl (As (Ac) rfl) ?_
  refine Aa rfl (As (Ak rfl <| Ac) rfl) ?_
  refine Aa rfl (As (Ar rfl <| Ac) rfl) ?_
  refine Bb rfl (B2 Di rfl fun b45 hb45 nb45 => ?_)
  refine Aa rfl (Ad (Ar rfl <| Ak rfl <| Ac)) ?_
  refine Cf (Cb Dn (Ak rfl <| Ac) (Ar rfl <| Ak rfl <| Ac) (i := 0) rfl rfl rfl rfl Cz (.here) ?_)
  refine Aa rfl (Ad (Ar rfl <| Ac)) ?_
  refine Ah <| Ae <| Af <| Az <| Af <| Ai fun ds => Aa rfl (Ag (Ac)) ?_
  refine Aa rfl (B6 (Ac) Ab) ?_
  refine Aa rfl (Ad (Ac)) ?_
  refine Ah <| Ae <| Aq (Ac) (decide_eq_true hok) ?_
  refine Af <| Ai fun ds => Aa rfl (Ag (Ar rfl <| Ak rfl <| Ac)) ?_
  refine Aa rfl (Ad Ab) ?_
  refine Aa rfl (Ad Ab) ?_
  refine Aa rfl (Ad (Ar rfl <| Ac)) ?_
  refine Ah <| Ae <| A4 <| Bd (A9 ?_)
  refine Aw rfl (.tmp (Ar rfl <| Ac) (.tmp (Ak rfl <| Ac) (.tmp (Ac) .nil))) ?_
  show _ = _
  rw [secE_bad (secErr_1 hok) hok]; rfl
end Go.Proofs.Ytccogmkhijgelaa
namespace Go.Proofs.Ytccogmkhijgelaa
theorem edE_len (p : Go.Value × Edn) : (edE p).length = 4 := rfl
theorem ed_flat_set {ps : List (Go.Value × Edn)} {x : Nat} {u : Go.Value} {e : Edn} (hx : x < ps.length) (h1 : e.name = ps[x].2.name) (h2 : e.lo = ps[x].2.lo) (h3 : e.hi = ps[x].2.hi) : (ps.flatMap edE).set (x * 4 + 3) u = (ps.set x (u, e)).flatMap edE :=
 flat_set edE_len (j := 3) (x := (u, e)) (by omega) ps x hx (by simp [edE, h1, h2, h3])
theorem ed_flat_get {ps : List (Go.Value × Edn)} {x : Nat} (hx : x < ps.length) : (ps.flatMap edE)[x * 4 + 3]? = some ps[x].1 :=
 flat_at (enc := edE) (s := 4) edE_len (j := 3) ps x hx rfl
theorem ed_set_get {ps : List (Go.Value × Edn)} {x : Nat} {u : Go.Value} {e : Edn} (hx : x < ps.length) : ((ps.set x (u, e)).flatMap edE)[x * 4 + 3]? = some u := by
 have h := ed_flat_get (ps := ps.set x (u, e)) (x := x) (by simpa using hx)
 rw [h]; simp
theorem ed_own_set {E : Nat} {w : Go.Value} {R : List (Nat × Go.Obj)} {ps : List (Go.Value × Edn)} {x : Nat} {u : Go.Value} {e : Edn} (h : Own E 4 w ps.length ((ps.flatMap edE).set (x * 4 + 3) u) R) (hx : x < ps.length) (h1 : e.name = ps[x].2.name) (h2 : e.lo = ps[x].2.lo) (h3 : e.hi = ps[x].2.hi) : Own E 4 w (ps.set x (u, e)).length ((ps.set x (u, e)).flatMap edE) R := by
 rw [ed_flat_set hx h1 h2 h3] at h
 rw [List.length_set]; exact h
theorem int_flat_set {xs : List Int} {p : Nat} {v : Int} (hp : p < xs.length) : (xs.flatMap intE).set (p * 1 + 0) (.int .i64 v) = (xs.set p v).flatMap intE :=
 flat_set (enc := intE) (s := 1) (fun _ => rfl) (j := 0) (x := v) (by omega) xs p hp rfl
theorem StmR.set {F : Heap} {vp ve ve' u : Go.Value} {ps : List (Go.Value × Edn)} {s : Stm} {x p : Nat} {v : Int} (h : StmR F vp ve ps s) (he : Sl F ve' 4 edE (ps.set x (u, (s.ed x).setR p v))) (hu : Ints F u ((s.ed x).rd.set p v)) :
   StmR F vp ve' (ps.set x (u, (s.ed x).setR p v)) (setS s x p v) := by
 refine ⟨h.places, he, fun q hq => ?_, ?_⟩
 · rcases List.mem_or_eq_of_mem_set hq with hq | rfl
   · exact h.rds q hq
   · exact hu
 · rw [List.map_set, h.eqs]; rfl
end Go.Proofs.Ytccogmkhijgelaa
namespace Go.Proofs.Ytccogmkhijgelaa
open Go.RowKit
section
variable {P : Program} {n : Nat} {B : Base} {e : Env} {σ : St} {ty : TypeId} {pos : String} {af : Array Edge}
theorem x_callNf {d : Option Nat} {g : FuncId} {f : Operand} {cs vs : List Value} {xs : List Operand} {at_ : Array TypeId}
   {R : Value → Heap → List (Nat × Obj) → Prop} {K : Value → St → Prop} (hg : Body P g) (hf : ev e f = .func (.func g) #[] cs.toArray) (hx : Av e xs vs)
   (hok : OkN P g (vs ++ cs).toArray σ.F R) (hn : ∀ v F' Hn, R v F' Hn → σ.F.le F' → K v ⟨F', Hn ++ σ.H⟩) :
   OpX P n B ⟨d, .call ⟨.value f, xs.toArray, at_⟩, ty, pos, af, none⟩ e σ K := by
 intro a w ha hw next Qx hnext
 refine C6 (K := fun v σ' => ∃ F' Hn, σ' = ⟨F', σ.H ++ Hn⟩ ∧ K v ⟨F', Hn ++ σ.H⟩) hg hf hx hok (fun v F' Hn hR hF => ⟨F', Hn, rfl, hn v F' Hn hR hF⟩) a w ha hw next Qx ?_
 intro v σ' w' hK hw'
 obtain ⟨F', Hn, rfl, hK⟩ := hK
 exact hnext v _ w' hK hw'.rot
end
/-- A slice that is read is a source. -/
theorem Sl.srcM {α : Type} {F : Heap} {H : List (Nat × Obj)} {v : Value} {s : Nat} {enc : α → List Value} {xs : List α} (h : Sl F v s enc xs) (hs : ∀ x, (enc x).length = s) (h1 : ∀ x ∈ xs, ∀ u ∈ enc x, u.oneCell' = true) :
   Src ⟨F, H⟩ v xs.length (xs.flatMap enc) s := by
 have hlen : ∀ l : List α, (l.flatMap enc).length = l.length * s := by
   intro l; induction l with
   | nil => simp
   | cons x l ih => simp [List.flatMap_cons, hs, ih, Nat.add_mul, Nat.add_comm]
 obtain ⟨a, c, rfl, hsp, hno, hlc, -⟩ := h.plain
 refine ⟨hlen xs, fun u hu => ?_, a, c, rfl, fun ha => (hno ha).1, fun x hx => ⟨fun h0 => hsp (by omega) x hx, fun j u hj => ?_⟩⟩
 · obtain ⟨x, hm, hx⟩ := List.mem_flatMap.1 hu
   exact h1 x hm u hx
 · subst hx
   have key : ∀ (l : List α) (j : Nat) (u : Value), (l.flatMap enc)[j]? = some u → ∃ i k, ∃ hi : i < l.length, j = i * s + k ∧ (enc l[i])[k]? = some u := by
     intro l
     induction l with
     | nil => intro j u hj; simp at hj
     | cons x l ih =>
       intro j u hj
       rw [List.flatMap_cons, List.getElem?_append] at hj
       split at hj
       · exact ⟨0, j, by simp, by simp, by simpa using hj⟩
       · rename_i hge
         rw [hs] at hj hge
         obtain ⟨i, k, hi, e1, e2⟩ := ih _ u hj
         exact ⟨i + 1, k, by simpa using hi, by rw [Nat.add_mul]; omega, by simpa using e2⟩
   obtain ⟨i, k, hi, rfl, hk⟩ := key xs j u hj
   have := h.cells i hi k u hk
   have hb : addc (base (.slice (some x) xs.length c)) (i * s + k) = addc x (i * s + k) := by
     simp [base, addc]
   rw [hb] at this
   exact this.cell
end Go.Proofs.Ytccogmkhijgelaa
namespace Go.Proofs.Ytccogmkhijgelaa
open Go.RowKit
theorem agg_128 : AggT Try.prog 128 3 := aggT_of (by kernel_rfl)
theorem bd_87 : Body Try.prog 87 := Bo (by kernel_rfl)
theorem el_64 : ElemT Try.prog 64 4 56 (.agg #[.string ⟨#[]⟩, .int .i64 0, .int .i64 0, .slice none 0 0]) := elemT_of (by kernel_rfl) rfl (by decide)
theorem sz_128 : SizeT Try.prog 128 3 := Co (by kernel_rfl)
theorem sz_23 : SizeT Try.prog 23 1 := Co (by kernel_rfl)
theorem sz_26 : SizeT Try.prog 26 1 := Co (by kernel_rfl)
theorem src_eds {F : Heap} {v : Value} {ps : List (Value × Edn)} (h : Sl F v 4 edE ps) (hone : ∀ p ∈ ps, p.1.oneCell' = true) {H : List (Nat × Obj)} : Src ⟨F, H⟩ v ps.length (ps.flatMap edE) 4 := h.srcM edE_len fun p hp => edE_one (hone p hp)
theorem StmX.ones {F : Heap} {b kb : Nat} {vp ve : Value} {ps : List (Value × Edn)} {s : Stm} (hX : StmX F b vp ve (.map (some kb)) ps s) : ∀ u ∈ [vp, ve, .map (some kb)], u.oneCell' = true := by
 intro u hu
 simp only [List.mem_cons, List.not_mem_nil, or_false] at hu
 rcases hu with rfl | rfl | rfl
 · exact hX.r.places.plain.one
 · exact hX.r.eds.plain.one
 · rfl
set_option maxRecDepth 100000 in
theorem cloneEd_own {F : Heap} {v : Value} {ps : List (Value × Edn)} (h : Sl F v 4 edE ps) (hone : ∀ p ∈ ps, p.1.oneCell' = true) (hn : ps.length ≤ 1000) : OkN Try.prog 87 [v].toArray F fun u _F' Hn => Own 64 4 u ps.length (ps.flatMap edE) Hn := by
 obtain ⟨a0, c0, rfl, g1, g2, g3, g4⟩ := h.plain
 refine OkN.intro Try.func87 rfl Try.ntmps87 rfl fun w0 => ?_
 cases a0
 ·
  refine Af <| Ai fun ds => Aa rfl (Ad Ab) ?_
  refine Ah <| Ae <| Af <| Af <| Ai fun ds => Aa rfl (Ag (Ak rfl <| Aj rfl)) ?_
  refine Aa rfl (q_eqlNil Try.underlying23 (Ac) Ab) ?_
  refine Ah <| Ae <| Aq (Ac) rfl ?_
  refine Af <| Ai fun ds => Aa rfl (Ad Ab) ?_
  refine Ah <| Ae <| A4 <| A9 ?_
  refine Ds rfl (.tmp (Ac) .nil) (List.nil_sublist _) ?_
  obtain ⟨h0, -⟩ := g2 rfl
  have : ps = [] := List.eq_nil_of_length_eq_zero h0
  subst this
  exact own_nil
 ·
  refine Af <| Ai fun ds => Aa rfl (Ad Ab) ?_
  refine Ah <| Ae <| Af <| Af <| Ai fun ds => Aa rfl (Ag (Ak rfl <| Aj rfl)) ?_
  refine Aa rfl (q_eqlNil Try.underlying23 (Ac) Ab) ?_
  refine Ah <| Ae <| Am (Ac) rfl ?_
  refine Ay <| Ae <| Af <| Ai fun ds => Bb rfl (x_build0 Cc fun b1 hb1 nb1 => ?_)
  refine Aa rfl (Ag (A0 rfl <| Aj rfl)) ?_
  refine Bb rfl (C1 Cc el_64 (Ak rfl <| Ac) (own_box rfl) (Ac) (src_eds h hone) (by omega) (by omega) (.z) .box fun v2 R3 ho4 => ?_)
  have ho1 : Own 64 4 v2 ps.length (ps.flatMap edE) R3 := by simpa using ho4
  refine Aa rfl (Ad (Ac)) ?_
  refine Ah <| Ae <| A4 <| Ds rfl (.tmp (Ac) .nil) (List.sublist_append_left _ _) ?_
  exact ho1
def IntsR7 (F : Heap) (u : Value) (p : List Int × Int) : Prop := ∃ v, u = .tuple #[v, .int .i64 p.2] ∧ Ints F v p.1
theorem IntsR7.mono {F F' : Heap} {u : Value} {p : List Int × Int} (h : IntsR7 F u p) (hF : F.le F') : IntsR7 F' u p := by obtain ⟨v, h1, h2⟩ := h; exact ⟨v, h1, h2.mono hF⟩
set_option maxRecDepth 100000 in
theorem reading_top_ok {F : Heap} {vp ve : Value} {ps : List (Value × Edn)} {s : Stm} (hr : StmR F vp ve ps s) {v : Value} {l : List Int} (hl : Ints F v l) (z q : Int) : Ok Try.prog 35 [.agg #[vp, ve], v, .int .i64 z, .int .i64 q].toArray F fun u F' => IntsR7 F' u (readE s l z q) := by
 have hle0 : F.le F := Heap.le_refl _
 refine Ok.intro Try.func35 rfl Try.ntmps35 rfl fun w0 => ?_
 have hL := hl.plain.lt
 have hlen := hr.len
 have hL1 := hr.eds.plain.lt
 have hL2 := hr.places.plain.lt
 by_cases hok : treeErr s l = 0
 ·
  obtain ⟨hv, hll, ht⟩ := tree_ok hok
  have hne := hv.ne
  have hnp := hv.np
  have hl5 : l.length ≤ 5 := by omega
  have hcv := changes_costV (s := s) ht hv hll
  have hcb := costL_bound (s := s) (l := l)
  refine Af <| Ai fun ds => Bb rfl (B9 (Aj rfl) rfl fun b1 hb1 nb1 => ?_)
  refine Aa rfl (Ad Ab) ?_
  refine Aa rfl (Ad Ab) ?_
  refine Ah <| Ae <| Af <| Ai fun ds => Aa rfl (A7 B8 (Ar rfl <| Ac) rfl rfl (A2 0 rfl)) ?_
  refine Aa rfl (Ag (A0 rfl <| Aj rfl)) ?_
  refine Bb rfl (C6 bd_68 Ax (.cons (Ak rfl <| Ac) (.cons (Ac) .nil)) (enter_ok hr hl hok) fun v2 F3 R6 hr4 hF5 => ?_)
  replace hr := hr.mono hF5
  replace hle0 := Heap.le_trans hle0 hF5
  obtain ⟨ba, kb, rfl, hX, rfl⟩ := hr4
  refine Aa rfl (Ag (Ac)) ?_
  refine Aa rfl (As (Ac) rfl) ?_
  refine Aa rfl (As (Ak rfl <| Ac) rfl) ?_
  refine Aa rfl (As (Ar rfl <| Ac) rfl) ?_
  refine Bb rfl (B2 Di rfl fun b7 hb7 nb7 => ?_)
  refine Aa rfl (Ad (Ar rfl <| Ak rfl <| Ac)) ?_
  refine Cf (Cb Dn (Ak rfl <| Ac) (Ar rfl <| Ak rfl <| Ac) (i := 0) rfl rfl rfl rfl Cz (.here) ?_)
  refine Aa rfl (Ad (Ar rfl <| Ac)) ?_
  refine Ah <| Ae <| Af <| Az <| Af <| Ca (i := 1) rfl hb1 (.next <| .here) fun F8 hF9 hz4 => ?_
  replace hr := hr.mono hF9
  replace hle0 := Heap.le_trans hle0 hF9
  replace hX := hX.mono hF9
  refine Ca (i := 0) rfl hb7 (.here) fun F10 hF11 hz11 => ?_
  replace hr := hr.mono hF11
  replace hle0 := Heap.le_trans hle0 hF11
  replace hX := hX.mono hF11
  replace hz4 := hF11 _ _ hz4
  refine Ai fun ds => Aa rfl (Ag (Ac)) ?_
  refine Aa rfl (B6 (Ac) Ab) ?_
  refine Aa rfl (Ad (Ac)) ?_
  refine Ah <| Ae <| Am (Ac) (by decide) ?_
  by_cases h1 : inB 0 (s.editions.length - 1) z = true
  ·
   refine Af <| Ai fun ds => Aa rfl (Ao Br (A8 rfl <| A0 rfl <| Ar rfl <| Ak rfl <| Ac)) ?_
   refine Aa rfl (Ap B3 (Ac) (CellF.own hz4 rfl).cell) ?_
   refine Aa rfl (Bp Cc (Ac) hr.eds.plain) ?_
   refine Aa rfl (q_sub (Ac) Ab rfl (by omega) (by omega)) ?_
   refine Aa rfl (Ag (A6 rfl <| A0 rfl <| Aj rfl)) ?_
   refine Bb rfl (B1 Bm Cy rfl (.cons (Ac) .nil) rfl rfl (by decide) (by simp [Value.oneCell']) fun b12 hb12 nb12 => ?_)
   refine Bu (i := 0) rfl hb12 .here fun F13 hF14 hz15 => ?_
   replace hr := hr.mono hF14
   replace hle0 := Heap.le_trans hle0 hF14
   replace hX := hX.mono hF14
   replace hz4 := hF14 _ _ hz4
   replace hz11 := hF14 _ _ hz11
   have hsl16 := Cn hz15
   refine B0 rfl (Bc Dk Ax (.cons Ab (.cons (Ar rfl <| Ac) (.cons (Ac) .nil))) (Cd _ _ hsl16) (fun _ _ h => h)) ?_
   refine Aa rfl (Ag (Ac)) ?_
   refine At rfl rfl (Ac) (by simp [hlen, h1]) ?_
   refine Aa rfl (Ao C7 (A6 rfl <| A0 rfl <| Ar rfl <| Ak rfl <| Ac)) ?_
   refine At rfl rfl (Ak rfl <| Ac) (by simp [hlen, h1]) ?_
   refine Aa rfl (Ap D1 (Ac) (CellF.own hz4 rfl).cell) ?_
   refine At rfl rfl (Ar rfl <| Ac) (by simp [hlen, h1]) ?_
   refine Aa rfl (Bp Dx (Ac) hr.places.plain) ?_
   refine At rfl rfl (Ar rfl <| Ak rfl <| Ac) (by simp [hlen, h1]) ?_
   refine Aa rfl (q_sub (Ac) Ab rfl (by omega) (by omega)) ?_
   refine At rfl rfl (A0 rfl <| Ac) (by simp [hlen, h1]) ?_
   refine Aa rfl (Ag (A6 rfl <| A8 rfl <| A0 rfl <| Aj rfl)) ?_
   refine At rfl rfl (A0 rfl <| Ak rfl <| Ac) (by simp [hlen, h1]) ?_
   refine Bb rfl (B1 Bm Cy rfl (.cons (Ac) .nil) rfl rfl (by decide) (by simp [Value.oneCell']) fun b17 hb17 nb17 => ?_)
   refine Bu (i := 0) rfl hb17 .here fun F18 hF19 hz20 => ?_
   replace hr := hr.mono hF19
   replace hle0 := Heap.le_trans hle0 hF19
   replace hX := hX.mono hF19
   replace hz4 := hF19 _ _ hz4
   replace hz11 := hF19 _ _ hz11
   have hsl21 := Cn hz20
   refine At rfl rfl (A0 rfl <| Ar rfl <| Ac) (by simp [hlen, h1]) ?_
   refine B0 rfl (Bc Dk Ax (.cons Ab (.cons (Ar rfl <| Ac) (.cons (Ac) .nil))) (Cd _ _ hsl21) (fun _ _ h => h)) ?_
   refine Aa rfl (Bn (A0 rfl <| Ar rfl <| Ak rfl <| Ac) (by simp [hlen, h1]) (Ac)) ?_
   refine Aa rfl (Ad (Ac)) ?_
   refine Ah <| Ae ?_
   by_cases h2 : inB 0 (s.places.length - 1) q = true
   ·
    have h12 : (inB 0 (s.editions.length - 1) z && inB 0 (s.places.length - 1) q) = true := by rw [h1, h2]; rfl
    obtain ⟨x, rfl, hx⟩ := inB_nat h1
    obtain ⟨p, rfl, hp⟩ := inB_nat h2
    have hxp : x < ps.length := by omega
    have hrx := hr.rd hxp
    have hpx : p < (s.ed x).rd.length := by rw [hv.rdl x hx]; exact hp
    have er := rdT_at hpx
    have hrdl := hv.rdl x hx
    have hrb9 := hv.rd x p hx hp
    have e1 := hr.at hxp
    refine Am (Ac) (by simp [h2]) ?_
    by_cases hc : costL s l = 1000
    ·
     refine Af <| Ai fun ds => Aa rfl (Ag (A6 rfl <| A0 rfl <| Ak rfl <| Ac)) ?_
     refine Aa rfl (A7 Bs (A6 rfl <| A0 rfl <| Ar rfl <| Ak rfl <| Ac) rfl rfl (Cp hz11)) ?_
     refine WL_order (.cons (.here) <| .nil) ?_
     refine Bb rfl (x_callM bd_69 Ax (.cons (Ak rfl <| Ac) (.cons (Ac) .nil)) rfl (changes_ok hX ht hll hv KnownT.nil) fun v26 F27 H30 hr28 hF29 => ?_)
     obtain ⟨es2, rfl, rfl, hK2⟩ := hr28
     refine Aa rfl (Bx (Ac) Ab) ?_
     refine Aa rfl (Ad (Ac)) ?_
     refine Ah <| Ae <| Aq (Ac) (by rw [hcv]; unfold costV; rw [if_pos hc]; rfl) ?_
     refine Af <| Ai fun ds => Aa rfl (Ad Ab) ?_
     refine Aa rfl (Ad Ab) ?_
     refine Ah <| Ae <| A4 <| Bd (A9 ?_)
     refine Aw rfl (.tmp (Ak rfl <| Ac) (.tmp (Ac) .nil)) ?_
     rw [readE_bad (readErr_3 hok h12 hc) (by decide)]
     exact ⟨_, rfl, Sl.nil⟩
    ·
     have hre := readErr_0 hok h12 hc
     refine Af <| Ai fun ds => Aa rfl (Ag (A6 rfl <| A0 rfl <| Ak rfl <| Ac)) ?_
     refine Aa rfl (A7 Bs (A6 rfl <| A0 rfl <| Ar rfl <| Ak rfl <| Ac) rfl rfl (Cp hz11)) ?_
     refine WL_order (.cons (.here) <| .nil) ?_
     refine Bb rfl (x_callM bd_69 Ax (.cons (Ak rfl <| Ac) (.cons (Ac) .nil)) rfl (changes_ok hX ht hll hv KnownT.nil) fun v35 F36 H39 hr37 hF38 => ?_)
     replace hr := hr.mono hF38
     replace hle0 := Heap.le_trans hle0 hF38
     replace hX := hX.mono hF38
     replace hrx := hrx.mono hF38
     replace hz4 := hF38 _ _ hz4
     replace hz11 := hF38 _ _ hz11
     obtain ⟨es2, rfl, rfl, hK2⟩ := hr37
     refine Aa rfl (Bx (Ac) Ab) ?_
     refine Aa rfl (Ad (Ac)) ?_
     refine Ah <| Ae <| Am (Ac) (by rw [hcv]; unfold costV; rw [if_neg hc]; exact decide_eq_false (by omega)) ?_
     refine Ay <| Ba <| Ae <| Af <| Ai fun ds => Aa rfl (Ag (A6 rfl <| A8 rfl <| Ar rfl <| Ac)) ?_
     refine Aa rfl (A7 Bs (A6 rfl <| A8 rfl <| A0 rfl <| Ac) rfl rfl (Cp hz11)) ?_
     refine Aa rfl (Ag (Bf rfl <| A8 rfl <| Aj rfl)) ?_
     refine B0 rfl (Bc bd_82 Ax (.cons (Ar rfl <| Ac) (.cons (Ak rfl <| Ac) (.cons (Ac) .nil))) (Dd hX ht hll hv hp) (fun _ _ h => h)) ?_
     refine Aa rfl (Ad (Ac)) ?_
     refine Ah <| Ae <| Af <| Ai fun ds => Aa rfl (Ao Br (Bf rfl <| A8 rfl <| Ar rfl <| Ac)) ?_
     refine Aa rfl (Ap B3 (Ac) (CellF.own hz4 rfl).cell) ?_
     refine Aa rfl (Ag (Bf rfl <| A8 rfl <| A0 rfl <| Ak rfl <| Aj rfl)) ?_
     refine Aa rfl (Bh (k := x) Cc (Ak rfl <| Ac) hr.eds.plain (Ac) rfl hxp) ?_
     refine Aa rfl (Bv Cr (Ac)) ?_
     refine Aa rfl (Ap Cq (Ac) (hr.eds.cell hxp rfl)) ?_
     refine Aa rfl (Ag (Bf rfl <| A6 rfl <| Ak rfl <| Aj rfl)) ?_
     refine Aa rfl (Bh (k := p) Bm (Ak rfl <| Ac) hrx.plain (Ac) rfl hpx) ?_
     refine Aa rfl (Ap Bk (Ac) (hrx.cell1 hpx rfl)) ?_
     refine Aa rfl (Ad (Ac)) ?_
     refine Ah <| Ae <| Af <| Af <| Ai fun ds => Aa rfl (Ag Ab) ?_
     refine Ah <| Ae <| Az <| By [8, 14, 15, 62, 63, 64, 65, 66, 67, 68, 69, 70, 71, 72, 73, 74, 75, 76, 77, 78, 79, 80, 81, 82, 83, 84, 85, 86, 87, 88, 89, 90, 91, 92, 93, 94, 95, 96, 97, 98, 99, 100, 101, 102, 103, 104, 105, 106, 107, 108, 109, 110, 111, 112, 113, 114, 115, 116, 117, 118, 119, 120, 121] (fun m e σ => ∃ G, F36.le G ∧ ∃ k : Nat, m + k = 3 ∧ e 62 = .int .i64 (k : Int) ∧ ∃ v8 R8, e 8 = v8 ∧ Own 3 1 v8 (readTo s l x p k).length ((readTo s l x p k).flatMap intE) R8 ∧ σ = ⟨G, (kb, mapO es2) :: R8⟩) (3) ?_ ?_
     · exact ⟨_, Heap.le_refl _, 0, by omega, (Ac), _, _, (Bf rfl <| A6 rfl <| A0 rfl <| Ac), Own.nil, rfl⟩
     ·
      rintro m e _ ⟨G, hFG, k, hm, hs62, v8, R8, hs8, ho, rfl⟩; have hrl := readTo_len (s := s) (l := l) (x := x) (p := p) (k := k); replace hr := hr.mono hFG; replace hX := hX.mono hFG; replace hrx := hrx.mono hFG; replace hz4 := hFG _ _ hz4; replace hz11 := hFG _ _ hz11; have hle0 := Heap.le_trans hle0 hFG
      by_cases hlt : k < 3
      ·
       refine Af <| Ai fun ds => Aa rfl (Bz (Au rfl hs62) Ab) ?_
       refine Ah <| Ae <| Af <| Aq (Ac) (by first | rfl | exact decide_eq_true (by omega)) ?_
       by_cases hk0 : 0 < s.r x p
       ·
        refine Ay <| Ae <| Af <| Az <| Af <| Ai fun ds => Aa rfl (Ag (Ak rfl <| Au rfl hs62)) ?_
        refine Aa rfl (Ad (Ac)) ?_
        refine Ah <| Ae <| Af <| Af <| Ai fun ds => Aa rfl (Ag (Ar rfl <| Ak rfl <| Al rfl <| Ak rfl <| Ac)) ?_
        refine Aa rfl (Dh (Ac) Ab) ?_
        refine Aa rfl (Ag (Ac)) ?_
        refine At rfl rfl (Ac) (by rw [er]; exact decide_eq_true hk0) ?_
        refine Aa rfl (Ag (A0 rfl <| Ar rfl <| Al rfl <| Ak rfl <| Ac)) ?_
        refine At rfl rfl (Ak rfl <| Ac) (by rw [er]; exact decide_eq_true hk0) ?_
        refine Aa rfl (Ag (A0 rfl <| Ac)) ?_
        refine At rfl rfl (Ar rfl <| Ac) (by rw [er]; exact decide_eq_true hk0) ?_
        refine Aa rfl (Bw (Ac) Ab rfl (by omega) (by omega)) ?_
        refine At rfl rfl (Ar rfl <| Ak rfl <| Ac) (by rw [er]; exact decide_eq_true hk0) ?_
        refine Aa rfl (B6 (Ar rfl <| Ac) (Ac)) ?_
        refine Aa rfl (A1 (A0 rfl <| Ac) (by rw [er]; exact decide_eq_true hk0) (Ac)) ?_
        refine Ah <| Ae ?_
        by_cases hke : s.r x p = (k : Int) + 1
        ·
         have hkn : (decide (s.r x p = 0) || decide (s.r x p = (k : Int) + 1)) = true := by rw [decide_eq_true hke]; simp
         refine Am (Ac) (by rw [er]; exact decide_eq_false (fun h => h hke)) ?_
         have hvm := setS_valid (v := (k : Int) + 1) hv hx hp (by omega)
         refine Ay <| Ae <| Af <| Ai fun ds => Aa rfl (Ag (A8 rfl <| Ar rfl <| Ak rfl <| Al rfl <| Bf rfl <| A8 rfl <| Ar rfl <| Ac)) ?_
         refine Aa rfl (Bq (Ac)) ?_
         refine Aa rfl (A7 agg_128 (Ac) rfl rfl (Cp hX.blk)) ?_
         refine Bb rfl (B2 zr_128 rfl fun b41 hb41 nb41 => ?_)
         refine Cf (Cb sz_128 (Ac) (Ak rfl <| Ac) (i := 0) rfl rfl rfl rfl hX.ones (.here) ?_)
         refine Ah <| Ae <| Af <| Ai fun ds => Aa rfl (Ag (A8 rfl <| A0 rfl <| Ar rfl <| Ak rfl <| Al rfl <| Bf rfl <| A8 rfl <| Ar rfl <| Ac)) ?_
         refine Aa rfl (Bq (Ac)) ?_
         refine Aa rfl (Ao B4 (Ac)) ?_
         refine Aa rfl (Ao Br (Ac)) ?_
         refine Aa rfl (Ap B3 (Ac) (CellF.own hX.blk rfl).cell) ?_
         refine Bb rfl (x_callNf bd_87 Ax (.cons (Ac) .nil) (cloneEd_own hX.r.eds hX.r.one (by omega)) fun v42 F43 R46 hr44 hF45 => ?_)
         replace hX := hX.mono hF45
         replace hrx := hrx.mono hF45
         replace hFG := Heap.le_trans hFG hF45
         replace hle0 := Heap.le_trans hle0 hF45
         replace hz11 := hF45 _ _ hz11
         have hoE := hr44
         refine Aa rfl (Ao B4 (A0 rfl <| Ar rfl <| Ac)) ?_
         refine Aa rfl (Ao Br (Ac)) ?_
         refine WL_orderB (.one (.skip <| .here) <| .one (.skip <| .here) <| .blk (.lastS) <| .lastb (.last)) ?_
         refine Cf (Cg sz_23 (Ac) (Ar rfl <| Ac) (i := 0) rfl (.next <| .here) (Own.one hoE) (.here) ?_)
         refine Ah <| Ae <| Af ?_
         have hleS := hle0
         refine Cu (.inl rfl) (fun _ _ h => h) (.cons_cons _ <| .cons_cons _ <| .refl _) [16] (by kernel_rfl) fun ds => ?_
         refine A5 0 rfl (by kernel_rfl) (by kernel_rfl) (by kernel_rfl) (by kernel_rfl) rfl rfl (fun _ h => h.drop (.cons_cons _ <| .cons_cons _ <| .refl _)) (fun _ _ _ h => h) (Ao B4 (A8 rfl <| Ac)) ?_
         refine A5 1 rfl (by kernel_rfl) (by kernel_rfl) (by kernel_rfl) (by kernel_rfl) rfl rfl (fun _ h => h.drop (.cons_cons _ <| .cons_cons _ <| .refl _)) (fun _ _ _ h => h) (Ao Br (Ac)) ?_
         refine A5 2 rfl (by kernel_rfl) (by kernel_rfl) (by kernel_rfl) (by kernel_rfl) rfl rfl (fun _ h => h.drop (.cons_cons _ <| .cons_cons _ <| .refl _)) (fun _ _ _ h => h) (Ap B3 (Ac) (Cell.own 0 rfl rfl)) ?_
         refine A5 3 rfl (by kernel_rfl) (by kernel_rfl) (by kernel_rfl) (by kernel_rfl) rfl rfl (fun _ h => h.drop (.cons_cons _ <| .cons_cons _ <| .refl _)) (fun _ _ _ h => h) (Ag (A6 rfl <| A8 rfl <| Ar rfl <| Al rfl <| Bf rfl <| A6 rfl <| A0 rfl <| Ar rfl <| Aj rfl)) ?_
         refine A5 4 rfl (by kernel_rfl) (by kernel_rfl) (by kernel_rfl) (by kernel_rfl) rfl rfl (fun _ h => h.drop (.cons_cons _ <| .cons_cons _ <| .refl _)) (fun _ _ _ h => h) (Ag (A6 rfl <| A8 rfl <| Ar rfl <| Ak rfl <| Al rfl <| Bf rfl <| A8 rfl <| Ar rfl <| Ac)) ?_
         refine A5 5 rfl (by kernel_rfl) (by kernel_rfl) (by kernel_rfl) (by kernel_rfl) rfl rfl (fun _ h => h.drop (.cons_cons _ <| .cons_cons _ <| .refl _)) (fun _ _ _ h => h) (Bq (Ac)) ?_
         refine A5 6 rfl (by kernel_rfl) (by kernel_rfl) (by kernel_rfl) (by kernel_rfl) rfl rfl (fun _ h => h.drop (.cons_cons _ <| .cons_cons _ <| .refl _)) (fun _ _ _ h => h) (Ao B4 (Ac)) ?_
         refine A5 7 rfl (by kernel_rfl) (by kernel_rfl) (by kernel_rfl) (by kernel_rfl) rfl rfl (fun _ h => h.drop (.cons_cons _ <| .cons_cons _ <| .refl _)) (fun _ _ _ h => h) (Ao Br (Ac)) ?_
         refine A5 8 rfl (by kernel_rfl) (by kernel_rfl) (by kernel_rfl) (by kernel_rfl) rfl rfl (fun _ h => h.drop (.cons_cons _ <| .cons_cons _ <| .refl _)) (fun _ _ _ h => h) (Ap B3 (Ac) (CellF.own hX.blk rfl).cell) ?_
         refine A5 9 rfl (by kernel_rfl) (by kernel_rfl) (by kernel_rfl) (by kernel_rfl) rfl rfl (fun _ h => h.drop (.cons_cons _ <| .cons_cons _ <| .refl _)) (fun _ _ _ h => h) (Ag (Bf rfl <| Al rfl <| Bf rfl <| A6 rfl <| A0 rfl <| Ar rfl <| Aj rfl)) ?_
         refine A5 10 rfl (by kernel_rfl) (by kernel_rfl) (by kernel_rfl) (by kernel_rfl) rfl rfl (fun _ h => h.drop (.cons_cons _ <| .cons_cons _ <| .refl _)) (fun _ _ _ h => h) (Bh (k := x) Cc (Ak rfl <| Ac) hX.r.eds.plain (Ac) rfl hxp) ?_
         refine A5 11 rfl (by kernel_rfl) (by kernel_rfl) (by kernel_rfl) (by kernel_rfl) rfl rfl (fun _ h => h.drop (.cons_cons _ <| .cons_cons _ <| .refl _)) (fun _ _ _ h => h) (Bv Cr (Ac)) ?_
         refine A5 12 rfl (by kernel_rfl) (by kernel_rfl) (by kernel_rfl) (by kernel_rfl) rfl rfl (fun _ h => h.drop (.cons_cons _ <| .cons_cons _ <| .refl _)) (fun _ _ _ h => h) (Ap Cq (Ac) (hX.r.eds.cell hxp rfl)) ?_
         refine WX_x 13 rfl (by kernel_rfl) rfl (x_callNf bd_76 Ax (.cons (Ac) .nil) (cloneInt_own hrx (by omega)) fun v47 F48 R51 hr49 hF50 => ⟨fun _ _ _ h => (h.drop (List.sublist_append_of_sublist_right <| .cons_cons _ <| .cons_cons _ <| .refl _)).weak hF50 hleS, ?_⟩)
         replace hX := hX.mono hF50
         replace hFG := Heap.le_trans hFG hF50
         replace hz11 := hF50 _ _ hz11
         have hoR := hr49
         refine A5 14 rfl (by kernel_rfl) (by kernel_rfl) (by kernel_rfl) (by kernel_rfl) rfl rfl (fun _ h => (h.drop (List.sublist_append_of_sublist_right <| .cons_cons _ <| .cons_cons _ <| .refl _)).weak hF50 hleS) (fun _ _ _ h => h) (Bh (k := x) Cc (A8 rfl <| Ar rfl <| Ak rfl <| Ac) (hoE.plain (by omega)) (A8 rfl <| Ar rfl <| Ac) rfl hxp) ?_
         refine A5 15 rfl (by kernel_rfl) (by kernel_rfl) (by kernel_rfl) (by kernel_rfl) rfl rfl (fun _ h => (h.drop (List.sublist_append_of_sublist_right <| .cons_cons _ <| .cons_cons _ <| .refl _)).weak hF50 hleS) (fun _ _ _ h => h) (Bv Cr (Ac)) ?_
         refine WX_orderB (.one (.skip <| .here) <| .one (.skip <| .here) <| .blk (.skip <| .here) <| .blk (.lastS) <| .lastb (.last)) ?_
         refine WX_x0 16 rfl (by kernel_rfl) (x_storeR sz_26 (Ac) (Ar rfl <| Ac) hoE (by rw [flat_len edE_len]; omega) (Own.one hoR) (.s <| .s <| .k <| .z) .more fun R52 ho53 => ⟨(fun h => nomatch h), ?_⟩)
         have hoE2 := ed_own_set (e := (s.ed x).setR p ((k : Int) + 1)) ho53 hxp (by rw [e1]; rfl) (by rw [e1]; rfl) (by rw [e1]; rfl)
         refine C2 (by kernel_rfl) ?_ _
         refine Ae <| Af <| Ai fun ds => Aa rfl (Ao B4 (A6 rfl <| A8 rfl <| Ac)) ?_
         refine Aa rfl (Ao Br (Ac)) ?_
         refine Aa rfl (Ap B3 (Ac) (Cell.own 0 rfl rfl)) ?_
         refine Aa rfl (Ag (Bf rfl <| A8 rfl <| Ar rfl <| Al rfl <| Bf rfl <| A6 rfl <| A0 rfl <| Ar rfl <| Aj rfl)) ?_
         refine Aa rfl (Bh (k := x) Cc (Ak rfl <| Ac) (hoE2.plain (by rw [List.length_set]; omega)) (Ac) rfl (by simp; omega)) ?_
         refine Aa rfl (Bv Cr (Ac)) ?_
         refine Aa rfl (Ap Cq (Ac) (own_cell hoE2 (fun p hp => .tail _ (.tail _ (List.mem_append_right _ (List.mem_append_left _ hp)))) (ed_set_get hxp))) ?_
         refine Aa rfl (Ag (Bf rfl <| A8 rfl <| A0 rfl <| Ar rfl <| Al rfl <| Bf rfl <| A6 rfl <| A0 rfl <| Ar rfl <| Aj rfl)) ?_
         refine Aa rfl (Ag (Bf rfl <| A8 rfl <| A0 rfl <| Ac)) ?_
         refine Aa rfl (Bw (Ac) Ab rfl (by omega) (by omega)) ?_
         refine Aa rfl (Bh (k := p) Bm (Ar rfl <| Ak rfl <| Ac) (hoR.plain (by omega)) (Ar rfl <| Ac) rfl hpx) ?_
         refine Cf (x_storeR sz_3 (Ac) (Ak rfl <| Ac) hoR (by rw [flat_len (enc := intE) (s := 1) (fun _ => rfl)]; omega) rfl (.s <| .s <| .k <| .k <| .z) .last fun R54 ho55 => ?_)
         have hoR2 := ho55
         rw [show p * 1 = p * 1 + 0 from rfl, int_flat_set hpx] at hoR2
         replace hoR2 := hoR2.to (k' := ((s.ed x).rd.set p ((k : Int) + 1)).length) (by simp)
         refine Ah <| Ae <| Af <| Cx (σ := ⟨_, _⟩) (by rfl) hoR2 (.s <| .s <| .k <| .k <| .z) .last fun F56 hF57 hz58 => ?_
         replace hX := hX.mono hF57
         replace hFG := Heap.le_trans hFG hF57
         replace hz11 := hF57 _ _ hz11
         refine WC_pickB (.one (.here) <| .one (.here) <| .blk (.here) <| .lastb (.here)) ?_
         have hrn := hoR2.sl (fun _ => rfl) hz58 (by simp; omega)
         refine Cx (σ := ⟨_, _⟩) (by rfl) hoE2 (.s <| .s <| .k <| .z) .last fun F59 hF60 hz61 => ?_
         replace hX := hX.mono hF60
         replace hFG := Heap.le_trans hFG hF60
         replace hrn := hrn.mono hF60
         replace hz11 := hF60 _ _ hz11
         refine WC_pickB (.one (.here) <| .one (.here) <| .lastb (.here)) ?_
         have hen := hoE2.sl (fun _ => rfl) hz61 (by simp; omega)
         refine Ca (i := 0) rfl hb41 (.here) fun F62 hF63 hz15 => ?_
         replace hX := hX.mono hF63
         replace hFG := Heap.le_trans hFG hF63
         replace hrn := hrn.mono hF63
         replace hen := hen.mono hF63
         replace hz11 := hF63 _ _ hz11
         have hXm : StmX _ _ _ _ _ _ (setS s x p ((k : Int) + 1)) := ⟨hX.r.set hen hrn, hz15⟩
         by_cases hpl : decide (placeN (setS s x p ((k : Int) + 1)) l p = placeN s l p) = true
         ·
          have hrb : readB s l x p k = true := by unfold readB; rw [hkn, hpl]; rfl
          refine Ai fun ds => Aa rfl (A7 Bs (Bf rfl <| A6 rfl <| Ar rfl <| Al rfl <| Bf rfl <| A8 rfl <| Ar rfl <| Ak rfl <| Ac) rfl rfl (Cp hz11)) ?_
          refine Aa rfl (Ag (Bf rfl <| A6 rfl <| Ar rfl <| Ak rfl <| Al rfl <| Bf rfl <| A6 rfl <| A0 rfl <| Ar rfl <| Aj rfl)) ?_
          refine B0 rfl (Bc bd_82 Ax (.cons (Bf rfl <| A0 rfl <| Ak rfl <| Ac) (.cons (Ak rfl <| Ac) (.cons (Ac) .nil))) (Dd hXm ht (by rw [setS_len]; exact hll) hvm hp) (fun _ _ h => h)) ?_
          refine Aa rfl (Ag (Bf rfl <| A6 rfl <| A0 rfl <| Ak rfl <| Al rfl <| A8 rfl <| Ar rfl <| Ak rfl <| Ac)) ?_
          refine Aa rfl (Bx (Ak rfl <| Ac) (Ac)) ?_
          refine Ah <| Ae <| Aq (Ac) hpl ?_
          refine Ai fun ds => Aa rfl (Ag (Bf rfl <| A6 rfl <| A0 rfl <| Ar rfl <| Ak rfl <| Au rfl hs8)) ?_
          refine Aa rfl (Ag (Bf rfl <| A6 rfl <| A0 rfl <| Ak rfl <| Ac)) ?_
          refine Aa rfl (Bw (Ac) Ab rfl (by omega) (by omega)) ?_
          refine Bb rfl (B1 Bm Cy rfl (.cons (Ac) .nil) rfl rfl (by decide) (by simp [Value.oneCell']) fun b64 hb64 nb64 => ?_)
          refine Bu (i := 0) rfl hb64 .here fun F65 hF66 hz67 => ?_
          replace hFG := Heap.le_trans hFG hF66
          have hsl68 := Cn hz67
          refine Bb rfl (C1 Bm el_3 (Ar rfl <| Ak rfl <| Ac) ho (Ac) hsl68.srcInt (by simp only [List.length_singleton]; omega) (by simp only [List.length_singleton]; omega) (.s <| .z) .last fun v69 R70 ho71 => ?_)
          have ho2 := ho71.snoc (x := (k : Int) + 1) rfl rfl
          refine Aa rfl (Ad (Ac)) ?_
          refine Ah <| Ba <| Ae <| Ai fun ds => Aa rfl (Bw (Bf rfl <| A6 rfl <| A8 rfl <| A0 rfl <| Ak rfl <| Au rfl hs62) Ab rfl (by omega) (by omega)) ?_
          refine Aa rfl (Ag (Ac)) ?_
          refine Ah <| Ae ⟨_, m - 1, Off.eq (ou32 rfl <| Dj rfl <| ou8 rfl <| ou4 rfl <| ou2 rfl <| ou1 rfl <| Be), by omega, ?_⟩
          exact ⟨_, hFG, k + 1, by omega, (Ac), _, _, (Ar rfl <| Ac), by rw [readTo_succ, if_pos hrb]; exact ho2, rfl⟩
         ·
          replace hpl : decide (placeN (setS s x p ((k : Int) + 1)) l p = placeN s l p) = false := by simpa using hpl
          have hrb : readB s l x p k = false := by unfold readB; rw [hpl]; simp
          refine Ai fun ds => Aa rfl (A7 Bs (Bf rfl <| A6 rfl <| Ar rfl <| Al rfl <| Bf rfl <| A8 rfl <| Ar rfl <| Ak rfl <| Ac) rfl rfl (Cp hz11)) ?_
          refine Aa rfl (Ag (Bf rfl <| A6 rfl <| Ar rfl <| Ak rfl <| Al rfl <| Bf rfl <| A6 rfl <| A0 rfl <| Ar rfl <| Aj rfl)) ?_
          refine B0 rfl (Bc bd_82 Ax (.cons (Bf rfl <| A0 rfl <| Ak rfl <| Ac) (.cons (Ak rfl <| Ac) (.cons (Ac) .nil))) (Dd hXm ht (by rw [setS_len]; exact hll) hvm hp) (fun _ _ h => h)) ?_
          refine Aa rfl (Ag (Bf rfl <| A6 rfl <| A0 rfl <| Ak rfl <| Al rfl <| A8 rfl <| Ar rfl <| Ak rfl <| Ac)) ?_
          refine Aa rfl (Bx (Ak rfl <| Ac) (Ac)) ?_
          refine Ah <| Ae <| Am (Ac) hpl ?_
          refine Ay <| Ba <| Ae <| Ai fun ds => Aa rfl (Bw (Bf rfl <| A6 rfl <| A0 rfl <| Ar rfl <| Ak rfl <| Au rfl hs62) Ab rfl (by omega) (by omega)) ?_
          refine Aa rfl (Ag (Ac)) ?_
          refine Ah <| Ae ⟨_, m - 1, Off.eq (ou32 rfl <| Dj rfl <| ou8 rfl <| ou1 rfl <| Be), by omega, ?_⟩
          exact ⟨_, hFG, k + 1, by omega, (Ac), _, _, (Bf rfl <| A6 rfl <| A8 rfl <| Ak rfl <| Au rfl hs8), by rw [readTo_succ, if_neg (by rw [hrb]; simp)]; exact ho, rfl⟩
        ·
         have hrb : readB s l x p k = false := by unfold readB; rw [decide_eq_false (show ¬ s.r x p = 0 by omega), decide_eq_false (show ¬ s.r x p = (k : Int) + 1 by omega)]; rfl
         refine Aq (Ac) (by rw [er]; exact decide_eq_true hke) ?_
         refine Bt ?_
         refine Bg (Bj ?_)
         refine Ae <| Ai fun ds => Aa rfl (Bw (A8 rfl <| Ar rfl <| Ak rfl <| Au rfl hs62) Ab rfl (by omega) (by omega)) ?_
         refine Aa rfl (Ag (Ac)) ?_
         refine Ah <| Ae ⟨_, m - 1, Off.eq (ou8 rfl <| ou4 rfl <| ou1 rfl <| Be), by omega, ?_⟩
         exact ⟨_, hFG, k + 1, by omega, (Ac), _, _, (A8 rfl <| A0 rfl <| Ak rfl <| Au rfl hs8), by rw [readTo_succ, if_neg (by rw [hrb]; simp)]; exact ho, rfl⟩
       ·
        have hkn : (decide (s.r x p = 0) || decide (s.r x p = (k : Int) + 1)) = true := by rw [decide_eq_true (show s.r x p = 0 by omega)]; rfl
        refine Ay <| Ae <| Af <| Az <| Af <| Ai fun ds => Aa rfl (Ag (Ak rfl <| Au rfl hs62)) ?_
        refine Aa rfl (Ad (Ac)) ?_
        refine Ah <| Ae <| Af <| Af <| Ai fun ds => Aa rfl (Ag (Ar rfl <| Ak rfl <| Al rfl <| Ak rfl <| Ac)) ?_
        refine Aa rfl (Dh (Ac) Ab) ?_
        refine Aa rfl (Ag (Ac)) ?_
        refine A3 rfl rfl (Ac) (.inl (congrArg Value.bool (by rw [er]; exact decide_eq_false hk0))) rfl ?_
        refine A3 rfl rfl (Ak rfl <| Ac) (.inl (congrArg Value.bool (by rw [er]; exact decide_eq_false hk0))) rfl ?_
        refine A3 rfl rfl (Ar rfl <| Ac) (.inl (congrArg Value.bool (by rw [er]; exact decide_eq_false hk0))) rfl ?_
        refine A3 rfl rfl (Ar rfl <| Ak rfl <| Ac) (.inl (congrArg Value.bool (by rw [er]; exact decide_eq_false hk0))) rfl ?_
        refine Aa rfl (Bn (A0 rfl <| Ac) (by rw [er]; exact decide_eq_false hk0) Ab) ?_
        refine Ah <| Ae <| Am (Ac) rfl ?_
        have hvm := setS_valid (v := (k : Int) + 1) hv hx hp (by omega)
        refine Ay <| Ae <| Af <| Ai fun ds => Aa rfl (Ag (A8 rfl <| Ar rfl <| Ak rfl <| Al rfl <| Bf rfl <| A8 rfl <| Ar rfl <| Ac)) ?_
        refine Aa rfl (Bq (Ac)) ?_
        refine Aa rfl (A7 agg_128 (Ac) rfl rfl (Cp hX.blk)) ?_
        refine Bb rfl (B2 zr_128 rfl fun b72 hb72 nb72 => ?_)
        refine Cf (Cb sz_128 (Ac) (Ak rfl <| Ac) (i := 0) rfl rfl rfl rfl hX.ones (.here) ?_)
        refine Ah <| Ae <| Af <| Ai fun ds => Aa rfl (Ag (A8 rfl <| A0 rfl <| Ar rfl <| Ak rfl <| Al rfl <| Bf rfl <| A8 rfl <| Ar rfl <| Ac)) ?_
        refine Aa rfl (Bq (Ac)) ?_
        refine Aa rfl (Ao B4 (Ac)) ?_
        refine Aa rfl (Ao Br (Ac)) ?_
        refine Aa rfl (Ap B3 (Ac) (CellF.own hX.blk rfl).cell) ?_
        refine Bb rfl (x_callNf bd_87 Ax (.cons (Ac) .nil) (cloneEd_own hX.r.eds hX.r.one (by omega)) fun v73 F74 R77 hr75 hF76 => ?_)
        replace hX := hX.mono hF76
        replace hrx := hrx.mono hF76
        replace hFG := Heap.le_trans hFG hF76
        replace hle0 := Heap.le_trans hle0 hF76
        replace hz11 := hF76 _ _ hz11
        have hoE := hr75
        refine Aa rfl (Ao B4 (A0 rfl <| Ar rfl <| Ac)) ?_
        refine Aa rfl (Ao Br (Ac)) ?_
        refine WL_orderB (.one (.skip <| .here) <| .one (.skip <| .here) <| .blk (.lastS) <| .lastb (.last)) ?_
        refine Cf (Cg sz_23 (Ac) (Ar rfl <| Ac) (i := 0) rfl (.next <| .here) (Own.one hoE) (.here) ?_)
        refine Ah <| Ae <| Af ?_
        have hleS := hle0
        refine Cu (.inl rfl) (fun _ _ h => h) (.cons_cons _ <| .cons_cons _ <| .refl _) [16] (by kernel_rfl) fun ds => ?_
        refine A5 0 rfl (by kernel_rfl) (by kernel_rfl) (by kernel_rfl) (by kernel_rfl) rfl rfl (fun _ h => h.drop (.cons_cons _ <| .cons_cons _ <| .refl _)) (fun _ _ _ h => h) (Ao B4 (A8 rfl <| Ac)) ?_
        refine A5 1 rfl (by kernel_rfl) (by kernel_rfl) (by kernel_rfl) (by kernel_rfl) rfl rfl (fun _ h => h.drop (.cons_cons _ <| .cons_cons _ <| .refl _)) (fun _ _ _ h => h) (Ao Br (Ac)) ?_
        refine A5 2 rfl (by kernel_rfl) (by kernel_rfl) (by kernel_rfl) (by kernel_rfl) rfl rfl (fun _ h => h.drop (.cons_cons _ <| .cons_cons _ <| .refl _)) (fun _ _ _ h => h) (Ap B3 (Ac) (Cell.own 0 rfl rfl)) ?_
        refine A5 3 rfl (by kernel_rfl) (by kernel_rfl) (by kernel_rfl) (by kernel_rfl) rfl rfl (fun _ h => h.drop (.cons_cons _ <| .cons_cons _ <| .refl _)) (fun _ _ _ h => h) (Ag (A6 rfl <| A8 rfl <| Ar rfl <| Al rfl <| Bf rfl <| A6 rfl <| A0 rfl <| Ar rfl <| Aj rfl)) ?_
        refine A5 4 rfl (by kernel_rfl) (by kernel_rfl) (by kernel_rfl) (by kernel_rfl) rfl rfl (fun _ h => h.drop (.cons_cons _ <| .cons_cons _ <| .refl _)) (fun _ _ _ h => h) (Ag (A6 rfl <| A8 rfl <| Ar rfl <| Ak rfl <| Al rfl <| Bf rfl <| A8 rfl <| Ar rfl <| Ac)) ?_
        refine A5 5 rfl (by kernel_rfl) (by kernel_rfl) (by kernel_rfl) (by kernel_rfl) rfl rfl (fun _ h => h.drop (.cons_cons _ <| .cons_cons _ <| .refl _)) (fun _ _ _ h => h) (Bq (Ac)) ?_
        refine A5 6 rfl (by kernel_rfl) (by kernel_rfl) (by kernel_rfl) (by kernel_rfl) rfl rfl (fun _ h => h.drop (.cons_cons _ <| .cons_cons _ <| .refl _)) (fun _ _ _ h => h) (Ao B4 (Ac)) ?_
        refine A5 7 rfl (by kernel_rfl) (by kernel_rfl) (by kernel_rfl) (by kernel_rfl) rfl rfl (fun _ h => h.drop (.cons_cons _ <| .cons_cons _ <| .refl _)) (fun _ _ _ h => h) (Ao Br (Ac)) ?_
        refine A5 8 rfl (by kernel_rfl) (by kernel_rfl) (by kernel_rfl) (by kernel_rfl) rfl rfl (fun _ h => h.drop (.cons_cons _ <| .cons_cons _ <| .refl _)) (fun _ _ _ h => h) (Ap B3 (Ac) (CellF.own hX.blk rfl).cell) ?_
        refine A5 9 rfl (by kernel_rfl) (by kernel_rfl) (by kernel_rfl) (by kernel_rfl) rfl rfl (fun _ h => h.drop (.cons_cons _ <| .cons_cons _ <| .refl _)) (fun _ _ _ h => h) (Ag (Bf rfl <| Al rfl <| Bf rfl <| A6 rfl <| A0 rfl <| Ar rfl <| Aj rfl)) ?_
        refine A5 10 rfl (by kernel_rfl) (by kernel_rfl) (by kernel_rfl) (by kernel_rfl) rfl rfl (fun _ h => h.drop (.cons_cons _ <| .cons_cons _ <| .refl _)) (fun _ _ _ h => h) (Bh (k := x) Cc (Ak rfl <| Ac) hX.r.eds.plain (Ac) rfl hxp) ?_
        refine A5 11 rfl (by kernel_rfl) (by kernel_rfl) (by kernel_rfl) (by kernel_rfl) rfl rfl (fun _ h => h.drop (.cons_cons _ <| .cons_cons _ <| .refl _)) (fun _ _ _ h => h) (Bv Cr (Ac)) ?_
        refine A5 12 rfl (by kernel_rfl) (by kernel_rfl) (by kernel_rfl) (by kernel_rfl) rfl rfl (fun _ h => h.drop (.cons_cons _ <| .cons_cons _ <| .refl _)) (fun _ _ _ h => h) (Ap Cq (Ac) (hX.r.eds.cell hxp rfl)) ?_
        refine WX_x 13 rfl (by kernel_rfl) rfl (x_callNf bd_76 Ax (.cons (Ac) .nil) (cloneInt_own hrx (by omega)) fun v78 F79 R82 hr80 hF81 => ⟨fun _ _ _ h => (h.drop (List.sublist_append_of_sublist_right <| .cons_cons _ <| .cons_cons _ <| .refl _)).weak hF81 hleS, ?_⟩)
        replace hX := hX.mono hF81
        replace hFG := Heap.le_trans hFG hF81
        replace hz11 := hF81 _ _ hz11
        have hoR := hr80
        refine A5 14 rfl (by kernel_rfl) (by kernel_rfl) (by kernel_rfl) (by kernel_rfl) rfl rfl (fun _ h => (h.drop (List.sublist_append_of_sublist_right <| .cons_cons _ <| .cons_cons _ <| .refl _)).weak hF81 hleS) (fun _ _ _ h => h) (Bh (k := x) Cc (A8 rfl <| Ar rfl <| Ak rfl <| Ac) (hoE.plain (by omega)) (A8 rfl <| Ar rfl <| Ac) rfl hxp) ?_
        refine A5 15 rfl (by kernel_rfl) (by kernel_rfl) (by kernel_rfl) (by kernel_rfl) rfl rfl (fun _ h => (h.drop (List.sublist_append_of_sublist_right <| .cons_cons _ <| .cons_cons _ <| .refl _)).weak hF81 hleS) (fun _ _ _ h => h) (Bv Cr (Ac)) ?_
        refine WX_orderB (.one (.skip <| .here) <| .one (.skip <| .here) <| .blk (.skip <| .here) <| .blk (.lastS) <| .lastb (.last)) ?_
        refine WX_x0 16 rfl (by kernel_rfl) (x_storeR sz_26 (Ac) (Ar rfl <| Ac) hoE (by rw [flat_len edE_len]; omega) (Own.one hoR) (.s <| .s <| .k <| .z) .more fun R83 ho84 => ⟨(fun h => nomatch h), ?_⟩)
        have hoE2 := ed_own_set (e := (s.ed x).setR p ((k : Int) + 1)) ho84 hxp (by rw [e1]; rfl) (by rw [e1]; rfl) (by rw [e1]; rfl)
        refine C2 (by kernel_rfl) ?_ _
        refine Ae <| Af <| Ai fun ds => Aa rfl (Ao B4 (A6 rfl <| A8 rfl <| Ac)) ?_
        refine Aa rfl (Ao Br (Ac)) ?_
        refine Aa rfl (Ap B3 (Ac) (Cell.own 0 rfl rfl)) ?_
        refine Aa rfl (Ag (Bf rfl <| A8 rfl <| Ar rfl <| Al rfl <| Bf rfl <| A6 rfl <| A0 rfl <| Ar rfl <| Aj rfl)) ?_
        refine Aa rfl (Bh (k := x) Cc (Ak rfl <| Ac) (hoE2.plain (by rw [List.length_set]; omega)) (Ac) rfl (by simp; omega)) ?_
        refine Aa rfl (Bv Cr (Ac)) ?_
        refine Aa rfl (Ap Cq (Ac) (own_cell hoE2 (fun p hp => .tail _ (.tail _ (List.mem_append_right _ (List.mem_append_left _ hp)))) (ed_set_get hxp))) ?_
        refine Aa rfl (Ag (Bf rfl <| A8 rfl <| A0 rfl <| Ar rfl <| Al rfl <| Bf rfl <| A6 rfl <| A0 rfl <| Ar rfl <| Aj rfl)) ?_
        refine Aa rfl (Ag (Bf rfl <| A8 rfl <| A0 rfl <| Ac)) ?_
        refine Aa rfl (Bw (Ac) Ab rfl (by omega) (by omega)) ?_
        refine Aa rfl (Bh (k := p) Bm (Ar rfl <| Ak rfl <| Ac) (hoR.plain (by omega)) (Ar rfl <| Ac) rfl hpx) ?_
        refine Cf (x_storeR sz_3 (Ac) (Ak rfl <| Ac) hoR (by rw [flat_len (enc := intE) (s := 1) (fun _ => rfl)]; omega) rfl (.s <| .s <| .k <| .k <| .z) .last fun R85 ho86 => ?_)
        have hoR2 := ho86
        rw [show p * 1 = p * 1 + 0 from rfl, int_flat_set hpx] at hoR2
        replace hoR2 := hoR2.to (k' := ((s.ed x).rd.set p ((k : Int) + 1)).length) (by simp)
        refine Ah <| Ae <| Af <| Cx (σ := ⟨_, _⟩) (by rfl) hoR2 (.s <| .s <| .k <| .k <| .z) .last fun F87 hF88 hz89 => ?_
        replace hX := hX.mono hF88
        replace hFG := Heap.le_trans hFG hF88
        replace hz11 := hF88 _ _ hz11
        refine WC_pickB (.one (.here) <| .one (.here) <| .blk (.here) <| .lastb (.here)) ?_
        have hrn := hoR2.sl (fun _ => rfl) hz89 (by simp; omega)
        refine Cx (σ := ⟨_, _⟩) (by rfl) hoE2 (.s <| .s <| .k <| .z) .last fun F90 hF91 hz92 => ?_
        replace hX := hX.mono hF91
        replace hFG := Heap.le_trans hFG hF91
        replace hrn := hrn.mono hF91
        replace hz11 := hF91 _ _ hz11
        refine WC_pickB (.one (.here) <| .one (.here) <| .lastb (.here)) ?_
        have hen := hoE2.sl (fun _ => rfl) hz92 (by simp; omega)
        refine Ca (i := 0) rfl hb72 (.here) fun F93 hF94 hz15 => ?_
        replace hX := hX.mono hF94
        replace hFG := Heap.le_trans hFG hF94
        replace hrn := hrn.mono hF94
        replace hen := hen.mono hF94
        replace hz11 := hF94 _ _ hz11
        have hXm : StmX _ _ _ _ _ _ (setS s x p ((k : Int) + 1)) := ⟨hX.r.set hen hrn, hz15⟩
        by_cases hpl : decide (placeN (setS s x p ((k : Int) + 1)) l p = placeN s l p) = true
        ·
         have hrb : readB s l x p k = true := by unfold readB; rw [hkn, hpl]; rfl
         refine Ai fun ds => Aa rfl (A7 Bs (Bf rfl <| A6 rfl <| Ar rfl <| Al rfl <| Bf rfl <| A8 rfl <| Ar rfl <| Ak rfl <| Ac) rfl rfl (Cp hz11)) ?_
         refine Aa rfl (Ag (Bf rfl <| A6 rfl <| Ar rfl <| Ak rfl <| Al rfl <| Bf rfl <| A6 rfl <| A0 rfl <| Ar rfl <| Aj rfl)) ?_
         refine B0 rfl (Bc bd_82 Ax (.cons (Bf rfl <| A0 rfl <| Ak rfl <| Ac) (.cons (Ak rfl <| Ac) (.cons (Ac) .nil))) (Dd hXm ht (by rw [setS_len]; exact hll) hvm hp) (fun _ _ h => h)) ?_
         refine Aa rfl (Ag (Bf rfl <| A6 rfl <| A0 rfl <| Ak rfl <| Al rfl <| A8 rfl <| Ar rfl <| Ak rfl <| Ac)) ?_
         refine Aa rfl (Bx (Ak rfl <| Ac) (Ac)) ?_
         refine Ah <| Ae <| Aq (Ac) hpl ?_
         refine Ai fun ds => Aa rfl (Ag (Bf rfl <| A6 rfl <| A0 rfl <| Ar rfl <| Ak rfl <| Au rfl hs8)) ?_
         refine Aa rfl (Ag (Bf rfl <| A6 rfl <| A0 rfl <| Ak rfl <| Ac)) ?_
         refine Aa rfl (Bw (Ac) Ab rfl (by omega) (by omega)) ?_
         refine Bb rfl (B1 Bm Cy rfl (.cons (Ac) .nil) rfl rfl (by decide) (by simp [Value.oneCell']) fun b95 hb95 nb95 => ?_)
         refine Bu (i := 0) rfl hb95 .here fun F96 hF97 hz98 => ?_
         replace hFG := Heap.le_trans hFG hF97
         have hsl99 := Cn hz98
         refine Bb rfl (C1 Bm el_3 (Ar rfl <| Ak rfl <| Ac) ho (Ac) hsl99.srcInt (by simp only [List.length_singleton]; omega) (by simp only [List.length_singleton]; omega) (.s <| .z) .last fun v100 R101 ho102 => ?_)
         have ho2 := ho102.snoc (x := (k : Int) + 1) rfl rfl
         refine Aa rfl (Ad (Ac)) ?_
         refine Ah <| Ba <| Ae <| Ai fun ds => Aa rfl (Bw (Bf rfl <| A6 rfl <| A8 rfl <| A0 rfl <| Ak rfl <| Au rfl hs62) Ab rfl (by omega) (by omega)) ?_
         refine Aa rfl (Ag (Ac)) ?_
         refine Ah <| Ae ⟨_, m - 1, Off.eq (ou32 rfl <| Dj rfl <| ou8 rfl <| ou4 rfl <| ou2 rfl <| ou1 rfl <| Be), by omega, ?_⟩
         exact ⟨_, hFG, k + 1, by omega, (Ac), _, _, (Ar rfl <| Ac), by rw [readTo_succ, if_pos hrb]; exact ho2, rfl⟩
        ·
         replace hpl : decide (placeN (setS s x p ((k : Int) + 1)) l p = placeN s l p) = false := by simpa using hpl
         have hrb : readB s l x p k = false := by unfold readB; rw [hpl]; simp
         refine Ai fun ds => Aa rfl (A7 Bs (Bf rfl <| A6 rfl <| Ar rfl <| Al rfl <| Bf rfl <| A8 rfl <| Ar rfl <| Ak rfl <| Ac) rfl rfl (Cp hz11)) ?_
         refine Aa rfl (Ag (Bf rfl <| A6 rfl <| Ar rfl <| Ak rfl <| Al rfl <| Bf rfl <| A6 rfl <| A0 rfl <| Ar rfl <| Aj rfl)) ?_
         refine B0 rfl (Bc bd_82 Ax (.cons (Bf rfl <| A0 rfl <| Ak rfl <| Ac) (.cons (Ak rfl <| Ac) (.cons (Ac) .nil))) (Dd hXm ht (by rw [setS_len]; exact hll) hvm hp) (fun _ _ h => h)) ?_
         refine Aa rfl (Ag (Bf rfl <| A6 rfl <| A0 rfl <| Ak rfl <| Al rfl <| A8 rfl <| Ar rfl <| Ak rfl <| Ac)) ?_
         refine Aa rfl (Bx (Ak rfl <| Ac) (Ac)) ?_
         refine Ah <| Ae <| Am (Ac) hpl ?_
         refine Ay <| Ba <| Ae <| Ai fun ds => Aa rfl (Bw (Bf rfl <| A6 rfl <| A0 rfl <| Ar rfl <| Ak rfl <| Au rfl hs62) Ab rfl (by omega) (by omega)) ?_
         refine Aa rfl (Ag (Ac)) ?_
         refine Ah <| Ae ⟨_, m - 1, Off.eq (ou32 rfl <| Dj rfl <| ou8 rfl <| ou1 rfl <| Be), by omega, ?_⟩
         exact ⟨_, hFG, k + 1, by omega, (Ac), _, _, (Bf rfl <| A6 rfl <| A8 rfl <| Ak rfl <| Au rfl hs8), by rw [readTo_succ, if_neg (by rw [hrb]; simp)]; exact ho, rfl⟩
      ·
       refine Af <| Ai fun ds => Aa rfl (Bz (Au rfl hs62) Ab) ?_
       refine Ah <| Ae <| Af <| Am (Ac) (by first | rfl | exact decide_eq_false (by omega)) ?_
       obtain rfl : k = 3 := by omega
       refine Cx (σ := ⟨_, _⟩) (by rfl) ho (.s <| .z) .last fun F103 hF104 hz105 => ?_
       have hn8 := ho.sl (fun _ => rfl) hz105 (by have := readTo_len (s := s) (l := l) (x := x) (p := p) (k := 3); omega)
       refine Bt ?_
       refine Bg <| Bg <| Bj <| Ae <| Af <| Ai fun ds => Aa rfl (Ag (Ak rfl <| Au rfl hs8)) ?_
       refine Aa rfl (Ad (Ac)) ?_
       refine Aa rfl (Ad Ab) ?_
       refine Ah <| Ae <| A4 <| Aw rfl (.tmp (Ak rfl <| Ac) (.tmp (Ac) .nil)) ?_
       rw [readE_ok hre, Int.toNat_natCast, Int.toNat_natCast]
       exact ⟨_, rfl, hn8⟩
   ·
    replace h2 : inB 0 (s.places.length - 1) q = false := by simpa using h2
    refine Aq (Ac) (by simp [h2]) ?_
    refine Af <| Ai fun ds => Aa rfl (Ad Ab) ?_
    refine Aa rfl (Ad Ab) ?_
    refine Ah <| Ae <| A4 <| Bd (A9 ?_)
    refine Aw rfl (.tmp (Ak rfl <| Ac) (.tmp (Ac) .nil)) ?_
    rw [readE_bad (readErr_2 hok (by rw [h1, h2]; rfl)) (by decide)]
    exact ⟨_, rfl, Sl.nil⟩
  ·
   replace h1 : inB 0 (s.editions.length - 1) z = false := by simpa using h1
   refine Af <| Ai fun ds => Aa rfl (Ao Br (A8 rfl <| A0 rfl <| Ar rfl <| Ak rfl <| Ac)) ?_
   refine Aa rfl (Ap B3 (Ac) (CellF.own hz4 rfl).cell) ?_
   refine Aa rfl (Bp Cc (Ac) hr.eds.plain) ?_
   refine Aa rfl (q_sub (Ac) Ab rfl (by omega) (by omega)) ?_
   refine Aa rfl (Ag (A6 rfl <| A0 rfl <| Aj rfl)) ?_
   refine Bb rfl (B1 Bm Cy rfl (.cons (Ac) .nil) rfl rfl (by decide) (by simp [Value.oneCell']) fun b106 hb106 nb106 => ?_)
   refine Bu (i := 0) rfl hb106 .here fun F107 hF108 hz109 => ?_
   have hsl110 := Cn hz109
   refine B0 rfl (Bc Dk Ax (.cons Ab (.cons (Ar rfl <| Ac) (.cons (Ac) .nil))) (Cd _ _ hsl110) (fun _ _ h => h)) ?_
   refine Aa rfl (Ag (Ac)) ?_
   refine A3 rfl rfl (Ac) (.inl (congrArg Value.bool (by simp [hlen, h1]))) rfl ?_
   refine A3 rfl rfl (Ak rfl <| Ac) (.inl (congrArg Value.bool (by simp [hlen, h1]))) rfl ?_
   refine A3 rfl rfl (Ar rfl <| Ac) (.inl (congrArg Value.bool (by simp [hlen, h1]))) rfl ?_
   refine A3 rfl rfl (Ar rfl <| Ak rfl <| Ac) (.inl (congrArg Value.bool (by simp [hlen, h1]))) rfl ?_
   refine A3 rfl rfl (A0 rfl <| Ac) (.inl (congrArg Value.bool (by simp [hlen, h1]))) rfl ?_
   refine A3 rfl rfl (A0 rfl <| Ak rfl <| Ac) (.inl (congrArg Value.bool (by simp [hlen, h1]))) rfl ?_
   refine A3 rfl rfl (A0 rfl <| Ar rfl <| Ac) (.inl (congrArg Value.bool (by simp [hlen, h1]))) rfl ?_
   refine Aa rfl (A1 (A0 rfl <| Ar rfl <| Ak rfl <| Ac) (by simp [hlen, h1]) Ab) ?_
   refine Aa rfl (Ad (Ac)) ?_
   refine Ah <| Ae <| Aq (Ac) rfl ?_
   refine Af <| Ai fun ds => Aa rfl (Ad Ab) ?_
   refine Aa rfl (Ad Ab) ?_
   refine Ah <| Ae <| A4 <| Bd (A9 ?_)
   refine Aw rfl (.tmp (Ak rfl <| Ac) (.tmp (Ac) .nil)) ?_
   rw [readE_bad (readErr_2 hok (by rw [h1]; rfl)) (by decide)]
   exact ⟨_, rfl, Sl.nil⟩
 ·
  refine Af <| Ai fun ds => Bb rfl (B9 (Aj rfl) rfl fun b111 hb111 nb111 => ?_)
  refine Aa rfl (Ad Ab) ?_
  refine Aa rfl (Ad Ab) ?_
  refine Ah <| Ae <| Af <| Ai fun ds => Aa rfl (A7 B8 (Ar rfl <| Ac) rfl rfl (A2 0 rfl)) ?_
  refine Aa rfl (Ag (A0 rfl <| Aj rfl)) ?_
  refine Bb rfl (Ch bd_68 Ax (.cons (Ak rfl <| Ac) (.cons (Ac) .nil)) (enter_bad hr hl hok) fun v112 F113 hr114 hF115 => ?_)
  obtain ⟨l2, rfl⟩ := hr114
  refine Aa rfl (Ag (Ac)) ?_
  refine Aa rfl (As (Ac) rfl) ?_
  refine Aa rfl (As (Ak rfl <| Ac) rfl) ?_
  refine Aa rfl (As (Ar rfl <| Ac) rfl) ?_
  refine Bb rfl (B2 Di rfl fun b116 hb116 nb116 => ?_)
  refine Aa rfl (Ad (Ar rfl <| Ak rfl <| Ac)) ?_
  refine Cf (Cb Dn (Ak rfl <| Ac) (Ar rfl <| Ak rfl <| Ac) (i := 0) rfl rfl rfl rfl Cz (.here) ?_)
  refine Aa rfl (Ad (Ar rfl <| Ac)) ?_
  refine Ah <| Ae <| Af <| Az <| Af <| Ai fun ds => Aa rfl (Ag (Ac)) ?_
  refine Aa rfl (B6 (Ac) Ab) ?_
  refine Aa rfl (Ad (Ac)) ?_
  refine Ah <| Ae <| Aq (Ac) (decide_eq_true hok) ?_
  refine Af <| Ai fun ds => Aa rfl (Ag (Ar rfl <| Ak rfl <| Ac)) ?_
  refine Aa rfl (Ad Ab) ?_
  refine Aa rfl (Ad (Ak rfl <| Ac)) ?_
  refine Ah <| Ae <| A4 <| Bd (A9 ?_)
  refine Aw rfl (.tmp (Ak rfl <| Ac) (.tmp (Ac) .nil)) ?_
  rw [readE_bad (readErr_1 hok) hok]
  exact ⟨_, rfl, Sl.nil⟩
end Go.Proofs.Ytccogmkhijgelaa
namespace Go.Proofs.Ytccogmkhijgelaa
open Go.RowKit
theorem zr_119 : ZeroT Try.prog 119 (.nilFunc) := Cv (by kernel_rfl)
theorem zr_26 : ZeroT Try.prog 26 (.slice none 0 0) := Cv (by kernel_rfl)
theorem zr_4 : ZeroT Try.prog 4 (.bool false) := Cv (by kernel_rfl)
theorem bd_84 : Body Try.prog 84 := Bo (by kernel_rfl)
theorem one_119 : OneT Try.prog 119 := Df (by kernel_rfl)
theorem one_4 : OneT Try.prog 4 := Df (by kernel_rfl)
theorem sz_119 : SizeT Try.prog 119 1 := Co (by kernel_rfl)
theorem sz_4 : SizeT Try.prog 4 1 := Co (by kernel_rfl)
theorem setTo_succ {s : Stm} {p k : Nat} : setTo s p (k + 1) = setTo s p k ||| 2 ^ (s.r k p).toNat := rfl
theorem kindTo_succ {s : Stm} {p k : Nat} : kindTo s p (k + 1) = kindTo s p k + if metB s p (k + 1) = true then 1 else 0 := rfl
theorem cleanS_none {s : Stm} {xs : List (List Int)} {t : List Int} (h : cleanR s xs = none) : cleanR s (xs ++ [t]) = some (uncleanL s t) := by rw [cleanR_snoc, h]; rfl
theorem cleanS_yes {s : Stm} {xs : List (List Int)} {t : List Int} {b : List Nat} (h : cleanR s xs = some b) (h2 : (uncleanL s t).length < b.length ∨ ((uncleanL s t).length = b.length ∧ cmpL (uncleanL s t) b < 0)) : cleanR s (xs ++ [t]) = some (uncleanL s t) := by rw [cleanR_snoc, h]; exact if_pos h2
theorem cleanS_no {s : Stm} {xs : List (List Int)} {t : List Int} {b : List Nat} (h : cleanR s xs = some b) (h2 : ¬ ((uncleanL s t).length < b.length ∨ ((uncleanL s t).length = b.length ∧ cmpL (uncleanL s t) b < 0))) : cleanR s (xs ++ [t]) = some b := by rw [cleanR_snoc, h]; exact if_neg h2
theorem bit_met {s : Stm} {p j : Nat} (hv : ValidT s) (hp : p < s.places.length) : (setTo s p s.editions.length / 2 ^ (j + 1) &&& 1 : Nat) = if metB s p (j + 1) = true then 1 else 0 := by
 have h := setTo_bit (v := j + 1) (fun i hi => (hv.rd i p hi hp).1) (Nat.le_refl s.editions.length)
 rw [Nat.testBit_eq_decide_div_mod_eq] at h
 rw [Nat.and_one_is_mod]
 unfold metB
 rw [← h]
 by_cases h2 : setTo s p s.editions.length / 2 ^ (j + 1) % 2 = 1
 · rw [if_pos (decide_eq_true h2)]; exact h2
 · rw [if_neg (by simpa using h2)]; omega
theorem opt_or {α : Type} (o : Option α) : o = none ∨ ∃ b, o = some b := by cases o with | none => exact .inl rfl | some b => exact .inr ⟨b, rfl⟩
theorem pow_le8T {n : Nat} (h : n ≤ 3) : 2 ^ n ≤ 8 := by
 have : n = 0 ∨ n = 1 ∨ n = 2 ∨ n = 3 := by omega
 rcases this with rfl | rfl | rfl | rfl <;> decide
set_option maxRecDepth 100000 in
theorem clean_top_ok {F : Heap} {vp ve : Value} {ps : List (Value × Edn)} {s : Stm} (hr : StmR F vp ve ps s) : Ok Try.prog 33 [.agg #[vp, ve]].toArray F fun u F' => NatsR F' u (cleanE s) := by
 have hle0 : F.le F := Heap.le_refl _
 refine Ok.intro Try.func33 rfl Try.ntmps33 rfl fun w0 => ?_
 have hL1 := hr.eds.plain.lt
 have hL2 := hr.places.plain.lt
 have hlen := hr.len
 by_cases h0 : (checkT s).2.2 = 0
 ·
  have hv := Db h0
  have hne := hv.ne
  have hnp := hv.np
  refine Af <| Ai fun ds => Bb rfl (B9 (Aj rfl) rfl fun b1 hb1 nb1 => ?_)
  refine Bb rfl (B2 zr_26 rfl fun b2 hb2 nb2 => ?_)
  refine Aa rfl (Ad Ab) ?_
  refine Ah <| Ae <| Af <| Ai fun ds => Aa rfl (A7 B8 (Ar rfl <| Ac) rfl rfl (A2 1 rfl)) ?_
  refine Bb rfl (C6 bd_65 Ax (.cons (Ac) .nil) (open_ok hr h0) fun v3 F4 R7 hr5 hF6 => ?_)
  replace hr := hr.mono hF6
  obtain ⟨ba, kb, rfl, hX, rfl⟩ := hr5
  refine Aa rfl (Ag (Ac)) ?_
  refine Aa rfl (As (Ac) rfl) ?_
  refine Aa rfl (As (Ak rfl <| Ac) rfl) ?_
  refine Aa rfl (Ad (Ak rfl <| Ac)) ?_
  refine Aa rfl (Ad (Ak rfl <| Ac)) ?_
  refine Ah <| Ae <| Af <| Af <| Ai fun ds => Aa rfl (Ag (Ac)) ?_
  refine Aa rfl (B6 (Ac) Ab) ?_
  refine Ah <| Ae <| Am (Ac) (by decide) ?_
  refine Ay <| Ae <| Af <| Ai fun ds => Bb rfl (B2 zr_26 rfl fun b8 hb8 nb8 => ?_)
  refine Ah <| Ae <| Af <| Af <| Ai fun ds => Aa rfl (Ao C7 (A8 rfl <| A0 rfl <| Ac)) ?_
  refine Aa rfl (Ap D1 (Ac) (Cell.own 2 rfl rfl)) ?_
  refine Aa rfl (Bp Dx (Ac) hr.places.plain) ?_
  refine Aa rfl (Ag Ab) ?_
  refine Ah <| Ae <| Az <| By [6, 7, 9, 10, 11, 29, 30, 31, 32, 33, 34, 35, 36, 37, 38, 39, 40, 41, 42, 43, 44, 45, 46, 47, 48, 49, 50, 51, 52, 53, 54, 55, 56, 57, 58, 59, 60, 61, 62, 63, 64] (fun m e σ => ∃ p : Nat, m + p = s.places.length ∧ e 29 = .int .i64 (p : Int) ∧ ∃ v5 R5, Own 3 1 v5 (iL (needN s) p).length ((iL (needN s) p).flatMap intE) R5 ∧ σ = ⟨F4, (b8, bx 26 [v5]) :: (b2, bx 26 [.slice none 0 0]) :: (b1, bx 25 [vp, ve]) :: (kb, mapO []) :: R5⟩) (s.places.length) ?_ ?_
  · exact ⟨0, by omega, (Ac), _, [], own_nil, rfl⟩
  ·
   rintro m e _ ⟨p, hm, hs29, v5, R5, ho, rfl⟩; have hil9 := iL_length (f := needN s) (n := p)
   by_cases hp : p < s.places.length
   ·
    refine Af <| Ai fun ds => Aa rfl (Bz (Au rfl hs29) (Al rfl <| Ak rfl <| Ac)) ?_
    refine Ah <| Ae <| Af <| Aq (Ac) (by first | rfl | exact decide_eq_true (by omega)) ?_
    refine Ay <| Ae <| Af <| Az <| Af <| Ai fun ds => Aa rfl (Ag (Ak rfl <| Au rfl hs29)) ?_
    refine Aa rfl (Ad (Ac)) ?_
    refine Ah <| Ae <| Af <| Ai fun ds => Aa rfl (Ad Ab) ?_
    refine Ah <| Ae <| Af <| Af <| Ai fun ds => Aa rfl (Ao Br (A0 rfl <| Al rfl <| A6 rfl <| Ac)) ?_
    refine Aa rfl (Ap B3 (Ac) (Cell.own 2 rfl rfl)) ?_
    refine Aa rfl (Bp Cc (Ac) hr.eds.plain) ?_
    refine Aa rfl (Ag Ab) ?_
    refine Ah <| Ae <| Az <| By [7, 9, 35, 36, 37, 38, 39, 40, 41, 42, 43, 44, 45, 46, 47] (fun m e σ => ∃ i : Nat, m + i = ps.length ∧ e 35 = .int .i64 (i : Int) ∧ e 7 = .int .i64 ((setTo s p i : Nat) : Int) ∧ σ = ⟨F4, (b8, bx 26 [v5]) :: (b2, bx 26 [.slice none 0 0]) :: (b1, bx 25 [vp, ve]) :: (kb, mapO []) :: R5⟩) (ps.length) ?_ ?_
    · exact ⟨0, by omega, (Ac), (A0 rfl <| Ac), rfl⟩
    ·
     rintro m1 e1 _ ⟨i, hm1, ht35, ht7, rfl⟩
     by_cases hli : i < ps.length
     ·
      have hil : i < s.editions.length := by omega
      have hri := hr.rd hli
      have hpi : p < (s.ed i).rd.length := by rw [hv.rdl i hil]; exact hp
      have er := rdT_at hpi
      have hrb := hv.rd i p hil hp
      have hst := setTo_lt (s := s) (p := p) (fun i hi => hv.rd i p hi hp) (k := i) (by omega)
      have hp8 := pow_le8T (n := (s.r i p).toNat) (by omega)
      refine Af <| Ai fun ds => Aa rfl (Bz (Au rfl ht35) (Al rfl <| Ak rfl <| Ac)) ?_
      refine Ah <| Ae <| Af <| Aq (Ac) (by first | rfl | exact decide_eq_true (by omega)) ?_
      refine Ay <| Ae <| Af <| Az <| Af <| Ai fun ds => Aa rfl (Bh (k := i) Cc (Ak rfl <| Al rfl <| Ar rfl <| Ac) hr.eds.plain (Ak rfl <| Au rfl ht35) rfl hli) ?_
      refine Aa rfl (A7 agg_64 (Ac) rfl rfl (hr.eds.whole hli)) ?_
      refine Bb rfl (B2 zr_64 rfl fun b11 hb11 nb11 => ?_)
      refine Cf (Cb sz_64 (Ac) (Ak rfl <| Ac) (i := 0) rfl rfl rfl rfl (edE_one (hr.one _ (List.getElem_mem hli))) (.here) ?_)
      refine Ah <| Ae <| Ai fun ds => Aa rfl (Ag (A0 rfl <| Au rfl ht7)) ?_
      refine Aa rfl (Ao Cr (Ak rfl <| Ac)) ?_
      refine Aa rfl (Ap Cq (Ac) (Cell.own 0 rfl rfl)) ?_
      refine Aa rfl (Ag (A0 rfl <| Ar rfl <| Ak rfl <| Al rfl <| A0 rfl <| Ak rfl <| Ac)) ?_
      refine Aa rfl (Bh (k := p) Bm (Ak rfl <| Ac) hri.plain (Ac) rfl hpi) ?_
      refine Aa rfl (Ap Bk (Ac) (hri.cell1 hpi rfl)) ?_
      refine Aa rfl (q_shl Ab (Ac) (k := (s.r i p).toNat) (by rw [er]; omega) (by omega) (show (1 : Int) * 2 ^ (s.r i p).toNat = ((2 ^ (s.r i p).toNat : Nat) : Int) by simp) (Int.le_trans (by decide) (Int.natCast_nonneg _)) (by omega)) ?_
      refine Aa rfl (q_or (A0 rfl <| Ar rfl <| Ac) (Ac) (m := setTo s p i) (k := 2 ^ (s.r i p).toNat) rfl rfl (by omega) (by omega) rfl) ?_
      refine Aa rfl (Ad (Ac)) ?_
      refine Ah <| Ba <| Ae <| Dp (fun _ _ h => h.drop (.cons _ <| .cons_cons _ <| .cons_cons _ <| .cons_cons _ <| .cons_cons _ <| .refl _)) ?_
      refine Ai fun ds => Aa rfl (Bw (A8 rfl <| A0 rfl <| Ak rfl <| Au rfl ht35) Ab rfl (by omega) (by omega)) ?_
      refine Aa rfl (Ag (Ac)) ?_
      refine Ah <| Ae ⟨_, m1 - 1, Off.eq (ou8 rfl <| ou4 rfl <| ou2 rfl <| ou1 rfl <| Be), by omega, ?_⟩
      exact ⟨i + 1, by omega, (Ac), ((Ar rfl <| Ac)).trans (by rw [setTo_succ]), rfl⟩
     ·
      refine Af <| Ai fun ds => Aa rfl (Bz (Au rfl ht35) (Al rfl <| Ak rfl <| Ac)) ?_
      refine Ah <| Ae <| Af <| Am (Ac) (by first | rfl | exact decide_eq_false (by omega)) ?_
      obtain rfl : i = ps.length := by omega
      have hst := setTo_lt (s := s) (p := p) (fun i hi => hv.rd i p hi hp) (k := ps.length) (by omega)
      refine Bt ?_
      refine Bg <| Bg <| Bj <| Ae <| Af <| Ai fun ds => Aa rfl (Ad Ab) ?_
      refine Ah <| Ae <| Af <| Af <| Ai fun ds => Aa rfl (Ag Ab) ?_
      refine Ah <| Ae <| Az <| By [10, 11, 48, 49, 50, 51, 52, 53, 54, 55, 56, 57, 58] (fun m e σ => ∃ j : Nat, m + j = 3 ∧ e 48 = .int .i64 (j : Int) ∧ e 10 = .int .i64 (-1 + kindTo s p j) ∧ σ = ⟨F4, (b8, bx 26 [v5]) :: (b2, bx 26 [.slice none 0 0]) :: (b1, bx 25 [vp, ve]) :: (kb, mapO []) :: R5⟩) (3) ?_ ?_
      · exact ⟨0, rfl, (Ac), (Ak rfl <| Ac), rfl⟩
      ·
       rintro m2 e2 _ ⟨j, hm2, hu48, hu10, rfl⟩
       by_cases hl3 : j < 3
       ·
        have hkb := kindTo_bound (s := s) (p := p) j
        have hbt : (setTo s p ps.length / 2 ^ (j + 1) &&& 1 : Nat) = (if metB s p (j + 1) = true then 1 else 0 : Nat) := by have h9 := bit_met (j := j) hv hp; rw [← hlen] at h9; exact h9
        refine Af <| Ai fun ds => Aa rfl (Bz (Au rfl hu48) Ab) ?_
        refine Ah <| Ae <| Af <| Aq (Ac) (by first | rfl | exact decide_eq_true (by omega)) ?_
        refine Ay <| Ae <| Af <| Az <| Af <| Ai fun ds => Aa rfl (Ag (Ak rfl <| Au rfl hu48)) ?_
        refine Aa rfl (Ad (Ac)) ?_
        refine Ah <| Ae <| Ai fun ds => Aa rfl (Ag (Ar rfl <| Ak rfl <| Au rfl hu10)) ?_
        refine Aa rfl (Ag (A0 rfl <| Al rfl <| Ar rfl <| Ak rfl <| Au rfl ht7)) ?_
        refine Aa rfl (Ag (Ar rfl <| Ac)) ?_
        refine Aa rfl (Bw (Ac) Ab rfl (by omega) (by omega)) ?_
        refine Aa rfl (q_shr (Ar rfl <| Ac) (Ac) (k := j + 1) (by omega) (by show j + 1 < 64; omega) (shr_nat (m := setTo s p ps.length))) ?_
        refine Aa rfl (q_and (Ac) Ab (m := setTo s p ps.length / 2 ^ (j + 1)) (k := 1) rfl rfl (by have := Nat.div_le_self (setTo s p ps.length) (2 ^ (j + 1)); omega) (by omega) rfl) ?_
        refine Aa rfl (Bw (A0 rfl <| Ak rfl <| Ac) (Ac) rfl (by rw [hbt]; split <;> omega) (by rw [hbt]; split <;> omega)) ?_
        refine Aa rfl (Ad (Ac)) ?_
        refine Ah <| Ba <| Ae <| Ai fun ds => Aa rfl (Bw (A8 rfl <| Ar rfl <| Ak rfl <| Au rfl hu48) Ab rfl (by omega) (by omega)) ?_
        refine Aa rfl (Ag (Ac)) ?_
        refine Ah <| Ae ⟨_, m2 - 1, Off.eq (ou8 rfl <| ou4 rfl <| ou1 rfl <| Be), by omega, ?_⟩
        refine ⟨j + 1, by omega, (Ac), ((Ar rfl <| Ac)).trans ?_, rfl⟩
        rw [kindTo_succ, hbt]; congr 1; split <;> omega
       ·
        refine Af <| Ai fun ds => Aa rfl (Bz (Au rfl hu48) Ab) ?_
        refine Ah <| Ae <| Af <| Am (Ac) (by first | rfl | exact decide_eq_false (by omega)) ?_
        obtain rfl : j = 3 := by omega
        have hkb := kindTo_bound (s := s) (p := p) 3
        refine Bt ?_
        refine Bg <| Bg <| Bj <| Ae <| Ai fun ds => Aa rfl (Ap Cq (Ak rfl <| Al rfl <| Ar rfl <| Ak rfl <| Al rfl <| A8 rfl <| Al rfl <| A0 rfl <| Ac) (Cell.own 0 rfl rfl)) ?_
        refine Aa rfl (Ag (Ar rfl <| Au rfl hu10)) ?_
        refine Aa rfl (q_max2 Ab (Ac)) ?_
        refine Bb rfl (B1 Bm Cy rfl (.cons (Ac) .nil) rfl rfl (by decide) (by simp [Value.oneCell']) fun b13 hb13 nb13 => ?_)
        refine Bb rfl (C1 Bm el_3 (Ar rfl <| Ak rfl <| Ac) ho (Ac) (src_box (s := 1) 0 rfl rfl (by simp [Value.oneCell'])) (by omega) (by omega) (.s <| .s <| .s <| .s <| .s <| .z) .last fun v14 R15 ho16 => ?_)
        have ho2 : Own 3 1 v14 (iL (needN s) (p + 1)).length ((iL (needN s) (p + 1)).flatMap intE) R15 := by have h9 := ho16; rw [iL_succ]; exact h9.snoc (x := needN s p) rfl (by unfold needN kindsN intE; congr 2; omega)
        refine Cf (Cg sz_26 (A0 rfl <| Ar rfl <| Al rfl <| Ar rfl <| Ak rfl <| Al rfl <| A8 rfl <| Al rfl <| A0 rfl <| Ac) (Ac) (i := 1) rfl (.here) (Own.one ho2) (.next <| .here) ?_)
        refine Ah <| Ba <| Ae <| Dp (fun _ _ h => h.drop (.cons _ <| .cons_cons _ <| .cons_cons _ <| .cons_cons _ <| .cons_cons _ <| .refl _)) ?_
        refine Ai fun ds => Aa rfl (Bw (A0 rfl <| Ar rfl <| Al rfl <| Ar rfl <| Ak rfl <| Al rfl <| A8 rfl <| Au rfl hs29) Ab rfl (by omega) (by omega)) ?_
        refine Aa rfl (Ag (Ac)) ?_
        refine Ah <| Ae ⟨_, m - 1, Off.eq (ou8 rfl <| off_in rfl <| ou2 rfl <| ou1 rfl <| off_in rfl <| ou8 rfl <| Be), by omega, ?_⟩
        refine ⟨p + 1, by omega, (Ac), _, _, ho2, rfl⟩
   ·
    refine Af <| Ai fun ds => Aa rfl (Bz (Au rfl hs29) (Al rfl <| Ak rfl <| Ac)) ?_
    refine Ah <| Ae <| Af <| Am (Ac) (by first | rfl | exact decide_eq_false (by omega)) ?_
    obtain rfl : p = s.places.length := by omega
    refine Cx (σ := ⟨_, _⟩) (by rfl) ho (.s <| .s <| .s <| .s <| .z) .last fun F17 hF18 hz19 => ?_
    replace hX := hX.mono hF18
    have hnd := ho.sl (fun _ => rfl) hz19 (by rw [iL_length]; omega)
    refine Ca (i := 0) rfl hb8 (.here) fun F20 hF21 hz5 => ?_
    replace hX := hX.mono hF21
    replace hnd := hnd.mono hF21
    refine Bt ?_
    refine Bg <| Bg <| Bj <| Ae <| Af <| Ai fun ds => Bb rfl (B2 zr_4 rfl fun b22 hb22 nb22 => ?_)
    refine Cf (Cg sz_4 (Ac) Ab (i := 0) rfl (.here) rfl (.here) ?_)
    refine Ah <| Ae <| Af <| Ai fun ds => Aa rfl (Ag (Ar rfl <| Al rfl <| A8 rfl <| Ac)) ?_
    refine Aa rfl (q_makeFunc2 (.cons (Ac) .nil) .nil) ?_
    refine Bb rfl (B2 zr_119 rfl fun b23 hb23 nb23 => ?_)
    refine Cf (Cg sz_119 (Ac) (Ak rfl <| Ac) (i := 0) rfl (.here) rfl (.here) ?_)
    refine Ah <| Ae <| Af <| Af <| Ca (i := 0) rfl hb23 (.here) fun F24 hF25 hz13 => ?_
    replace hX := hX.mono hF25
    replace hnd := hnd.mono hF25
    replace hz5 := hF25 _ _ hz5
    refine Ai fun ds => Aa rfl (Ag (A0 rfl <| Ak rfl <| Al rfl <| A8 rfl <| Ac)) ?_
    refine Bb rfl (Ch bd_83 Ax (.cons (Ac) .nil) (trees_ok hX) fun v26 F27 hr28 hF29 => ?_)
    replace hX := hX.mono hF29
    replace hnd := hnd.mono hF29
    replace hz5 := hF29 _ _ hz5
    replace hz13 := hF29 _ _ hz13
    obtain ⟨dz, rfl, hzd⟩ := hr28
    refine Ah <| Ae <| Az <| WC_rangeG rfl (Ac) (bd_116) (trees1_iter hX hv hzd) (Heap.le_refl _) (fun pre G H => ∃ v2, Nats G v2 ((cleanR s pre).getD []) ∧ H = [(b22, bx 4 [.bool (cleanR s pre).isSome]), (b2, bx 26 [v2]), (b1, bx 25 [vp, ve]), (kb, mapO [])]) (fun _ _ _ => False) (fun _ _ _ _ hF h => by obtain ⟨v, h1, h2⟩ := h; exact ⟨v, h1.mono hF, h2⟩) (fun _ _ _ _ _ h => h) ⟨_, Sl.nil, rfl⟩ (fun L D fn tm pre x rest G H1 vs hxs hle hJ hA => ?_) (fun _ _ _ _ h => h.elim) (fun F2 H1 hF2 hJ => ?_)
    ·
     replace hX := hX.mono hle
     replace hnd := hnd.mono hle
     replace hz5 := hle _ _ hz5
     replace hz13 := hle _ _ hz13
     obtain ⟨v2, hv2, rfl⟩ := hJ
     obtain rfl : vs = [treeV x] := hA
     have hxm : x ∈ allTrees s := by rw [hxs]; simp
     obtain ⟨hll, ht, -⟩ := allTrees_mem.1 hxm
     refine ⟨rfl, rfl, fun w1 => ?_⟩
     refine WC_eq (e' := (upd _ 69 (treeV x))) rfl rfl ?_
     refine B5 (.inr (by kernel_rfl)) (fun _ _ h => h) fun ds => ?_
     refine Bb rfl (B2 Di rfl fun b30 hb30 nb30 => ?_)
     refine WL_order (.cons (.next <| .here) <| .cons (.next <| .here) <| .cons (.here) <| .cons (.here) <| .cons (.here) <| .cons (.here) <| .cons (.here) <| .nil) ?_
     refine Cf (Cb Dn (Ac) (Ak rfl <| Ac) (i := 2) rfl rfl rfl rfl Cz (.next <| .next <| .here) ?_)
     refine Ah <| Ae ⟨_, rfl, ?_⟩
     refine Az <| Af <| WC_name (i := 0) rfl (fun _ => .here) fun oL hoL => ?_
     refine B5 (.inr (by kernel_rfl)) (fun _ _ h => h) fun ds => ?_
     refine Aa rfl (Ad Ab) ?_
     refine Ah <| Ae <| Af <| Af <| B5 (.inr (by kernel_rfl)) (fun _ _ h => h) fun ds => ?_
     refine Aa rfl (Ap Cq (A8 rfl <| Ar rfl <| Al rfl <| A0 rfl <| Ac) (CellF.own hz5 rfl).cell) ?_
     refine Aa rfl (Bp Bm (Ac) hnd.plain) ?_
     refine Aa rfl (Ag Ab) ?_
     refine Ah <| Ae <| Az <| By [15, 16, 17, 72, 73, 74, 75, 76, 77, 78, 79, 80, 81, 82, 83, 84, 85, 86, 87] (fun m e σ => ∃ q : Nat, m + q = s.places.length ∧ e 72 = .int .i64 (q : Int) ∧ ∃ v15 R15, e 15 = v15 ∧ Own 3 1 v15 (selN (uncleanB s x) q).length ((selN (uncleanB s x) q).flatMap natE) R15 ∧ σ = ⟨G, (L, oL) :: (D, openO) :: (b30, bx 100 (treeC x)) :: (b22, bx 4 [.bool (cleanR s pre).isSome]) :: (b2, bx 26 [v2]) :: (b1, bx 25 [vp, ve]) :: (kb, mapO []) :: R15⟩) (s.places.length) ?_ ?_
     · exact ⟨0, by omega, (Ac), _, _, (Ar rfl <| Ak rfl <| Ac), Own.nil, rfl⟩
     ·
      rintro m e _ ⟨q, hm, hs72, v15, R15, hs15, ho, rfl⟩; have hsl := Dr (p := (uncleanB s x)) (k := q)
      by_cases hlq : q < s.places.length
      ·
       refine Af <| B5 (.inr (by kernel_rfl)) (fun _ _ h => h) fun ds => ?_
       refine Aa rfl (Bz (Au rfl hs72) (Al rfl <| Ak rfl <| Ac)) ?_
       refine Ah <| Ae <| Af <| Aq (Ac) (by first | rfl | exact decide_eq_true (by omega)) ?_
       have hnq : (iL (needN s) s.places.length)[q]'(by rw [iL_length]; exact hlq) = needN s q := iL_at _
       have hup := unclean_place ht hv hll (p := q)
       by_cases hub : uncleanB s x q = true
       ·
        refine Ay <| Ae <| Af <| Az <| Af <| B5 (.inr (by kernel_rfl)) (fun _ _ h => h) fun ds => ?_
        refine Aa rfl (Ag (Ak rfl <| Au rfl hs72)) ?_
        refine Aa rfl (Bh (k := q) Bm (Ar rfl <| Al rfl <| Ar rfl <| Ac) hnd.plain (Ar rfl <| Au rfl hs72) rfl (by rw [iL_length]; exact hlq)) ?_
        refine Aa rfl (Ap Bk (Ac) (hnd.cell1 (by rw [iL_length]; exact hlq) rfl)) ?_
        refine Aa rfl (Ad (Ar rfl <| Ac)) ?_
        refine Aa rfl (Ad (Ak rfl <| Ac)) ?_
        refine Ah <| Ae <| Af <| B5 (.inr (by kernel_rfl)) (fun _ _ h => h) fun ds => ?_
        refine Aa rfl (Ap one_119 (A0 rfl <| Ar rfl <| Al rfl <| A8 rfl <| Ac) (CellF.own hz13 rfl).cell) ?_
        refine Aa rfl (A7 Bs (A0 rfl <| Ar rfl <| Ak rfl <| Al rfl <| A0 rfl <| Ac) rfl rfl (A2 2 rfl)) ?_
        refine Aa rfl (Ag (Ar rfl <| Ak rfl <| Ac)) ?_
        refine B0 rfl (q_callF bd_82 (Ar rfl <| Ac) (.cons (Ak rfl <| Ac) (.cons (Ac) .nil)) (Dd hX ht hll hv hlq) (fun _ _ h => h)) ?_
        refine Aa rfl (Ag (A0 rfl <| Ac)) ?_
        refine Aa rfl (B6 (Ak rfl <| Ac) (Ac)) ?_
        refine Ah <| Ae <| Aq (Ac) (decide_eq_true (by rw [hnq]; exact hup.2 hub)) ?_
        refine B5 (.inr (by kernel_rfl)) (fun _ _ h => h) fun ds => ?_
        refine Aa rfl (Ag (A8 rfl <| A0 rfl <| Au rfl hs15)) ?_
        refine Aa rfl (Ag (A8 rfl <| Ac)) ?_
        refine Bb rfl (B1 Bm Cy rfl (.cons (Ac) .nil) rfl rfl (by decide) (by simp [Value.oneCell']) fun b32 hb32 nb32 => ?_)
        refine Bb rfl (C1 Bm el_3 (Ar rfl <| Ac) ho (Ac) (src_box (s := 1) 0 rfl rfl (by simp [Value.oneCell'])) (by omega) (by omega) (.s <| .s <| .s <| .s <| .s <| .s <| .s <| .s <| .z) .last fun v33 R34 ho35 => ?_)
        have ho2 := ho35.snoc (x := q) rfl rfl
        refine Aa rfl (Ad (Ac)) ?_
        refine Ah <| Ba <| Ae <| Dp (fun _ _ h => h.drop (.cons _ <| .cons_cons _ <| .cons_cons _ <| .cons_cons _ <| .cons_cons _ <| .cons_cons _ <| .cons_cons _ <| .cons_cons _ <| .refl _)) ?_
        refine B5 (.inr (by kernel_rfl)) (fun _ _ h => h) fun ds => ?_
        refine Aa rfl (Bw (A6 rfl <| Ak rfl <| Au rfl hs72) Ab rfl (by omega) (by omega)) ?_
        refine Aa rfl (Ag (Ac)) ?_
        refine Ah <| Ae ⟨_, m - 1, Off.eq (Dj rfl <| ou2 rfl <| ou1 rfl <| Be), by omega, ?_⟩
        exact ⟨q + 1, by omega, (Ac), _, _, (Ar rfl <| Ac), by rw [Dq, if_pos hub]; exact ho2, rfl⟩
       ·
        replace hub : uncleanB s x q = false := by simpa using hub
        refine Ay <| Ae <| Af <| Az <| Af <| B5 (.inr (by kernel_rfl)) (fun _ _ h => h) fun ds => ?_
        refine Aa rfl (Ag (Ak rfl <| Au rfl hs72)) ?_
        refine Aa rfl (Bh (k := q) Bm (Ar rfl <| Al rfl <| Ar rfl <| Ac) hnd.plain (Ar rfl <| Au rfl hs72) rfl (by rw [iL_length]; exact hlq)) ?_
        refine Aa rfl (Ap Bk (Ac) (hnd.cell1 (by rw [iL_length]; exact hlq) rfl)) ?_
        refine Aa rfl (Ad (Ar rfl <| Ac)) ?_
        refine Aa rfl (Ad (Ak rfl <| Ac)) ?_
        refine Ah <| Ae <| Af <| B5 (.inr (by kernel_rfl)) (fun _ _ h => h) fun ds => ?_
        refine Aa rfl (Ap one_119 (A0 rfl <| Ar rfl <| Al rfl <| A8 rfl <| Ac) (CellF.own hz13 rfl).cell) ?_
        refine Aa rfl (A7 Bs (A0 rfl <| Ar rfl <| Ak rfl <| Al rfl <| A0 rfl <| Ac) rfl rfl (A2 2 rfl)) ?_
        refine Aa rfl (Ag (Ar rfl <| Ak rfl <| Ac)) ?_
        refine B0 rfl (q_callF bd_82 (Ar rfl <| Ac) (.cons (Ak rfl <| Ac) (.cons (Ac) .nil)) (Dd hX ht hll hv hlq) (fun _ _ h => h)) ?_
        refine Aa rfl (Ag (A0 rfl <| Ac)) ?_
        refine Aa rfl (B6 (Ak rfl <| Ac) (Ac)) ?_
        refine Ah <| Ae <| Am (Ac) (decide_eq_false (by rw [hnq]; exact fun h => by rw [hup.1 h] at hub; cases hub)) ?_
        refine Ay <| Ba <| Ae <| B5 (.inr (by kernel_rfl)) (fun _ _ h => h) fun ds => ?_
        refine Aa rfl (Bw (A8 rfl <| A0 rfl <| Au rfl hs72) Ab rfl (by omega) (by omega)) ?_
        refine Aa rfl (Ag (Ac)) ?_
        refine Ah <| Ae ⟨_, m - 1, Off.eq (ou8 rfl <| ou4 rfl <| ou2 rfl <| Be), by omega, ?_⟩
        exact ⟨q + 1, by omega, (Ac), _, _, (A8 rfl <| A0 rfl <| Ar rfl <| Au rfl hs15), by rw [Dq, if_neg (by rw [hub]; simp)]; exact ho, rfl⟩
      ·
       refine Af <| B5 (.inr (by kernel_rfl)) (fun _ _ h => h) fun ds => ?_
       refine Aa rfl (Bz (Au rfl hs72) (Al rfl <| Ak rfl <| Ac)) ?_
       refine Ah <| Ae <| Af <| Am (Ac) (by first | rfl | exact decide_eq_false (by omega)) ?_
       obtain rfl : q = s.places.length := by omega
       refine WC_freezeRM (σ := ⟨_, _⟩) (by intro m hm; simp [keys] at hm ⊢; rcases hm with h | h | h | h | h | h <;> simp [h]) ho (.s <| .s <| .s <| .s <| .s <| .s <| .s <| .z) .last fun F36 hF37 hz38 => ?_
       replace hle := hle.mono hF37
       replace hv2 := hv2.mono hF37
       have hl15 := ho.sl (fun _ => rfl) hz38 (by omega)
       change Nats _ _ (uncleanL s x) at hl15
       rcases opt_or (cleanR s pre) with hcs | ⟨bb, hcs⟩
       ·
        refine Bt ?_
        refine Bg <| Bg <| Bj <| Ae <| Af <| B5 (.inr (by kernel_rfl)) (fun _ _ h => h) fun ds => ?_
        refine Aa rfl (Ap one_4 (Ak rfl <| Al rfl <| A8 rfl <| Ar rfl <| Ak rfl <| Ac) (Cell.own 3 rfl rfl)) ?_
        refine Aa rfl (C4 (Ac)) ?_
        refine Aa rfl (Ag (Ac)) ?_
        refine A3 rfl rfl (Ac) (.inl (congrArg Value.bool (by rw [hcs]; rfl))) rfl ?_
        refine A3 rfl rfl (Ak rfl <| Ac) (.inl (congrArg Value.bool (by rw [hcs]; rfl))) rfl ?_
        refine A3 rfl rfl (Ar rfl <| Ac) (.inl (congrArg Value.bool (by rw [hcs]; rfl))) rfl ?_
        refine A3 rfl rfl (Ar rfl <| Ak rfl <| Ac) (.inl (congrArg Value.bool (by rw [hcs]; rfl))) rfl ?_
        refine A3 rfl rfl (A0 rfl <| Ac) (.inl (congrArg Value.bool (by rw [hcs]; rfl))) rfl ?_
        refine Aa rfl (A1 (A0 rfl <| Ak rfl <| Ac) (by rw [hcs]; rfl) Ab) ?_
        refine Aa rfl (Ag (Ac)) ?_
        refine A3 rfl rfl (Ac) (.inl (congrArg Value.bool rfl)) rfl ?_
        refine A3 rfl rfl (Ak rfl <| Ac) (.inl (congrArg Value.bool rfl)) rfl ?_
        refine A3 rfl rfl (Ar rfl <| Ac) (.inl (congrArg Value.bool rfl)) rfl ?_
        refine A3 rfl rfl (Ar rfl <| Ak rfl <| Ac) (.inl (congrArg Value.bool rfl)) rfl ?_
        refine A3 rfl rfl (A0 rfl <| Ac) (.inl (congrArg Value.bool rfl)) rfl ?_
        refine A3 rfl rfl (A0 rfl <| Ak rfl <| Ac) (.inl (congrArg Value.bool rfl)) rfl ?_
        refine A3 rfl rfl (Ac) (.inr rfl) rfl ?_
        refine A3 rfl rfl (Ak rfl <| Ac) (.inr rfl) rfl ?_
        refine A3 rfl rfl (Ar rfl <| Ac) (.inr rfl) rfl ?_
        refine A3 rfl rfl (Ar rfl <| Ak rfl <| Ac) (.inr rfl) rfl ?_
        refine A3 rfl rfl (A8 rfl <| Ar rfl <| Ac) (.inl (congrArg Value.bool rfl)) rfl ?_
        refine Aa rfl (A1 (A8 rfl <| Ar rfl <| Ak rfl <| Ac) rfl Ab) ?_
        refine Ah <| Ae <| Aq (Ac) rfl ?_
        subst hoL
        refine B5 (.inr (by kernel_rfl)) (fun _ _ h => h) fun ds => ?_
        refine Aa rfl (Ag (A6 rfl <| A0 rfl <| Ar rfl <| Ak rfl <| Au rfl hs15)) ?_
        refine Cf (Cg sz_26 (A6 rfl <| A8 rfl <| Al rfl <| A8 rfl <| A0 rfl <| Ak rfl <| Al rfl <| A8 rfl <| A0 rfl <| Ar rfl <| Ak rfl <| Ac) (Ac) (i := 4) rfl (.here) (by first | rfl | exact hl15.plain.one) (.next <| .next <| .next <| .next <| .here) ?_)
        refine Cf (Cg sz_4 (A6 rfl <| A8 rfl <| Al rfl <| A8 rfl <| Ar rfl <| Ak rfl <| Ac) Ab (i := 3) rfl (.here) (by first | rfl | exact hl15.plain.one) (.next <| .next <| .next <| .here) ?_)
        refine Ah <| Ba ?_
        refine Dz (.one (.here) <| .one (.here) <| .one (.next <| .here) <| .one (.next <| .here) <| .one (.next <| .here) <| .one (.next <| .here) <| .nil) ?_
        refine .inl ⟨rfl, _, rfl, hle, ?_⟩
        exact ⟨_, by rw [cleanS_none hcs]; exact hl15, by rw [cleanS_none hcs]; first | done | rfl⟩
       ·
        have hv2b := hv2
        rw [hcs] at hv2b
        replace hv2b : Nats _ v2 bb := hv2b
        have hbl := hv2b.plain.lt
        refine Bt ?_
        refine Bg <| Bg <| Bj <| Ae <| Af <| B5 (.inr (by kernel_rfl)) (fun _ _ h => h) fun ds => ?_
        refine Aa rfl (Ap one_4 (Ak rfl <| Al rfl <| A8 rfl <| Ar rfl <| Ak rfl <| Ac) (Cell.own 3 rfl rfl)) ?_
        refine Aa rfl (C4 (Ac)) ?_
        refine Aa rfl (Ag (Ac)) ?_
        refine At rfl rfl (Ac) (by rw [hcs]; rfl) ?_
        refine Aa rfl (Ag (A0 rfl <| Au rfl hs15)) ?_
        refine At rfl rfl (Ak rfl <| Ac) (by rw [hcs]; rfl) ?_
        refine Aa rfl (Bp Bm (Ac) hl15.plain) ?_
        refine At rfl rfl (Ar rfl <| Ac) (by rw [hcs]; rfl) ?_
        refine Aa rfl (Ap Cq (A0 rfl <| Ar rfl <| Al rfl <| A8 rfl <| A0 rfl <| Ak rfl <| Al rfl <| A8 rfl <| A0 rfl <| Ar rfl <| Ak rfl <| Ac) (Cell.own 4 rfl rfl)) ?_
        refine At rfl rfl (Ar rfl <| Ak rfl <| Ac) (by rw [hcs]; rfl) ?_
        refine Aa rfl (Bp Bm (Ac) hv2.plain) ?_
        refine At rfl rfl (A0 rfl <| Ac) (by rw [hcs]; rfl) ?_
        refine Aa rfl (Bz (Ar rfl <| Ac) (Ac)) ?_
        refine Aa rfl (Bn (A0 rfl <| Ak rfl <| Ac) (by rw [hcs]; rfl) (Ac)) ?_
        refine Aa rfl (Ag (Ac)) ?_
        by_cases h1 : (uncleanL s x).length < bb.length
        ·
         refine A3 rfl rfl (Ac) (.inl (congrArg Value.bool (decide_eq_true (by rw [hcs]; show (_ : Int) < (bb.length : Int); omega)))) rfl ?_
         refine A3 rfl rfl (Ak rfl <| Ac) (.inl (congrArg Value.bool (decide_eq_true (by rw [hcs]; show (_ : Int) < (bb.length : Int); omega)))) rfl ?_
         refine A3 rfl rfl (Ar rfl <| Ac) (.inl (congrArg Value.bool (decide_eq_true (by rw [hcs]; show (_ : Int) < (bb.length : Int); omega)))) rfl ?_
         refine A3 rfl rfl (Ar rfl <| Ak rfl <| Ac) (.inl (congrArg Value.bool (decide_eq_true (by rw [hcs]; show (_ : Int) < (bb.length : Int); omega)))) rfl ?_
         refine A3 rfl rfl (A0 rfl <| Ac) (.inl (congrArg Value.bool (decide_eq_true (by rw [hcs]; show (_ : Int) < (bb.length : Int); omega)))) rfl ?_
         refine A3 rfl rfl (A0 rfl <| Ak rfl <| Ac) (.inl (congrArg Value.bool (decide_eq_true (by rw [hcs]; show (_ : Int) < (bb.length : Int); omega)))) rfl ?_
         refine A3 rfl rfl (Ac) (.inr rfl) rfl ?_
         refine A3 rfl rfl (Ak rfl <| Ac) (.inr rfl) rfl ?_
         refine A3 rfl rfl (Ar rfl <| Ac) (.inr rfl) rfl ?_
         refine A3 rfl rfl (Ar rfl <| Ak rfl <| Ac) (.inr rfl) rfl ?_
         refine A3 rfl rfl (A8 rfl <| Ar rfl <| Ac) (.inl (congrArg Value.bool (decide_eq_true (by rw [hcs]; show (_ : Int) < (bb.length : Int); omega)))) rfl ?_
         refine Aa rfl (A1 (A8 rfl <| Ar rfl <| Ak rfl <| Ac) (decide_eq_true (by rw [hcs]; show (_ : Int) < (bb.length : Int); omega)) Ab) ?_
         refine Ah <| Ae <| Aq (Ac) rfl ?_
         subst hoL
         refine B5 (.inr (by kernel_rfl)) (fun _ _ h => h) fun ds => ?_
         refine Aa rfl (Ag (A6 rfl <| A0 rfl <| Ar rfl <| Ak rfl <| Au rfl hs15)) ?_
         refine Cf (Cg sz_26 (A6 rfl <| A8 rfl <| Al rfl <| A8 rfl <| A0 rfl <| Ak rfl <| Al rfl <| A8 rfl <| A0 rfl <| Ar rfl <| Ak rfl <| Ac) (Ac) (i := 4) rfl (.here) (by first | rfl | exact hl15.plain.one) (.next <| .next <| .next <| .next <| .here) ?_)
         refine Cf (Cg sz_4 (A6 rfl <| A8 rfl <| Al rfl <| A8 rfl <| Ar rfl <| Ak rfl <| Ac) Ab (i := 3) rfl (.here) (by first | rfl | exact hl15.plain.one) (.next <| .next <| .next <| .here) ?_)
         refine Ah <| Ba ?_
         refine Dz (.one (.here) <| .one (.here) <| .one (.next <| .here) <| .one (.next <| .here) <| .one (.next <| .here) <| .one (.next <| .here) <| .nil) ?_
         refine .inl ⟨rfl, _, rfl, hle, ?_⟩
         exact ⟨_, by rw [cleanS_yes hcs (.inl h1)]; exact hl15, by rw [cleanS_yes hcs (.inl h1)]; first | done | rfl⟩
        ·
         refine At rfl rfl (Ac) (decide_eq_false (by rw [hcs]; show ¬ (_ : Int) < (bb.length : Int); omega)) ?_
         refine Aa rfl (Ag (A8 rfl <| Ar rfl <| Ak rfl <| Au rfl hs15)) ?_
         refine At rfl rfl (Ak rfl <| Ac) (decide_eq_false (by rw [hcs]; show ¬ (_ : Int) < (bb.length : Int); omega)) ?_
         refine Aa rfl (Bp Bm (Ac) hl15.plain) ?_
         refine At rfl rfl (Ar rfl <| Ac) (decide_eq_false (by rw [hcs]; show ¬ (_ : Int) < (bb.length : Int); omega)) ?_
         refine Aa rfl (Ap Cq (A8 rfl <| A0 rfl <| Ak rfl <| Al rfl <| A8 rfl <| A0 rfl <| Ak rfl <| Al rfl <| A8 rfl <| A0 rfl <| Ar rfl <| Ak rfl <| Ac) (Cell.own 4 rfl rfl)) ?_
         refine At rfl rfl (Ar rfl <| Ak rfl <| Ac) (decide_eq_false (by rw [hcs]; show ¬ (_ : Int) < (bb.length : Int); omega)) ?_
         refine Aa rfl (Bp Bm (Ac) hv2.plain) ?_
         refine At rfl rfl (A0 rfl <| Ac) (decide_eq_false (by rw [hcs]; show ¬ (_ : Int) < (bb.length : Int); omega)) ?_
         refine Aa rfl (Bx (Ar rfl <| Ac) (Ac)) ?_
         refine At rfl rfl (A0 rfl <| Ak rfl <| Ac) (decide_eq_false (by rw [hcs]; show ¬ (_ : Int) < (bb.length : Int); omega)) ?_
         refine Aa rfl (Ag (Ac)) ?_
         by_cases h2 : (uncleanL s x).length = bb.length
         ·
          refine At rfl rfl (Ac) (decide_eq_true (by rw [hcs]; show (_ : Int) = (bb.length : Int); omega)) ?_
          refine Aa rfl (Ag (A6 rfl <| Ak rfl <| Au rfl hs15)) ?_
          refine At rfl rfl (Ak rfl <| Ac) (decide_eq_true (by rw [hcs]; show (_ : Int) = (bb.length : Int); omega)) ?_
          refine Aa rfl (Ap Cq (A6 rfl <| Ar rfl <| Al rfl <| A8 rfl <| A0 rfl <| Ak rfl <| Al rfl <| A8 rfl <| A0 rfl <| Ar rfl <| Ak rfl <| Ac) (Cell.own 4 rfl rfl)) ?_
          refine At rfl rfl (Ar rfl <| Ac) (decide_eq_true (by rw [hcs]; show (_ : Int) = (bb.length : Int); omega)) ?_
          refine B0 rfl (Bc bd_84 Ax (.cons (Ak rfl <| Ac) (.cons (Ac) .nil)) (compare_ok hl15 hv2) (fun _ _ h => h)) ?_
          refine At rfl rfl (Ar rfl <| Ak rfl <| Ac) (decide_eq_true (by rw [hcs]; show (_ : Int) = (bb.length : Int); omega)) ?_
          refine Aa rfl (Bz (Ac) Ab) ?_
          refine At rfl rfl (A8 rfl <| Ar rfl <| Ac) (decide_eq_false (by rw [hcs]; show ¬ (_ : Int) < (bb.length : Int); omega)) ?_
          refine Aa rfl (A1 (A0 rfl <| Ac) (decide_eq_true (by rw [hcs]; show (_ : Int) = (bb.length : Int); omega)) (Ac)) ?_
          refine Aa rfl (Bn (A8 rfl <| Ar rfl <| Ak rfl <| Ac) (decide_eq_false (by rw [hcs]; show ¬ (_ : Int) < (bb.length : Int); omega)) (Ac)) ?_
          refine Ah <| Ae ?_
          by_cases h3 : cmpL (uncleanL s x) bb < 0
          ·
           refine Aq (Ac) (by rw [hcs]; exact decide_eq_true h3) ?_
           subst hoL
           refine B5 (.inr (by kernel_rfl)) (fun _ _ h => h) fun ds => ?_
           refine Aa rfl (Ag (A6 rfl <| A0 rfl <| Ar rfl <| Ak rfl <| Au rfl hs15)) ?_
           refine Cf (Cg sz_26 (A6 rfl <| A8 rfl <| Al rfl <| A8 rfl <| A0 rfl <| Ak rfl <| Al rfl <| A8 rfl <| A0 rfl <| Ar rfl <| Ak rfl <| Ac) (Ac) (i := 4) rfl (.here) (by first | rfl | exact hl15.plain.one) (.next <| .next <| .next <| .next <| .here) ?_)
           refine Cf (Cg sz_4 (A6 rfl <| A8 rfl <| Al rfl <| A8 rfl <| Ar rfl <| Ak rfl <| Ac) Ab (i := 3) rfl (.here) (by first | rfl | exact hl15.plain.one) (.next <| .next <| .next <| .here) ?_)
           refine Ah <| Ba ?_
           refine Dz (.one (.here) <| .one (.here) <| .one (.next <| .here) <| .one (.next <| .here) <| .one (.next <| .here) <| .one (.next <| .here) <| .nil) ?_
           refine .inl ⟨rfl, _, rfl, hle, ?_⟩
           exact ⟨_, by rw [cleanS_yes hcs (.inr ⟨h2, h3⟩)]; exact hl15, by rw [cleanS_yes hcs (.inr ⟨h2, h3⟩)]; first | done | rfl⟩
          ·
           refine Am (Ac) (by rw [hcs]; exact decide_eq_false h3) ?_
           subst hoL
           refine Ay <| Ba ?_
           refine Dz (.one (.here) <| .one (.here) <| .one (.next <| .here) <| .one (.next <| .here) <| .one (.next <| .here) <| .one (.next <| .here) <| .nil) ?_
           refine .inl ⟨rfl, _, rfl, hle, ?_⟩
           exact ⟨_, by rw [cleanS_no hcs (fun h => h.elim h1 (fun h => h3 h.2))]; exact hv2b, by rw [cleanS_no hcs (fun h => h.elim h1 (fun h => h3 h.2)), hcs]; first | done | rfl⟩
         ·
          refine A3 rfl rfl (Ac) (.inl (congrArg Value.bool (decide_eq_false (by rw [hcs]; show ¬ (_ : Int) = (bb.length : Int); omega)))) rfl ?_
          refine A3 rfl rfl (Ak rfl <| Ac) (.inl (congrArg Value.bool (decide_eq_false (by rw [hcs]; show ¬ (_ : Int) = (bb.length : Int); omega)))) rfl ?_
          refine A3 rfl rfl (Ar rfl <| Ac) (.inl (congrArg Value.bool (decide_eq_false (by rw [hcs]; show ¬ (_ : Int) = (bb.length : Int); omega)))) rfl ?_
          refine A3 rfl rfl (Ar rfl <| Ak rfl <| Ac) (.inl (congrArg Value.bool (decide_eq_false (by rw [hcs]; show ¬ (_ : Int) = (bb.length : Int); omega)))) rfl ?_
          refine At rfl rfl (A8 rfl <| Ar rfl <| Ac) (decide_eq_false (by rw [hcs]; show ¬ (_ : Int) < (bb.length : Int); omega)) ?_
          refine Aa rfl (Bn (A0 rfl <| Ac) (decide_eq_false (by rw [hcs]; show ¬ (_ : Int) = (bb.length : Int); omega)) Ab) ?_
          refine Aa rfl (Bn (A8 rfl <| Ar rfl <| Ak rfl <| Ac) (decide_eq_false (by rw [hcs]; show ¬ (_ : Int) < (bb.length : Int); omega)) (Ac)) ?_
          refine Ah <| Ae <| Am (Ac) rfl ?_
          subst hoL
          refine Ay <| Ba ?_
          refine Dz (.one (.here) <| .one (.here) <| .one (.next <| .here) <| .one (.next <| .here) <| .one (.next <| .here) <| .one (.next <| .here) <| .nil) ?_
          refine .inl ⟨rfl, _, rfl, hle, ?_⟩
          exact ⟨_, by rw [cleanS_no hcs (fun h => h.elim h1 (fun h => h2 h.1))]; exact hv2b, by rw [cleanS_no hcs (fun h => h.elim h1 (fun h => h2 h.1)), hcs]; first | done | rfl⟩
    obtain ⟨v2, hv2, rfl⟩ := hJ
    refine Ba <| Ae ?_
    rcases opt_or (cleanR s (allTrees s)) with hcs | ⟨bb, hcs⟩
    ·
     refine Af <| Af <| Ai fun ds => Aa rfl (Ap one_4 (A0 rfl <| Ak rfl <| Ac) (Cell.own 0 rfl rfl)) ?_
     refine Aa rfl (C4 (Ac)) ?_
     refine Ah <| Ae <| Aq (Ac) (by rw [hcs]; rfl) ?_
     refine Af <| Ai fun ds => Cf (Cg sz_26 (A8 rfl <| Ak rfl <| Al rfl <| A8 rfl <| A0 rfl <| Ar rfl <| Ak rfl <| Ac) Ab (i := 1) rfl (.here) rfl (.next <| .here) ?_)
     refine Aa rfl (Ad Ab) ?_
     refine Ah <| Ae <| A4 <| A9 ?_
     refine Aw rfl (.one Cq (A8 rfl <| Ar rfl <| Al rfl <| A8 rfl <| A0 rfl <| Ar rfl <| Ak rfl <| Ac) (Cell.own 1 rfl rfl) (.tmp (Ac) .nil)) ?_
     rw [cleanE_none h0 hcs]
     exact ⟨_, rfl, Sl.nil⟩
    ·
     refine Af <| Af <| Ai fun ds => Aa rfl (Ap one_4 (A0 rfl <| Ak rfl <| Ac) (Cell.own 0 rfl rfl)) ?_
     refine Aa rfl (C4 (Ac)) ?_
     refine Ah <| Ae <| Am (Ac) (by rw [hcs]; rfl) ?_
     refine Ay <| Ae <| Af <| Ai fun ds => Aa rfl (Ap Cq (A8 rfl <| Ak rfl <| Al rfl <| A8 rfl <| A0 rfl <| Ar rfl <| Ak rfl <| Ac) (Cell.own 1 rfl rfl)) ?_
     refine Cf (Cg sz_26 (A8 rfl <| Ar rfl <| Al rfl <| A8 rfl <| A0 rfl <| Ar rfl <| Ak rfl <| Ac) (Ac) (i := 1) rfl (.here) hv2.plain.one (.next <| .here) ?_)
     refine Aa rfl (Ad Ab) ?_
     refine Ah <| Ae <| A4 <| Aw rfl (.one Cq (A8 rfl <| Ar rfl <| Ak rfl <| Al rfl <| A8 rfl <| A0 rfl <| Ar rfl <| Ak rfl <| Ac) (Cell.own 1 rfl rfl) (.tmp (Ac) .nil)) ?_
     rw [cleanE_some h0 hcs]
     rw [hcs] at hv2
     exact ⟨_, rfl, hv2⟩
 ·
  refine Af <| Ai fun ds => Bb rfl (B9 (Aj rfl) rfl fun b39 hb39 nb39 => ?_)
  refine Bb rfl (B2 zr_26 rfl fun b40 hb40 nb40 => ?_)
  refine Aa rfl (Ad Ab) ?_
  refine Ah <| Ae <| Af <| Ai fun ds => Aa rfl (A7 B8 (Ar rfl <| Ac) rfl rfl (A2 1 rfl)) ?_
  refine B0 rfl (Bc bd_65 Ax (.cons (Ac) .nil) (open_bad hr h0) (fun _ _ h => h)) ?_
  refine Aa rfl (Ag (Ac)) ?_
  refine Aa rfl (As (Ac) rfl) ?_
  refine Aa rfl (As (Ak rfl <| Ac) rfl) ?_
  refine Aa rfl (Ad (Ak rfl <| Ac)) ?_
  refine Aa rfl (Ad (Ak rfl <| Ac)) ?_
  refine Ah <| Ae <| Af <| Af <| Ai fun ds => Aa rfl (Ag (Ac)) ?_
  refine Aa rfl (B6 (Ac) Ab) ?_
  refine Ah <| Ae <| Aq (Ac) (decide_eq_true h0) ?_
  refine Af <| Ai fun ds => Aa rfl (Ag (Ar rfl <| Ac)) ?_
  refine Cf (Cg sz_26 (A8 rfl <| Ar rfl <| Ak rfl <| Ac) Ab (i := 0) rfl (.here) rfl (.here) ?_)
  refine Aa rfl (Ad (Ac)) ?_
  refine Ah <| Ae <| A4 <| A9 ?_
  refine Aw rfl (.one Cq (A8 rfl <| A0 rfl <| Ac) (Cell.own 0 rfl rfl) (.tmp (Ac) .nil)) ?_
  rw [cleanE_bad h0]
  exact ⟨_, rfl, Sl.nil⟩
end Go.Proofs.Ytccogmkhijgelaa
namespace Go.Proofs.Ytccogmkhijgelaa
open Go.RowKit
def plA : Plc := ⟨⟨#[97]⟩, 0⟩
def plB : Plc := ⟨⟨#[98]⟩, 1⟩
def plC : Plc := ⟨⟨#[99]⟩, 0⟩
def edQ1 : Edn := ⟨⟨#[113, 49]⟩, 1600, 1600, [1, 1, 1]⟩
def edQ2 : Edn := ⟨⟨#[113, 50]⟩, 1605, 1610, [2, 1, 1]⟩
def edF1 : Edn := ⟨⟨#[102, 49]⟩, 1623, 1623, [2, 2, 1]⟩
def edQ3 : Edn := ⟨⟨#[113, 51]⟩, 1608, 1630, [0, 1, 2]⟩
def stemX : Stm := ⟨[plA, plB, plC], [edQ1, edQ2, edF1, edQ3]⟩
def bestX : List Int := [-1, 0, 1, 0]
def starX : List Int := [-1, 0, 0, 0]
def lineX : List Int := [-1, 0, 1, 2]
def twoX : List Int := [-1, 0, 1, 1]
def backX : List Int := [1, -1, 1, 1]
theorem ev_p1 : apartE stemX 0 2 = ([0, 1], 0) := by kernel_rfl
theorem ev_p2 : apartE stemX 0 3 = ([2], 0) := by kernel_rfl
theorem ev_c1 : changesE stemX starX = (4, 0) := by kernel_rfl
theorem ev_c2 : changesE stemX lineX = (0, 9) := by kernel_rfl
theorem ev_c3 : changesE stemX bestX = (3, 0) := by kernel_rfl
theorem ev_c4 : changesE stemX backX = (0, 9) := by kernel_rfl
theorem ev_y1 : yearsE stemX twoX = ([(1600, 1600), (1605, 1610), (1623, 1623), (1608, 1630)], 0) := by kernel_rfl
theorem ev_b1 : bestTE stemX = (bestX, 3, 2, 0) := by kernel_rfl
theorem ev_f1 : firstTE stemX = ([0], 0) := by kernel_rfl
theorem ev_m1 : fromE stemX 1 2 = (1, 0) := by kernel_rfl
theorem ev_m2 : fromE stemX 0 3 = (0, 0) := by kernel_rfl
theorem ev_m3 : fromE stemX 2 3 = (2, 0) := by kernel_rfl
theorem ev_r1 : readE stemX bestX 3 0 = ([1], 0) := by kernel_rfl
theorem ev_r2 : readE stemX twoX 3 0 = ([2], 0) := by kernel_rfl
theorem ev_l1 : cleanE stemX = ([], 0) := by kernel_rfl
theorem ev_s1 : secE stemX starX 2 = (1, 1, 0) := by kernel_rfl
theorem ev_s2 : secE stemX bestX 2 = (0, 0, 8) := by kernel_rfl
end Go.Proofs.Ytccogmkhijgelaa
namespace Go.Proofs.Ytccogmkhijgelaa
open Go.RowKit
theorem zr_25 : ZeroT Try.prog 25 (.agg #[.slice none 0 0, .slice none 0 0]) := Cv (by kernel_rfl)
theorem bd_20 : Body Try.prog 20 := Bo (by kernel_rfl)
theorem bd_21 : Body Try.prog 21 := Bo (by kernel_rfl)
theorem bd_23 : Body Try.prog 23 := Bo (by kernel_rfl)
theorem bd_25 : Body Try.prog 25 := Bo (by kernel_rfl)
theorem bd_26 : Body Try.prog 26 := Bo (by kernel_rfl)
theorem bd_27 : Body Try.prog 27 := Bo (by kernel_rfl)
theorem bd_29 : Body Try.prog 29 := Bo (by kernel_rfl)
theorem bd_31 : Body Try.prog 31 := Bo (by kernel_rfl)
theorem bd_33 : Body Try.prog 33 := Bo (by kernel_rfl)
theorem bd_35 : Body Try.prog 35 := Bo (by kernel_rfl)
theorem bd_37 : Body Try.prog 37 := Bo (by kernel_rfl)
theorem bd_39 : Body Try.prog 39 := Bo (by kernel_rfl)
theorem bd_95 : Body Try.prog 95 := Bo (by kernel_rfl)
theorem bt_25 : BuildT Try.prog 25 [.slice none 0 0, .slice none 0 0] [(0, 1), (1, 1)] := buildT_of zr_25 (by kernel_rfl) (by decide)
theorem bt_60 : BuildT Try.prog 60 [.int .i64 0, .int .i64 0] [(0, 1), (1, 1)] := buildT_of zr_60 (by kernel_rfl) (by decide)
theorem bt_64 : BuildT Try.prog 64 [.string ⟨#[]⟩, .int .i64 0, .int .i64 0, .slice none 0 0] [(0, 1), (1, 2), (3, 1)] := buildT_of zr_64 (by kernel_rfl) (by decide)
theorem bt_70 : BuildT Try.prog 70 [.string ⟨#[]⟩, .int .i64 0] [(0, 1), (1, 1)] := buildT_of zr_70 (by kernel_rfl) (by decide)
theorem sz_25 : SizeT Try.prog 25 2 := Co (by kernel_rfl)
theorem ints_box3 {F : Heap} {b T : Nat} {x y z : Int} (h : F b = some (bx T [.int .i64 x, .int .i64 y, .int .i64 z])) : Ints F (.slice (some ⟨b, 0, none⟩) 3 3) [x, y, z] :=
 sl_box (xs := [x, y, z]) h rfl rfl (fun _ => rfl) (by decide)
theorem Dt {F : Heap} {b T : Nat} {x y z w : Int} (h : F b = some (bx T [.int .i64 x, .int .i64 y, .int .i64 z, .int .i64 w])) : Ints F (.slice (some ⟨b, 0, none⟩) 4 4) [x, y, z, w] :=
 sl_box (xs := [x, y, z, w]) h rfl rfl (fun _ => rfl) (by decide)
theorem plcX_box3 {F : Heap} {b T : Nat} (h : F b = some (bx T [.string ⟨#[97]⟩, .int .i64 0, .string ⟨#[98]⟩, .int .i64 1, .string ⟨#[99]⟩, .int .i64 0])) : Sl F (.slice (some ⟨b, 0, none⟩) 3 3) 2 Plc.enc [plA, plB, plC] :=
 sl_box (xs := [plA, plB, plC]) h rfl rfl (fun _ => rfl) (by decide)
theorem ednX_box4 {F : Heap} {b T : Nat} {v1 v2 v3 v4 : Value} (h : F b = some (bx T [.string ⟨#[113, 49]⟩, .int .i64 1600, .int .i64 1600, v1, .string ⟨#[113, 50]⟩, .int .i64 1605, .int .i64 1610, v2, .string ⟨#[102, 49]⟩, .int .i64 1623, .int .i64 1623, v3, .string ⟨#[113, 51]⟩, .int .i64 1608, .int .i64 1630, v4])) : Sl F (.slice (some ⟨b, 0, none⟩) 4 4) 4 edE [(v1, edQ1), (v2, edQ2), (v3, edF1), (v4, edQ3)] :=
 sl_box (xs := [(v1, edQ1), (v2, edQ2), (v3, edF1), (v4, edQ3)]) h rfl rfl (fun _ => rfl) (by decide)
theorem spansX_box4 {F : Heap} {b T : Nat} (h : F b = some (bx T [.int .i64 1600, .int .i64 1600, .int .i64 1605, .int .i64 1610, .int .i64 1623, .int .i64 1623, .int .i64 1608, .int .i64 1630])) : Sl F (.slice (some ⟨b, 0, none⟩) 4 4) 2 spanE [(1600, 1600), (1605, 1610), (1623, 1623), (1608, 1630)] :=
 sl_box (xs := ([(1600, 1600), (1605, 1610), (1623, 1623), (1608, 1630)] : List (Int × Int))) h rfl rfl (fun _ => rfl) (by decide)
set_option maxRecDepth 100000 in
theorem printed_ok {F : Heap} (nm : ByteArray) (lo hi a b c : Int) : Ok Try.prog 95 [.string nm, .int .i64 lo, .int .i64 hi, .int .i64 a, .int .i64 b, .int .i64 c].toArray F fun u F' => ∃ v, u = .agg #[.string nm, .int .i64 lo, .int .i64 hi, v] ∧ Ints F' v [a, b, c] := by
 refine Ok.intro Try.func95 rfl Try.ntmps95 rfl fun w0 => ?_
 refine Af <| Ai fun ds => Bb rfl (B2 zr_64 rfl fun b1 hb1 nb1 => ?_)
 refine Ah <| Ae <| Af <| Ai fun ds => Aa rfl (Ag (Ak rfl <| Aj rfl)) ?_
 refine Aa rfl (Ag (Ar rfl <| Aj rfl)) ?_
 refine Aa rfl (Ag (Ar rfl <| Ak rfl <| Aj rfl)) ?_
 refine Aa rfl (D0 bt_60 (.cons (Ak rfl <| Ac) rfl (.cons (Ac) rfl .nil)) (.cons rfl rfl (Nat.le_of_ble_eq_true rfl) (.cons (.here) .nil) (.cons rfl rfl (Nat.le_of_ble_eq_true rfl) (.cons (.next <| .here) .nil) .nil))) ?_
 refine Aa rfl (Ag (A0 rfl <| Ak rfl <| Aj rfl)) ?_
 refine Aa rfl (Ag (A0 rfl <| Ar rfl <| Aj rfl)) ?_
 refine Aa rfl (Ag (A0 rfl <| Ar rfl <| Ak rfl <| Aj rfl)) ?_
 refine Bb rfl (B1 Bm Cy rfl (.cons (Ar rfl <| Ac) (.cons (Ak rfl <| Ac) (.cons (Ac) .nil))) rfl rfl (by decide) (by simp [Value.oneCell']) fun b2 hb2 nb2 => ?_)
 refine Bu (i := 0) rfl hb2 .here fun F3 hF4 hz5 => ?_
 have hsl6 := ints_box3 hz5
 refine Aa rfl (D0 bt_64 (.cons (A0 rfl <| Ar rfl <| Ak rfl <| Ac) rfl (.cons (A0 rfl <| Ac) rfl (.cons (Ac) rfl .nil))) (.cons rfl rfl (Nat.le_of_ble_eq_true rfl) (.cons (.here) .nil) (.cons rfl rfl (Nat.le_of_ble_eq_true rfl) (.cons (.next <| .here) (.cons (.next <| .next <| .here) .nil)) (.cons rfl rfl (Nat.le_of_ble_eq_true rfl) (.cons (.next <| .next <| .next <| .here) .nil) .nil)))) ?_
 refine Cf (Cb sz_64 (A8 rfl <| Ak rfl <| Ac) (Ac) (i := 0) rfl rfl rfl rfl (by simp [Value.oneCell']) (.here) ?_)
 refine Ah <| Ae <| A4 <| Aw rfl (.agg agg_64 (A8 rfl <| Ak rfl <| Ac) rfl rfl (A2 0 rfl) .nil) ?_
 exact ⟨_, rfl, hsl6⟩
set_option maxRecDepth 100000 in
theorem stemX_ok {F : Heap} : Ok Try.prog 39 [].toArray F fun u F' => ∃ vp ve ps, u = .agg #[vp, ve] ∧ StmR F' vp ve ps stemX := by
 refine Ok.intro Try.func39 rfl Try.ntmps39 rfl fun w0 => ?_
 refine Af <| Ai fun ds => Bb rfl (B2 zr_25 rfl fun b1 hb1 nb1 => ?_)
 refine Ah <| Ae <| Af <| Ai fun ds => Aa rfl (D0 bt_70 (.cons Ab rfl .nil) (.cons rfl rfl (Nat.le_of_ble_eq_true rfl) (.cons (.here) .nil) .nil)) ?_
 refine Aa rfl (D0 bt_70 (.cons Ab rfl (.cons Ab rfl .nil)) (.cons rfl rfl (Nat.le_of_ble_eq_true rfl) (.cons (.here) .nil) (.cons rfl rfl (Nat.le_of_ble_eq_true rfl) (.cons (.next <| .here) .nil) .nil))) ?_
 refine Aa rfl (D0 bt_70 (.cons Ab rfl .nil) (.cons rfl rfl (Nat.le_of_ble_eq_true rfl) (.cons (.here) .nil) .nil)) ?_
 refine Bb rfl (x_buildN (offs := [(0, 2), (2, 2), (4, 2)]) (zl := [.string ⟨#[]⟩, .int .i64 0, .string ⟨#[]⟩, .int .i64 0, .string ⟨#[]⟩, .int .i64 0]) Dx zr_70 rfl (.cons (Ar rfl <| Ac) rfl (.cons (Ak rfl <| Ac) rfl (.cons (Ac) rfl .nil))) (by intro i p h; rcases i with _ | _ | _ | i <;> simp at h <;> subst h <;> rfl) (.cons rfl rfl (Nat.le_of_ble_eq_true rfl) (.cons (.here) (.cons (.next <| .here) .nil)) (.cons rfl rfl (Nat.le_of_ble_eq_true rfl) (.cons (.next <| .next <| .here) (.cons (.next <| .next <| .next <| .here) .nil)) (.cons rfl rfl (Nat.le_of_ble_eq_true rfl) (.cons (.next <| .next <| .next <| .next <| .here) (.cons (.next <| .next <| .next <| .next <| .next <| .here) .nil)) .nil))) (by decide) (by decide) fun b2 hb2 nb2 => ?_)
 refine Bu (i := 0) rfl hb2 .here fun F3 hF4 hz5 => ?_
 have hsl6 := plcX_box3 hz5
 refine Bb rfl (Ch bd_95 Ax (.cons Ab (.cons Ab (.cons Ab (.cons Ab (.cons Ab (.cons Ab .nil)))))) (printed_ok _ _ _ _ _ _) fun v7 F8 hr9 hF10 => ?_)
 replace hsl6 := hsl6.mono hF10
 obtain ⟨vq1, rfl, hq1⟩ := hr9
 refine Bb rfl (Ch bd_95 Ax (.cons Ab (.cons Ab (.cons Ab (.cons Ab (.cons Ab (.cons Ab .nil)))))) (printed_ok _ _ _ _ _ _) fun v11 F12 hr13 hF14 => ?_)
 replace hsl6 := hsl6.mono hF14
 replace hq1 := hq1.mono hF14
 obtain ⟨vq2, rfl, hq2⟩ := hr13
 refine Bb rfl (Ch bd_95 Ax (.cons Ab (.cons Ab (.cons Ab (.cons Ab (.cons Ab (.cons Ab .nil)))))) (printed_ok _ _ _ _ _ _) fun v15 F16 hr17 hF18 => ?_)
 replace hsl6 := hsl6.mono hF18
 replace hq1 := hq1.mono hF18
 replace hq2 := hq2.mono hF18
 obtain ⟨vf1, rfl, hf1⟩ := hr17
 refine Bb rfl (Ch bd_95 Ax (.cons Ab (.cons Ab (.cons Ab (.cons Ab (.cons Ab (.cons Ab .nil)))))) (printed_ok _ _ _ _ _ _) fun v19 F20 hr21 hF22 => ?_)
 replace hsl6 := hsl6.mono hF22
 replace hq1 := hq1.mono hF22
 replace hq2 := hq2.mono hF22
 replace hf1 := hf1.mono hF22
 obtain ⟨vq3, rfl, hq3⟩ := hr21
 refine Bb rfl (x_buildN (offs := [(0, 4), (4, 4), (8, 4), (12, 4)]) (zl := [.string ⟨#[]⟩, .int .i64 0, .int .i64 0, .slice none 0 0, .string ⟨#[]⟩, .int .i64 0, .int .i64 0, .slice none 0 0, .string ⟨#[]⟩, .int .i64 0, .int .i64 0, .slice none 0 0, .string ⟨#[]⟩, .int .i64 0, .int .i64 0, .slice none 0 0]) Cc zr_64 rfl (.cons (Ar rfl <| Ak rfl <| Ac) rfl (.cons (Ar rfl <| Ac) rfl (.cons (Ak rfl <| Ac) rfl (.cons (Ac) rfl .nil)))) (by intro i p h; rcases i with _ | _ | _ | _ | i <;> simp at h <;> subst h <;> rfl) (.cons rfl rfl (Nat.le_of_ble_eq_true rfl) (.cons (.here) (.cons (.next <| .here) (.cons (.next <| .next <| .here) (.cons (.next <| .next <| .next <| .here) .nil)))) (.cons rfl rfl (Nat.le_of_ble_eq_true rfl) (.cons (.next <| .next <| .next <| .next <| .here) (.cons (.next <| .next <| .next <| .next <| .next <| .here) (.cons (.next <| .next <| .next <| .next <| .next <| .next <| .here) (.cons (.next <| .next <| .next <| .next <| .next <| .next <| .next <| .here) .nil)))) (.cons rfl rfl (Nat.le_of_ble_eq_true rfl) (.cons (.next <| .next <| .next <| .next <| .next <| .next <| .next <| .next <| .here) (.cons (.next <| .next <| .next <| .next <| .next <| .next <| .next <| .next <| .next <| .here) (.cons (.next <| .next <| .next <| .next <| .next <| .next <| .next <| .next <| .next <| .next <| .here) (.cons (.next <| .next <| .next <| .next <| .next <| .next <| .next <| .next <| .next <| .next <| .next <| .here) .nil)))) (.cons rfl rfl (Nat.le_of_ble_eq_true rfl) (.cons (.next <| .next <| .next <| .next <| .next <| .next <| .next <| .next <| .next <| .next <| .next <| .next <| .here) (.cons (.next <| .next <| .next <| .next <| .next <| .next <| .next <| .next <| .next <| .next <| .next <| .next <| .next <| .here) (.cons (.next <| .next <| .next <| .next <| .next <| .next <| .next <| .next <| .next <| .next <| .next <| .next <| .next <| .next <| .here) (.cons (.next <| .next <| .next <| .next <| .next <| .next <| .next <| .next <| .next <| .next <| .next <| .next <| .next <| .next <| .next <| .here) .nil)))) .nil)))) (by decide) (by decide) fun b23 hb23 nb23 => ?_)
 refine Bu (i := 0) rfl hb23 .here fun F24 hF25 hz26 => ?_
 replace hsl6 := hsl6.mono hF25
 replace hq1 := hq1.mono hF25
 replace hq2 := hq2.mono hF25
 replace hf1 := hf1.mono hF25
 replace hq3 := hq3.mono hF25
 have hsl27 := ednX_box4 hz26
 refine Aa rfl (D0 bt_25 (.cons (A0 rfl <| Ak rfl <| Ac) rfl (.cons (Ac) rfl .nil)) (.cons rfl rfl (Nat.le_of_ble_eq_true rfl) (.cons (.here) .nil) (.cons rfl rfl (Nat.le_of_ble_eq_true rfl) (.cons (.next <| .here) .nil) .nil))) ?_
 refine Cf (Cb sz_25 (A8 rfl <| Ar rfl <| Ac) (Ac) (i := 0) rfl rfl rfl rfl (by simp [Value.oneCell']) (.here) ?_)
 refine Ah <| Ae <| A4 <| Aw rfl (.agg B8 (A8 rfl <| Ar rfl <| Ac) rfl rfl (A2 0 rfl) .nil) ?_
 refine ⟨_, _, [(vq1, edQ1), (vq2, edQ2), (vf1, edF1), (vq3, edQ3)], rfl, ⟨hsl6, hsl27, ?_, rfl⟩⟩
 intro p hp
 simp only [List.mem_cons, List.not_mem_nil, or_false] at hp
 rcases hp with rfl | rfl | rfl | rfl
 · exact hq1
 · exact hq2
 · exact hf1
 · exact hq3
set_option maxRecDepth 100000 in
theorem awake_ok {F : Heap} : Ok Try.prog 26 [].toArray F fun u _ => u = .bool true := by
 refine Ok.intro Try.func26 rfl Try.ntmps26 rfl fun w0 => ?_
 refine Af <| Ai fun ds => Aa rfl (Ad Ab) ?_
 refine Ah <| Ae <| Af <| Ai fun ds => Bb rfl (Ch bd_39 Ax .nil stemX_ok fun v1 F2 hr3 hF4 => ?_)
 obtain ⟨vp, ve, ps, rfl, hr⟩ := hr3
 refine Bb rfl (B2 zr_25 rfl fun b5 hb5 nb5 => ?_)
 refine Cf (Cb sz_25 (Ac) (Ak rfl <| Ac) (i := 0) rfl rfl rfl rfl hr.ones (.here) ?_)
 refine Ah <| Ae <| Af <| Ai fun ds => Bb rfl (B1 Bm Cy rfl (.cons Ab (.cons Ab (.cons Ab (.cons Ab .nil)))) rfl rfl (by decide) (by simp [Value.oneCell']) fun b6 hb6 nb6 => ?_)
 refine Bu (i := 0) rfl hb6 .here fun F7 hF8 hz9 => ?_
 replace hr := hr.mono hF8
 have hsl10 := Dt hz9
 refine Aa rfl (Ad (Ac)) ?_
 refine Ah <| Ae <| Af <| Ai fun ds => Aa rfl (A7 B8 (Ar rfl <| Ac) rfl rfl (A2 0 rfl)) ?_
 refine Bb rfl (Ch bd_18 Ax (.cons (Ac) (.cons Ab (.cons Ab .nil))) ((apart_top_ok hr 0 2).mono fun u F2 _ h => (by rw [ev_p1] at h; exact h : ∃ ws, u = .tuple #[ws, .int .i64 0] ∧ Nats F2 ws [0, 1])) fun v11 F12 hr13 hF14 => ?_)
 replace hr := hr.mono hF14
 replace hsl10 := hsl10.mono hF14
 obtain ⟨hq1_, rfl, hq1⟩ := hr13
 refine Aa rfl (Ag (Ac)) ?_
 refine Aa rfl (As (Ac) rfl) ?_
 refine Aa rfl (As (Ak rfl <| Ac) rfl) ?_
 refine Aa rfl (Ad (Ak rfl <| Ac)) ?_
 refine Aa rfl (Ad (Ak rfl <| Ac)) ?_
 refine Ah <| Ae <| Af <| Ai fun ds => Aa rfl (A7 B8 (A8 rfl <| Ak rfl <| Ac) rfl rfl (A2 0 rfl)) ?_
 refine Bb rfl (B1 Bm Cy rfl (.cons Ab (.cons Ab (.cons Ab (.cons Ab .nil)))) rfl rfl (by decide) (by simp [Value.oneCell']) fun b15 hb15 nb15 => ?_)
 refine Bu (i := 0) rfl hb15 .here fun F16 hF17 hz18 => ?_
 replace hr := hr.mono hF17
 replace hsl10 := hsl10.mono hF17
 replace hq1 := hq1.mono hF17
 have hsl19 := Dt hz18
 refine B0 rfl (Bc bd_21 Ax (.cons (Ak rfl <| Ac) (.cons (Ac) .nil)) (D4 hr (l := starX) hsl19) (fun _ _ h => h.trans (show _ = Value.tuple #[.int .i64 4, .int .i64 0] by unfold changesEV; rw [ev_c1]))) ?_
 refine Aa rfl (Ag (Ac)) ?_
 refine Aa rfl (As (Ac) rfl) ?_
 refine Aa rfl (As (Ak rfl <| Ac) rfl) ?_
 refine Aa rfl (Ad (Ak rfl <| Ac)) ?_
 refine Aa rfl (Ad (Ak rfl <| Ac)) ?_
 refine Ah <| Ae <| Af <| Ai fun ds => Aa rfl (A7 B8 (A6 rfl <| Ak rfl <| Ac) rfl rfl (A2 0 rfl)) ?_
 refine Bb rfl (B1 Bm Cy rfl (.cons Ab (.cons Ab (.cons Ab (.cons Ab .nil)))) rfl rfl (by decide) (by simp [Value.oneCell']) fun b20 hb20 nb20 => ?_)
 refine Bu (i := 0) rfl hb20 .here fun F21 hF22 hz23 => ?_
 replace hr := hr.mono hF22
 replace hsl10 := hsl10.mono hF22
 replace hq1 := hq1.mono hF22
 have hsl24 := Dt hz23
 refine B0 rfl (Bc bd_21 Ax (.cons (Ak rfl <| Ac) (.cons (Ac) .nil)) (D4 hr (l := lineX) hsl24) (fun _ _ h => h.trans (show _ = Value.tuple #[.int .i64 0, .int .i64 9] by unfold changesEV; rw [ev_c2]))) ?_
 refine Aa rfl (Ag (Ac)) ?_
 refine Aa rfl (As (Ac) rfl) ?_
 refine Aa rfl (As (Ak rfl <| Ac) rfl) ?_
 refine Aa rfl (Ad (Ak rfl <| Ac)) ?_
 refine Aa rfl (Ad (Ak rfl <| Ac)) ?_
 refine Ah <| Ae <| Af <| Ai fun ds => Aa rfl (A7 B8 (A6 rfl <| A8 rfl <| Ak rfl <| Ac) rfl rfl (A2 0 rfl)) ?_
 refine Bb rfl (B1 Bm Cy rfl (.cons Ab (.cons Ab (.cons Ab (.cons Ab .nil)))) rfl rfl (by decide) (by simp [Value.oneCell']) fun b25 hb25 nb25 => ?_)
 refine Bu (i := 0) rfl hb25 .here fun F26 hF27 hz28 => ?_
 replace hr := hr.mono hF27
 replace hsl10 := hsl10.mono hF27
 replace hq1 := hq1.mono hF27
 have hsl29 := Dt hz28
 refine Bb rfl (Ch bd_23 Ax (.cons (Ak rfl <| Ac) (.cons (Ac) .nil)) ((years_top_ok hr (l := twoX) hsl29).mono fun u F2 _ h => (by rw [ev_y1] at h; exact h : ∃ ws, u = .tuple #[ws, .int .i64 0] ∧ (fun F v l => Sl F v 2 spanE l) F2 ws [(1600, 1600), (1605, 1610), (1623, 1623), (1608, 1630)])) fun v30 F31 hr32 hF33 => ?_)
 replace hr := hr.mono hF33
 replace hsl10 := hsl10.mono hF33
 replace hq1 := hq1.mono hF33
 obtain ⟨hq2_, rfl, hq2⟩ := hr32
 refine Aa rfl (Ag (Ac)) ?_
 refine Aa rfl (As (Ac) rfl) ?_
 refine Aa rfl (As (Ak rfl <| Ac) rfl) ?_
 refine Aa rfl (Ad (Ak rfl <| Ac)) ?_
 refine Aa rfl (Ad (Ak rfl <| Ac)) ?_
 refine Ah <| Ae <| Af <| Ai fun ds => Aa rfl (A7 B8 (Bf rfl <| Ak rfl <| Ac) rfl rfl (A2 0 rfl)) ?_
 refine Bb rfl (Ch bd_27 Ax (.cons (Ac) .nil) ((best_top_ok hr).mono fun u F2 _ h => (by rw [ev_b1] at h; exact h : ∃ ws, u = .tuple #[ws, .int .i64 3, .int .i64 2, .int .i64 0] ∧ Ints F2 ws bestX)) fun v34 F35 hr36 hF37 => ?_)
 replace hr := hr.mono hF37
 replace hsl10 := hsl10.mono hF37
 replace hq1 := hq1.mono hF37
 replace hq2 := hq2.mono hF37
 obtain ⟨hq3_, rfl, hq3⟩ := hr36
 refine Aa rfl (Ag (Ac)) ?_
 refine Aa rfl (As (Ac) rfl) ?_
 refine Aa rfl (As (Ak rfl <| Ac) rfl) ?_
 refine Aa rfl (As (Ar rfl <| Ac) rfl) ?_
 refine Aa rfl (As (Ar rfl <| Ak rfl <| Ac) rfl) ?_
 refine Aa rfl (Ad (Ar rfl <| Ak rfl <| Ac)) ?_
 refine Aa rfl (Ad (Ar rfl <| Ak rfl <| Ac)) ?_
 refine Aa rfl (Ad (Ar rfl <| Ak rfl <| Ac)) ?_
 refine Aa rfl (Ad (Ar rfl <| Ak rfl <| Ac)) ?_
 refine Ah <| Ae <| Af <| Ai fun ds => Aa rfl (A7 B8 (Bf rfl <| A8 rfl <| A0 rfl <| Ac) rfl rfl (A2 0 rfl)) ?_
 refine Bb rfl (Ch bd_29 Ax (.cons (Ac) .nil) ((first_top_ok hr).mono fun u F2 _ h => (by rw [ev_f1] at h; exact h : ∃ ws, u = .tuple #[ws, .int .i64 0] ∧ Nats F2 ws [0])) fun v38 F39 hr40 hF41 => ?_)
 replace hr := hr.mono hF41
 replace hsl10 := hsl10.mono hF41
 replace hq1 := hq1.mono hF41
 replace hq2 := hq2.mono hF41
 replace hq3 := hq3.mono hF41
 obtain ⟨hq4_, rfl, hq4⟩ := hr40
 refine Aa rfl (Ag (Ac)) ?_
 refine Aa rfl (As (Ac) rfl) ?_
 refine Aa rfl (As (Ak rfl <| Ac) rfl) ?_
 refine Aa rfl (Ad (Ak rfl <| Ac)) ?_
 refine Aa rfl (Ad (Ak rfl <| Ac)) ?_
 refine Ah <| Ae <| Af <| Ai fun ds => Aa rfl (A7 B8 (Bf rfl <| A6 rfl <| Ar rfl <| Ak rfl <| Ac) rfl rfl (A2 0 rfl)) ?_
 refine B0 rfl (Bc bd_31 Ax (.cons (Ac) (.cons Ab (.cons Ab .nil))) (from_top_ok hr 1 2) (fun _ _ h => h.trans (show _ = Value.tuple #[.int .i64 1, .int .i64 0] by unfold fromV; rw [ev_m1]))) ?_
 refine Aa rfl (Ag (Ac)) ?_
 refine Aa rfl (As (Ac) rfl) ?_
 refine Aa rfl (As (Ak rfl <| Ac) rfl) ?_
 refine Aa rfl (Ad (Ak rfl <| Ac)) ?_
 refine Aa rfl (Ad (Ak rfl <| Ac)) ?_
 refine Ah <| Ae <| Af <| Ai fun ds => Aa rfl (A7 B8 (Bf rfl <| A6 rfl <| A8 rfl <| Ar rfl <| Ac) rfl rfl (A2 0 rfl)) ?_
 refine Aa rfl (Ag (Bf rfl <| A6 rfl <| A8 rfl <| Ak rfl <| Ac)) ?_
 refine Bb rfl (Ch bd_35 Ax (.cons (Ak rfl <| Ac) (.cons (Ac) (.cons Ab (.cons Ab .nil)))) ((reading_top_ok hr (l := bestX) hsl10 3 0).mono fun u F2 _ h => (by rw [ev_r1] at h; exact h : ∃ ws, u = .tuple #[ws, .int .i64 0] ∧ Ints F2 ws [1])) fun v42 F43 hr44 hF45 => ?_)
 replace hr := hr.mono hF45
 replace hsl10 := hsl10.mono hF45
 replace hq1 := hq1.mono hF45
 replace hq2 := hq2.mono hF45
 replace hq3 := hq3.mono hF45
 replace hq4 := hq4.mono hF45
 obtain ⟨hq5_, rfl, hq5⟩ := hr44
 refine Aa rfl (Ag (Ac)) ?_
 refine Aa rfl (As (Ac) rfl) ?_
 refine Aa rfl (As (Ak rfl <| Ac) rfl) ?_
 refine Aa rfl (Ad (Ak rfl <| Ac)) ?_
 refine Aa rfl (Ad (Ak rfl <| Ac)) ?_
 refine Ah <| Ae <| Af <| Ai fun ds => Aa rfl (A7 B8 (Bf rfl <| Bf rfl <| Ar rfl <| Ac) rfl rfl (A2 0 rfl)) ?_
 refine Bb rfl (Ch bd_33 Ax (.cons (Ac) .nil) ((clean_top_ok hr).mono fun u F2 _ h => (by rw [ev_l1] at h; exact h : ∃ ws, u = .tuple #[ws, .int .i64 0] ∧ Nats F2 ws [])) fun v46 F47 hr48 hF49 => ?_)
 replace hr := hr.mono hF49
 replace hsl10 := hsl10.mono hF49
 replace hq1 := hq1.mono hF49
 replace hq2 := hq2.mono hF49
 replace hq3 := hq3.mono hF49
 replace hq4 := hq4.mono hF49
 replace hq5 := hq5.mono hF49
 obtain ⟨hq6_, rfl, hq6⟩ := hr48
 refine Aa rfl (Ag (Ac)) ?_
 refine Aa rfl (As (Ac) rfl) ?_
 refine Aa rfl (As (Ak rfl <| Ac) rfl) ?_
 refine Aa rfl (Ad (Ak rfl <| Ac)) ?_
 refine Aa rfl (Ad (Ak rfl <| Ac)) ?_
 refine Ah <| Ae <| Af <| Ai fun ds => Aa rfl (A7 B8 (Bf rfl <| Bf rfl <| A8 rfl <| Ak rfl <| Ac) rfl rfl (A2 0 rfl)) ?_
 refine Bb rfl (B1 Bm Cy rfl (.cons Ab (.cons Ab (.cons Ab (.cons Ab .nil)))) rfl rfl (by decide) (by simp [Value.oneCell']) fun b50 hb50 nb50 => ?_)
 refine Bu (i := 0) rfl hb50 .here fun F51 hF52 hz53 => ?_
 replace hr := hr.mono hF52
 replace hsl10 := hsl10.mono hF52
 replace hq1 := hq1.mono hF52
 replace hq2 := hq2.mono hF52
 replace hq3 := hq3.mono hF52
 replace hq4 := hq4.mono hF52
 replace hq5 := hq5.mono hF52
 replace hq6 := hq6.mono hF52
 have hsl54 := Dt hz53
 refine B0 rfl (Bc bd_37 Ax (.cons (Ak rfl <| Ac) (.cons (Ac) (.cons Ab .nil))) (second_top_ok hr (l := starX) hsl54 2) (fun _ _ h => h.trans (show _ = Value.tuple #[.int .i64 1, .int .i64 1, .int .i64 0] by unfold secV; rw [ev_s1]))) ?_
 refine Aa rfl (Ag (Ac)) ?_
 refine Aa rfl (As (Ac) rfl) ?_
 refine Aa rfl (As (Ak rfl <| Ac) rfl) ?_
 refine Aa rfl (As (Ar rfl <| Ac) rfl) ?_
 refine Aa rfl (Ad (Ar rfl <| Ac)) ?_
 refine Aa rfl (Ad (Ar rfl <| Ac)) ?_
 refine Aa rfl (Ad (Ar rfl <| Ac)) ?_
 refine Ah <| Ae <| Af <| Ai fun ds => Aa rfl (A7 B8 (Bf rfl <| Bf rfl <| A6 rfl <| Ar rfl <| Ak rfl <| Ac) rfl rfl (A2 0 rfl)) ?_
 refine Aa rfl (Ag (Bf rfl <| Bf rfl <| A6 rfl <| Ar rfl <| Ac)) ?_
 refine B0 rfl (Bc bd_37 Ax (.cons (Ak rfl <| Ac) (.cons (Ac) (.cons Ab .nil))) (second_top_ok hr (l := bestX) hsl10 2) (fun _ _ h => h.trans (show _ = Value.tuple #[.int .i64 0, .int .i64 0, .int .i64 8] by unfold secV; rw [ev_s2]))) ?_
 refine Aa rfl (Ag (Ac)) ?_
 refine Aa rfl (As (Ac) rfl) ?_
 refine Aa rfl (As (Ak rfl <| Ac) rfl) ?_
 refine Aa rfl (As (Ar rfl <| Ac) rfl) ?_
 refine Aa rfl (Ad (Ar rfl <| Ac)) ?_
 refine Aa rfl (Ad (Ar rfl <| Ac)) ?_
 refine Aa rfl (Ad (Ar rfl <| Ac)) ?_
 refine Ah <| Ae <| Af <| Ai fun ds => Aa rfl (Ag (Bf rfl <| Bf rfl <| A6 rfl <| A0 rfl <| Ac)) ?_
 refine Aa rfl (Bx (Ac) Ab) ?_
 refine Aa rfl (Ag (Ac)) ?_
 refine At rfl rfl (Ac) (by first | rfl | decide) ?_
 refine Aa rfl (Ag (Bf rfl <| Bf rfl <| A8 rfl <| A0 rfl <| Ar rfl <| Ak rfl <| Ac)) ?_
 refine At rfl rfl (Ak rfl <| Ac) (by first | rfl | decide) ?_
 refine Aa rfl (Bx (Ac) Ab) ?_
 refine Aa rfl (A1 (Ar rfl <| Ac) (by first | rfl | decide) (Ac)) ?_
 refine Aa rfl (Ag (Ac)) ?_
 refine At rfl rfl (Ac) (by first | rfl | decide) ?_
 refine Aa rfl (Ag (Bf rfl <| Bf rfl <| Ar rfl <| Ak rfl <| Ac)) ?_
 refine At rfl rfl (Ak rfl <| Ac) (by first | rfl | decide) ?_
 refine Aa rfl (Bx (Ac) Ab) ?_
 refine Aa rfl (A1 (Ar rfl <| Ac) (by first | rfl | decide) (Ac)) ?_
 refine Aa rfl (Ag (Ac)) ?_
 refine At rfl rfl (Ac) (by first | rfl | decide) ?_
 refine Aa rfl (Ag (Bf rfl <| A6 rfl <| A8 rfl <| A0 rfl <| Ac)) ?_
 refine At rfl rfl (Ak rfl <| Ac) (by first | rfl | decide) ?_
 refine Aa rfl (Bx (Ac) Ab) ?_
 refine Aa rfl (A1 (Ar rfl <| Ac) (by first | rfl | decide) (Ac)) ?_
 refine Aa rfl (Ag (Ac)) ?_
 refine At rfl rfl (Ac) (by first | rfl | decide) ?_
 refine Aa rfl (Ag (Bf rfl <| A6 rfl <| A8 rfl <| Ak rfl <| Ac)) ?_
 refine At rfl rfl (Ak rfl <| Ac) (by first | rfl | decide) ?_
 refine Aa rfl (Bx (Ac) Ab) ?_
 refine Aa rfl (A1 (Ar rfl <| Ac) (by first | rfl | decide) (Ac)) ?_
 refine Aa rfl (Ag (Ac)) ?_
 refine At rfl rfl (Ac) (by first | rfl | decide) ?_
 refine Aa rfl (Ag (Bf rfl <| A6 rfl <| A0 rfl <| Ar rfl <| Ac)) ?_
 refine At rfl rfl (Ak rfl <| Ac) (by first | rfl | decide) ?_
 refine Aa rfl (Bx (Ac) Ab) ?_
 refine Aa rfl (A1 (Ar rfl <| Ac) (by first | rfl | decide) (Ac)) ?_
 refine Aa rfl (Ag (Ac)) ?_
 refine At rfl rfl (Ac) (by first | rfl | decide) ?_
 refine Aa rfl (Ag (Bf rfl <| A6 rfl <| Ar rfl <| Ac)) ?_
 refine At rfl rfl (Ak rfl <| Ac) (by first | rfl | decide) ?_
 refine Aa rfl (Bx (Ac) Ab) ?_
 refine Aa rfl (A1 (Ar rfl <| Ac) (by first | rfl | decide) (Ac)) ?_
 refine Aa rfl (Ag (Ac)) ?_
 refine At rfl rfl (Ac) (by first | rfl | decide) ?_
 refine Aa rfl (Ag (Bf rfl <| A8 rfl <| A0 rfl <| Ar rfl <| Ak rfl <| Ac)) ?_
 refine At rfl rfl (Ak rfl <| Ac) (by first | rfl | decide) ?_
 refine Aa rfl (Bx (Ac) Ab) ?_
 refine Aa rfl (A1 (Ar rfl <| Ac) (by first | rfl | decide) (Ac)) ?_
 refine Aa rfl (Ag (Ac)) ?_
 refine At rfl rfl (Ac) (by first | rfl | decide) ?_
 refine Aa rfl (Ag (Bf rfl <| A8 rfl <| Ak rfl <| Ac)) ?_
 refine At rfl rfl (Ak rfl <| Ac) (by first | rfl | decide) ?_
 refine Aa rfl (Bx (Ac) Ab) ?_
 refine Aa rfl (A1 (Ar rfl <| Ac) (by first | rfl | decide) (Ac)) ?_
 refine Aa rfl (Ag (Ac)) ?_
 refine At rfl rfl (Ac) (by first | rfl | decide) ?_
 refine Aa rfl (Ag (Bf rfl <| Bf rfl <| Bf rfl <| A0 rfl <| Ar rfl <| Ak rfl <| Ac)) ?_
 refine At rfl rfl (Ak rfl <| Ac) (by first | rfl | decide) ?_
 refine Aa rfl (Bx (Ac) Ab) ?_
 refine Aa rfl (A1 (Ar rfl <| Ac) (by first | rfl | decide) (Ac)) ?_
 refine Aa rfl (Ag (Ac)) ?_
 refine At rfl rfl (Ac) (by first | rfl | decide) ?_
 refine Aa rfl (Ag (Bf rfl <| A0 rfl <| Ar rfl <| Ak rfl <| Ac)) ?_
 refine At rfl rfl (Ak rfl <| Ac) (by first | rfl | decide) ?_
 refine Aa rfl (Bx (Ac) Ab) ?_
 refine Aa rfl (A1 (Ar rfl <| Ac) (by first | rfl | decide) (Ac)) ?_
 refine Aa rfl (Ag (Ac)) ?_
 refine At rfl rfl (Ac) (by first | rfl | decide) ?_
 refine Aa rfl (Ag (Bf rfl <| Bf rfl <| Bf rfl <| Bf rfl <| Ac)) ?_
 refine At rfl rfl (Ak rfl <| Ac) (by first | rfl | decide) ?_
 refine Bb rfl (B1 Bm Cy rfl (.cons Ab (.cons Ab .nil)) rfl rfl (by decide) (by simp [Value.oneCell']) fun b55 hb55 nb55 => ?_)
 refine Bu (i := 0) rfl hb55 .here fun F56 hF57 hz58 => ?_
 replace hsl10 := hsl10.mono hF57
 replace hq1 := hq1.mono hF57
 replace hq2 := hq2.mono hF57
 replace hq3 := hq3.mono hF57
 replace hq4 := hq4.mono hF57
 replace hq5 := hq5.mono hF57
 replace hq6 := hq6.mono hF57
 have hsl59 := ints_box2 hz58
 refine At rfl rfl (Ar rfl <| Ac) (by first | rfl | decide) ?_
 refine B0 rfl (Bc bd_20 Ax (.cons (Ak rfl <| Ac) (.cons (Ac) .nil)) (refInts_ok (Nats.ints hq1) hsl59) (fun _ _ h => h)) ?_
 refine Aa rfl (A1 (Ar rfl <| Ak rfl <| Ac) (by first | rfl | decide) (Ac)) ?_
 refine Aa rfl (Ag (Ac)) ?_
 refine At rfl rfl (Ac) (by first | rfl | decide) ?_
 refine Aa rfl (Ag (Bf rfl <| Bf rfl <| Bf rfl <| A6 rfl <| A8 rfl <| A0 rfl <| Ak rfl <| Ac)) ?_
 refine At rfl rfl (Ak rfl <| Ac) (by first | rfl | decide) ?_
 refine Aa rfl (Bx (Ac) Ab) ?_
 refine Aa rfl (A1 (Ar rfl <| Ac) (by first | rfl | decide) (Ac)) ?_
 refine Aa rfl (Ag (Ac)) ?_
 refine At rfl rfl (Ac) (by first | rfl | decide) ?_
 refine Aa rfl (Ag (Bf rfl <| Bf rfl <| Bf rfl <| A6 rfl <| Ak rfl <| Ac)) ?_
 refine At rfl rfl (Ak rfl <| Ac) (by first | rfl | decide) ?_
 refine Aa rfl (D0 bt_60 (.cons Ab rfl (.cons Ab rfl .nil)) (.cons rfl rfl (Nat.le_of_ble_eq_true rfl) (.cons (.here) .nil) (.cons rfl rfl (Nat.le_of_ble_eq_true rfl) (.cons (.next <| .here) .nil) .nil))) ?_
 refine At rfl rfl (Ar rfl <| Ac) (by first | rfl | decide) ?_
 refine Aa rfl (D0 bt_60 (.cons Ab rfl (.cons Ab rfl .nil)) (.cons rfl rfl (Nat.le_of_ble_eq_true rfl) (.cons (.here) .nil) (.cons rfl rfl (Nat.le_of_ble_eq_true rfl) (.cons (.next <| .here) .nil) .nil))) ?_
 refine At rfl rfl (Ar rfl <| Ak rfl <| Ac) (by first | rfl | decide) ?_
 refine Aa rfl (D0 bt_60 (.cons Ab rfl (.cons Ab rfl .nil)) (.cons rfl rfl (Nat.le_of_ble_eq_true rfl) (.cons (.here) .nil) (.cons rfl rfl (Nat.le_of_ble_eq_true rfl) (.cons (.next <| .here) .nil) .nil))) ?_
 refine At rfl rfl (A0 rfl <| Ac) (by first | rfl | decide) ?_
 refine Aa rfl (D0 bt_60 (.cons Ab rfl (.cons Ab rfl .nil)) (.cons rfl rfl (Nat.le_of_ble_eq_true rfl) (.cons (.here) .nil) (.cons rfl rfl (Nat.le_of_ble_eq_true rfl) (.cons (.next <| .here) .nil) .nil))) ?_
 refine At rfl rfl (A0 rfl <| Ak rfl <| Ac) (by first | rfl | decide) ?_
 refine Bb rfl (x_buildN (offs := [(0, 2), (2, 2), (4, 2), (6, 2)]) (zl := [.int .i64 0, .int .i64 0, .int .i64 0, .int .i64 0, .int .i64 0, .int .i64 0, .int .i64 0, .int .i64 0]) Dw zr_60 rfl (.cons (Ar rfl <| Ak rfl <| Ac) rfl (.cons (Ar rfl <| Ac) rfl (.cons (Ak rfl <| Ac) rfl (.cons (Ac) rfl .nil)))) (by intro i p h; rcases i with _ | _ | _ | _ | i <;> simp at h <;> subst h <;> rfl) (.cons rfl rfl (Nat.le_of_ble_eq_true rfl) (.cons (.here) (.cons (.next <| .here) .nil)) (.cons rfl rfl (Nat.le_of_ble_eq_true rfl) (.cons (.next <| .next <| .here) (.cons (.next <| .next <| .next <| .here) .nil)) (.cons rfl rfl (Nat.le_of_ble_eq_true rfl) (.cons (.next <| .next <| .next <| .next <| .here) (.cons (.next <| .next <| .next <| .next <| .next <| .here) .nil)) (.cons rfl rfl (Nat.le_of_ble_eq_true rfl) (.cons (.next <| .next <| .next <| .next <| .next <| .next <| .here) (.cons (.next <| .next <| .next <| .next <| .next <| .next <| .next <| .here) .nil)) .nil)))) (by decide) (by decide) fun b60 hb60 nb60 => ?_)
 refine Bu (i := 0) rfl hb60 .here fun F61 hF62 hz63 => ?_
 replace hsl10 := hsl10.mono hF62
 replace hq2 := hq2.mono hF62
 replace hq3 := hq3.mono hF62
 replace hq4 := hq4.mono hF62
 replace hq5 := hq5.mono hF62
 replace hq6 := hq6.mono hF62
 have hsl64 := spansX_box4 hz63
 refine At rfl rfl (A0 rfl <| Ar rfl <| Ac) (by first | rfl | decide) ?_
 refine B0 rfl (Bc bd_25 Ax (.cons (A0 rfl <| Ak rfl <| Ac) (.cons (Ac) .nil)) (refSpans_ok hq2 hsl64) (fun _ _ h => h)) ?_
 refine Aa rfl (A1 (A0 rfl <| Ar rfl <| Ak rfl <| Ac) (by first | rfl | decide) (Ac)) ?_
 refine Aa rfl (Ag (Ac)) ?_
 refine At rfl rfl (Ac) (by first | rfl | decide) ?_
 refine Aa rfl (Ag (Bf rfl <| Bf rfl <| Bf rfl <| A6 rfl <| Ak rfl <| Ac)) ?_
 refine At rfl rfl (Ak rfl <| Ac) (by first | rfl | decide) ?_
 refine Aa rfl (Ag (Bf rfl <| Bf rfl <| Bf rfl <| Bf rfl <| A6 rfl <| A8 rfl <| Ak rfl <| Ac)) ?_
 refine At rfl rfl (Ar rfl <| Ac) (by first | rfl | decide) ?_
 refine B0 rfl (Bc bd_20 Ax (.cons (Ak rfl <| Ac) (.cons (Ac) .nil)) (refInts_ok hq3 hsl10) (fun _ _ h => h)) ?_
 refine Aa rfl (A1 (Ar rfl <| Ak rfl <| Ac) (by first | rfl | decide) (Ac)) ?_
 refine Aa rfl (Ag (Ac)) ?_
 refine At rfl rfl (Ac) (by first | rfl | decide) ?_
 refine Aa rfl (Ag (Bf rfl <| Bf rfl <| Bf rfl <| A6 rfl <| A0 rfl <| Ak rfl <| Ac)) ?_
 refine At rfl rfl (Ak rfl <| Ac) (by first | rfl | decide) ?_
 refine Aa rfl (Bx (Ac) Ab) ?_
 refine Aa rfl (A1 (Ar rfl <| Ac) (by first | rfl | decide) (Ac)) ?_
 refine Aa rfl (Ag (Ac)) ?_
 refine At rfl rfl (Ac) (by first | rfl | decide) ?_
 refine Aa rfl (Ag (Bf rfl <| Bf rfl <| Bf rfl <| A6 rfl <| A8 rfl <| Ac)) ?_
 refine At rfl rfl (Ak rfl <| Ac) (by first | rfl | decide) ?_
 refine Aa rfl (Bx (Ac) Ab) ?_
 refine Aa rfl (A1 (Ar rfl <| Ac) (by first | rfl | decide) (Ac)) ?_
 refine Aa rfl (Ag (Ac)) ?_
 refine At rfl rfl (Ac) (by first | rfl | decide) ?_
 refine Aa rfl (Ag (Bf rfl <| Bf rfl <| Bf rfl <| A6 rfl <| A0 rfl <| Ak rfl <| Ac)) ?_
 refine At rfl rfl (Ak rfl <| Ac) (by first | rfl | decide) ?_
 refine Bb rfl (B1 Bm Cy rfl (.cons Ab .nil) rfl rfl (by decide) (by simp [Value.oneCell']) fun b65 hb65 nb65 => ?_)
 refine Bu (i := 0) rfl hb65 .here fun F66 hF67 hz68 => ?_
 replace hq4 := hq4.mono hF67
 replace hq5 := hq5.mono hF67
 replace hq6 := hq6.mono hF67
 have hsl69 := Cn hz68
 refine At rfl rfl (Ar rfl <| Ac) (by first | rfl | decide) ?_
 refine B0 rfl (Bc bd_20 Ax (.cons (Ak rfl <| Ac) (.cons (Ac) .nil)) (refInts_ok (Nats.ints hq4) hsl69) (fun _ _ h => h)) ?_
 refine Aa rfl (A1 (Ar rfl <| Ak rfl <| Ac) (by first | rfl | decide) (Ac)) ?_
 refine Aa rfl (Ag (Ac)) ?_
 refine At rfl rfl (Ac) (by first | rfl | decide) ?_
 refine Aa rfl (Ag (Bf rfl <| Bf rfl <| Bf rfl <| A6 rfl <| Ar rfl <| Ak rfl <| Ac)) ?_
 refine At rfl rfl (Ak rfl <| Ac) (by first | rfl | decide) ?_
 refine Aa rfl (Bx (Ac) Ab) ?_
 refine Aa rfl (A1 (Ar rfl <| Ac) (by first | rfl | decide) (Ac)) ?_
 refine Aa rfl (Ag (Ac)) ?_
 refine At rfl rfl (Ac) (by first | rfl | decide) ?_
 refine Aa rfl (Ag (Bf rfl <| Bf rfl <| Bf rfl <| A8 rfl <| A0 rfl <| Ar rfl <| Ak rfl <| Ac)) ?_
 refine At rfl rfl (Ak rfl <| Ac) (by first | rfl | decide) ?_
 refine Bb rfl (B1 Bm Cy rfl (.cons Ab .nil) rfl rfl (by decide) (by simp [Value.oneCell']) fun b70 hb70 nb70 => ?_)
 refine Bu (i := 0) rfl hb70 .here fun F71 hF72 hz73 => ?_
 replace hq5 := hq5.mono hF72
 replace hq6 := hq6.mono hF72
 have hsl74 := Cn hz73
 refine At rfl rfl (Ar rfl <| Ac) (by first | rfl | decide) ?_
 refine B0 rfl (Bc bd_20 Ax (.cons (Ak rfl <| Ac) (.cons (Ac) .nil)) (refInts_ok hq5 hsl74) (fun _ _ h => h)) ?_
 refine Aa rfl (A1 (Ar rfl <| Ak rfl <| Ac) (by first | rfl | decide) (Ac)) ?_
 refine Aa rfl (Ag (Ac)) ?_
 refine At rfl rfl (Ac) (by first | rfl | decide) ?_
 refine Aa rfl (Ag (Bf rfl <| Bf rfl <| Bf rfl <| A8 rfl <| A0 rfl <| Ak rfl <| Ac)) ?_
 refine At rfl rfl (Ak rfl <| Ac) (by first | rfl | decide) ?_
 refine Aa rfl (Bp Bm (Ac) hq6.plain) ?_
 refine At rfl rfl (Ar rfl <| Ac) (by first | rfl | decide) ?_
 refine Aa rfl (Bx (Ac) Ab) ?_
 refine Aa rfl (A1 (Ar rfl <| Ak rfl <| Ac) (by first | rfl | decide) (Ac)) ?_
 refine Aa rfl (Ag (Ac)) ?_
 refine At rfl rfl (Ac) (by first | rfl | decide) ?_
 refine Aa rfl (Ag (Bf rfl <| Bf rfl <| Bf rfl <| A8 rfl <| Ak rfl <| Ac)) ?_
 refine At rfl rfl (Ak rfl <| Ac) (by first | rfl | decide) ?_
 refine Aa rfl (Bx (Ac) Ab) ?_
 refine Aa rfl (A1 (Ar rfl <| Ac) (by first | rfl | decide) (Ac)) ?_
 refine Aa rfl (Ag (Ac)) ?_
 refine At rfl rfl (Ac) (by first | rfl | decide) ?_
 refine Aa rfl (Ag (Bf rfl <| Bf rfl <| Bf rfl <| A8 rfl <| A0 rfl <| Ac)) ?_
 refine At rfl rfl (Ak rfl <| Ac) (by first | rfl | decide) ?_
 refine Aa rfl (Bx (Ac) Ab) ?_
 refine Aa rfl (A1 (Ar rfl <| Ac) (by first | rfl | decide) (Ac)) ?_
 refine Aa rfl (Ad (Ac)) ?_
 refine Ah <| Ae <| A4 <| Aw rfl (.tmp (Ac) .nil) ?_
 show _ = _
 first | rfl | decide
set_option maxRecDepth 100000 in
theorem known_ok {F : Heap} : Ok Try.prog 6 [].toArray F fun u _ => u = .bool true := by
 refine Ok.intro Try.func6 rfl Try.ntmps6 rfl fun w0 => ?_
 refine Af <| Ai fun ds => Aa rfl (Ad Ab) ?_
 refine Ah <| Ae <| Af <| Ai fun ds => Bb rfl (Ch bd_39 Ax .nil stemX_ok fun v1 F2 hr3 hF4 => ?_)
 obtain ⟨vp, ve, ps, rfl, hr⟩ := hr3
 refine Bb rfl (B2 zr_25 rfl fun b5 hb5 nb5 => ?_)
 refine Cf (Cb sz_25 (Ac) (Ak rfl <| Ac) (i := 0) rfl rfl rfl rfl hr.ones (.here) ?_)
 refine Ah <| Ae <| Af <| Ai fun ds => Aa rfl (A7 B8 (Ac) rfl rfl (A2 0 rfl)) ?_
 refine Bb rfl (Ch bd_18 Ax (.cons (Ac) (.cons Ab (.cons Ab .nil))) ((apart_top_ok hr 0 3).mono fun u F2 _ h => (by rw [ev_p2] at h; exact h : ∃ ws, u = .tuple #[ws, .int .i64 0] ∧ Nats F2 ws [2])) fun v6 F7 hr8 hF9 => ?_)
 replace hr := hr.mono hF9
 obtain ⟨hq1_, rfl, hq1⟩ := hr8
 refine Aa rfl (Ag (Ac)) ?_
 refine Aa rfl (As (Ac) rfl) ?_
 refine Aa rfl (As (Ak rfl <| Ac) rfl) ?_
 refine Aa rfl (Ad (Ak rfl <| Ac)) ?_
 refine Aa rfl (Ad (Ak rfl <| Ac)) ?_
 refine Ah <| Ae <| Af <| Ai fun ds => Aa rfl (A7 B8 (A0 rfl <| Ar rfl <| Ak rfl <| Ac) rfl rfl (A2 0 rfl)) ?_
 refine Bb rfl (B1 Bm Cy rfl (.cons Ab (.cons Ab (.cons Ab (.cons Ab .nil)))) rfl rfl (by decide) (by simp [Value.oneCell']) fun b10 hb10 nb10 => ?_)
 refine Bu (i := 0) rfl hb10 .here fun F11 hF12 hz13 => ?_
 replace hr := hr.mono hF12
 replace hq1 := hq1.mono hF12
 have hsl14 := Dt hz13
 refine B0 rfl (Bc bd_21 Ax (.cons (Ak rfl <| Ac) (.cons (Ac) .nil)) (D4 hr (l := bestX) hsl14) (fun _ _ h => h.trans (show _ = Value.tuple #[.int .i64 3, .int .i64 0] by unfold changesEV; rw [ev_c3]))) ?_
 refine Aa rfl (Ag (Ac)) ?_
 refine Aa rfl (As (Ac) rfl) ?_
 refine Aa rfl (As (Ak rfl <| Ac) rfl) ?_
 refine Aa rfl (Ad (Ak rfl <| Ac)) ?_
 refine Aa rfl (Ad (Ak rfl <| Ac)) ?_
 refine Ah <| Ae <| Af <| Ai fun ds => Aa rfl (A7 B8 (A8 rfl <| A0 rfl <| Ar rfl <| Ak rfl <| Ac) rfl rfl (A2 0 rfl)) ?_
 refine Bb rfl (B1 Bm Cy rfl (.cons Ab (.cons Ab (.cons Ab (.cons Ab .nil)))) rfl rfl (by decide) (by simp [Value.oneCell']) fun b15 hb15 nb15 => ?_)
 refine Bu (i := 0) rfl hb15 .here fun F16 hF17 hz18 => ?_
 replace hr := hr.mono hF17
 replace hq1 := hq1.mono hF17
 have hsl19 := Dt hz18
 refine B0 rfl (Bc bd_21 Ax (.cons (Ak rfl <| Ac) (.cons (Ac) .nil)) (D4 hr (l := backX) hsl19) (fun _ _ h => h.trans (show _ = Value.tuple #[.int .i64 0, .int .i64 9] by unfold changesEV; rw [ev_c4]))) ?_
 refine Aa rfl (Ag (Ac)) ?_
 refine Aa rfl (As (Ac) rfl) ?_
 refine Aa rfl (As (Ak rfl <| Ac) rfl) ?_
 refine Aa rfl (Ad (Ak rfl <| Ac)) ?_
 refine Aa rfl (Ad (Ak rfl <| Ac)) ?_
 refine Ah <| Ae <| Af <| Ai fun ds => Aa rfl (A7 B8 (A6 rfl <| A0 rfl <| Ar rfl <| Ak rfl <| Ac) rfl rfl (A2 0 rfl)) ?_
 refine B0 rfl (Bc bd_31 Ax (.cons (Ac) (.cons Ab (.cons Ab .nil))) (from_top_ok hr 0 3) (fun _ _ h => h.trans (show _ = Value.tuple #[.int .i64 0, .int .i64 0] by unfold fromV; rw [ev_m2]))) ?_
 refine Aa rfl (Ag (Ac)) ?_
 refine Aa rfl (As (Ac) rfl) ?_
 refine Aa rfl (As (Ak rfl <| Ac) rfl) ?_
 refine Aa rfl (Ad (Ak rfl <| Ac)) ?_
 refine Aa rfl (Ad (Ak rfl <| Ac)) ?_
 refine Ah <| Ae <| Af <| Ai fun ds => Aa rfl (A7 B8 (A6 rfl <| A8 rfl <| A0 rfl <| Ar rfl <| Ac) rfl rfl (A2 0 rfl)) ?_
 refine B0 rfl (Bc bd_31 Ax (.cons (Ac) (.cons Ab (.cons Ab .nil))) (from_top_ok hr 2 3) (fun _ _ h => h.trans (show _ = Value.tuple #[.int .i64 2, .int .i64 0] by unfold fromV; rw [ev_m3]))) ?_
 refine Aa rfl (Ag (Ac)) ?_
 refine Aa rfl (As (Ac) rfl) ?_
 refine Aa rfl (As (Ak rfl <| Ac) rfl) ?_
 refine Aa rfl (Ad (Ak rfl <| Ac)) ?_
 refine Aa rfl (Ad (Ak rfl <| Ac)) ?_
 refine Ah <| Ae <| Af <| Ai fun ds => Aa rfl (A7 B8 (Bf rfl <| A0 rfl <| Ak rfl <| Ac) rfl rfl (A2 0 rfl)) ?_
 refine Bb rfl (B1 Bm Cy rfl (.cons Ab (.cons Ab (.cons Ab (.cons Ab .nil)))) rfl rfl (by decide) (by simp [Value.oneCell']) fun b20 hb20 nb20 => ?_)
 refine Bu (i := 0) rfl hb20 .here fun F21 hF22 hz23 => ?_
 replace hr := hr.mono hF22
 replace hq1 := hq1.mono hF22
 have hsl24 := Dt hz23
 refine Bb rfl (Ch bd_35 Ax (.cons (Ak rfl <| Ac) (.cons (Ac) (.cons Ab (.cons Ab .nil)))) ((reading_top_ok hr (l := twoX) hsl24 3 0).mono fun u F2 _ h => (by rw [ev_r2] at h; exact h : ∃ ws, u = .tuple #[ws, .int .i64 0] ∧ Ints F2 ws [2])) fun v25 F26 hr27 hF28 => ?_)
 replace hq1 := hq1.mono hF28
 obtain ⟨hq5_, rfl, hq5⟩ := hr27
 refine Aa rfl (Ag (Ac)) ?_
 refine Aa rfl (As (Ac) rfl) ?_
 refine Aa rfl (As (Ak rfl <| Ac) rfl) ?_
 refine Aa rfl (Ad (Ak rfl <| Ac)) ?_
 refine Aa rfl (Ad (Ak rfl <| Ac)) ?_
 refine Ah <| Ae <| Af <| Ai fun ds => Aa rfl (Ag (Bf rfl <| A0 rfl <| Ar rfl <| Ac)) ?_
 refine Aa rfl (Bx (Ac) Ab) ?_
 refine Aa rfl (Ag (Ac)) ?_
 refine At rfl rfl (Ac) (by first | rfl | decide) ?_
 refine Aa rfl (Ag (Bf rfl <| Ak rfl <| Ac)) ?_
 refine At rfl rfl (Ak rfl <| Ac) (by first | rfl | decide) ?_
 refine Aa rfl (Bx (Ac) Ab) ?_
 refine Aa rfl (A1 (Ar rfl <| Ac) (by first | rfl | decide) (Ac)) ?_
 refine Aa rfl (Ag (Ac)) ?_
 refine At rfl rfl (Ac) (by first | rfl | decide) ?_
 refine Aa rfl (Ag (A6 rfl <| A0 rfl <| Ar rfl <| Ac)) ?_
 refine At rfl rfl (Ak rfl <| Ac) (by first | rfl | decide) ?_
 refine Aa rfl (Bx (Ac) Ab) ?_
 refine Aa rfl (A1 (Ar rfl <| Ac) (by first | rfl | decide) (Ac)) ?_
 refine Aa rfl (Ag (Ac)) ?_
 refine At rfl rfl (Ac) (by first | rfl | decide) ?_
 refine Aa rfl (Ag (A6 rfl <| Ar rfl <| Ak rfl <| Ac)) ?_
 refine At rfl rfl (Ak rfl <| Ac) (by first | rfl | decide) ?_
 refine Aa rfl (Bx (Ac) Ab) ?_
 refine Aa rfl (A1 (Ar rfl <| Ac) (by first | rfl | decide) (Ac)) ?_
 refine Aa rfl (Ag (Ac)) ?_
 refine At rfl rfl (Ac) (by first | rfl | decide) ?_
 refine Aa rfl (Ag (A8 rfl <| A0 rfl <| Ar rfl <| Ak rfl <| Ac)) ?_
 refine At rfl rfl (Ak rfl <| Ac) (by first | rfl | decide) ?_
 refine Aa rfl (Bx (Ac) Ab) ?_
 refine Aa rfl (A1 (Ar rfl <| Ac) (by first | rfl | decide) (Ac)) ?_
 refine Aa rfl (Ag (Ac)) ?_
 refine At rfl rfl (Ac) (by first | rfl | decide) ?_
 refine Aa rfl (Ag (Bf rfl <| A8 rfl <| Ak rfl <| Ac)) ?_
 refine At rfl rfl (Ak rfl <| Ac) (by first | rfl | decide) ?_
 refine Aa rfl (Bx (Ac) Ab) ?_
 refine Aa rfl (A1 (Ar rfl <| Ac) (by first | rfl | decide) (Ac)) ?_
 refine Aa rfl (Ag (Ac)) ?_
 refine At rfl rfl (Ac) (by first | rfl | decide) ?_
 refine Aa rfl (Ag (Bf rfl <| A6 rfl <| A8 rfl <| A0 rfl <| Ar rfl <| Ac)) ?_
 refine At rfl rfl (Ak rfl <| Ac) (by first | rfl | decide) ?_
 refine Bb rfl (B1 Bm Cy rfl (.cons Ab .nil) rfl rfl (by decide) (by simp [Value.oneCell']) fun b29 hb29 nb29 => ?_)
 refine Bu (i := 0) rfl hb29 .here fun F30 hF31 hz32 => ?_
 replace hq1 := hq1.mono hF31
 replace hq5 := hq5.mono hF31
 have hsl33 := Cn hz32
 refine At rfl rfl (Ar rfl <| Ac) (by first | rfl | decide) ?_
 refine B0 rfl (Bc bd_20 Ax (.cons (Ak rfl <| Ac) (.cons (Ac) .nil)) (refInts_ok (Nats.ints hq1) hsl33) (fun _ _ h => h)) ?_
 refine Aa rfl (A1 (Ar rfl <| Ak rfl <| Ac) (by first | rfl | decide) (Ac)) ?_
 refine Aa rfl (Ag (Ac)) ?_
 refine At rfl rfl (Ac) (by first | rfl | decide) ?_
 refine Aa rfl (Ag (Bf rfl <| A6 rfl <| A8 rfl <| Ar rfl <| Ak rfl <| Ac)) ?_
 refine At rfl rfl (Ak rfl <| Ac) (by first | rfl | decide) ?_
 refine Aa rfl (Bx (Ac) Ab) ?_
 refine Aa rfl (A1 (Ar rfl <| Ac) (by first | rfl | decide) (Ac)) ?_
 refine Aa rfl (Ag (Ac)) ?_
 refine At rfl rfl (Ac) (by first | rfl | decide) ?_
 refine Aa rfl (Ag (Bf rfl <| A6 rfl <| Ac)) ?_
 refine At rfl rfl (Ak rfl <| Ac) (by first | rfl | decide) ?_
 refine Aa rfl (Bx (Ac) Ab) ?_
 refine Aa rfl (A1 (Ar rfl <| Ac) (by first | rfl | decide) (Ac)) ?_
 refine Aa rfl (Ag (Ac)) ?_
 refine At rfl rfl (Ac) (by first | rfl | decide) ?_
 refine Aa rfl (Ag (Bf rfl <| A8 rfl <| A0 rfl <| Ak rfl <| Ac)) ?_
 refine At rfl rfl (Ak rfl <| Ac) (by first | rfl | decide) ?_
 refine Aa rfl (Bx (Ac) Ab) ?_
 refine Aa rfl (A1 (Ar rfl <| Ac) (by first | rfl | decide) (Ac)) ?_
 refine Aa rfl (Ag (Ac)) ?_
 refine At rfl rfl (Ac) (by first | rfl | decide) ?_
 refine Aa rfl (Ag (Bf rfl <| A8 rfl <| Ak rfl <| Ac)) ?_
 refine At rfl rfl (Ak rfl <| Ac) (by first | rfl | decide) ?_
 refine Bb rfl (B1 Bm Cy rfl (.cons Ab .nil) rfl rfl (by decide) (by simp [Value.oneCell']) fun b34 hb34 nb34 => ?_)
 refine Bu (i := 0) rfl hb34 .here fun F35 hF36 hz37 => ?_
 replace hq5 := hq5.mono hF36
 have hsl38 := Cn hz37
 refine At rfl rfl (Ar rfl <| Ac) (by first | rfl | decide) ?_
 refine B0 rfl (Bc bd_20 Ax (.cons (Ak rfl <| Ac) (.cons (Ac) .nil)) (refInts_ok hq5 hsl38) (fun _ _ h => h)) ?_
 refine Aa rfl (A1 (Ar rfl <| Ak rfl <| Ac) (by first | rfl | decide) (Ac)) ?_
 refine Aa rfl (Ag (Ac)) ?_
 refine At rfl rfl (Ac) (by first | rfl | decide) ?_
 refine B0 rfl (Bc bd_26 Ax .nil awake_ok (fun _ _ h => h)) ?_
 refine Aa rfl (A1 (Ak rfl <| Ac) (by first | rfl | decide) (Ac)) ?_
 refine Aa rfl (Ad (Ac)) ?_
 refine Ah <| Ae <| A4 <| Aw rfl (.tmp (Ac) .nil) ?_
 show _ = _
 first | rfl | decide
end Go.Proofs.Ytccogmkhijgelaa
namespace Go.Proofs.Ytccogmkhijgelaa
open Go.ChangeShapes Go.WideShapes Go.ChangeAt Go.RowKit
set_option maxRecDepth 100000 in
theorem stemKnownLifted (os : Os) (started : os.Started) (H : Type) (enc : TypeId × Value → H) :
   ReturnsInHanded {} Try.checked os 6 .any (Rows.stemKnownSpec.pre6 enc Try.prog Try.f6 Rows.stemKnownRow.domain false) (Rows.stemKnownSpec.post enc Try.prog Try.f6 false true false false) := by
 refine returnsInHanded_of_change_sized (C := Try.checked) ownKnob0 started (by kernel_rfl) Try.func6
   (ChangeSpec.witness6 (enc := enc) (C := Try.checked) false ⟨#[], #[], []⟩ 8 (by kernel_rfl) (by kernel_rfl) (by kernel_rfl) (by kernel_rfl)) ?_
 intro W base args ds gs before hval0 hW hcnd hsz _
 have hval : ∀ (j : Nat) t v, Try.f6.params[j]? = some t → args[j]? = some v → Value.okWide Try.prog W .any base t v := hval0
 have hW' := hW
 obtain ⟨p, q, hA0, hV, rfl, hfz, hnd⟩ := hW
 have hA : DataW.TrodAll enc Try.prog W 0 (fun _ => true) true Try.f6.params.toList args.toList ds p := hA0
 rw [Try.params6] at hA hval
 obtain ⟨hargs, rfl, rfl⟩ := trodAll_nil hA
 obtain rfl : args = #[] := by cases args; simp_all
 obtain ⟨rfl, rfl⟩ := trodVars_none hV
 clear hA0 hval0
 refine (Ok.law known_ok).mono fun e W' ⟨he, bel⟩ => ?_
 subst he
 exact ⟨_, rfl, _, _, _, [], _, [], hW', trodAll_mk1 (shut_bool Try.underlying4 _), trodAll_mk0, rfl, bel.frame _, fun h => by cases h⟩
theorem stemKnown : Rows.StemKnownSaid :=
 OpenClaim.holds_of_wide 6 Try.f6 rfl rfl rfl rfl rfl rfl rfl ⟨rfl, rfl, rfl, rfl, rfl⟩ rfl rfl rfl rfl rfl (by kernel_rfl) Try.func6 (by kernel_rfl)
   (of_decide_eq_true (by kernel_rfl)) (by unfold Func.isWrapper; first | (rw [if_pos (by decide +kernel)]; kernel_rfl) | (rw [if_neg (by decide +kernel)]; exact ⟨rfl, rfl⟩))
   (fun os started H enc _ => stemKnownLifted os started H enc)
#print axioms stemKnown
end Go.Proofs.Ytccogmkhijgelaa
