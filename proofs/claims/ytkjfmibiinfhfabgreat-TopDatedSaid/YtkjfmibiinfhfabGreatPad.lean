/-
  A part of a proof: TopDated returns true of any case of paper, any stem and any past, and leaves what it is handed as it was. No conditions.
-/
import Derived.Test.YtkjfmibiinfhfabGreatPac
import Derived.KernelRfl
namespace Go.Proofs.YtkjfmibiinfhfabGreat
set_option synthInstance.maxSize 4000
set_option synthInstance.maxHeartbeats 1000000
section
set_option maxRecDepth 100000
open Go.RowKit
theorem bd_96 : Body Tryz.prog 96 := AF (by kernel_rfl)
theorem bd_104 : Body Tryz.prog 104 := AF (by kernel_rfl)
theorem N2 : Body Tryz.prog 56 := AF (by kernel_rfl)
theorem Wr : Body Tryz.prog 57 := AF (by kernel_rfl)
theorem Oe {F : Heap} {v : Value} {xs : List (List Int)} (h : Sl F v 5 treeC xs) (p : _ → Bool) {g : FuncId} {cs : List Value} (hg : Body Tryz.prog g) (hp : ∀ k (hk : k < xs.length), Ok Tryz.prog g ([Value.agg (treeC xs[k]).toArray] ++ cs).toArray F fun r _ => r = .bool (p xs[k])) : Ok Tryz.prog 104 [v, .func (.func g) #[] cs.toArray].toArray F fun r _ => r = .int .i64 (findI p xs) := by
 refine Ok.intro Tryz.func104 rfl Tryz.ntmps104 rfl fun w0 => ?_
 have hlen := h.plain.lt
 refine AI (Ae 1) <| Ac <| Aw (Ae 1) fun ds => Af rfl (A6 EP Aa h.plain) <| As (Ae 1) <| Ak ?_
 refine AJ [4, 5, 8, 9, 10, 11, 12, 13, 14, 15, 16, 17, 18] (fun m e σ => ∃ k : Nat, m + k = xs.length ∧ Fct e 8 (.int .i64 k) ∧ σ = ⟨F, []⟩ ∧ ∀ j (hj : j < xs.length), j < k → p xs[j] = false) (xs.length) ?_ ?_
 · exact ⟨0, by omega, Bb, rfl, fun j hj h => absurd h (by omega)⟩
 rintro m e _ ⟨k, hm, hs8, rfl, hno⟩
 by_cases hlt : k < xs.length
 ·refine AI (Ae 1) <| Ac <| Ag Aa (by first | rfl | exact dT (by omega)) ?_
  by_cases hpk : p xs[k] = true
  ·refine Aj <| Ab <| Ac <| Ak <| AI (Ae 2) <| Aw (Ae 3) fun ds => Af rfl (Ax  EP Aa h.plain Aa rfl (by omega)) <| Af rfl (AO B8 Aa rfl rfl (h.whole (by omega))) <| AS rfl (Ay hg Aa AY (hp k hlt) (fun _ _ h => h)) <| Am <| Ab <| Ag Aa hpk <| AI (Ae 2) <| At ?_
   refine A8 (A1 (A1 (A8 (A1 ?_))))
   refine Aq rfl Bf ?_
   show _ = _
   rw [Cz hlt hpk hno]; rfl
  replace hpk : p xs[k] = false := by simpa using hpk
  refine Aj <| Ab <| Ac <| Ak <| AI (Ae 2) <| Aw (Ae 3) fun ds => Af rfl (Ax  EP Aa h.plain Aa rfl (by omega)) <| Af rfl (AO B8 Aa rfl rfl (h.whole (by omega))) <| AS rfl (Ay hg Aa AY (hp k hlt) (fun _ _ h => h)) <| Am <| Ab <| Ad Aa hpk <| Aj <| Az <| Ab <| Al fun ds => Af rfl (AE Aa Aa rfl (by omega) (by omega)) <| Ao (Ae 1) <| Am ?_
  refine Ab ⟨_, m - 1, Off.eq (BT rfl <| Cw rfl <| BY rfl <| A2), by omega, ?_⟩
  refine ⟨k + 1, by omega, Bb, rfl, fun j hj hjk => ?_⟩
  rcases Nat.lt_succ_iff_lt_or_eq.1 hjk with hjk | rfl
  · exact hno j hj hjk
  exact hpk
 refine AI (Ae 1) <| Ac <| Ad Aa (by first | rfl | exact dF (by omega)) <| AC ?_
 refine A0 <| A0 <| A4 <| Ab <| AI (Ae 1) <| At <| Aq rfl Bf ?_
 show _ = _
 rw [CS fun j hj => hno j hj (by omega)]; rfl
theorem Cq {F : Heap} {v : Value} {xs : List (List Int)} (h : Sl F v 5 treeC xs) (p : _ → Bool) {g : FuncId} {cs : List Value} (hg : Body Tryz.prog g) (hp : ∀ k (hk : k < xs.length), Ok Tryz.prog g ([Value.agg (treeC xs[k]).toArray] ++ cs).toArray F fun r _ => r = .bool (p xs[k])) : Ok Tryz.prog 73 [v, .func (.func g) #[] cs.toArray].toArray F fun r _ => r = .bool (xs.any p) := by
 refine Ok.intro Tryz.func73 rfl Tryz.ntmps73 rfl fun w0 => AI (Ae 1) <| Aw (Ae 2) fun ds => AS rfl (Ay bd_104 Aa AY (Oe h p hg hp) (fun _ _ h => h)) <| As (Ae 2) <| At <| Aq rfl Bf ?_
 show _ = _
 rw [← Dt]; rfl
theorem Qb {F : Heap} {v : Value} {xs : List Int} (h : Ints F v xs) (hn : xs.length ≤ 1000) : Ok Tryz.prog 57 [v].toArray F fun u F' => Ints F' u xs := by
 obtain ⟨a0, c0, rfl, g1, g2, g3, g4⟩ := h.plain
 refine Ok.intro Tryz.func57 rfl Tryz.ntmps57 rfl fun w0 => ?_
 cases a0
 ·refine AI (Ae 1) <| Ac <| Aw (Ae 1) fun ds => Af rfl (Dd Tryz.underlying44 Aa Aa) <| Am <| Ab <| Ag Aa rfl <| AI (Ae 1) <| At <| A1 <| Aq rfl Bf ?_
  obtain ⟨h0, -⟩ := g2 rfl
  have : xs = [] := List.eq_nil_of_length_eq_zero h0
  subst this
  exact Sl.nil
 refine AI (Ae 1) <| Ac <| Aw (Ae 1) fun ds => Af rfl (Dd Tryz.underlying44 Aa Aa) <| Am <| Ab <| Ad Aa rfl <| Aj <| Ab <| Ac <| Al fun ds => A3 rfl <| AU A7 B1 rfl .nil rfl rfl (by decide) (by simp [Value.oneCell']) fun b1 hb1 nb1 => Ao (Ae 1) <| A3 rfl <| Bi A7 D5 Aa (CR rfl) Aa h.srcInt (by omega) (by omega) (.z) .box fun v2 R3 ho4 => ?_
 have ho1 : Own 3 1 v2 xs.length (xs.flatMap intE) R3 := by simpa using ho4
 refine Hv (σ := ⟨_, _⟩) (by rfl) ho1 (.z) .more fun F5 hF6 hz7 => ?_
 have hn7 := ho1.sl (fun _ => rfl) hz7 (by omega)
 refine As (Ae 1) <| At <| Aq rfl Bf ?_
 exact hn7
theorem Jg {F : Heap} {v : Value} {xs : List Int} (h : Ints F v xs) (hn : xs.length ≤ 1000) : OkN Tryz.prog 57 [v].toArray F fun u _F' Hn => Own 3 1 u xs.length (xs.flatMap intE) Hn := by
 obtain ⟨a0, c0, rfl, g1, g2, g3, g4⟩ := h.plain
 refine OkN.intro Tryz.func57 rfl Tryz.ntmps57 rfl fun w0 => ?_
 cases a0
 ·refine AI (Ae 1) <| Ac <| Aw (Ae 1) fun ds => Af rfl (Dd Tryz.underlying44 Aa Aa) <| Am <| Ab <| Ag Aa rfl <| AI (Ae 1) <| At <| A1 <| CP rfl Bf (List.nil_sublist _) ?_
  obtain ⟨h0, -⟩ := g2 rfl
  have : xs = [] := List.eq_nil_of_length_eq_zero h0
  subst this
  exact Ce
 refine AI (Ae 1) <| Ac <| Aw (Ae 1) fun ds => Af rfl (Dd Tryz.underlying44 Aa Aa) <| Am <| Ab <| Ad Aa rfl <| Aj <| Ab <| Ac <| Al fun ds => A3 rfl <| AU A7 B1 rfl .nil rfl rfl (by decide) (by simp [Value.oneCell']) fun b1 hb1 nb1 => Ao (Ae 1) <| A3 rfl <| Bi A7 D5 Aa (CR rfl) Aa h.srcInt (by omega) (by omega) (.z) .box fun v2 R3 ho4 => ?_
 have ho1 : Own 3 1 v2 xs.length (xs.flatMap intE) R3 := by simpa using ho4
 refine As (Ae 1) <| At <| CP rfl Bf (List.sublist_append_left _ _) ?_
 exact ho1
def AskR (F : Heap) (u : Value) (s : Stm) : Prop := ∃ v, u = .tuple #[v, .int .i64 (askedE s).2.1, .int .i64 (askedE s).2.2] ∧ Sl F v 5 treeC (askedE s).1
theorem AskR.ok {F : Heap} {u : Value} {s : Stm} (h : AskR F u s) (h0 : askedT s = 0) : ∃ v, u = .tuple #[v, .int .i64 (bestsM s), .int .i64 0] ∧ Sl F v 5 treeC (bestsL s) := by
 unfold AskR at h; rw [N7 h0] at h; exact h
theorem AskR.bad {F : Heap} {u : Value} {s : Stm} (h : AskR F u s) (h0 : askedT s ≠ 0) : ∃ v, u = .tuple #[v, .int .i64 0, .int .i64 (askedT s)] := by
 unfold AskR at h; rw [Hs h0] at h; obtain ⟨v, rfl, -⟩ := h; exact ⟨v, rfl⟩
theorem upV_ok {s : Stm} (h : bestsL s ≠ []) : upV (bestsM s) = bestsM s := if_neg fun h2 => h (Mi.2 h2)
theorem Fm {F : Heap} {vp ve : Value} {ps : List (Value × Edn)} {s : Stm} (hr : StmR F vp ve ps s) : Ok Tryz.prog 56 [.agg #[vp, ve]].toArray F fun u F' => AskR F' u s := by
 refine Ok.intro Tryz.func56 rfl Tryz.ntmps56 rfl fun w0 => ?_
 by_cases h0 : (checkT s).2.2 = 0
 ·have hv := Cj h0
  have hne := hv.ne
  refine Ac <| Al fun ds => A3 rfl <| Bc Aa rfl fun b1 hb1 nb1 => As (Ae 3) <| Aw (Ae 1) fun ds => A3 rfl <| CH Gx Aa AY (FD hr h0) fun v2 F3 R6 hr4 hF5 => ?_
  obtain ⟨ba, kb, rfl, hX, rfl⟩ := hr4
  refine As (Ae 5) <| Ac <| AI (Ae 2) <| Ad Aa (by decide) <| Aj <| Ab <| Aw (Ae 1) fun ds => D8 (.cons (.next <| .here) <| .cons (.here) <| .nil) <| A3 rfl <| Dz bd_96 Aa AY rfl (best_ok hX hv KnownT.nil) fun v11 F12 H15 hr13 hF14 => ?_
  obtain ⟨es2, rfl, hK2, vb9, rfl, hsp, hnl⟩ := hr13
  refine As (Ae 5) <| Ac <| Ac ?_
  by_cases hb : bestsL s = []
  ·obtain rfl := hnl hb
   refine Al fun ds => Ao (Ae 1) <| Af rfl (Dd Tryz.underlying134 Aa Aa) <| Am <| Ab <| Ag Aa rfl <| AI (Ae 3) <| At <| A1 <| Aq rfl Bf ?_
   unfold AskR; rw [Hs (by rw [Mp h0 hb]; decide), Mp h0 hb]
   exact ⟨_, rfl, Sl.nil⟩
  obtain ⟨a0, c0, hv9, -, g2, -, -⟩ := hsp.plain
  subst hv9
  obtain ⟨a1, rfl⟩ : ∃ a1, a0 = some a1 := by cases a0 with | none => exact absurd (List.eq_nil_of_length_eq_zero (g2 rfl).1) hb | some a1 => exact ⟨a1, rfl⟩
  refine Al fun ds => Ao (Ae 1) <| Af rfl (Dd Tryz.underlying134 Aa Aa) <| Am <| Ab <| Ad Aa rfl <| Aj <| Ab <| AI (Ae 5) <| At <| Aq rfl Bf ?_
  unfold AskR; rw [N7 (G0 h0 hb), upV_ok hb]
  exact ⟨_, rfl, hsp⟩
 refine Ac <| Al fun ds => A3 rfl <| Bc Aa rfl fun b16 hb16 nb16 => As (Ae 3) <| Aw (Ae 1) fun ds => AS rfl (Ay Gx Aa AY (HP hr h0) (fun _ _ h => h)) <| As (Ae 5) <| Ac <| AI (Ae 2) <| Ag Aa (dT h0) <| AI (Ae 4) <| At <| A1 <| Aq rfl Bf ?_
 unfold AskR; rw [Hs (by rw [Mq h0]; exact h0), Mq h0]
 exact ⟨_, rfl, Sl.nil⟩
def BestTR (F : Heap) (u : Value) (p : List Int × Int × Int × Int) : Prop := ∃ v, u = .tuple #[v, .int .i64 p.2.1, .int .i64 p.2.2.1, .int .i64 p.2.2.2] ∧ Ints F v p.1
theorem BestTR.mono {F F' : Heap} {u : Value} {p : List Int × Int × Int × Int} (h : BestTR F u p) (hF : F.le F') : BestTR F' u p := by obtain ⟨v, h1, h2⟩ := h; exact ⟨v, h1, h2.mono hF⟩
theorem Gw {F : Heap} {vp ve : Value} {ps : List (Value × Edn)} {s : Stm} (hr : StmR F vp ve ps s) : Ok Tryz.prog 15 [.agg #[vp, ve]].toArray F fun u F' => BestTR F' u (bestTE s) := by
 have hle0 : F.le F := Heap.le_refl _
 refine Ok.intro Tryz.func15 rfl Tryz.ntmps15 rfl fun w0 => ?_
 by_cases hok : askedT s = 0
 ·obtain ⟨h0, hb⟩ := N6 hok
  have hv := Cj h0
  have hne := hv.ne
  have hlen := hr.len
  have hL1 := hr.eds.plain.lt
  have h0l : 0 < (bestsL s).length := List.length_pos_iff.2 hb
  have hbl : ((bestsL s)[0]'h0l).length = s.editions.length := (Ut (List.getElem_mem h0l)).1
  have hbl2 := Mj hv
  refine Ac <| Al fun ds => A3 rfl <| Bc Aa rfl fun b1 hb1 nb1 => As (Ae 4) <| Aw (Ae 1) fun ds => A3 rfl <| Be N2 Aa AY (Fm hr) fun v2 F3 hr4 hF5 => ?_
  replace hr := hr.mono hF5
  replace hle0 := Heap.le_trans hle0 hF5
  obtain ⟨vq, rfl, hq⟩ := hr4.ok hok
  refine As (Ae 7) <| Ac <| AI (Ae 2) <| Ad Aa (by decide) <| Aj <| Ab <| Ac ?_
  have hleS := hle0
  refine Bn (.inl rfl) (fun _ _ h => h) (kK <| .refl _) [] (by kernel_rfl) fun ds => Ai 0 rfl (by kernel_rfl) (by kernel_rfl) (by kernel_rfl) (by kernel_rfl) rfl rfl (fun _ h => h.drop (kK <| .refl _)) (fun _ _ _ h => h) (A9 Aa) <| Ai 1 rfl (by kernel_rfl) (by kernel_rfl) (by kernel_rfl) (by kernel_rfl) rfl rfl (fun _ h => h.drop (kK <| .refl _)) (fun _ _ _ h => h) (Ax (k := 0) EP Aa hq.plain Aa rfl h0l) <| Ai 2 rfl (by kernel_rfl) (by kernel_rfl) (by kernel_rfl) (by kernel_rfl) rfl rfl (fun _ h => h.drop (kK <| .refl _)) (fun _ _ _ h => h) (AD EJ Aa) <| Ai 3 rfl (by kernel_rfl) (by kernel_rfl) (by kernel_rfl) (by kernel_rfl) rfl rfl (fun _ h => h.drop (kK <| .refl _)) (fun _ _ _ h => h) (Ah B4 Aa (Cell.own 0 rfl rfl)) <| Ai 4 rfl (by kernel_rfl) (by kernel_rfl) (by kernel_rfl) (by kernel_rfl) rfl rfl (fun _ h => h.drop (kK <| .refl _)) (fun _ _ _ h => h) (A6 Bl Aa hr.eds.plain) <| Ai 5 rfl (by kernel_rfl) (by kernel_rfl) (by kernel_rfl) (by kernel_rfl) rfl rfl (fun _ h => h.drop (kK <| .refl _)) (fun _ _ _ h => h) (NN (s := 1) (k := s.editions.length) Tryz.underlying128 (Bq (by kernel_rfl)) Aa Aa (by omega) (by omega) (by omega)) <| Ai 7 rfl (by kernel_rfl) (by kernel_rfl) (by kernel_rfl) (by kernel_rfl) rfl rfl (fun _ h => h.drop (kK <| .refl _)) (fun _ _ _ h => h) (A9 Aa) <| Ai 8 rfl (by kernel_rfl) (by kernel_rfl) (by kernel_rfl) (by kernel_rfl) rfl rfl (fun _ h => h.drop (kK <| .refl _)) (fun _ _ _ h => h) (A9 Aa) ?_
  refine Ai 9 rfl (by kernel_rfl) (by kernel_rfl) (by kernel_rfl) (by kernel_rfl) rfl rfl (fun _ h => h.drop (kK <| .refl _)) (fun _ _ _ h => h) (A6 EP Aa hq.plain) ?_
  refine CK 6 rfl (by kernel_rfl) rfl (Be Wr Aa AY (Qb (UD hq h0l hbl (by omega)) (by omega)) fun v6 F7 hr8 hF9 => ⟨fun _ _ _ h => (h.drop (kK <| .refl _)).weak hF9 hleS, ?_⟩)
  have hcl := hr8
  refine Ai 10 rfl (by kernel_rfl) (by kernel_rfl) (by kernel_rfl) (by kernel_rfl) rfl rfl (fun _ h => (h.drop (kK <| .refl _)).weak hF9 hleS) (fun _ _ _ h => h) (Bz Aa) <| Ai 11 rfl (by kernel_rfl) (by kernel_rfl) (by kernel_rfl) (by kernel_rfl) rfl rfl (fun _ h => (h.drop (kK <| .refl _)).weak hF9 hleS) (fun _ _ _ h => h) (Bz Aa) <| Ai 12 rfl (by kernel_rfl) (by kernel_rfl) (by kernel_rfl) (by kernel_rfl) rfl rfl (fun _ h => (h.drop (kK <| .refl _)).weak hF9 hleS) (fun _ _ _ h => h) (Bz Aa) <| Ai 13 rfl (by kernel_rfl) (by kernel_rfl) (by kernel_rfl) (by kernel_rfl) rfl rfl (fun _ h => (h.drop (kK <| .refl _)).weak hF9 hleS) (fun _ _ _ h => h) (Bz BF) ?_
  refine Bo (by kernel_rfl) ?_ _
  refine Ab <| At <| Aq rfl Bf ?_
  rw [JP hok, List.getElem?_eq_getElem h0l]
  exact ⟨_, rfl, hcl⟩
 refine Ac <| Al fun ds => A3 rfl <| Bc Aa rfl fun b10 hb10 nb10 => As (Ae 4) <| Aw (Ae 1) fun ds => A3 rfl <| Be N2 Aa AY (Fm hr) fun v11 F12 hr13 hF14 => ?_
 obtain ⟨vq, rfl⟩ := hr13.bad hok
 refine As (Ae 7) <| Ac <| AI (Ae 2) <| Ag Aa (dT hok) <| AI (Ae 5) <| At <| A1 <| Aq rfl Bf ?_
 rw [RE hok]
 exact ⟨_, rfl, Sl.nil⟩
end
section
set_option maxRecDepth 100000
open Go.RowKit
theorem zr_155 : ZeroT Tryz.prog 155 (.nilFunc) := Bv (by kernel_rfl)
theorem Wt : Body Tryz.prog 34 := AF (by kernel_rfl)
theorem N0 : Body Tryz.prog 73 := AF (by kernel_rfl)
theorem bd_74 : Body Tryz.prog 74 := AF (by kernel_rfl)
theorem Wn : Body Tryz.prog 75 := AF (by kernel_rfl)
theorem bd_76 : Body Tryz.prog 76 := AF (by kernel_rfl)
theorem sz_155 : SizeT Tryz.prog 155 1 := Bq (by kernel_rfl)
theorem Nl {F : Heap} {c TB i : Nat} (hc : F c = some (bx TB [.int .i64 (i : Int)])) (hi : i < 5) (t : List Int) : Ok Tryz.prog 74 [.agg (treeC t).toArray, .pointer (some ⟨c, 0, none⟩)].toArray F fun u _ => u = .bool (decide (upN t i = -1)) := by
 refine Ok.intro Tryz.func74 rfl Tryz.ntmps74 rfl fun w0 => Ac <| Al fun ds => A3 rfl <| Bc Aa rfl fun b1 hb1 nb1 => As (Ae 1) <| Ac <| Al fun ds => Af rfl (Ah AA Aa (AM hc rfl)) <| Af rfl (AR (k := i) BL Aa Aa rfl hi) <| Af rfl (Ah AA Aa (Cell.own 0 rfl (B5 hi))) <| As (Ae 2) <| At <| Aq rfl Bf ?_
 rfl
theorem LE {F : Heap} {c e TB TE a i : Nat} (hc : F c = some (bx TB [.int .i64 (i : Int)])) (he : F e = some (bx TE [.int .i64 (a : Int)])) (hi : i < 5) (t : List Int) : Ok Tryz.prog 75 [.agg (treeC t).toArray, .pointer (some ⟨c, 0, none⟩), .pointer (some ⟨e, 0, none⟩)].toArray F fun u _ => u = .bool (fromB a i t) := by
 refine Ok.intro Tryz.func75 rfl Tryz.ntmps75 rfl fun w0 => Ac <| Al fun ds => A3 rfl <| Bc Aa rfl fun b1 hb1 nb1 => As (Ae 1) <| Ac <| Bx (.inl rfl) (fun _ _ h => h) (by kernel_rfl) (by kernel_rfl) fun ds => AX rfl (Ah AA Aa (AM hc rfl)) <| AX rfl (AR (k := i) BL Aa Aa rfl hi) <| AX rfl (Ah AA Aa (Cell.own 0 rfl (B5 hi))) <| AX rfl (Ah AA Aa (AM he rfl)) <| Ba (Ae 2) <| B9 <| Ab <| At <| Aq rfl Bf ?_
 rfl
theorem PG {F : Heap} {c e g TB TE TG a i : Nat} (hc : F c = some (bx TB [.int .i64 (i : Int)])) (he : F e = some (bx TE [.int .i64 (a : Int)])) (hg : F g = some (bx TG [.func (.func 75) #[] #[.pointer (some ⟨c, 0, none⟩), .pointer (some ⟨e, 0, none⟩)]])) (hi : i < 5) (t : List Int) : Ok Tryz.prog 76 [.agg (treeC t).toArray, .pointer (some ⟨g, 0, none⟩)].toArray F fun u _ => u = .bool (!(fromB a i t)) := by
 refine Ok.intro Tryz.func76 rfl Tryz.ntmps76 rfl fun w0 => Ac <| Al fun ds => A3 rfl <| Bc Aa rfl fun b1 hb1 nb1 => As (Ae 1) <| Ac <| Al fun ds => Af rfl (Ah HR Aa (AM hg rfl)) <| Ao (Ae 1) <| AS rfl (Ay Wn Aa AY (LE hc he hi t) (fun _ _ h => h)) <| As (Ae 2) <| At <| Aq rfl Bf ?_
 rfl
theorem Og {F : Heap} {vp ve : Value} {ps : List (Value × Edn)} {s : Stm} (hr : StmR F vp ve ps s) : Ok Tryz.prog 35 [.agg #[vp, ve]].toArray F fun u F' => NatsR F' u (firstTE s) := by
 have hle0 : F.le F := Heap.le_refl _
 refine Ok.intro Tryz.func35 rfl Tryz.ntmps35 rfl fun w0 => ?_
 by_cases hok : askedT s = 0
 ·obtain ⟨h0, hb⟩ := N6 hok
  have hv := Cj h0
  have hne := hv.ne
  have hlen := hr.len
  have hL1 := hr.eds.plain.lt
  refine Ac <| Al fun ds => A3 rfl <| Bc Aa rfl fun b1 hb1 nb1 => As (Ae 2) <| Aw (Ae 1) fun ds => A3 rfl <| Be N2 Aa AY (Fm hr) fun v2 F3 hr4 hF5 => ?_
  replace hr := hr.mono hF5
  obtain ⟨vq, rfl, hq⟩ := hr4.ok hok
  refine As (Ae 7) <| Ac <| AI (Ae 2) <| Ad Aa (by decide) <| Aj <| Ab <| Ac <| Aw (Ae 2) fun ds => Af rfl (A6 Bl Aa hr.eds.plain) <| As (Ae 1) <| Ak ?_
  refine AJ [2, 6, 19, 20, 21, 22, 23, 24, 25, 26, 27, 28, 29] (fun m e σ => ∃ G, F3.le G ∧ ∃ k : Nat, m + k = ps.length ∧ Fct e 19 (.int .i64 (k : Int)) ∧ ∃ v2 R2, Fct e 2 v2 ∧ Own 3 1 v2 (selN (firstB s) k).length ((selN (firstB s) k).flatMap natE) R2 ∧ σ = ⟨G, (b1, bx 30 [vp, ve]) :: R2⟩) (ps.length) ?_ ?_
  · exact ⟨_, Heap.le_refl _, 0, by omega, Bb, _, _, Bb, Own.nil, rfl⟩
  rintro m e _ ⟨G, hFG2, k, hm, hs19, v2, R2, hs2, ho, rfl⟩; have hsl := Dn (p := firstB s) (k := k); replace hr := hr.mono hFG2; replace hq := hq.mono hFG2
  by_cases hlt : k < ps.length
  ·have hk5 : k < 5 := by omega
   refine AI (Ae 1) <| Ac <| Ag Aa (by first | rfl | exact dT (by omega)) <| Aj <| Ab <| Ac <| Ak <| Aw (Ae 1) fun ds => A3 rfl <| AN B1 rfl fun b7 hb7 nb7 => AV <| AT Cc Aa Aa (i := 0) rfl (.here) rfl (.here) <| Am <| Ab <| Ac <| AL (i := 0) rfl hb7 (.here) fun F8 hF9 hz6 => ?_
   replace hq := hq.mono hF9
   replace hFG2 := Heap.le_trans hFG2 hF9
   by_cases hfb : firstB s k = true
   ·refine Al fun ds => Ao (Ae 1) <| Af rfl (Bu AY) <| AS rfl (Ay N0 Aa AY (Cq hq (fun t => decide (upN t k = -1)) bd_74 fun j hj => Nl hz6 hk5 _) (fun _ _ h => h)) <| Am <| Ab <| Ag Aa hfb <| Al fun ds => Ao (Ae 1) <| Af rfl (Ah AA Aa (AM hz6 rfl)) <| A3 rfl <| AU A7 B1 rfl (.cons Aa .nil) rfl rfl (by decide) (by simp [Value.oneCell']) fun b10 hb10 nb10 => A3 rfl <| Bi A7 D5 Aa ho Aa (BA (s := 1) 0 rfl rfl (by simp [Value.oneCell'])) (by omega) (by omega) (.s <| .s <| .z) .last fun v11 R12 ho13 => ?_
    have ho2 := ho13.snoc (x := k) rfl rfl
    refine Ao (Ae 1) <| Am <| Az <| Ab <| By (fun _ _ h => h.drop (kD <| kK <| .refl _)) <| Al fun ds => Af rfl (AE Aa Aa rfl (by omega) (by omega)) <| Ao (Ae 1) <| Am ?_
    refine Ab ⟨_, m - 1, Off.eq (BT rfl <| Ci rfl <| BY rfl <| A2), by omega, ?_⟩
    exact ⟨_, hFG2, k + 1, by omega, Bb, _, _, Bb, by rw [Dm, if_pos hfb]; exact ho2, rfl⟩
   replace hfb : firstB s k = false := by simpa using hfb
   refine Al fun ds => Ao (Ae 1) <| Af rfl (Bu AY) <| AS rfl (Ay N0 Aa AY (Cq hq (fun t => decide (upN t k = -1)) bd_74 fun j hj => Nl hz6 hk5 _) (fun _ _ h => h)) <| Am <| Ab <| Ad Aa hfb <| Aj <| Az <| Ab <| Al fun ds => Af rfl (AE Aa Aa rfl (by omega) (by omega)) <| Ao (Ae 1) <| Am ?_
   refine Ab ⟨_, m - 1, Off.eq (BT rfl <| A2), by omega, ?_⟩
   exact ⟨_, hFG2, k + 1, by omega, Bb, _, _, Bb, by rw [Dm, if_neg (by rw [hfb]; simp)]; exact ho, rfl⟩
  refine AI (Ae 1) <| Ac <| Ad Aa (by first | rfl | exact dF (by omega)) ?_
  obtain rfl : k = s.editions.length := by omega
  refine Bm (σ := ⟨_, _⟩) (by rfl) ho (.s <| .z) .last fun F14 hF15 hz16 => ?_
  have hn2 := ho.sl (fun _ => rfl) hz16 (by omega)
  refine AC ?_
  refine A0 <| A0 <| A4 <| Ab <| AI (Ae 3) <| At <| Aq rfl Bf ?_
  rw [Ro hok]
  exact ⟨_, rfl, hn2⟩
 refine Ac <| Al fun ds => A3 rfl <| Bc Aa rfl fun b17 hb17 nb17 => As (Ae 2) <| Aw (Ae 1) fun ds => A3 rfl <| Be N2 Aa AY (Fm hr) fun v18 F19 hr20 hF21 => ?_
 obtain ⟨vq, rfl⟩ := hr20.bad hok
 refine As (Ae 7) <| Ac <| AI (Ae 2) <| Ag Aa (dT hok) <| AI (Ae 3) <| At <| A1 <| Aq rfl Bf ?_
 rw [PH hok]
 exact ⟨_, rfl, Sl.nil⟩
theorem Ub {s : Stm} {a b : Int} (h : edsErr s a b = 0) : (checkT s).2.2 = 0 ∧ ∃ i j : Nat, a = (i : Int) ∧ b = (j : Int) ∧ i < s.editions.length ∧ j < s.editions.length := by
 unfold edsErr at h
 split at h
 · rename_i h1; exact absurd h h1
 rename_i h1
 split at h
 · cases h
 rename_i h2
 have h3 : (inB 0 (s.editions.length - 1) a && inB 0 (s.editions.length - 1) b) = true := by simpa using h2
 rw [Bool.and_eq_true] at h3
 obtain ⟨i, rfl, hi⟩ := FH h3.1
 obtain ⟨j, rfl, hj⟩ := FH h3.2
 exact ⟨Classical.not_not.1 h1, i, j, rfl, rfl, hi, hj⟩
theorem Ht {s : Stm} {a b : Int} : (apartE s a b).2 = edsErr s a b := by
 unfold apartE
 split
 · rfl
 rename_i h; exact (Classical.not_not.1 h).symm
def fromV (s : Stm) (a b : Int) : Value := .tuple #[.int .i64 (fromE s a b).1, .int .i64 (fromE s a b).2]
theorem PF {F : Heap} {vp ve : Value} {ps : List (Value × Edn)} {s : Stm} (hr : StmR F vp ve ps s) (a b : Int) : Ok Tryz.prog 36 [.agg #[vp, ve], .int .i64 a, .int .i64 b].toArray F fun u _ => u = fromV s a b := by
 have hle0 : F.le F := Heap.le_refl _
 refine Ok.intro Tryz.func36 rfl Tryz.ntmps36 rfl fun w0 => ?_
 by_cases he0 : edsErr s a b = 0
 ·obtain ⟨h0, i, j, rfl, rfl, hi, hj⟩ := Ub he0
  have hv := Cj h0
  have hne := hv.ne
  refine Ac <| Al fun ds => A3 rfl <| Bc Aa rfl fun b1 hb1 nb1 => A3 rfl <| Bc Aa rfl fun b2 hb2 nb2 => A3 rfl <| Bc Aa rfl fun b3 hb3 nb3 => As (Ae 2) <| Ac <| Aw (Ae 3) fun ds => A3 rfl <| Be Wt Aa AY (FP hr _ _) fun v4 F5 hr6 hF7 => ?_
  replace hr := hr.mono hF7
  obtain ⟨vap, rfl, hap⟩ := hr6
  refine As (Ae 5) <| AI (Ae 2) <| Ad Aa (by rw [Ht, he0]; decide) ?_
  by_cases hok : askedT s = 0
  ·refine Aj <| Ab <| Aw (Ae 1) fun ds => A3 rfl <| Be N2 Aa AY (Fm hr) fun v8 F9 hr10 hF11 => ?_
   obtain ⟨vq, rfl, hq⟩ := hr10.ok hok
   refine As (Ae 7) <| Ac <| AI (Ae 2) <| Ad Aa (by decide) <| Aj <| Ab <| Ac <| AL (i := 0) rfl hb3 (.here) fun F12 hF13 hz5 => ?_
   replace hq := hq.mono hF13
   refine AL (i := 0) rfl hb2 (.here) fun F14 hF15 hz4 => ?_
   replace hq := hq.mono hF15
   replace hz5 := hF15 _ _ hz5
   refine Al fun ds => Af rfl (Bu AY) <| A3 rfl <| AN zr_155 rfl fun b16 hb16 nb16 => AV <| AT sz_155 Aa Aa (i := 0) rfl (.here) rfl (.here) <| Am <| Ab <| Ac <| Ak <| Ac <| AL (i := 0) rfl hb16 (.here) fun F17 hF18 hz13 => ?_
   replace hq := hq.mono hF18
   replace hz5 := hF18 _ _ hz5
   replace hz4 := hF18 _ _ hz4
   by_cases ha : (bestsL s).any (fromB i j) = true
   ·refine Al fun ds => Ao (Ae 1) <| Af rfl (Ah HR Aa (AM hz13 rfl)) <| AS rfl (Ay N0 Aa AY (Cq hq (fromB i j) Wn fun k hk => LE hz5 hz4 (by omega) _) (fun _ _ h => h)) <| As (Ae 2) <| Ad Aa (by rw [ha]; rfl) ?_
    by_cases ha2 : (bestsL s).any (fun t => !(fromB i j t)) = true
    ·refine Aw (Ae 1) fun ds => Af rfl (Bu AY) <| AS rfl (Ay N0 Aa AY (Cq hq (fun t => !(fromB i j t)) bd_76 fun k hk => PG hz5 hz4 hz13 (by omega) _) (fun _ _ h => h)) <| As (Ae 2) <| Ad Aa (by rw [ha2]; rfl) <| Aj <| Az <| Ab <| AI (Ae 2) <| At <| Aq rfl Bf ?_
     show _ = _
     rw [fromV, fromE, if_neg (fun k : edsErr s (i : Int) (j : Int) ≠ 0 => k he0), if_neg (fun k : askedT s ≠ 0 => k hok), Int.toNat_natCast, Int.toNat_natCast, if_neg (by rw [ha]; simp), if_neg (by rw [ha2]; simp)]; rfl
    replace ha2 : (bestsL s).any (fun t => !(fromB i j t)) = false := by simpa using ha2
    refine Aw (Ae 1) fun ds => Af rfl (Bu AY) <| AS rfl (Ay N0 Aa AY (Cq hq (fun t => !(fromB i j t)) bd_76 fun k hk => PG hz5 hz4 hz13 (by omega) _) (fun _ _ h => h)) <| As (Ae 2) <| Ag Aa (by rw [ha2]; rfl) <| AI (Ae 2) <| At <| A8 <| A1 <| Aq rfl Bf ?_
    show _ = _
    rw [fromV, fromE, if_neg (fun k : edsErr s (i : Int) (j : Int) ≠ 0 => k he0), if_neg (fun k : askedT s ≠ 0 => k hok), Int.toNat_natCast, Int.toNat_natCast, if_neg (by rw [ha]; simp), if_pos ha2]; rfl
   replace ha : (bestsL s).any (fromB i j) = false := by simpa using ha
   refine Al fun ds => Ao (Ae 1) <| Af rfl (Ah HR Aa (AM hz13 rfl)) <| AS rfl (Ay N0 Aa AY (Cq hq (fromB i j) Wn fun k hk => LE hz5 hz4 (by omega) _) (fun _ _ h => h)) <| As (Ae 2) <| Ag Aa (by rw [ha]; rfl) <| AI (Ae 2) <| At <| A8 <| A1 <| Aq rfl Bf ?_
   show _ = _
   rw [fromV, fromE, if_neg (fun k : edsErr s (i : Int) (j : Int) ≠ 0 => k he0), if_neg (fun k : askedT s ≠ 0 => k hok), Int.toNat_natCast, Int.toNat_natCast, if_pos ha]; rfl
  refine Aj <| Ab <| Aw (Ae 1) fun ds => A3 rfl <| Be N2 Aa AY (Fm hr) fun v19 F20 hr21 hF22 => ?_
  obtain ⟨vq, rfl⟩ := hr21.bad hok
  refine As (Ae 7) <| Ac <| AI (Ae 2) <| Ag Aa (dT hok) <| AI (Ae 3) <| At <| A1 <| Aq rfl Bf ?_
  show _ = _
  unfold fromV fromE; rw [if_neg (fun k => k he0), if_pos hok]; rfl
 refine Ac <| Al fun ds => A3 rfl <| Bc Aa rfl fun b23 hb23 nb23 => A3 rfl <| Bc Aa rfl fun b24 hb24 nb24 => A3 rfl <| Bc Aa rfl fun b25 hb25 nb25 => As (Ae 2) <| Ac <| Aw (Ae 3) fun ds => A3 rfl <| Be Wt Aa AY (FP hr _ _) fun v26 F27 hr28 hF29 => ?_
 obtain ⟨vap, rfl, hap⟩ := hr28
 refine As (Ae 5) <| AI (Ae 2) <| Ag Aa (by rw [Ht]; exact dT he0) <| AI (Ae 3) <| At <| A1 <| Aq rfl Bf ?_
 show _ = _
 unfold fromV fromE; rw [if_pos he0, Ht]; rfl
end
section
def sharedB (s : Stm) (x o p : Nat) : Bool := decide (s.r o p = s.r x p)
def ownL (s : Stm) (l : List Int) (x : Nat) : List Nat := apartL s (upN l x).toNat x
def savesTo (s : Stm) (own : List Nat) (x o : Nat) (k : Nat) : Int := ((own.take k).countP (sharedB s x o) : Nat)
def savesN (s : Stm) (l : List Int) (x o : Nat) : Int := ((ownL s l x).countP (sharedB s x o) : Nat)
theorem HH {s : Stm} {own : List Nat} {x o k : Nat} (h : k < own.length) : savesTo s own x o (k + 1) = if sharedB s x o own[k] = true then savesTo s own x o k + 1 else savesTo s own x o k := by
 unfold savesTo
 rw [List.take_succ_eq_append_getElem h, List.countP_append, List.countP_singleton]
 split <;> simp
theorem DR {s : Stm} {l : List Int} {x o : Nat} : savesTo s (ownL s l x) x o (ownL s l x).length = savesN s l x o := by unfold savesTo savesN; rw [List.take_length]
theorem GU {s : Stm} {own : List Nat} {x o k : Nat} : 0 ≤ savesTo s own x o k ∧ savesTo s own x o k ≤ own.length := by
 unfold savesTo
 have h1 := List.countP_le_length (p := sharedB s x o) (l := own.take k)
 rw [List.length_take] at h1
 omega
def fitsT2 (s : Stm) (l : List Int) (x o : Nat) : Bool := fitsE s (treeE l ++ [(o, x)])
def canT (s : Stm) (l : List Int) (x o : Nat) : Bool := decide ((o : Int) ≠ upN l x) && (!(underB l o x) && fitsT2 s l x o)
def secTo (s : Stm) (l : List Int) (x : Nat) : Nat → Int × Int
 | 0 => (0, 0)
 | k + 1 => if canT s l x k = true ∧ (secTo s l x k).2 < savesN s l x k then ((k : Int), savesN s l x k) else secTo s l x k
theorem NI {s : Stm} {l : List Int} {x o : Nat} : 0 ≤ savesN s l x o ∧ savesN s l x o ≤ s.places.length := by
 have h1 := GU (s := s) (own := ownL s l x) (x := x) (o := o) (k := (ownL s l x).length)
 rw [DR] at h1
 have h2 : (ownL s l x).length ≤ s.places.length := Dn
 omega
theorem Ka {s : Stm} {l : List Int} {x : Nat} : ∀ k, 0 ≤ (secTo s l x k).2 ∧ (secTo s l x k).2 ≤ s.places.length
 | 0 => by simp [secTo]
 | k + 1 => by
   have := Ka (s := s) (l := l) (x := x) k
   have := NI (s := s) (l := l) (x := x) (o := k)
   unfold secTo
   split <;> (try simp only) <;> omega
theorem MP {s : Stm} {l : List Int} {x k : Nat} (h : canT s l x k = true) (h2 : (secTo s l x k).2 < savesN s l x k) : secTo s l x (k + 1) = ((k : Int), savesN s l x k) := if_pos ⟨h, h2⟩
theorem DQ {s : Stm} {l : List Int} {x k : Nat} (h : ¬ (canT s l x k = true ∧ (secTo s l x k).2 < savesN s l x k)) : secTo s l x (k + 1) = secTo s l x k := if_neg h
def secErr (s : Stm) (l : List Int) (z : Int) : Int := if treeErr s l ≠ 0 then treeErr s l else if inB 0 (s.editions.length - 1) z = false then 4 else if fitsT s l = false then 9 else if upN l z.toNat = -1 then 2 else 0
def secE (s : Stm) (l : List Int) (z : Int) : Int × Int × Int := if secErr s l z ≠ 0 then (0, 0, secErr s l z) else if (secTo s l z.toNat s.editions.length).2 = 0 then (0, 0, 8) else ((secTo s l z.toNat s.editions.length).1, (secTo s l z.toNat s.editions.length).2, 0)
def secV (s : Stm) (l : List Int) (z : Int) : Go.Value := .tuple #[.int .i64 (secE s l z).1, .int .i64 (secE s l z).2.1, .int .i64 (secE s l z).2.2]
section
variable {s : Stm} {l : List Int} {z : Int}
theorem HG {e : Int} (h : secErr s l z = e) (he : e ≠ 0) : secV s l z = .tuple #[.int .i64 0, .int .i64 0, .int .i64 e] := by subst h; unfold secV secE; rw [if_pos he]
theorem Tr (h : secErr s l z = 0) (h2 : (secTo s l z.toNat s.editions.length).2 = 0) : secV s l z = .tuple #[.int .i64 0, .int .i64 0, .int .i64 8] := by unfold secV secE; rw [if_neg (fun k => k h), if_pos h2]
theorem secE_ok (h : secErr s l z = 0) (h2 : (secTo s l z.toNat s.editions.length).2 ≠ 0) : secV s l z = .tuple #[.int .i64 (secTo s l z.toNat s.editions.length).1, .int .i64 (secTo s l z.toNat s.editions.length).2, .int .i64 0] := by unfold secV secE; rw [if_neg (fun k => k h), if_neg h2]
theorem UY (h : treeErr s l ≠ 0) : secErr s l z = treeErr s l := if_pos h
theorem UX (h : treeErr s l = 0) (h2 : inB 0 (s.editions.length - 1) z = false) : secErr s l z = 4 := by unfold secErr; rw [if_neg (fun k => k h), if_pos h2]
theorem UW (h : treeErr s l = 0) (h2 : inB 0 (s.editions.length - 1) z = true) (h3 : fitsT s l = false) : secErr s l z = 9 := by unfold secErr; rw [if_neg (fun k => k h), if_neg (by rw [h2]; simp), if_pos h3]
theorem UV (h : treeErr s l = 0) (h2 : inB 0 (s.editions.length - 1) z = true) (h3 : fitsT s l = true) (h4 : upN l z.toNat = -1) : secErr s l z = 2 := by unfold secErr; rw [if_neg (fun k => k h), if_neg (by rw [h2]; simp), if_neg (by rw [h3]; simp), if_pos h4]
theorem UZ (h : treeErr s l = 0) (h2 : inB 0 (s.editions.length - 1) z = true) (h3 : fitsT s l = true) (h4 : upN l z.toNat ≠ -1) : secErr s l z = 0 := by unfold secErr; rw [if_neg (fun k => k h), if_neg (by rw [h2]; simp), if_neg (by rw [h3]; simp), if_neg h4]
end
def srcL (l : List Int) (i : Nat) : List Nat := if upN l i = -1 then [] else [(upN l i).toNat]
def befL (l : List Int) (x o k : Nat) : List Nat := if k = x then srcL l k ++ [o] else srcL l k
theorem Wk {l : List Int} {x o : Nat} (hx : x < l.length) {k i : Nat} : (k, i) ∈ treeE l ++ [(o, x)] ↔ i < l.length ∧ k ∈ befL l x o i := by
 have h1 : (k, i) ∈ treeE l ↔ i < l.length ∧ k ∈ srcL l i := by
   rw [GC]
   unfold srcL
   by_cases h : upN l i = -1
   · simp [h]
   rw [if_neg h]; simp [h]
 rw [List.mem_append, h1]
 unfold befL
 by_cases h : i = x
 · subst h; simp [hx]
 rw [if_neg h]; simp [h]
theorem UA {l : List Int} (ht : IsTree l) {k o : Nat} (hk : k < l.length) : underB l k o = (decide (k = o) || (if upN l k = -1 then false else underB l (upN l k).toNat o)) := by
 by_cases h : upN l k = -1
 · rw [if_pos h]
   unfold underB
   cases hl : l.length with
   | zero => omega
   | succ n => unfold under; rw [if_pos h]
 rw [if_neg h]
 obtain ⟨j, hj, hjl⟩ := ht.in_.nat hk h
 unfold underB
 rw [KR hj (ht.reach k hk), hj, Int.toNat_natCast]
theorem OH {l : List Int} {k : Nat} : underB l k k = true := KQ
def metB (s : Stm) (p v : Nat) : Bool := (List.range s.editions.length).any fun i => decide (s.r i p = (v : Int))
def kindTo (s : Stm) (p : Nat) (k : Nat) : Int := sumN k fun j => if metB s p (j + 1) = true then 1 else 0
def kindsN (s : Stm) (p : Nat) : Int := kindTo s p 3
def needN (s : Stm) (p : Nat) : Int := max 0 (kindsN s p - 1)
def setTo (s : Stm) (p : Nat) : Nat → Nat
 | 0 => 0
 | k + 1 => setTo s p k ||| 2 ^ (s.r k p).toNat
theorem El {s : Stm} {p : Nat} : ∀ k, 0 ≤ kindTo s p k ∧ kindTo s p k ≤ k
 | 0 => by simp [kindTo, sumN]
 | k + 1 => by
   have h1 := El (s := s) (p := p) k
   have h2 : kindTo s p (k + 1) = kindTo s p k + if metB s p (k + 1) = true then 1 else 0 := rfl
   rw [h2]; split <;> omega
theorem Py {s : Stm} {p : Nat} : 0 ≤ needN s p ∧ needN s p ≤ 2 := by have := El (s := s) (p := p) 3; unfold needN kindsN; omega
theorem MO {s : Stm} {p v : Nat} (hp : ∀ i, i < s.editions.length → 0 ≤ s.r i p) : ∀ {k : Nat}, k ≤ s.editions.length → (setTo s p k).testBit v = (List.range k).any fun i => decide (s.r i p = (v : Int))
 | 0, _ => by simp [setTo]
 | k + 1, hk => by
   unfold setTo
   rw [Nat.testBit_or, MO hp (by omega), List.range_succ, List.any_append, Nat.testBit_two_pow]
   have := hp k (by omega)
   simp
   congr 1
   rw [decide_eq_decide]
   omega
theorem Ld {s : Stm} {p : Nat} (hp : ∀ i, i < s.editions.length → 0 ≤ s.r i p ∧ s.r i p ≤ 3) : ∀ {k : Nat}, k ≤ s.editions.length → setTo s p k < 16
 | 0, _ => by simp [setTo]
 | k + 1, hk => by
   have h1 := Ld hp (k := k) (by omega)
   have h2 := hp k (by omega)
   unfold setTo
   refine Nat.or_lt_two_pow (n := 4) h1 ?_
   exact Nat.pow_lt_pow_right (by omega) (by omega)
def uncleanB (s : Stm) (l : List Int) (p : Nat) : Bool := decide (leastL s l p ≠ needN s p)
def uncleanL (s : Stm) (l : List Int) : List Nat := selN (uncleanB s l) s.places.length
theorem Mz {s : Stm} {l : List Int} (ht : IsTree l) (hv : ValidT s) (hl : l.length = s.editions.length) {p : Nat} : (placeN s l p ≠ needN s p) ↔ uncleanB s l p = true := by
 have h1 := NR (p := p) ht hv hl
 have h2 := Py (s := s) (p := p)
 have h3 := CG (s := s) (l := l) (p := p)
 unfold uncleanB
 rw [decide_eq_true_eq, h1]
 unfold never
 split <;> omega
def cleanStep (s : Stm) (st : Option (List Nat)) (t : List Int) : Option (List Nat) := match st with
 | none => some (uncleanL s t)
 | some b => if (uncleanL s t).length < b.length ∨ ((uncleanL s t).length = b.length ∧ cmpL (uncleanL s t) b < 0) then some (uncleanL s t) else some b
def cleanR (s : Stm) (xs : List (List Int)) : Option (List Nat) := xs.foldl (cleanStep s) none
theorem Eb {s : Stm} {xs : List (List Int)} {t : List Int} : cleanR s (xs ++ [t]) = cleanStep s (cleanR s xs) t := by unfold cleanR; rw [List.foldl_append]; rfl
def cleanE (s : Stm) : List Nat × Int := if (checkT s).2.2 ≠ 0 then ([], (checkT s).2.2) else match cleanR s (allTrees s) with
 | none => ([], 9)
 | some b => (b, 0)
theorem R0 {s : Stm} (h : (checkT s).2.2 ≠ 0) : cleanE s = ([], (checkT s).2.2) := if_pos h
theorem Qd {s : Stm} (h : (checkT s).2.2 = 0) (h2 : cleanR s (allTrees s) = none) : cleanE s = ([], 9) := by unfold cleanE; rw [if_neg (fun k => k h), h2]
theorem Qc {s : Stm} (h : (checkT s).2.2 = 0) {b : List Nat} (h2 : cleanR s (allTrees s) = some b) : cleanE s = (b, 0) := by unfold cleanE; rw [if_neg (fun k => k h), h2]
def Edn.setR (x : Edn) (p : Nat) (v : Int) : Edn := ⟨x.name, x.lo, x.hi, x.rd.set p v⟩
def setS (s : Stm) (x p : Nat) (v : Int) : Stm := ⟨s.places, s.editions.set x ((s.ed x).setR p v)⟩
section
variable {s : Stm} {x p : Nat} {v : Int}
theorem DP : (setS s x p v).editions.length = s.editions.length := by simp [setS]
theorem NH {i : Nat} (hx : x < s.editions.length) : (setS s x p v).ed i = if i = x then (s.ed x).setR p v else s.ed i := by
 unfold setS
 show ((s.editions.set x ((s.ed x).setR p v))[i]?).getD _ = _
 rw [List.getElem?_set]
 by_cases h : x = i
 · subst h; rw [if_pos rfl, if_pos hx, if_pos rfl]; rfl
 rw [if_neg h, if_neg (fun k => h k.symm)]; rfl
theorem setS_r {i q : Nat} (hx : x < s.editions.length) (hp : p < (s.ed x).rd.length) : (setS s x p v).r i q = if i = x ∧ q = p then v else s.r i q := by
 unfold Stm.r
 rw [NH hx]
 by_cases h : i = x
 · subst h
   rw [if_pos rfl]
   show ((s.ed i).rd.set p v)[q]?.getD 0 = _
   rw [List.getElem?_set]
   by_cases h2 : p = q
   · subst h2; rw [if_pos rfl, if_pos hp, if_pos ⟨rfl, rfl⟩]; rfl
   rw [if_neg h2, if_neg (fun k => h2 k.2.symm)]
 rw [if_neg h, if_neg (fun k => h k.1)]
theorem Le (hv : ValidT s) (hx : x < s.editions.length) (hp : p < s.places.length) (h3 : 0 ≤ v ∧ v ≤ 3) : ValidT (setS s x p v) := by
 have hpl : p < (s.ed x).rd.length := by rw [hv.rdl x hx]; exact hp
 refine ⟨hv.np, by rw [DP]; exact hv.ne, hv.kind, fun i hi => ?_, fun i hi => ?_, fun i q hi hq => ?_⟩
 · rw [DP] at hi
   rw [NH hx]
   split
   · exact hv.year x hx
   exact hv.year i hi
 · rw [DP] at hi
   rw [NH hx]
   split
   · show ((s.ed x).rd.set p v).length = _; rw [List.length_set]; exact hv.rdl x hx
   exact hv.rdl i hi
 rw [DP] at hi
 rw [setS_r hx hpl]
 split
 · exact h3
 exact hv.rd i q hi hq
end
def readB (s : Stm) (l : List Int) (x p n : Nat) : Bool := (decide (s.r x p = 0) || decide (s.r x p = (n : Int) + 1)) && decide (placeN (setS s x p ((n : Int) + 1)) l p = placeN s l p)
def readTo (s : Stm) (l : List Int) (x p k : Nat) : List Int := (selN (readB s l x p) k).map fun n : Nat => (n : Int) + 1
theorem DS {s : Stm} {l : List Int} {x p k : Nat} : readTo s l x p (k + 1) = if readB s l x p k = true then readTo s l x p k ++ [(k : Int) + 1] else readTo s l x p k := by
 unfold readTo
 rw [Dm]
 split
 · rw [List.map_append]; rfl
 rfl
theorem Li {s : Stm} {l : List Int} {x p k : Nat} : (readTo s l x p k).length ≤ k := by unfold readTo; rw [List.length_map]; exact Dn
def readErr (s : Stm) (l : List Int) (z q : Int) : Int := if treeErr s l ≠ 0 then treeErr s l else if (inB 0 (s.editions.length - 1) z && inB 0 (s.places.length - 1) q) = false then 4 else if costL s l = 1000 then 9 else 0
def readE (s : Stm) (l : List Int) (z q : Int) : List Int × Int := if readErr s l z q ≠ 0 then ([], readErr s l z q) else (readTo s l z.toNat q.toNat 3, 0)
section
variable {s : Stm} {l : List Int} {z q : Int}
theorem GD {e : Int} (h : readErr s l z q = e) (he : e ≠ 0) : readE s l z q = ([], e) := by subst h; exact if_pos he
theorem Vd (h : readErr s l z q = 0) : readE s l z q = (readTo s l z.toNat q.toNat 3, 0) := if_neg (fun k => k h)
theorem Tx (h : treeErr s l ≠ 0) : readErr s l z q = treeErr s l := if_pos h
theorem MS (h : treeErr s l = 0) (h2 : (inB 0 (s.editions.length - 1) z && inB 0 (s.places.length - 1) q) = false) : readErr s l z q = 4 := by unfold readErr; rw [if_neg (fun k => k h), if_pos h2]
theorem Tw (h : treeErr s l = 0) (h2 : (inB 0 (s.editions.length - 1) z && inB 0 (s.places.length - 1) q) = true) (h3 : costL s l = 1000) : readErr s l z q = 9 := by unfold readErr; rw [if_neg (fun k => k h), if_neg (by rw [h2]; simp), if_pos h3]
theorem Ty (h : treeErr s l = 0) (h2 : (inB 0 (s.editions.length - 1) z && inB 0 (s.places.length - 1) q) = true) (h3 : costL s l ≠ 1000) : readErr s l z q = 0 := by unfold readErr; rw [if_neg (fun k => k h), if_neg (by rw [h2]; simp), if_neg h3]
end
end
section
set_option maxRecDepth 100000
open Go.RowKit
theorem UB {F : Heap} {l : List Int} (ht : IsTree l) (h5 : l.length ≤ 5) {i : Nat} (hi : i < l.length) (o : Nat) : Ok Tryz.prog 82 [treeV l, .int .i64 (i : Int), .int .i64 (o : Int)].toArray F fun u _ => u = .bool (underB l i o) := by
 refine Ok.intro Tryz.func82 rfl Tryz.ntmps82 rfl fun w0 => ?_
 have hl5 : l.length ≤ 5 := h5
 refine Ac <| Al fun ds => A3 rfl <| Bc Aa rfl fun b1 hb1 nb1 => As (Ae 1) <| Ac <| Ak ?_
 refine AJ [1, 6, 7, 8, 9, 10, 11, 12, 13, 14] (fun m e σ => ∃ z : Int, Fct e 1 (.int .i64 z) ∧ (z = -1 ∧ m = 0 ∧ underB l i o = false ∨ ∃ k : Nat, z = (k : Int) ∧ k < l.length ∧ m = dep l l.length k + 1 ∧ underB l i o = underB l k o) ∧ σ = ⟨F, [(b1, bx 128 (treeC l))]⟩) (dep l l.length i + 1) ?_ ?_
 · exact ⟨_, Bb, .inr ⟨i, rfl, hi, rfl, rfl⟩, rfl⟩
 rintro m e _ ⟨z, hs1, hz, rfl⟩
 rcases hz with ⟨hz, hm0, hu⟩ | ⟨k, hz, hk, hm0, hu⟩
 ·refine Ac <| AI (Ae 2) <| Ad Aa (dF (fun h => h hz)) <| AC ?_
  refine A0 <| A0 <| A4 <| Ab <| AI (Ae 1) <| At <| Aq rfl Bf ?_
  show _ = _
  rw [hu]; rfl
 have hk5 : k < 5 := by omega
 refine Ac <| AI (Ae 2) <| Ag Aa (dT (by omega)) ?_
 by_cases hko : k = o
 ·refine Aj <| Ab <| Ac <| Ak <| AI (Ae 3) <| Ag Aa (dT (by omega)) <| AI (Ae 1) <| At ?_
  refine A8 (A1 (A1 (A8 (A1 ?_))))
  refine Aq rfl Bf ?_
  show _ = _
  rw [hu, show k = o by omega, OH]; rfl
 refine Aj <| Ab <| Ac <| Ak <| AI (Ae 3) <| Ad Aa (dF (by omega)) ?_
 have hup := UA ht (o := o) hk
 refine Aj <| Az <| Ab <| Al fun ds => Ao (Ae 1) <| Af rfl (AR (k := k) BL Aa Aa hz hk5) <| Af rfl (Ah AA Aa (Cell.own 0 rfl (B5 hk5))) <| Ao (Ae 1) <| Am ?_
 refine Ab ⟨_, (if upN l k = -1 then 0 else dep l l.length (upN l k).toNat + 1), Off.eq (BT rfl <| BY rfl <| A2), (by rw [hm0]; split; omega; rename_i h1; obtain ⟨j, hj, hjl⟩ := ht.in_.nat hk h1; have := Ea hj (ht.reach k hk); rw [hj, Int.toNat_natCast]; omega), ?_⟩
 refine ⟨_, Bb, ?_, rfl⟩
 by_cases h1 : upN l k = -1
 · rw [if_pos h1]; rw [if_pos h1, dF hko] at hup; exact .inl ⟨h1, rfl, by rw [hu, hup]; rfl⟩
 rw [if_neg h1]
 obtain ⟨j, hj, hjl⟩ := ht.in_.nat hk h1
 rw [if_neg h1, dF hko, hj, Int.toNat_natCast] at hup
 exact .inr ⟨j, hj, hjl, by rw [hj]; rfl, by rw [hu, hup]; rfl⟩
theorem Lc {F : Heap} {l : List Int} {i : Nat} (hi : i < 5) : OkN Tryz.prog 55 [treeV l, .int .i64 (i : Int)].toArray F fun u _F' Hn => Own 3 1 u (sourceL l i).length ((sourceL l i).flatMap intE) Hn := by
 refine OkN.intro Tryz.func55 rfl Tryz.ntmps55 rfl fun w0 => ?_
 by_cases h1 : upN l i = -1
 ·refine Ac <| Al fun ds => A3 rfl <| Bc Aa rfl fun b1 hb1 nb1 => As (Ae 1) <| Ac <| Aw (Ae 1) fun ds => Af rfl (AR (k := i) BL Aa Aa rfl hi) <| Af rfl (Ah AA Aa (Cell.own 0 rfl (B5 hi))) <| As (Ae 1) <| Ag Aa (dT h1) <| AI (Ae 1) <| At <| A1 <| CP rfl Bf (List.nil_sublist _) ?_
  unfold sourceL; rw [if_pos h1]; exact Ce
 refine Ac <| Al fun ds => A3 rfl <| Bc Aa rfl fun b2 hb2 nb2 => As (Ae 1) <| Ac <| Aw (Ae 1) fun ds => Af rfl (AR (k := i) BL Aa Aa rfl hi) <| Af rfl (Ah AA Aa (Cell.own 0 rfl (B5 hi))) <| As (Ae 1) <| Ad Aa (dF h1) <| Aj <| Ab <| Aw (Ae 1) fun ds => Af rfl (AR (k := i) BL Aa Aa rfl hi) <| Af rfl (Ah AA Aa (Cell.own 0 rfl (B5 hi))) <| A3 rfl <| AU A7 B1 rfl (.cons Aa .nil) rfl rfl (by decide) (by simp [Value.oneCell']) fun b3 hb3 nb3 => As (Ae 1) <| At <| CP rfl Bf (kK <| kD <| .refl _) ?_
 unfold sourceL; rw [if_neg h1]; exact CR rfl
theorem Lb {l : List Int} {i : Nat} : srcN l i = srcL l i := by
 unfold srcN sourceL srcL
 split <;> rfl
theorem OX {l : List Int} {i : Nat} : (sourceL l i).length ≤ 1 := by unfold sourceL; split <;> simp
theorem QO {F : Heap} {c5 c10 c12 T5 T12 x o : Nat} {l : List Int} (ht : IsTree l) (h5 : l.length ≤ 5) (hc5 : F c5 = some (bx T5 [.int .i64 (x : Int)])) (hc10 : F c10 = some (bx 128 (treeC l))) (hc12 : F c12 = some (bx T12 [.int .i64 (o : Int)])) {k : Nat} (hk : k < l.length) : Ok Tryz.prog 83 [.int .i64 (k : Int), .pointer (some ⟨c5, 0, none⟩), .pointer (some ⟨c10, 0, none⟩), .pointer (some ⟨c12, 0, none⟩)].toArray F fun u F' => Nats F' u (befL l x o k) := by
 have hle0 : F.le F := Heap.le_refl _
 refine Ok.intro Tryz.func83 rfl Tryz.ntmps83 rfl fun w0 => ?_
 have hsl := OX (l := l) (i := k)
 by_cases hkx : k = x
 ·refine AI (Ae 1) <| Ac <| Aw (Ae 1) fun ds => Af rfl (Ah AA Aa (AM hc5 rfl)) <| As (Ae 1) <| Ag Aa (dT (by omega)) <| Ac ?_
  have hleS := hle0
  refine Bn (.inl rfl) (fun _ _ h => h) (List.nil_sublist _) [] (by kernel_rfl) fun ds => Ai 0 rfl (by kernel_rfl) (by kernel_rfl) (by kernel_rfl) (by kernel_rfl) rfl rfl (fun _ h => h.drop (List.nil_sublist _)) (fun _ _ _ h => h) (AO (vs := treeC l) B8 Aa rfl rfl (AZ hc10)) <| Ai 1 rfl (by kernel_rfl) (by kernel_rfl) (by kernel_rfl) (by kernel_rfl) rfl rfl (fun _ h => h.drop (List.nil_sublist _)) (fun _ _ _ h => h) (A9 Aa) <| Ai 3 rfl (by kernel_rfl) (by kernel_rfl) (by kernel_rfl) (by kernel_rfl) rfl rfl (fun _ h => h.drop (List.nil_sublist _)) (fun _ _ _ h => h) (Ah AA Aa (AM hc12 rfl)) ?_
  refine FR [2, 4] (by kernel_rfl) (by decide) (in2 ?_ ?_)
  ·refine D7 rfl rfl (CH N3 Aa AY (Lc (l := l) (i := k) (by omega)) fun v1 F2 R5 hr3 hF4 => ⟨fun _ _ _ h => (h.drop (List.nil_sublist _)).weak hF4 hleS, ?_⟩)
   have hoC := hr3
   refine CK 4 rfl (by kernel_rfl) rfl (AU A7 B1 rfl (.cons Aa .nil) rfl rfl (by decide) (by simp [Value.oneCell']) fun b6 hb6 nb6 => ⟨fun _ _ => (fun _ h => (h.drop (List.nil_sublist _)).weak hF4 hleS), ?_⟩)
   refine CK 5 rfl (by kernel_rfl) rfl (Bi A7 D5 Aa hoC Aa (BA (s := 1) 0 rfl rfl (by simp [Value.oneCell'])) (by omega) (by omega) (.s <| .z) .last fun v7 R8 ho9 => ⟨fun _ _ => (fun _ h => (h.drop (List.nil_sublist _)).weak hF4 hleS), ?_⟩)
   have ho14 := ho9.snoc (x := (o : Int)) rfl rfl
   refine Ai 6 rfl (by kernel_rfl) (by kernel_rfl) (by kernel_rfl) (by kernel_rfl) rfl rfl (fun _ h => (h.drop (List.nil_sublist _)).weak hF4 hleS) (fun _ _ _ h => h) (Bz Aa) ?_
   refine Bo (by kernel_rfl) ?_ _
   refine Ab <| Bm (σ := ⟨_, _⟩) (by rfl) ho14 (.s <| .z) .last fun F10 hF11 hz12 => ?_
   have hn14 := ho14.sl (fun _ => rfl) hz12 (by simp; omega)
   refine At <| A1 <| Aq rfl Bf ?_
   have hn := Ints.nats hn14 (by intro z hz; rcases List.mem_append.1 hz with hz | hz; exact Hg ht.in_ hk z hz; simp at hz; omega)
   unfold befL; rw [if_pos hkx, ← Lb]
   unfold srcN
   show Nats _ _ _
   have hn2 := hn
   rw [List.map_append] at hn2
   exact hn2
  refine D7 rfl rfl (AU A7 B1 rfl (.cons Aa .nil) rfl rfl (by decide) (by simp [Value.oneCell']) fun b13 hb13 nb13 => ⟨fun _ _ => (fun _ h => h.drop (List.nil_sublist _)), ?_⟩)
  refine CK 2 rfl (by kernel_rfl) rfl (CH N3 Aa AY (Lc (l := l) (i := k) (by omega)) fun v14 F15 R18 hr16 hF17 => ⟨fun _ _ _ h => (h.drop (List.nil_sublist _)).weak hF17 hleS, ?_⟩)
  have hoC := hr16
  refine CK 5 rfl (by kernel_rfl) rfl (Bi A7 D5 Aa hoC Aa (BA (s := 1) 0 rfl rfl (by simp [Value.oneCell'])) (by omega) (by omega) (.s <| .z) .last fun v19 R20 ho21 => ⟨fun _ _ => (fun _ h => (h.drop (List.nil_sublist _)).weak hF17 hleS), ?_⟩)
  have ho14 := ho21.snoc (x := (o : Int)) rfl rfl
  refine Ai 6 rfl (by kernel_rfl) (by kernel_rfl) (by kernel_rfl) (by kernel_rfl) rfl rfl (fun _ h => (h.drop (List.nil_sublist _)).weak hF17 hleS) (fun _ _ _ h => h) (Bz Aa) ?_
  refine Bo (by kernel_rfl) ?_ _
  refine Ab <| Bm (σ := ⟨_, _⟩) (by rfl) ho14 (.s <| .z) .last fun F22 hF23 hz24 => ?_
  have hn14 := ho14.sl (fun _ => rfl) hz24 (by simp; omega)
  refine At <| A1 <| Aq rfl Bf ?_
  have hn := Ints.nats hn14 (by intro z hz; rcases List.mem_append.1 hz with hz | hz; exact Hg ht.in_ hk z hz; simp at hz; omega)
  unfold befL; rw [if_pos hkx, ← Lb]
  unfold srcN
  show Nats _ _ _
  have hn2 := hn
  rw [List.map_append] at hn2
  exact hn2
 refine AI (Ae 1) <| Ac <| Aw (Ae 1) fun ds => Af rfl (Ah AA Aa (AM hc5 rfl)) <| As (Ae 1) <| Ad Aa (dF (by omega)) <| Aj <| Ab <| Ac <| Al fun ds => Af rfl (AO B8 Aa rfl rfl (AZ hc10)) <| Ao (Ae 1) <| A3 rfl <| Be N3 Aa AY (Fu ht.in_ hk h5) fun v25 F26 hr27 hF28 => ?_
 have hsrc := hr27
 refine As (Ae 1) <| At <| Aq rfl Bf ?_
 unfold befL; rw [if_neg hkx, ← Lb]
 exact hsrc
end
section
set_option maxRecDepth 100000
open Go.RowKit
theorem bd_82 : Body Tryz.prog 82 := AF (by kernel_rfl)
theorem bd_83 : Body Tryz.prog 83 := AF (by kernel_rfl)
theorem GT {F : Heap} {vp ve : Value} {ps : List (Value × Edn)} {s : Stm} (hr : StmR F vp ve ps s) {v : Value} {l : List Int} (hl : Ints F v l) (z : Int) : Ok Tryz.prog 39 [.agg #[vp, ve], v, .int .i64 z].toArray F fun u _ => u = secV s l z := by
 have hle0 : F.le F := Heap.le_refl _
 refine Ok.intro Tryz.func39 rfl Tryz.ntmps39 rfl fun w0 => ?_
 have hL := hl.plain.lt
 have hlen := hr.len
 have hL1 := hr.eds.plain.lt
 by_cases hok : treeErr s l = 0
 ·obtain ⟨hv, hll, ht⟩ := Kw hok
  have hne := hv.ne
  have hnp := hv.np
  have hl5 : l.length ≤ 5 := by omega
  refine Ac <| Al fun ds => A3 rfl <| Bc Aa rfl fun b1 hb1 nb1 => A3 rfl <| Bc Aa rfl fun b2 hb2 nb2 => As (Ae 3) <| Aw (Ae 2) fun ds => A3 rfl <| CH Kr Aa AY (Jd hr hl hok) fun v3 F4 R7 hr5 hF6 => ?_
  replace hr := hr.mono hF6
  replace hle0 := Heap.le_trans hle0 hF6
  obtain ⟨ba, kb, rfl, hX, rfl⟩ := hr5
  refine Ao (Ae 4) <| A3 rfl <| AN Db rfl fun b8 hb8 nb8 => Ao (Ae 1) <| AV <| AQ Dk Aa Aa (i := 0) rfl rfl rfl rfl Cn (.here) <| As (Ae 1) <| Ac <| Ak <| Ac <| AL (i := 2) rfl hb1 (.next <| .next <| .here) fun F9 hF10 hz3 => ?_
  replace hr := hr.mono hF10
  replace hle0 := Heap.le_trans hle0 hF10
  replace hX := hX.mono hF10
  refine AL (i := 1) rfl hb2 (.next <| .here) fun F11 hF12 hz5 => ?_
  replace hr := hr.mono hF12
  replace hle0 := Heap.le_trans hle0 hF12
  replace hX := hX.mono hF12
  replace hz3 := hF12 _ _ hz3
  refine AL (i := 0) rfl hb8 (.here) fun F13 hF14 hz10 => ?_
  replace hr := hr.mono hF14
  replace hle0 := Heap.le_trans hle0 hF14
  replace hX := hX.mono hF14
  replace hz3 := hF14 _ _ hz3
  replace hz5 := hF14 _ _ hz5
  refine Al fun ds => As (Ae 3) <| Ad Aa (by decide) ?_
  by_cases h1 : inB 0 (s.editions.length - 1) z = true
  ·obtain ⟨x, rfl, hx⟩ := FH h1
   have hx5 : x < 5 := by omega
   have hxl : x < l.length := by omega
   have hxp : x < ps.length := by omega
   have hrx := hr.rd hxp
   refine Aw (Ae 1) fun ds => Af rfl (Ah B4 Aa (AM hz3 rfl)) <| Af rfl (A6 Bl Aa hr.eds.plain) <| Af rfl (BZ Aa Aa rfl (by omega) (by omega)) <| Af rfl (Ah AA Aa (AM hz5 rfl)) <| A3 rfl <| AU A7 B1 rfl (.cons Aa .nil) rfl rfl (by decide) (by simp [Value.oneCell']) fun b15 hb15 nb15 => AW (i := 0) rfl hb15 .here fun F16 hF17 hz18 => ?_
   replace hr := hr.mono hF17
   replace hle0 := Heap.le_trans hle0 hF17
   replace hX := hX.mono hF17
   replace hrx := hrx.mono hF17
   replace hz3 := hF17 _ _ hz3
   replace hz5 := hF17 _ _ hz5
   replace hz10 := hF17 _ _ hz10
   have hsl19 := Bk hz18
   refine AS rfl (Ay Df Aa AY (B2 _ _ hsl19) (fun _ _ h => h)) <| As (Ae 1) <| Ad Aa (by simp [hlen, h1]) ?_
   by_cases hft : fitsT s l = true
   ·refine Aw (Ae 1) fun ds => Af rfl (AO B8 Aa rfl rfl (AZ hz10)) <| AS rfl (Ay Qy Aa AY (HY hX ht hll hv) (fun _ _ h => h)) <| As (Ae 2) <| Ad Aa (by unfold fitsT at hft; rw [hft]; first | done | rfl) ?_
    by_cases hu : upN l x = -1
    ·refine Ac <| Al fun ds => Af rfl (Ah AA Aa (AM hz5 rfl)) <| Af rfl (AR (k := x) BL Aa Aa rfl hx5) <| Af rfl (Ah AA Aa (CellF.own hz10 (B5 hx5)).cell) <| As (Ae 2) <| Ag Aa (dT hu) <| AI (Ae 3) <| At <| A8 <| A1 <| Aq rfl Bf ?_
     show _ = _
     rw [HG (UV hok h1 hft hu) (by decide)]; rfl
    obtain ⟨y, hy, hyl⟩ := ht.in_.nat hxl hu
    have hse := UZ hok h1 hft hu
    have hyn : (upN l x).toNat = y := by omega
    have hol : (ownL s l x).length ≤ s.places.length := Dn
    refine Ac <| Al fun ds => Af rfl (Ah AA Aa (AM hz5 rfl)) <| Af rfl (AR (k := x) BL Aa Aa rfl hx5) <| Af rfl (Ah AA Aa (CellF.own hz10 (B5 hx5)).cell) <| As (Ae 2) <| Ad Aa (dF hu) <| Aj <| Az <| Ab <| Ac ?_
    have hleS := hle0
    refine Bn (.inl rfl) (fun _ _ h => h) (kK <| .refl _) [] (by kernel_rfl) fun ds => Ai 0 rfl (by kernel_rfl) (by kernel_rfl) (by kernel_rfl) (by kernel_rfl) rfl rfl (fun _ h => h.drop (kK <| .refl _)) (fun _ _ _ h => h) (A9 Aa) <| Ai 1 rfl (by kernel_rfl) (by kernel_rfl) (by kernel_rfl) (by kernel_rfl) rfl rfl (fun _ h => h.drop (kK <| .refl _)) (fun _ _ _ h => h) (Ah AA Aa (AM hz5 rfl)) <| Ai 2 rfl (by kernel_rfl) (by kernel_rfl) (by kernel_rfl) (by kernel_rfl) rfl rfl (fun _ h => h.drop (kK <| .refl _)) (fun _ _ _ h => h) (AR (k := x) BL Aa Aa rfl hx5) <| Ai 3 rfl (by kernel_rfl) (by kernel_rfl) (by kernel_rfl) (by kernel_rfl) rfl rfl (fun _ h => h.drop (kK <| .refl _)) (fun _ _ _ h => h) (Ah AA Aa (CellF.own hz10 (hy ▸ B5 hx5)).cell) <| Ai 4 rfl (by kernel_rfl) (by kernel_rfl) (by kernel_rfl) (by kernel_rfl) rfl rfl (fun _ h => h.drop (kK <| .refl _)) (fun _ _ _ h => h) (Ah AA Aa (AM hz5 rfl)) ?_
    refine CK 5 rfl (by kernel_rfl) rfl (Be bd_72 Aa AY (Q1 hX hv (a := y) (c := x) (by omega) hx) fun v20 F21 hr22 hF23 => ⟨fun _ _ _ h => (h.drop (kK <| .refl _)).weak hF23 hleS, ?_⟩)
    replace hr := hr.mono hF23
    replace hX := hX.mono hF23
    replace hrx := hrx.mono hF23
    replace hz3 := hF23 _ _ hz3
    replace hz5 := hF23 _ _ hz5
    replace hz10 := hF23 _ _ hz10
    have hap := hr22
    rw [← hyn] at hap
    change Nats _ _ (ownL s l x) at hap
    refine Ai 6 rfl (by kernel_rfl) (by kernel_rfl) (by kernel_rfl) (by kernel_rfl) rfl rfl (fun _ h => (h.drop (kK <| .refl _)).weak hF23 hleS) (fun _ _ _ h => h) (Bz Aa) ?_
    refine Bo (by kernel_rfl) ?_ _
    refine Ab <| Ac <| Aw (Ae 1) fun ds => Af rfl (Ah B4 Aa (AM hz3 rfl)) <| Af rfl (A6 Bl Aa hr.eds.plain) <| As (Ae 1) <| Ak ?_
    refine AJ [6, 7, 12, 13, 14, 15, 16, 18, 57, 58, 59, 60, 61, 62, 63, 64, 65, 66, 67, 68, 69, 70, 71, 72, 73, 74, 75, 76, 77, 78, 79, 80, 81, 82, 83, 84, 85, 86, 87, 88, 89, 90, 91, 92, 93, 94, 95, 96, 97, 98, 99, 100, 101, 102, 103, 104, 105, 106, 107, 108, 109, 110, 111] (fun m e σ => ∃ G, F21.le G ∧ ∃ k : Nat, m + k = ps.length ∧ Fct e 57 (.int .i64 (k : Int)) ∧ Fct e 6 (.int .i64 (secTo s l x k).1) ∧ Fct e 7 (.int .i64 (secTo s l x k).2) ∧ σ = ⟨G, [(kb, mapO [])]⟩) (ps.length) ?_ ?_
    · exact ⟨_, Heap.le_refl _, 0, by omega, Bb, Bb, Bb, rfl⟩
    rintro m e _ ⟨G, hFG, k, hm, hs57, hs6, hs7, rfl⟩; replace hr := hr.mono hFG; replace hX := hX.mono hFG; replace hap := hap.mono hFG; replace hrx := hrx.mono hFG; replace hz3 := hFG _ _ hz3; replace hz5 := hFG _ _ hz5; replace hz10 := hFG _ _ hz10
    by_cases hlt : k < ps.length
    ·have hkl : k < l.length := by omega
     have hrk := hr.rd hlt
     have e1 := hr.at hlt
     have hsb := Ka (s := s) (l := l) (x := x) k
     refine AI (Ae 1) <| Ac <| Ag Aa (by first | rfl | exact dT (by omega)) <| Aj <| Ab <| Ac <| Ak <| Aw (Ae 1) fun ds => Af rfl (Ax (k := k) Bl Aa hr.eds.plain Aa rfl hlt) <| Af rfl (AO ED Aa rfl rfl (hr.eds.whole hlt)) <| A3 rfl <| AN B1 rfl fun b25 hb25 nb25 => A3 rfl <| AN JV rfl fun b26 hb26 nb26 => AV <| AT Cc Aa Aa (i := 1) rfl (.here) rfl (.next <| .here) <| AV <| AQ MK Aa Aa (i := 0) rfl rfl rfl rfl (GL (hr.one _ (List.getElem_mem hlt))) (.here) <| Am <| Ab <| Ac <| Ac <| AL (i := 1) rfl hb25 (.next <| .here) fun F27 hF28 hz12 => ?_
     replace hr := hr.mono hF28
     replace hX := hX.mono hF28
     replace hap := hap.mono hF28
     replace hrx := hrx.mono hF28
     replace hFG := Heap.le_trans hFG hF28
     replace hrk := hrk.mono hF28
     replace hz3 := hF28 _ _ hz3
     replace hz5 := hF28 _ _ hz5
     replace hz10 := hF28 _ _ hz10
     by_cases hku : (k : Int) ≠ upN l x
     ·refine Bx (.inl rfl) (fun _ _ h => h) (by kernel_rfl) (by kernel_rfl) fun ds => AX rfl (Ah AA Aa (AM hz12 rfl)) <| AX rfl (Ah AA Aa (AM hz5 rfl)) <| AX rfl (AR (k := x) BL Aa Aa rfl hx5) <| AX rfl (Ah AA Aa (CellF.own hz10 (B5 hx5)).cell) <| Ba (Ae 2) <| AK rfl rfl Aa (dF hku) <| AX rfl (AO B8 Aa rfl rfl (AZ hz10)) <| AK rfl rfl Aa (dF hku) <| AX rfl (Ah AA Aa (AM hz12 rfl)) <| AK rfl rfl Aa (dF hku) <| AX rfl (Ah AA Aa (AM hz5 rfl)) <| AK rfl rfl Aa (dF hku) <| GS rfl (Ay bd_82 Aa AY (UB ht hl5 hkl x) (fun _ _ h => h)) <| AX rfl (A5 Aa (dF hku) Aa) <| B9 <| Ab ?_
      by_cases hun : underB l k x = true
      ·refine Ag Aa hun <| AC <| A0 <| A4 <| Ab <| By (fun _ _ h => h.drop (kD <| kK <| .refl _)) <| Al fun ds => Af rfl (AE Aa Aa rfl (by omega) (by omega)) <| Ao (Ae 1) <| Am ?_
       refine Ab ⟨_, m - 1, Off.eq (B3 rfl <| Cw rfl <| BY rfl <| A2), by omega, ?_⟩
       refine ⟨_, hFG, k + 1, by omega, Bb, BN (by rw [DQ (fun h => by unfold canT at h; rw [hun] at h; simp at h)]), BN (by rw [DQ (fun h => by unfold canT at h; rw [hun] at h; simp at h)]), rfl⟩
      replace hun : underB l k x = false := by simpa using hun
      refine Ad Aa hun <| Aj <| Ab <| Aw (Ae 1) fun ds => Af rfl (Bu AY) <| A3 rfl <| Be SN Aa AY (HC hX hv (fs := []) (cs := [.pointer (some ⟨b2, 0, none⟩), .pointer (some ⟨b8, 0, none⟩), .pointer (some ⟨b25, 0, none⟩)]) bd_83 (bef := befL l x k) (fun G hG i hi => QO ht hl5 (hG _ _ hz5) (hG _ _ hz10) (hG _ _ hz12) (by omega)) (E := treeE l ++ [(k, x)]) (fun a b => by rw [Wk hxl, hll]) (by rw [← hll]; exact ht.dag2 hkl hxl hun)) fun v29 F30 hr31 hF32 => ?_
      replace hr := hr.mono hF32
      replace hap := hap.mono hF32
      replace hrx := hrx.mono hF32
      replace hFG := Heap.le_trans hFG hF32
      replace hrk := hrk.mono hF32
      replace hz3 := hF32 _ _ hz3
      replace hz5 := hF32 _ _ hz5
      replace hz12 := hF32 _ _ hz12
      obtain ⟨vsp, rfl, hsp⟩ := hr31
      refine As (Ae 5) <| AI (Ae 1) <| Ac <| Aw (Ae 1) fun ds => Af rfl (A6 A7 Aa hap.plain) <| As (Ae 1) <| Ak ?_
      refine AJ [16, 18, 81, 82, 83, 84, 85, 86, 87, 88, 89, 90, 91, 92, 93, 94, 95, 96, 97, 98, 99, 100, 101, 102] (fun m e σ => ∃ q : Nat, m + q = (ownL s l x).length ∧ Fct e 81 (.int .i64 (q : Int)) ∧ Fct e 16 (.int .i64 (savesTo s (ownL s l x) x k q)) ∧ σ = ⟨F30, [(b26, bx 59 (edE ps[k])), (kb, mapO [])]⟩) ((ownL s l x).length) ?_ ?_
      · exact ⟨0, by omega, Bb, Bb, rfl⟩
      rintro m2 e2 _ ⟨q, hm2, ht981, ht916, rfl⟩
      by_cases hlq : q < (ownL s l x).length
      ·have hpn : (ownL s l x)[q] < s.places.length := selN_lt _ (List.getElem_mem hlq)
       have hpk : (ownL s l x)[q] < (s.ed k).rd.length := by rw [hv.rdl k (by omega)]; exact hpn
       have hpx : (ownL s l x)[q] < (s.ed x).rd.length := by rw [hv.rdl x (by omega)]; exact hpn
       have er1 := FZ hpk
       have er2 := FZ hpx
       have hsb := GU (s := s) (own := (ownL s l x)) (x := x) (o := k) (k := q)
       refine AI (Ae 1) <| Ac <| Ag Aa (by first | rfl | exact dT (by omega)) ?_
       by_cases hsh : sharedB s x k (ownL s l x)[q] = true
       ·refine Aj <| Ab <| Ac <| Ak <| Ac <| Al fun ds => Af rfl (Ax (k := q) A7 Aa hap.plain Aa rfl hlq) <| Af rfl (Ah AA Aa (hap.cell1 hlq rfl)) <| As (Ae 1) <| Ac <| Bx (.inl rfl) (fun _ _ h => h) (by kernel_rfl) (by kernel_rfl) fun ds => Ba (Ae 3) <| AX rfl (Ax (k := (ownL s l x)[q]) A7 Aa hrk.plain Aa rfl hpk) <| AX rfl (Ah AA Aa (hrk.cell1 hpk rfl)) <| Ba (Ae 1) <| AX rfl (Ah B4 Aa (AM hz3 rfl)) <| AX rfl (Ah AA Aa (AM hz5 rfl)) <| AX rfl (Ax (k := x) Bl Aa hr.eds.plain Aa rfl hxp) <| Ba (Ae 1) <| AX rfl (Ah Br Aa (hr.eds.cell hxp rfl)) <| Ba (Ae 1) <| AX rfl (Ax (k := (ownL s l x)[q]) A7 Aa hrx.plain Aa rfl hpx) <| AX rfl (Ah AA Aa (hrx.cell1 hpx rfl)) <| Ba (Ae 1) <| B9 <| Ab <| Ag Aa (by rw [er1, er2]; exact hsh) <| Al fun ds => Ao (Ae 1) <| Af rfl (AE Aa Aa rfl (by omega) (by omega)) <| Ao (Ae 1) <| Am <| Az <| Ab <| Al fun ds => Af rfl (AE Aa Aa rfl (by omega) (by omega)) <| Ao (Ae 1) <| Am ?_
        refine Ab ⟨_, m2 - 1, Off.eq (B3 rfl <| BT rfl <| A2), by omega, ?_⟩
        exact ⟨q + 1, by omega, Bb, BN (by rw [HH hlq, if_pos hsh]), rfl⟩
       replace hsh : sharedB s x k (ownL s l x)[q] = false := by simpa using hsh
       refine Aj <| Ab <| Ac <| Ak <| Ac <| Al fun ds => Af rfl (Ax (k := q) A7 Aa hap.plain Aa rfl hlq) <| Af rfl (Ah AA Aa (hap.cell1 hlq rfl)) <| As (Ae 1) <| Ac <| Bx (.inl rfl) (fun _ _ h => h) (by kernel_rfl) (by kernel_rfl) fun ds => Ba (Ae 3) <| AX rfl (Ax (k := (ownL s l x)[q]) A7 Aa hrk.plain Aa rfl hpk) <| AX rfl (Ah AA Aa (hrk.cell1 hpk rfl)) <| Ba (Ae 1) <| AX rfl (Ah B4 Aa (AM hz3 rfl)) <| AX rfl (Ah AA Aa (AM hz5 rfl)) <| AX rfl (Ax (k := x) Bl Aa hr.eds.plain Aa rfl hxp) <| Ba (Ae 1) <| AX rfl (Ah Br Aa (hr.eds.cell hxp rfl)) <| Ba (Ae 1) <| AX rfl (Ax (k := (ownL s l x)[q]) A7 Aa hrx.plain Aa rfl hpx) <| AX rfl (Ah AA Aa (hrx.cell1 hpx rfl)) <| Ba (Ae 1) <| B9 <| Ab <| Ad Aa (by rw [er1, er2]; exact hsh) <| Aj <| Az <| Ab <| Al fun ds => Af rfl (AE Aa Aa rfl (by omega) (by omega)) <| Ao (Ae 1) <| Am ?_
       refine Ab ⟨_, m2 - 1, Off.eq (B3 rfl <| Ci rfl <| BY rfl <| A2), by omega, ?_⟩
       exact ⟨q + 1, by omega, Bb, BN (by rw [HH hlq, if_neg (by rw [hsh]; simp)]), rfl⟩
      refine AI (Ae 1) <| Ac <| Ad Aa (by first | rfl | exact dF (by omega)) ?_
      obtain rfl : q = (ownL s l x).length := by omega
      by_cases hf2 : fitsT2 s l x k = true
      ·have hcan : canT s l x k = true := by unfold canT; rw [dT hku, hun, hf2]; rfl
       refine AC ?_
       refine A0 <| A0 <| A4 <| Ab <| Aw (Ae 2) fun ds => Ap rfl rfl Aa (by unfold fitsT2 at hf2; exact hf2) <| Ao (Ae 1) <| Ap rfl rfl Aa (by unfold fitsT2 at hf2; exact hf2) <| Ao (Ae 1) <| Ap rfl rfl Aa (by unfold fitsT2 at hf2; exact hf2) <| Ao (Ae 1) <| Af rfl (Au Aa (by unfold fitsT2 at hf2; exact hf2) Aa) <| Am <| Ab ?_
       by_cases hgt : (secTo s l x k).2 < savesN s l x k
       ·refine Ag Aa (by rw [DR]; exact dT hgt) <| Al fun ds => Af rfl (Ah AA Aa (AM hz12 rfl)) <| Ao (Ae 3) <| Am <| Az <| Ab <| By (fun _ _ h => h.drop (kD <| kK <| .refl _)) <| Al fun ds => Af rfl (AE Aa Aa rfl (by omega) (by omega)) <| Ao (Ae 1) <| Am ?_
        refine Ab ⟨_, m - 1, Off.eq (BT rfl <| Ci rfl <| BY rfl <| BJ rfl <| B3 rfl <| BT rfl <| Ci rfl <| BY rfl <| A2), by omega, ?_⟩
        refine ⟨_, hFG, k + 1, by omega, Bb, BN (by rw [MP hcan hgt]; first | done | rfl | rw [DR]), BN (by rw [MP hcan hgt]; first | done | rfl | rw [DR]), rfl⟩
       refine Ad Aa (by rw [DR]; exact dF hgt) <| Aj <| Az <| Ab <| By (fun _ _ h => h.drop (kD <| kK <| .refl _)) <| Al fun ds => Af rfl (AE Aa Aa rfl (by omega) (by omega)) <| Ao (Ae 1) <| Am ?_
       refine Ab ⟨_, m - 1, Off.eq (BT rfl <| BY rfl <| BJ rfl <| B3 rfl <| BT rfl <| Ci rfl <| BY rfl <| A2), by omega, ?_⟩
       refine ⟨_, hFG, k + 1, by omega, Bb, BN (by rw [DQ (fun h => hgt h.2)]), BN (by rw [DQ (fun h => hgt h.2)]), rfl⟩
      replace hf2 : fitsT2 s l x k = false := by simpa using hf2
      have hcan : canT s l x k = false := by unfold canT; rw [hf2]; simp
      refine AC ?_
      refine A0 <| A0 <| A4 <| Ab <| Aw (Ae 2) fun ds => Ar rfl rfl Aa (.inl (congrArg Value.bool (by unfold fitsT2 at hf2; exact hf2))) rfl <| Ar rfl rfl Aa (.inl (congrArg Value.bool (by unfold fitsT2 at hf2; exact hf2))) rfl <| Ar rfl rfl Aa (.inl (congrArg Value.bool (by unfold fitsT2 at hf2; exact hf2))) rfl <| Af rfl (A5 Aa (by unfold fitsT2 at hf2; exact hf2) Aa) <| Am <| Ab <| Ad Aa rfl <| Aj <| Az <| Ab <| By (fun _ _ h => h.drop (kD <| kK <| .refl _)) <| Al fun ds => Af rfl (AE Aa Aa rfl (by omega) (by omega)) <| Ao (Ae 1) <| Am ?_
      refine Ab ⟨_, m - 1, Off.eq (BT rfl <| BY rfl <| BJ rfl <| B3 rfl <| BT rfl <| Ci rfl <| BY rfl <| A2), by omega, ?_⟩
      refine ⟨_, hFG, k + 1, by omega, Bb, BN (by rw [DQ (fun h => by rw [hcan] at h; exact absurd h.1 (by decide))]), BN (by rw [DQ (fun h => by rw [hcan] at h; exact absurd h.1 (by decide))]), rfl⟩
     refine Bx (.inl rfl) (fun _ _ h => h) (by kernel_rfl) (by kernel_rfl) fun ds => AX rfl (Ah AA Aa (AM hz12 rfl)) <| AX rfl (Ah AA Aa (AM hz5 rfl)) <| AX rfl (AR (k := x) BL Aa Aa rfl hx5) <| AX rfl (Ah AA Aa (CellF.own hz10 (B5 hx5)).cell) <| Ba (Ae 2) <| AG rfl rfl Aa (.inl (congrArg Value.bool (dT (Classical.not_not.1 hku)))) rfl <| AG rfl rfl Aa (.inl (congrArg Value.bool (dT (Classical.not_not.1 hku)))) rfl <| AG rfl rfl Aa (.inl (congrArg Value.bool (dT (Classical.not_not.1 hku)))) rfl <| AG rfl rfl Aa (.inl (congrArg Value.bool (dT (Classical.not_not.1 hku)))) rfl <| AX rfl (Au Aa (dT (Classical.not_not.1 hku)) Aa) <| B9 <| Ab <| Ag Aa rfl <| AC <| A0 <| A4 <| Ab <| By (fun _ _ h => h.drop (kD <| kK <| .refl _)) <| Al fun ds => Af rfl (AE Aa Aa rfl (by omega) (by omega)) <| Ao (Ae 1) <| Am ?_
     refine Ab ⟨_, m - 1, Off.eq (B3 rfl <| Cw rfl <| BY rfl <| A2), by omega, ?_⟩
     refine ⟨_, hFG, k + 1, by omega, Bb, BN (by rw [DQ (fun h => by unfold canT at h; rw [dF hku] at h; simp at h)]), BN (by rw [DQ (fun h => by unfold canT at h; rw [dF hku] at h; simp at h)]), rfl⟩
    refine AI (Ae 1) <| Ac <| Ad Aa (by first | rfl | exact dF (by omega)) ?_
    obtain rfl : k = s.editions.length := by omega
    by_cases hz0 : (secTo s l x s.editions.length).2 = 0
    ·refine AC ?_
     refine A0 <| A0 <| A4 <| Ab <| Ac <| AI (Ae 2) <| Ag Aa (dT hz0) <| AI (Ae 3) <| At <| A1 <| Aq rfl Bf ?_
     show _ = _
     rw [Tr hse hz0]; rfl
    refine AC ?_
    refine A0 <| A0 <| A4 <| Ab <| Ac <| AI (Ae 2) <| Ad Aa (dF hz0) <| Aj <| Ab <| AI (Ae 5) <| At <| Aq rfl Bf ?_
    show _ = _
    rw [secE_ok hse hz0]; rfl
   replace hft : fitsT s l = false := by simpa using hft
   refine Aw (Ae 1) fun ds => Af rfl (AO B8 Aa rfl rfl (AZ hz10)) <| AS rfl (Ay Qy Aa AY (HY hX ht hll hv) (fun _ _ h => h)) <| As (Ae 2) <| Ag Aa (by unfold fitsT at hft; rw [hft]; first | done | rfl) <| AI (Ae 3) <| At <| A8 <| A1 <| Aq rfl Bf ?_
   show _ = _
   rw [HG (UW hok h1 hft) (by decide)]; rfl
  replace h1 : inB 0 (s.editions.length - 1) z = false := by simpa using h1
  refine Aw (Ae 1) fun ds => Af rfl (Ah B4 Aa (AM hz3 rfl)) <| Af rfl (A6 Bl Aa hr.eds.plain) <| Af rfl (BZ Aa Aa rfl (by omega) (by omega)) <| Af rfl (Ah AA Aa (AM hz5 rfl)) <| A3 rfl <| AU A7 B1 rfl (.cons Aa .nil) rfl rfl (by decide) (by simp [Value.oneCell']) fun b34 hb34 nb34 => AW (i := 0) rfl hb34 .here fun F35 hF36 hz37 => ?_
  have hsl38 := Bk hz37
  refine AS rfl (Ay Df Aa AY (B2 _ _ hsl38) (fun _ _ h => h)) <| As (Ae 1) <| Ag Aa (by simp [hlen, h1]) <| AI (Ae 3) <| At <| A8 <| A1 <| Aq rfl Bf ?_
  show _ = _
  rw [HG (UX hok h1) (by decide)]; rfl
 refine Ac <| Al fun ds => A3 rfl <| Bc Aa rfl fun b39 hb39 nb39 => A3 rfl <| Bc Aa rfl fun b40 hb40 nb40 => As (Ae 3) <| Aw (Ae 2) fun ds => A3 rfl <| Be Kr Aa AY (GJ hr hl hok) fun v41 F42 hr43 hF44 => ?_
 obtain ⟨l2, rfl⟩ := hr43
 refine Ao (Ae 4) <| A3 rfl <| AN Db rfl fun b45 hb45 nb45 => Ao (Ae 1) <| AV <| AQ Dk Aa Aa (i := 0) rfl rfl rfl rfl Cn (.here) <| As (Ae 1) <| Ac <| Ak <| AI (Ae 3) <| Ag Aa (dT hok) <| AI (Ae 4) <| At <| A8 <| A1 <| Aq rfl Bf ?_
 show _ = _
 rw [HG (UY hok) hok]; rfl
end
section
theorem Da (p : Go.Value × Edn) : (edE p).length = 4 := rfl
theorem PP {ps : List (Go.Value × Edn)} {x : Nat} {u : Go.Value} {e : Edn} (hx : x < ps.length) (h1 : e.name = ps[x].2.name) (h2 : e.lo = ps[x].2.lo) (h3 : e.hi = ps[x].2.hi) : (ps.flatMap edE).set (x * 4 + 3) u = (ps.set x (u, e)).flatMap edE :=
 De Da (j := 3) (x := (u, e)) (by omega) ps x hx (by simp [edE, h1, h2, h3])
theorem PQ {ps : List (Go.Value × Edn)} {x : Nat} (hx : x < ps.length) : (ps.flatMap edE)[x * 4 + 3]? = some ps[x].1 :=
 FI (enc := edE) (s := 4) Da (j := 3) ps x hx rfl
theorem LO {ps : List (Go.Value × Edn)} {x : Nat} {u : Go.Value} {e : Edn} (hx : x < ps.length) : ((ps.set x (u, e)).flatMap edE)[x * 4 + 3]? = some u := by
 have h := PQ (ps := ps.set x (u, e)) (x := x) (by simpa using hx)
 rw [h]; simp
theorem LP {E : Nat} {w : Go.Value} {R : List (Nat × Go.Obj)} {ps : List (Go.Value × Edn)} {x : Nat} {u : Go.Value} {e : Edn} (h : Own E 4 w ps.length ((ps.flatMap edE).set (x * 4 + 3) u) R) (hx : x < ps.length) (h1 : e.name = ps[x].2.name) (h2 : e.lo = ps[x].2.lo) (h3 : e.hi = ps[x].2.hi) : Own E 4 w (ps.set x (u, e)).length ((ps.set x (u, e)).flatMap edE) R := by
 rw [PP hx h1 h2 h3] at h
 rw [List.length_set]; exact h
theorem FG {xs : List Int} {p : Nat} {v : Int} (hp : p < xs.length) : (xs.flatMap intE).set (p * 1 + 0) (.int .i64 v) = (xs.set p v).flatMap intE :=
 De (enc := intE) (s := 1) (fun _ => rfl) (j := 0) (x := v) (by omega) xs p hp rfl
theorem StmR.set {F : Heap} {vp ve ve' u : Go.Value} {ps : List (Go.Value × Edn)} {s : Stm} {x p : Nat} {v : Int} (h : StmR F vp ve ps s) (he : Sl F ve' 4 edE (ps.set x (u, (s.ed x).setR p v))) (hu : Ints F u ((s.ed x).rd.set p v)) :
   StmR F vp ve' (ps.set x (u, (s.ed x).setR p v)) (setS s x p v) := by
 refine ⟨h.places, he, fun q hq => ?_, ?_⟩
 · rcases List.mem_or_eq_of_mem_set hq with hq | rfl
   · exact h.rds q hq
   exact hu
 rw [List.map_set, h.eqs]; rfl
end
section
open Go.RowKit
section
variable {P : Program} {n : Nat} {B : Base} {e : Env} {σ : St} {ty : TypeId} {pos : String} {af : Array Edge}
theorem Hy {d : Option Nat} {g : FuncId} {f : Operand} {cs vs : List Value} {xs : List Operand} {at_ : Array TypeId}
   {R : Value → Heap → List (Nat × Obj) → Prop} {K : Value → St → Prop} (hg : Body P g) (hf : ev e f = .func (.func g) #[] cs.toArray) (hx : Av e xs vs)
   (hok : OkN P g (vs ++ cs).toArray σ.F R) (hn : ∀ v F' Hn, R v F' Hn → σ.F.le F' → K v ⟨F', Hn ++ σ.H⟩) :
   OpX P n B ⟨d, .call ⟨.value f, xs.toArray, at_⟩, ty, pos, af, none⟩ e σ K := by
 intro a w ha hw next Qx hnext
 refine CH (K := fun v σ' => ∃ F' Hn, σ' = ⟨F', σ.H ++ Hn⟩ ∧ K v ⟨F', Hn ++ σ.H⟩) hg hf hx hok (fun v F' Hn hR hF => ⟨F', Hn, rfl, hn v F' Hn hR hF⟩) a w ha hw next Qx ?_
 intro v σ' w' hK hw'
 obtain ⟨F', Hn, rfl, hK⟩ := hK
 exact hnext v _ w' hK hw'.rot
end
theorem Sl.srcM {α : Type} {F : Heap} {H : List (Nat × Obj)} {v : Value} {s : Nat} {enc : α → List Value} {xs : List α} (h : Sl F v s enc xs) (hs : ∀ x, (enc x).length = s) (h1 : ∀ x ∈ xs, ∀ u ∈ enc x, u.oneCell' = true) :
   Src ⟨F, H⟩ v xs.length (xs.flatMap enc) s := by
 have hlen : ∀ l : List α, (l.flatMap enc).length = l.length * s := by
   intro l; induction l with
   | nil => simp
   | cons x l ih => simp [List.flatMap_cons, hs, ih, Nat.add_mul, Nat.add_comm]
 obtain ⟨a, c, rfl, hsp, hno, hlc, -⟩ := h.plain
 refine ⟨hlen xs, fun u hu => ?_, a, c, rfl, fun ha => (hno ha).1, fun x hx => ⟨fun h0 => hsp (by omega) x hx, fun j u hj => ?_⟩⟩
 · obtain ⟨x, hm, hx⟩ := List.mem_flatMap.1 hu
   exact h1 x hm u hx
 subst hx
 have key : ∀ (l : List α) (j : Nat) (u : Value), (l.flatMap enc)[j]? = some u → ∃ i k, ∃ hi : i < l.length, j = i * s + k ∧ (enc l[i])[k]? = some u := by
   intro l
   induction l with
   | nil => intro j u hj; simp at hj
   | cons x l ih =>
     intro j u hj
     rw [List.flatMap_cons, List.getElem?_append] at hj
     split at hj
     · exact ⟨0, j, by simp, by simp, by simpa using hj⟩
     rename_i hge
     rw [hs] at hj hge
     obtain ⟨i, k, hi, e1, e2⟩ := ih _ u hj
     exact ⟨i + 1, k, by simpa using hi, by rw [Nat.add_mul]; omega, by simpa using e2⟩
 obtain ⟨i, k, hi, rfl, hk⟩ := key xs j u hj
 have := h.cells i hi k u hk
 have hb : addc (base (.slice (some x) xs.length c)) (i * s + k) = addc x (i * s + k) := by
   simp [base, addc]
 rw [hb] at this
 exact this.cell
end
section
set_option maxRecDepth 100000
open Go.RowKit
theorem O1 : AggT Tryz.prog 159 3 := Cx (by kernel_rfl)
instance : AggI Tryz.prog 159 3 := ⟨O1⟩
theorem bd_78 : Body Tryz.prog 78 := AF (by kernel_rfl)
theorem VN : ElemT Tryz.prog 59 4 56 (.agg #[.string ⟨#[]⟩, .int .i64 0, .int .i64 0, .slice none 0 0]) := EA (by kernel_rfl) rfl (by decide)
theorem UJ : SizeT Tryz.prog 159 3 := Bq (by kernel_rfl)
theorem RY : SizeT Tryz.prog 28 1 := Bq (by kernel_rfl)
theorem E0 : SizeT Tryz.prog 44 1 := Bq (by kernel_rfl)
theorem NG {F : Heap} {v : Value} {ps : List (Value × Edn)} (h : Sl F v 4 edE ps) (hone : ∀ p ∈ ps, p.1.oneCell' = true) {H : List (Nat × Obj)} : Src ⟨F, H⟩ v ps.length (ps.flatMap edE) 4 := h.srcM Da fun p hp => GL (hone p hp)
theorem StmX.ones {F : Heap} {b kb : Nat} {vp ve : Value} {ps : List (Value × Edn)} {s : Stm} (hX : StmX F b vp ve (.map (some kb)) ps s) : ∀ u ∈ [vp, ve, .map (some kb)], u.oneCell' = true := by
 intro u hu
 simp only [List.mem_cons, List.not_mem_nil, or_false] at hu
 rcases hu with rfl | rfl | rfl
 · exact hX.r.places.plain.one
 · exact hX.r.eds.plain.one
 rfl
theorem Ko {F : Heap} {v : Value} {ps : List (Value × Edn)} (h : Sl F v 4 edE ps) (hone : ∀ p ∈ ps, p.1.oneCell' = true) (hn : ps.length ≤ 1000) : OkN Tryz.prog 78 [v].toArray F fun u _F' Hn => Own 59 4 u ps.length (ps.flatMap edE) Hn := by
 obtain ⟨a0, c0, rfl, g1, g2, g3, g4⟩ := h.plain
 refine OkN.intro Tryz.func78 rfl Tryz.ntmps78 rfl fun w0 => ?_
 cases a0
 ·refine AI (Ae 1) <| Ac <| Aw (Ae 1) fun ds => Af rfl (Dd Tryz.underlying28 Aa Aa) <| Am <| Ab <| Ag Aa rfl <| AI (Ae 1) <| At <| A1 <| CP rfl Bf (List.nil_sublist _) ?_
  obtain ⟨h0, -⟩ := g2 rfl
  have : ps = [] := List.eq_nil_of_length_eq_zero h0
  subst this
  exact Ce
 refine AI (Ae 1) <| Ac <| Aw (Ae 1) fun ds => Af rfl (Dd Tryz.underlying28 Aa Aa) <| Am <| Ab <| Ad Aa rfl <| Aj <| Ab <| Ac <| Al fun ds => A3 rfl <| FW Bl fun b1 hb1 nb1 => Ao (Ae 1) <| A3 rfl <| Bi Bl VN Aa (CR rfl) Aa (NG h hone) (by omega) (by omega) (.z) .box fun v2 R3 ho4 => ?_
 have ho1 : Own 59 4 v2 ps.length (ps.flatMap edE) R3 := by simpa using ho4
 refine As (Ae 1) <| At <| CP rfl Bf (List.sublist_append_left _ _) ?_
 exact ho1
def IntsR7 (F : Heap) (u : Value) (p : List Int × Int) : Prop := ∃ v, u = .tuple #[v, .int .i64 p.2] ∧ Ints F v p.1
theorem IntsR7.mono {F F' : Heap} {u : Value} {p : List Int × Int} (h : IntsR7 F u p) (hF : F.le F') : IntsR7 F' u p := by obtain ⟨v, h1, h2⟩ := h; exact ⟨v, h1, h2.mono hF⟩
theorem Lh {F : Heap} {vp ve : Value} {ps : List (Value × Edn)} {s : Stm} (hr : StmR F vp ve ps s) {v : Value} {l : List Int} (hl : Ints F v l) (z q : Int) : Ok Tryz.prog 37 [.agg #[vp, ve], v, .int .i64 z, .int .i64 q].toArray F fun u F' => IntsR7 F' u (readE s l z q) := by
 have hle0 : F.le F := Heap.le_refl _
 refine Ok.intro Tryz.func37 rfl Tryz.ntmps37 rfl fun w0 => ?_
 have hL := hl.plain.lt
 have hlen := hr.len
 have hL1 := hr.eds.plain.lt
 have hL2 := hr.places.plain.lt
 by_cases hok : treeErr s l = 0
 ·obtain ⟨hv, hll, ht⟩ := Kw hok
  have hne := hv.ne
  have hnp := hv.np
  have hl5 : l.length ≤ 5 := by omega
  have hcv := ES (s := s) ht hv hll
  have hcb := Gp (s := s) (l := l)
  refine Ac <| Al fun ds => A3 rfl <| Bc Aa rfl fun b1 hb1 nb1 => As (Ae 2) <| Aw (Ae 2) fun ds => A3 rfl <| CH Kr Aa AY (Jd hr hl hok) fun v2 F3 R6 hr4 hF5 => ?_
  replace hr := hr.mono hF5
  replace hle0 := Heap.le_trans hle0 hF5
  obtain ⟨ba, kb, rfl, hX, rfl⟩ := hr4
  refine Ao (Ae 4) <| A3 rfl <| AN Db rfl fun b7 hb7 nb7 => Ao (Ae 1) <| AV <| AQ Dk Aa Aa (i := 0) rfl rfl rfl rfl Cn (.here) <| As (Ae 1) <| Ac <| Ak <| Ac <| AL (i := 1) rfl hb1 (.next <| .here) fun F8 hF9 hz4 => ?_
  replace hr := hr.mono hF9
  replace hle0 := Heap.le_trans hle0 hF9
  replace hX := hX.mono hF9
  refine AL (i := 0) rfl hb7 (.here) fun F10 hF11 hz11 => ?_
  replace hr := hr.mono hF11
  replace hle0 := Heap.le_trans hle0 hF11
  replace hX := hX.mono hF11
  replace hz4 := hF11 _ _ hz4
  refine Al fun ds => As (Ae 3) <| Ad Aa (by decide) ?_
  by_cases h1 : inB 0 (s.editions.length - 1) z = true
  ·refine Aw (Ae 1) fun ds => Af rfl (Ah B4 Aa (AM hz4 rfl)) <| Af rfl (A6 Bl Aa hr.eds.plain) <| Af rfl (BZ Aa Aa rfl (by omega) (by omega)) <| Ao (Ae 1) <| A3 rfl <| AU A7 B1 rfl (.cons Aa .nil) rfl rfl (by decide) (by simp [Value.oneCell']) fun b12 hb12 nb12 => AW (i := 0) rfl hb12 .here fun F13 hF14 hz15 => ?_
   replace hr := hr.mono hF14
   replace hle0 := Heap.le_trans hle0 hF14
   replace hX := hX.mono hF14
   replace hz4 := hF14 _ _ hz4
   replace hz11 := hF14 _ _ hz11
   have hsl16 := Bk hz15
   refine AS rfl (Ay Df Aa AY (B2 _ _ hsl16) (fun _ _ h => h)) <| Ao (Ae 1) <| Ap rfl rfl Aa (by simp [hlen, h1]) <| Ao (Ae 1) <| Ap rfl rfl Aa (by simp [hlen, h1]) <| Af rfl (Ah Ef Aa (AM hz4 rfl)) <| Ap rfl rfl Aa (by simp [hlen, h1]) <| Af rfl (A6 BO Aa hr.places.plain) <| Ap rfl rfl Aa (by simp [hlen, h1]) <| Af rfl (BZ Aa Aa rfl (by omega) (by omega)) <| Ap rfl rfl Aa (by simp [hlen, h1]) <| Ao (Ae 1) <| Ap rfl rfl Aa (by simp [hlen, h1]) <| A3 rfl <| AU A7 B1 rfl (.cons Aa .nil) rfl rfl (by decide) (by simp [Value.oneCell']) fun b17 hb17 nb17 => AW (i := 0) rfl hb17 .here fun F18 hF19 hz20 => ?_
   replace hr := hr.mono hF19
   replace hle0 := Heap.le_trans hle0 hF19
   replace hX := hX.mono hF19
   replace hz4 := hF19 _ _ hz4
   replace hz11 := hF19 _ _ hz11
   have hsl21 := Bk hz20
   refine Ap rfl rfl Aa (by simp [hlen, h1]) <| AS rfl (Ay Df Aa AY (B2 _ _ hsl21) (fun _ _ h => h)) <| Af rfl (A5 Aa (by simp [hlen, h1]) Aa) <| As (Ae 1) ?_
   by_cases h2 : inB 0 (s.places.length - 1) q = true
   ·have h12 : (inB 0 (s.editions.length - 1) z && inB 0 (s.places.length - 1) q) = true := by rw [h1, h2]; rfl
    obtain ⟨x, rfl, hx⟩ := FH h1
    obtain ⟨p, rfl, hp⟩ := FH h2
    have hxp : x < ps.length := by omega
    have hrx := hr.rd hxp
    have hpx : p < (s.ed x).rd.length := by rw [hv.rdl x hx]; exact hp
    have er := FZ hpx
    have hrdl := hv.rdl x hx
    have hrb9 := hv.rd x p hx hp
    have e1 := hr.at hxp
    refine Ad Aa (by simp [h2]) ?_
    by_cases hc : costL s l = 1000
    ·refine Aw (Ae 1) fun ds => Af rfl (AO B8 Aa rfl rfl (AZ hz11)) <| D8 (.cons (.here) <| .nil) <| A3 rfl <| Dz Qz Aa AY rfl (EB hX ht hll hv KnownT.nil) fun v26 F27 H30 hr28 hF29 => ?_
     obtain ⟨es2, rfl, rfl, hK2⟩ := hr28
     refine As (Ae 2) <| Ag Aa (by rw [hcv]; unfold costV; rw [if_pos hc]; rfl) <| AI (Ae 2) <| At <| A8 <| A1 <| Aq rfl Bf ?_
     rw [GD (Tw hok h12 hc) (by decide)]
     exact ⟨_, rfl, Sl.nil⟩
    have hre := Ty hok h12 hc
    refine Aw (Ae 1) fun ds => Af rfl (AO B8 Aa rfl rfl (AZ hz11)) <| D8 (.cons (.here) <| .nil) <| A3 rfl <| Dz Qz Aa AY rfl (EB hX ht hll hv KnownT.nil) fun v35 F36 H39 hr37 hF38 => ?_
    replace hr := hr.mono hF38
    replace hle0 := Heap.le_trans hle0 hF38
    replace hX := hX.mono hF38
    replace hrx := hrx.mono hF38
    replace hz4 := hF38 _ _ hz4
    replace hz11 := hF38 _ _ hz11
    obtain ⟨es2, rfl, rfl, hK2⟩ := hr37
    refine As (Ae 2) <| Ad Aa (by rw [hcv]; unfold costV; rw [if_neg hc]; exact dF (by omega)) <| Aj <| Az <| Ab <| Aw (Ae 1) fun ds => Af rfl (AO B8 Aa rfl rfl (AZ hz11)) <| Ao (Ae 1) <| AS rfl (Ay Jj Aa AY (CY hX ht hll hv hp) (fun _ _ h => h)) <| As (Ae 1) <| Aw (Ae 1) fun ds => Af rfl (Ah B4 Aa (AM hz4 rfl)) <| Ao (Ae 1) <| Af rfl (Ax (k := x) Bl Aa hr.eds.plain Aa rfl hxp) <| Ao (Ae 1) <| Af rfl (Ah Br Aa (hr.eds.cell hxp rfl)) <| Ao (Ae 1) <| Af rfl (Ax (k := p) A7 Aa hrx.plain Aa rfl hpx) <| Af rfl (Ah AA Aa (hrx.cell1 hpx rfl)) <| As (Ae 1) <| Ac <| AI (Ae 1) <| Ak ?_
    refine AJ [8, 14, 15, 62, 63, 64, 65, 66, 67, 68, 69, 70, 71, 72, 73, 74, 75, 76, 77, 78, 79, 80, 81, 82, 83, 84, 85, 86, 87, 88, 89, 90, 91, 92, 93, 94, 95, 96, 97, 98, 99, 100, 101, 102, 103, 104, 105, 106, 107, 108, 109, 110, 111, 112, 113, 114, 115, 116, 117, 118, 119, 120, 121] (fun m e σ => ∃ G, F36.le G ∧ ∃ k : Nat, m + k = 3 ∧ Fct e 62 (.int .i64 (k : Int)) ∧ ∃ v8 R8, Fct e 8 v8 ∧ Own 3 1 v8 (readTo s l x p k).length ((readTo s l x p k).flatMap intE) R8 ∧ σ = ⟨G, (kb, mapO es2) :: R8⟩) (3) ?_ ?_
    · exact ⟨_, Heap.le_refl _, 0, by omega, Bb, _, _, Bb, Own.nil, rfl⟩
    rintro m e _ ⟨G, hFG, k, hm, hs62, v8, R8, hs8, ho, rfl⟩; have hrl := Li (s := s) (l := l) (x := x) (p := p) (k := k); replace hr := hr.mono hFG; replace hX := hX.mono hFG; replace hrx := hrx.mono hFG; replace hz4 := hFG _ _ hz4; replace hz11 := hFG _ _ hz11; have hle0 := Heap.le_trans hle0 hFG
    by_cases hlt : k < 3
    ·refine AI (Ae 1) <| Ac <| Ag Aa (by first | rfl | exact dT (by omega)) ?_
     by_cases hk0 : 0 < s.r x p
     ·refine Aj <| Ab <| Ac <| Ak <| AI (Ae 2) <| Ac <| Aw (Ae 3) fun ds => Ap rfl rfl Aa (by rw [er]; exact dT hk0) <| Ao (Ae 1) <| Ap rfl rfl Aa (by rw [er]; exact dT hk0) <| Ao (Ae 1) <| Ap rfl rfl Aa (by rw [er]; exact dT hk0) <| Af rfl (AE Aa Aa rfl (by omega) (by omega)) <| Ap rfl rfl Aa (by rw [er]; exact dT hk0) <| Ao (Ae 1) <| Af rfl (Au Aa (by rw [er]; exact dT hk0) Aa) <| Am <| Ab ?_
      by_cases hke : s.r x p = (k : Int) + 1
      ·have hkn : (decide (s.r x p = 0) || decide (s.r x p = (k : Int) + 1)) = true := by rw [dT hke]; simp
       refine Ad Aa (by rw [er]; exact dF (fun h => h hke)) ?_
       have hvm := Le (v := (k : Int) + 1) hv hx hp (by omega)
       refine Aj <| Ab <| Aw (Ae 1) fun ds => Af rfl (AH Aa) <| Af rfl (AO O1 Aa rfl rfl (AZ hX.blk)) <| A3 rfl <| AN Q7 rfl fun b41 hb41 nb41 => AV <| AQ UJ Aa Aa (i := 0) rfl rfl rfl rfl hX.ones (.here) <| Am <| Ab <| Aw (Ae 1) fun ds => Af rfl (AH Aa) <| Ao (Ae 2) <| Af rfl (Ah B4 Aa (AM hX.blk rfl)) <| A3 rfl <| Hy bd_78 Aa AY (Ko hX.r.eds hX.r.one (by omega)) fun v42 F43 R46 hr44 hF45 => ?_
       replace hX := hX.mono hF45
       replace hrx := hrx.mono hF45
       replace hFG := Heap.le_trans hFG hF45
       replace hle0 := Heap.le_trans hle0 hF45
       replace hz11 := hF45 _ _ hz11
       have hoE := hr44
       refine Ao (Ae 2) <| BP (.one (.skip <| .here) <| .one (.skip <| .here) <| .blk (.lastS) <| .lastb (.last)) <| AV <| AT RY Aa Aa (i := 0) rfl (.next <| .here) (Own.one hoE) (.here) <| Am <| Ab <| Ac ?_
       have hleS := hle0
       refine Bn (.inl rfl) (fun _ _ h => h) (kK <| kK <| .refl _) [16] (by kernel_rfl) fun ds => Ai 0 rfl (by kernel_rfl) (by kernel_rfl) (by kernel_rfl) (by kernel_rfl) rfl rfl (fun _ h => h.drop (kK <| kK <| .refl _)) (fun _ _ _ h => h) (AD Gk Aa) <| Ai 1 rfl (by kernel_rfl) (by kernel_rfl) (by kernel_rfl) (by kernel_rfl) rfl rfl (fun _ h => h.drop (kK <| kK <| .refl _)) (fun _ _ _ h => h) (AD EJ Aa) <| Ai 2 rfl (by kernel_rfl) (by kernel_rfl) (by kernel_rfl) (by kernel_rfl) rfl rfl (fun _ h => h.drop (kK <| kK <| .refl _)) (fun _ _ _ h => h) (Ah B4 Aa (Cell.own 0 rfl rfl)) <| Ai 3 rfl (by kernel_rfl) (by kernel_rfl) (by kernel_rfl) (by kernel_rfl) rfl rfl (fun _ h => h.drop (kK <| kK <| .refl _)) (fun _ _ _ h => h) (A9 Aa) <| Ai 4 rfl (by kernel_rfl) (by kernel_rfl) (by kernel_rfl) (by kernel_rfl) rfl rfl (fun _ h => h.drop (kK <| kK <| .refl _)) (fun _ _ _ h => h) (A9 Aa) <| Ai 5 rfl (by kernel_rfl) (by kernel_rfl) (by kernel_rfl) (by kernel_rfl) rfl rfl (fun _ h => h.drop (kK <| kK <| .refl _)) (fun _ _ _ h => h) (AH Aa) <| Ai 6 rfl (by kernel_rfl) (by kernel_rfl) (by kernel_rfl) (by kernel_rfl) rfl rfl (fun _ h => h.drop (kK <| kK <| .refl _)) (fun _ _ _ h => h) (AD Gk Aa) <| Ai 7 rfl (by kernel_rfl) (by kernel_rfl) (by kernel_rfl) (by kernel_rfl) rfl rfl (fun _ h => h.drop (kK <| kK <| .refl _)) (fun _ _ _ h => h) (AD EJ Aa) ?_
       refine Ai 8 rfl (by kernel_rfl) (by kernel_rfl) (by kernel_rfl) (by kernel_rfl) rfl rfl (fun _ h => h.drop (kK <| kK <| .refl _)) (fun _ _ _ h => h) (Ah B4 Aa (AM hX.blk rfl)) <| Ai 9 rfl (by kernel_rfl) (by kernel_rfl) (by kernel_rfl) (by kernel_rfl) rfl rfl (fun _ h => h.drop (kK <| kK <| .refl _)) (fun _ _ _ h => h) (A9 Aa) <| Ai 10 rfl (by kernel_rfl) (by kernel_rfl) (by kernel_rfl) (by kernel_rfl) rfl rfl (fun _ h => h.drop (kK <| kK <| .refl _)) (fun _ _ _ h => h) (Ax (k := x) Bl Aa hX.r.eds.plain Aa rfl hxp) <| Ai 11 rfl (by kernel_rfl) (by kernel_rfl) (by kernel_rfl) (by kernel_rfl) rfl rfl (fun _ h => h.drop (kK <| kK <| .refl _)) (fun _ _ _ h => h) (BB Jc Aa) <| Ai 12 rfl (by kernel_rfl) (by kernel_rfl) (by kernel_rfl) (by kernel_rfl) rfl rfl (fun _ h => h.drop (kK <| kK <| .refl _)) (fun _ _ _ h => h) (Ah Br Aa (hX.r.eds.cell hxp rfl)) ?_
       refine CK 13 rfl (by kernel_rfl) rfl (Hy Wr Aa AY (Jg hrx (by omega)) fun v47 F48 R51 hr49 hF50 => ⟨fun _ _ _ h => (h.drop (List.sublist_append_of_sublist_right <| kK <| kK <| .refl _)).weak hF50 hleS, ?_⟩)
       replace hX := hX.mono hF50
       replace hFG := Heap.le_trans hFG hF50
       replace hz11 := hF50 _ _ hz11
       have hoR := hr49
       refine Ai 14 rfl (by kernel_rfl) (by kernel_rfl) (by kernel_rfl) (by kernel_rfl) rfl rfl (fun _ h => (h.drop (List.sublist_append_of_sublist_right <| kK <| kK <| .refl _)).weak hF50 hleS) (fun _ _ _ h => h) (Ax (k := x) Bl Aa (hoE.plain (by omega)) Aa rfl hxp) <| Ai 15 rfl (by kernel_rfl) (by kernel_rfl) (by kernel_rfl) (by kernel_rfl) rfl rfl (fun _ h => (h.drop (List.sublist_append_of_sublist_right <| kK <| kK <| .refl _)).weak hF50 hleS) (fun _ _ _ h => h) (BB Jc Aa) <| N8 (.one (.skip <| .here) <| .one (.skip <| .here) <| .blk (.skip <| .here) <| .blk (.lastS) <| .lastb (.last)) ?_
       refine BG 16 rfl (by kernel_rfl) (Dy E0 Aa Aa hoE (by rw [C8 Da]; omega) (Own.one hoR) (.s <| .s <| .k <| .z) .more fun R52 ho53 => ⟨(fun h => nomatch h), ?_⟩)
       have hoE2 := LP (e := (s.ed x).setR p ((k : Int) + 1)) ho53 hxp (by rw [e1]; rfl) (by rw [e1]; rfl) (by rw [e1]; rfl)
       refine Bo (by kernel_rfl) ?_ _
       refine Ab <| Aw (Ae 4) fun ds => Af rfl (Ax (k := x) Bl Aa (hoE2.plain (by rw [List.length_set]; omega)) Aa rfl (by simp; omega)) <| Ao (Ae 1) <| Af rfl (Ah Br Aa (CM hoE2 (fun p hp => .tail _ (.tail _ (List.mem_append_right _ (List.mem_append_left _ hp)))) (LO hxp))) <| Ao (Ae 2) <| Af rfl (AE Aa Aa rfl (by omega) (by omega)) <| Af rfl (Ax (k := p) A7 Aa (hoR.plain (by omega)) Aa rfl hpx) <| AV <| Dy Cc Aa Aa hoR (by rw [C8 (enc := intE) (s := 1) (fun _ => rfl)]; omega) rfl (.s <| .s <| .k <| .k <| .z) .last fun R54 ho55 => ?_
       have hoR2 := ho55
       rw [show p * 1 = p * 1 + 0 from rfl, FG hpx] at hoR2
       replace hoR2 := hoR2.to (k' := ((s.ed x).rd.set p ((k : Int) + 1)).length) (by simp)
       refine Am <| Ab <| Ac <| Bm (σ := ⟨_, _⟩) (by rfl) hoR2 (.s <| .s <| .k <| .k <| .z) .last fun F56 hF57 hz58 => ?_
       replace hX := hX.mono hF57
       replace hFG := Heap.le_trans hFG hF57
       replace hz11 := hF57 _ _ hz11
       refine Cl (.one (.here) <| .one (.here) <| .blk (.here) <| .lastb (.here)) ?_
       have hrn := hoR2.sl (fun _ => rfl) hz58 (by simp; omega)
       refine Bm (σ := ⟨_, _⟩) (by rfl) hoE2 (.s <| .s <| .k <| .z) .last fun F59 hF60 hz61 => ?_
       replace hX := hX.mono hF60
       replace hFG := Heap.le_trans hFG hF60
       replace hrn := hrn.mono hF60
       replace hz11 := hF60 _ _ hz11
       refine Cl (.one (.here) <| .one (.here) <| .lastb (.here)) ?_
       have hen := hoE2.sl (fun _ => rfl) hz61 (by simp; omega)
       refine AL (i := 0) rfl hb41 (.here) fun F62 hF63 hz15 => ?_
       replace hX := hX.mono hF63
       replace hFG := Heap.le_trans hFG hF63
       replace hrn := hrn.mono hF63
       replace hen := hen.mono hF63
       replace hz11 := hF63 _ _ hz11
       have hXm : StmX _ _ _ _ _ _ (setS s x p ((k : Int) + 1)) := ⟨hX.r.set hen hrn, hz15⟩
       by_cases hpl : decide (placeN (setS s x p ((k : Int) + 1)) l p = placeN s l p) = true
       ·have hrb : readB s l x p k = true := by unfold readB; rw [hkn, hpl]; rfl
        refine Al fun ds => Af rfl (AO B8 Aa rfl rfl (AZ hz11)) <| Ao (Ae 1) <| AS rfl (Ay Jj Aa AY (CY hXm ht (by rw [DP]; exact hll) hvm hp) (fun _ _ h => h)) <| As (Ae 2) <| Ag Aa hpl <| Al fun ds => Ao (Ae 2) <| Af rfl (AE Aa Aa rfl (by omega) (by omega)) <| A3 rfl <| AU A7 B1 rfl (.cons Aa .nil) rfl rfl (by decide) (by simp [Value.oneCell']) fun b64 hb64 nb64 => AW (i := 0) rfl hb64 .here fun F65 hF66 hz67 => ?_
        replace hFG := Heap.le_trans hFG hF66
        have hsl68 := Bk hz67
        refine A3 rfl <| Bi A7 D5 Aa ho Aa hsl68.srcInt (by simp only [List.length_singleton]; omega) (by simp only [List.length_singleton]; omega) (.s <| .z) .last fun v69 R70 ho71 => ?_
        have ho2 := ho71.snoc (x := (k : Int) + 1) rfl rfl
        refine Ao (Ae 1) <| Am <| Az <| Ab <| Al fun ds => Af rfl (AE Aa Aa rfl (by omega) (by omega)) <| Ao (Ae 1) <| Am ?_
        refine Ab ⟨_, m - 1, Off.eq (Cv rfl <| B3 rfl <| BT rfl <| Ci rfl <| Cw rfl <| BY rfl <| A2), by omega, ?_⟩
        exact ⟨_, hFG, k + 1, by omega, Bb, _, _, Bb, by rw [DS, if_pos hrb]; exact ho2, rfl⟩
       replace hpl : decide (placeN (setS s x p ((k : Int) + 1)) l p = placeN s l p) = false := by simpa using hpl
       have hrb : readB s l x p k = false := by unfold readB; rw [hpl]; simp
       refine Al fun ds => Af rfl (AO B8 Aa rfl rfl (AZ hz11)) <| Ao (Ae 1) <| AS rfl (Ay Jj Aa AY (CY hXm ht (by rw [DP]; exact hll) hvm hp) (fun _ _ h => h)) <| As (Ae 2) <| Ad Aa hpl <| Aj <| Az <| Ab <| Al fun ds => Af rfl (AE Aa Aa rfl (by omega) (by omega)) <| Ao (Ae 1) <| Am ?_
       refine Ab ⟨_, m - 1, Off.eq (Cv rfl <| B3 rfl <| BT rfl <| BY rfl <| A2), by omega, ?_⟩
       exact ⟨_, hFG, k + 1, by omega, Bb, _, _, Bb, by rw [DS, if_neg (by rw [hrb]; simp)]; exact ho, rfl⟩
      have hrb : readB s l x p k = false := by unfold readB; rw [dF (show ¬ s.r x p = 0 by omega), dF (show ¬ s.r x p = (k : Int) + 1 by omega)]; rfl
      refine Ag Aa (by rw [er]; exact dT hke) <| AC <| A0 <| A4 <| Ab <| Al fun ds => Af rfl (AE Aa Aa rfl (by omega) (by omega)) <| Ao (Ae 1) <| Am ?_
      refine Ab ⟨_, m - 1, Off.eq (BT rfl <| Ci rfl <| BY rfl <| A2), by omega, ?_⟩
      exact ⟨_, hFG, k + 1, by omega, Bb, _, _, Bb, by rw [DS, if_neg (by rw [hrb]; simp)]; exact ho, rfl⟩
     have hkn : (decide (s.r x p = 0) || decide (s.r x p = (k : Int) + 1)) = true := by rw [dT (show s.r x p = 0 by omega)]; rfl
     refine Aj <| Ab <| Ac <| Ak <| AI (Ae 2) <| Ac <| Aw (Ae 3) fun ds => Ar rfl rfl Aa (.inl (congrArg Value.bool (by rw [er]; exact dF hk0))) rfl <| Ar rfl rfl Aa (.inl (congrArg Value.bool (by rw [er]; exact dF hk0))) rfl <| Ar rfl rfl Aa (.inl (congrArg Value.bool (by rw [er]; exact dF hk0))) rfl <| Ar rfl rfl Aa (.inl (congrArg Value.bool (by rw [er]; exact dF hk0))) rfl <| Af rfl (A5 Aa (by rw [er]; exact dF hk0) Aa) <| Am <| Ab <| Ad Aa rfl ?_
     have hvm := Le (v := (k : Int) + 1) hv hx hp (by omega)
     refine Aj <| Ab <| Aw (Ae 1) fun ds => Af rfl (AH Aa) <| Af rfl (AO O1 Aa rfl rfl (AZ hX.blk)) <| A3 rfl <| AN Q7 rfl fun b72 hb72 nb72 => AV <| AQ UJ Aa Aa (i := 0) rfl rfl rfl rfl hX.ones (.here) <| Am <| Ab <| Aw (Ae 1) fun ds => Af rfl (AH Aa) <| Ao (Ae 2) <| Af rfl (Ah B4 Aa (AM hX.blk rfl)) <| A3 rfl <| Hy bd_78 Aa AY (Ko hX.r.eds hX.r.one (by omega)) fun v73 F74 R77 hr75 hF76 => ?_
     replace hX := hX.mono hF76
     replace hrx := hrx.mono hF76
     replace hFG := Heap.le_trans hFG hF76
     replace hle0 := Heap.le_trans hle0 hF76
     replace hz11 := hF76 _ _ hz11
     have hoE := hr75
     refine Ao (Ae 2) <| BP (.one (.skip <| .here) <| .one (.skip <| .here) <| .blk (.lastS) <| .lastb (.last)) <| AV <| AT RY Aa Aa (i := 0) rfl (.next <| .here) (Own.one hoE) (.here) <| Am <| Ab <| Ac ?_
     have hleS := hle0
     refine Bn (.inl rfl) (fun _ _ h => h) (kK <| kK <| .refl _) [16] (by kernel_rfl) fun ds => Ai 0 rfl (by kernel_rfl) (by kernel_rfl) (by kernel_rfl) (by kernel_rfl) rfl rfl (fun _ h => h.drop (kK <| kK <| .refl _)) (fun _ _ _ h => h) (AD Gk Aa) <| Ai 1 rfl (by kernel_rfl) (by kernel_rfl) (by kernel_rfl) (by kernel_rfl) rfl rfl (fun _ h => h.drop (kK <| kK <| .refl _)) (fun _ _ _ h => h) (AD EJ Aa) <| Ai 2 rfl (by kernel_rfl) (by kernel_rfl) (by kernel_rfl) (by kernel_rfl) rfl rfl (fun _ h => h.drop (kK <| kK <| .refl _)) (fun _ _ _ h => h) (Ah B4 Aa (Cell.own 0 rfl rfl)) <| Ai 3 rfl (by kernel_rfl) (by kernel_rfl) (by kernel_rfl) (by kernel_rfl) rfl rfl (fun _ h => h.drop (kK <| kK <| .refl _)) (fun _ _ _ h => h) (A9 Aa) <| Ai 4 rfl (by kernel_rfl) (by kernel_rfl) (by kernel_rfl) (by kernel_rfl) rfl rfl (fun _ h => h.drop (kK <| kK <| .refl _)) (fun _ _ _ h => h) (A9 Aa) <| Ai 5 rfl (by kernel_rfl) (by kernel_rfl) (by kernel_rfl) (by kernel_rfl) rfl rfl (fun _ h => h.drop (kK <| kK <| .refl _)) (fun _ _ _ h => h) (AH Aa) <| Ai 6 rfl (by kernel_rfl) (by kernel_rfl) (by kernel_rfl) (by kernel_rfl) rfl rfl (fun _ h => h.drop (kK <| kK <| .refl _)) (fun _ _ _ h => h) (AD Gk Aa) <| Ai 7 rfl (by kernel_rfl) (by kernel_rfl) (by kernel_rfl) (by kernel_rfl) rfl rfl (fun _ h => h.drop (kK <| kK <| .refl _)) (fun _ _ _ h => h) (AD EJ Aa) ?_
     refine Ai 8 rfl (by kernel_rfl) (by kernel_rfl) (by kernel_rfl) (by kernel_rfl) rfl rfl (fun _ h => h.drop (kK <| kK <| .refl _)) (fun _ _ _ h => h) (Ah B4 Aa (AM hX.blk rfl)) <| Ai 9 rfl (by kernel_rfl) (by kernel_rfl) (by kernel_rfl) (by kernel_rfl) rfl rfl (fun _ h => h.drop (kK <| kK <| .refl _)) (fun _ _ _ h => h) (A9 Aa) <| Ai 10 rfl (by kernel_rfl) (by kernel_rfl) (by kernel_rfl) (by kernel_rfl) rfl rfl (fun _ h => h.drop (kK <| kK <| .refl _)) (fun _ _ _ h => h) (Ax (k := x) Bl Aa hX.r.eds.plain Aa rfl hxp) <| Ai 11 rfl (by kernel_rfl) (by kernel_rfl) (by kernel_rfl) (by kernel_rfl) rfl rfl (fun _ h => h.drop (kK <| kK <| .refl _)) (fun _ _ _ h => h) (BB Jc Aa) <| Ai 12 rfl (by kernel_rfl) (by kernel_rfl) (by kernel_rfl) (by kernel_rfl) rfl rfl (fun _ h => h.drop (kK <| kK <| .refl _)) (fun _ _ _ h => h) (Ah Br Aa (hX.r.eds.cell hxp rfl)) ?_
     refine CK 13 rfl (by kernel_rfl) rfl (Hy Wr Aa AY (Jg hrx (by omega)) fun v78 F79 R82 hr80 hF81 => ⟨fun _ _ _ h => (h.drop (List.sublist_append_of_sublist_right <| kK <| kK <| .refl _)).weak hF81 hleS, ?_⟩)
     replace hX := hX.mono hF81
     replace hFG := Heap.le_trans hFG hF81
     replace hz11 := hF81 _ _ hz11
     have hoR := hr80
     refine Ai 14 rfl (by kernel_rfl) (by kernel_rfl) (by kernel_rfl) (by kernel_rfl) rfl rfl (fun _ h => (h.drop (List.sublist_append_of_sublist_right <| kK <| kK <| .refl _)).weak hF81 hleS) (fun _ _ _ h => h) (Ax (k := x) Bl Aa (hoE.plain (by omega)) Aa rfl hxp) <| Ai 15 rfl (by kernel_rfl) (by kernel_rfl) (by kernel_rfl) (by kernel_rfl) rfl rfl (fun _ h => (h.drop (List.sublist_append_of_sublist_right <| kK <| kK <| .refl _)).weak hF81 hleS) (fun _ _ _ h => h) (BB Jc Aa) <| N8 (.one (.skip <| .here) <| .one (.skip <| .here) <| .blk (.skip <| .here) <| .blk (.lastS) <| .lastb (.last)) ?_
     refine BG 16 rfl (by kernel_rfl) (Dy E0 Aa Aa hoE (by rw [C8 Da]; omega) (Own.one hoR) (.s <| .s <| .k <| .z) .more fun R83 ho84 => ⟨(fun h => nomatch h), ?_⟩)
     have hoE2 := LP (e := (s.ed x).setR p ((k : Int) + 1)) ho84 hxp (by rw [e1]; rfl) (by rw [e1]; rfl) (by rw [e1]; rfl)
     refine Bo (by kernel_rfl) ?_ _
     refine Ab <| Aw (Ae 4) fun ds => Af rfl (Ax (k := x) Bl Aa (hoE2.plain (by rw [List.length_set]; omega)) Aa rfl (by simp; omega)) <| Ao (Ae 1) <| Af rfl (Ah Br Aa (CM hoE2 (fun p hp => .tail _ (.tail _ (List.mem_append_right _ (List.mem_append_left _ hp)))) (LO hxp))) <| Ao (Ae 2) <| Af rfl (AE Aa Aa rfl (by omega) (by omega)) <| Af rfl (Ax (k := p) A7 Aa (hoR.plain (by omega)) Aa rfl hpx) <| AV <| Dy Cc Aa Aa hoR (by rw [C8 (enc := intE) (s := 1) (fun _ => rfl)]; omega) rfl (.s <| .s <| .k <| .k <| .z) .last fun R85 ho86 => ?_
     have hoR2 := ho86
     rw [show p * 1 = p * 1 + 0 from rfl, FG hpx] at hoR2
     replace hoR2 := hoR2.to (k' := ((s.ed x).rd.set p ((k : Int) + 1)).length) (by simp)
     refine Am <| Ab <| Ac <| Bm (σ := ⟨_, _⟩) (by rfl) hoR2 (.s <| .s <| .k <| .k <| .z) .last fun F87 hF88 hz89 => ?_
     replace hX := hX.mono hF88
     replace hFG := Heap.le_trans hFG hF88
     replace hz11 := hF88 _ _ hz11
     refine Cl (.one (.here) <| .one (.here) <| .blk (.here) <| .lastb (.here)) ?_
     have hrn := hoR2.sl (fun _ => rfl) hz89 (by simp; omega)
     refine Bm (σ := ⟨_, _⟩) (by rfl) hoE2 (.s <| .s <| .k <| .z) .last fun F90 hF91 hz92 => ?_
     replace hX := hX.mono hF91
     replace hFG := Heap.le_trans hFG hF91
     replace hrn := hrn.mono hF91
     replace hz11 := hF91 _ _ hz11
     refine Cl (.one (.here) <| .one (.here) <| .lastb (.here)) ?_
     have hen := hoE2.sl (fun _ => rfl) hz92 (by simp; omega)
     refine AL (i := 0) rfl hb72 (.here) fun F93 hF94 hz15 => ?_
     replace hX := hX.mono hF94
     replace hFG := Heap.le_trans hFG hF94
     replace hrn := hrn.mono hF94
     replace hen := hen.mono hF94
     replace hz11 := hF94 _ _ hz11
     have hXm : StmX _ _ _ _ _ _ (setS s x p ((k : Int) + 1)) := ⟨hX.r.set hen hrn, hz15⟩
     by_cases hpl : decide (placeN (setS s x p ((k : Int) + 1)) l p = placeN s l p) = true
     ·have hrb : readB s l x p k = true := by unfold readB; rw [hkn, hpl]; rfl
      refine Al fun ds => Af rfl (AO B8 Aa rfl rfl (AZ hz11)) <| Ao (Ae 1) <| AS rfl (Ay Jj Aa AY (CY hXm ht (by rw [DP]; exact hll) hvm hp) (fun _ _ h => h)) <| As (Ae 2) <| Ag Aa hpl <| Al fun ds => Ao (Ae 2) <| Af rfl (AE Aa Aa rfl (by omega) (by omega)) <| A3 rfl <| AU A7 B1 rfl (.cons Aa .nil) rfl rfl (by decide) (by simp [Value.oneCell']) fun b95 hb95 nb95 => AW (i := 0) rfl hb95 .here fun F96 hF97 hz98 => ?_
      replace hFG := Heap.le_trans hFG hF97
      have hsl99 := Bk hz98
      refine A3 rfl <| Bi A7 D5 Aa ho Aa hsl99.srcInt (by simp only [List.length_singleton]; omega) (by simp only [List.length_singleton]; omega) (.s <| .z) .last fun v100 R101 ho102 => ?_
      have ho2 := ho102.snoc (x := (k : Int) + 1) rfl rfl
      refine Ao (Ae 1) <| Am <| Az <| Ab <| Al fun ds => Af rfl (AE Aa Aa rfl (by omega) (by omega)) <| Ao (Ae 1) <| Am ?_
      refine Ab ⟨_, m - 1, Off.eq (Cv rfl <| B3 rfl <| BT rfl <| Ci rfl <| Cw rfl <| BY rfl <| A2), by omega, ?_⟩
      exact ⟨_, hFG, k + 1, by omega, Bb, _, _, Bb, by rw [DS, if_pos hrb]; exact ho2, rfl⟩
     replace hpl : decide (placeN (setS s x p ((k : Int) + 1)) l p = placeN s l p) = false := by simpa using hpl
     have hrb : readB s l x p k = false := by unfold readB; rw [hpl]; simp
     refine Al fun ds => Af rfl (AO B8 Aa rfl rfl (AZ hz11)) <| Ao (Ae 1) <| AS rfl (Ay Jj Aa AY (CY hXm ht (by rw [DP]; exact hll) hvm hp) (fun _ _ h => h)) <| As (Ae 2) <| Ad Aa hpl <| Aj <| Az <| Ab <| Al fun ds => Af rfl (AE Aa Aa rfl (by omega) (by omega)) <| Ao (Ae 1) <| Am ?_
     refine Ab ⟨_, m - 1, Off.eq (Cv rfl <| B3 rfl <| BT rfl <| BY rfl <| A2), by omega, ?_⟩
     exact ⟨_, hFG, k + 1, by omega, Bb, _, _, Bb, by rw [DS, if_neg (by rw [hrb]; simp)]; exact ho, rfl⟩
    refine AI (Ae 1) <| Ac <| Ad Aa (by first | rfl | exact dF (by omega)) ?_
    obtain rfl : k = 3 := by omega
    refine Bm (σ := ⟨_, _⟩) (by rfl) ho (.s <| .z) .last fun F103 hF104 hz105 => ?_
    have hn8 := ho.sl (fun _ => rfl) hz105 (by have := Li (s := s) (l := l) (x := x) (p := p) (k := 3); omega)
    refine AC ?_
    refine A0 <| A0 <| A4 <| Ab <| AI (Ae 3) <| At <| Aq rfl Bf ?_
    rw [Vd hre, Int.toNat_natCast, Int.toNat_natCast]
    exact ⟨_, rfl, hn8⟩
   replace h2 : inB 0 (s.places.length - 1) q = false := by simpa using h2
   refine Ag Aa (by simp [h2]) <| AI (Ae 2) <| At <| A8 <| A1 <| Aq rfl Bf ?_
   rw [GD (MS hok (by rw [h1, h2]; rfl)) (by decide)]
   exact ⟨_, rfl, Sl.nil⟩
  replace h1 : inB 0 (s.editions.length - 1) z = false := by simpa using h1
  refine Aw (Ae 1) fun ds => Af rfl (Ah B4 Aa (AM hz4 rfl)) <| Af rfl (A6 Bl Aa hr.eds.plain) <| Af rfl (BZ Aa Aa rfl (by omega) (by omega)) <| Ao (Ae 1) <| A3 rfl <| AU A7 B1 rfl (.cons Aa .nil) rfl rfl (by decide) (by simp [Value.oneCell']) fun b106 hb106 nb106 => AW (i := 0) rfl hb106 .here fun F107 hF108 hz109 => ?_
  have hsl110 := Bk hz109
  refine AS rfl (Ay Df Aa AY (B2 _ _ hsl110) (fun _ _ h => h)) <| Ao (Ae 1) <| Ar rfl rfl Aa (.inl (congrArg Value.bool (by simp [hlen, h1]))) rfl <| Ar rfl rfl Aa (.inl (congrArg Value.bool (by simp [hlen, h1]))) rfl <| Ar rfl rfl Aa (.inl (congrArg Value.bool (by simp [hlen, h1]))) rfl <| Ar rfl rfl Aa (.inl (congrArg Value.bool (by simp [hlen, h1]))) rfl <| Ar rfl rfl Aa (.inl (congrArg Value.bool (by simp [hlen, h1]))) rfl <| Ar rfl rfl Aa (.inl (congrArg Value.bool (by simp [hlen, h1]))) rfl <| Ar rfl rfl Aa (.inl (congrArg Value.bool (by simp [hlen, h1]))) rfl <| Af rfl (Au Aa (by simp [hlen, h1]) Aa) <| As (Ae 1) <| Ag Aa rfl <| AI (Ae 2) <| At <| A8 <| A1 <| Aq rfl Bf ?_
  rw [GD (MS hok (by rw [h1]; rfl)) (by decide)]
  exact ⟨_, rfl, Sl.nil⟩
 refine Ac <| Al fun ds => A3 rfl <| Bc Aa rfl fun b111 hb111 nb111 => As (Ae 2) <| Aw (Ae 2) fun ds => A3 rfl <| Be Kr Aa AY (GJ hr hl hok) fun v112 F113 hr114 hF115 => ?_
 obtain ⟨l2, rfl⟩ := hr114
 refine Ao (Ae 4) <| A3 rfl <| AN Db rfl fun b116 hb116 nb116 => Ao (Ae 1) <| AV <| AQ Dk Aa Aa (i := 0) rfl rfl rfl rfl Cn (.here) <| As (Ae 1) <| Ac <| Ak <| AI (Ae 3) <| Ag Aa (dT hok) <| AI (Ae 3) <| At <| A8 <| A1 <| Aq rfl Bf ?_
 rw [GD (Tx hok) hok]
 exact ⟨_, rfl, Sl.nil⟩
end
section
set_option maxRecDepth 100000
open Go.RowKit
theorem zr_156 : ZeroT Tryz.prog 156 (.nilFunc) := Bv (by kernel_rfl)
theorem FS : ZeroT Tryz.prog 44 (.slice none 0 0) := Bv (by kernel_rfl)
theorem zr_4 : ZeroT Tryz.prog 4 (.bool false) := Bv (by kernel_rfl)
theorem bd_80 : Body Tryz.prog 80 := AF (by kernel_rfl)
theorem NX : OneT Tryz.prog 156 := BI (by kernel_rfl)
instance : OneI Tryz.prog 156 := ⟨NX⟩
theorem Vu : OneT Tryz.prog 4 := BI (by kernel_rfl)
instance : OneI Tryz.prog 4 := ⟨Vu⟩
theorem sz_156 : SizeT Tryz.prog 156 1 := Bq (by kernel_rfl)
theorem Tk : SizeT Tryz.prog 4 1 := Bq (by kernel_rfl)
theorem QM {s : Stm} {p k : Nat} : setTo s p (k + 1) = setTo s p k ||| 2 ^ (s.r k p).toNat := rfl
theorem P4 {s : Stm} {p k : Nat} : kindTo s p (k + 1) = kindTo s p k + if metB s p (k + 1) = true then 1 else 0 := rfl
theorem Kp {s : Stm} {xs : List (List Int)} {t : List Int} (h : cleanR s xs = none) : cleanR s (xs ++ [t]) = some (uncleanL s t) := by rw [Eb, h]; rfl
theorem FK {s : Stm} {xs : List (List Int)} {t : List Int} {b : List Nat} (h : cleanR s xs = some b) (h2 : (uncleanL s t).length < b.length ∨ ((uncleanL s t).length = b.length ∧ cmpL (uncleanL s t) b < 0)) : cleanR s (xs ++ [t]) = some (uncleanL s t) := by rw [Eb, h]; exact if_pos h2
theorem GO {s : Stm} {xs : List (List Int)} {t : List Int} {b : List Nat} (h : cleanR s xs = some b) (h2 : ¬ ((uncleanL s t).length < b.length ∨ ((uncleanL s t).length = b.length ∧ cmpL (uncleanL s t) b < 0))) : cleanR s (xs ++ [t]) = some b := by rw [Eb, h]; exact if_neg h2
theorem bit_met {s : Stm} {p j : Nat} (hv : ValidT s) (hp : p < s.places.length) : (setTo s p s.editions.length / 2 ^ (j + 1) &&& 1 : Nat) = if metB s p (j + 1) = true then 1 else 0 := by
 have h := MO (v := j + 1) (fun i hi => (hv.rd i p hi hp).1) (Nat.le_refl s.editions.length)
 rw [Nat.testBit_eq_decide_div_mod_eq] at h
 rw [Nat.and_one_is_mod]
 unfold metB
 rw [← h]
 by_cases h2 : setTo s p s.editions.length / 2 ^ (j + 1) % 2 = 1
 · rw [if_pos (dT h2)]; exact h2
 rw [if_neg (by simpa using h2)]; omega
theorem Vs {α : Type} (o : Option α) : o = none ∨ ∃ b, o = some b := by cases o with | none => exact .inl rfl | some b => exact .inr ⟨b, rfl⟩
theorem Vk {n : Nat} (h : n ≤ 3) : 2 ^ n ≤ 8 := by
 have : n = 0 ∨ n = 1 ∨ n = 2 ∨ n = 3 := by omega
 rcases this with rfl | rfl | rfl | rfl <;> decide
theorem Ov {F : Heap} {vp ve : Value} {ps : List (Value × Edn)} {s : Stm} (hr : StmR F vp ve ps s) : Ok Tryz.prog 38 [.agg #[vp, ve]].toArray F fun u F' => NatsR F' u (cleanE s) := by
 have hle0 : F.le F := Heap.le_refl _
 refine Ok.intro Tryz.func38 rfl Tryz.ntmps38 rfl fun w0 => ?_
 have hL1 := hr.eds.plain.lt
 have hL2 := hr.places.plain.lt
 have hlen := hr.len
 by_cases h0 : (checkT s).2.2 = 0
 ·have hv := Cj h0
  have hne := hv.ne
  have hnp := hv.np
  refine Ac <| Al fun ds => A3 rfl <| Bc Aa rfl fun b1 hb1 nb1 => A3 rfl <| AN FS rfl fun b2 hb2 nb2 => As (Ae 1) <| Aw (Ae 1) fun ds => A3 rfl <| CH Gx Aa AY (FD hr h0) fun v3 F4 R7 hr5 hF6 => ?_
  replace hr := hr.mono hF6
  obtain ⟨ba, kb, rfl, hX, rfl⟩ := hr5
  refine As (Ae 5) <| Ac <| AI (Ae 2) <| Ad Aa (by decide) <| Aj <| Ab <| Ac <| Al fun ds => A3 rfl <| AN FS rfl fun b8 hb8 nb8 => Am <| Ab <| Ac <| Aw (Ae 2) fun ds => Af rfl (A6 BO Aa hr.places.plain) <| As (Ae 1) <| Ak ?_
  refine AJ [6, 7, 9, 10, 11, 29, 30, 31, 32, 33, 34, 35, 36, 37, 38, 39, 40, 41, 42, 43, 44, 45, 46, 47, 48, 49, 50, 51, 52, 53, 54, 55, 56, 57, 58, 59, 60, 61, 62, 63, 64] (fun m e σ => ∃ p : Nat, m + p = s.places.length ∧ Fct e 29 (.int .i64 (p : Int)) ∧ ∃ v5 R5, Own 3 1 v5 (iL (needN s) p).length ((iL (needN s) p).flatMap intE) R5 ∧ σ = ⟨F4, (b8, bx 44 [v5]) :: (b2, bx 44 [.slice none 0 0]) :: (b1, bx 30 [vp, ve]) :: (kb, mapO []) :: R5⟩) (s.places.length) ?_ ?_
  · exact ⟨0, by omega, Bb, _, [], Ce, rfl⟩
  rintro m e _ ⟨p, hm, hs29, v5, R5, ho, rfl⟩; have hil9 := Bp (f := needN s) (n := p)
  by_cases hp : p < s.places.length
  ·refine AI (Ae 1) <| Ac <| Ag Aa (by first | rfl | exact dT (by omega)) <| Aj <| Ab <| Ac <| Ak <| AI (Ae 2) <| AI (Ae 1) <| Ac <| Aw (Ae 2) fun ds => Af rfl (A6 Bl Aa hr.eds.plain) <| As (Ae 1) <| Ak ?_
   refine AJ [7, 9, 35, 36, 37, 38, 39, 40, 41, 42, 43, 44, 45, 46, 47] (fun m e σ => ∃ i : Nat, m + i = ps.length ∧ Fct e 35 (.int .i64 (i : Int)) ∧ Fct e 7 (.int .i64 ((setTo s p i : Nat) : Int)) ∧ σ = ⟨F4, (b8, bx 44 [v5]) :: (b2, bx 44 [.slice none 0 0]) :: (b1, bx 30 [vp, ve]) :: (kb, mapO []) :: R5⟩) (ps.length) ?_ ?_
   · exact ⟨0, by omega, Bb, Bb, rfl⟩
   rintro m1 e1 _ ⟨i, hm1, ht35, ht7, rfl⟩
   by_cases hli : i < ps.length
   ·have hil : i < s.editions.length := by omega
    have hri := hr.rd hli
    have hpi : p < (s.ed i).rd.length := by rw [hv.rdl i hil]; exact hp
    have er := FZ hpi
    have hrb := hv.rd i p hil hp
    have hst := Ld (s := s) (p := p) (fun i hi => hv.rd i p hi hp) (k := i) (by omega)
    have hp8 := Vk (n := (s.r i p).toNat) (by omega)
    refine AI (Ae 1) <| Ac <| Ag Aa (by first | rfl | exact dT (by omega)) <| Aj <| Ab <| Ac <| Ak <| Ac <| Al fun ds => Af rfl (Ax (k := i) Bl Aa hr.eds.plain Aa rfl hli) <| Af rfl (AO ED Aa rfl rfl (hr.eds.whole hli)) <| A3 rfl <| AN JV rfl fun b11 hb11 nb11 => AV <| AQ MK Aa Aa (i := 0) rfl rfl rfl rfl (GL (hr.one _ (List.getElem_mem hli))) (.here) <| Am <| Ab <| Al fun ds => Ao (Ae 4) <| Af rfl (Ax (k := p) A7 Aa hri.plain Aa rfl hpi) <| Af rfl (Ah AA Aa (hri.cell1 hpi rfl)) <| Af rfl (Pk Aa Aa (k := (s.r i p).toNat) (by rw [er]; omega) (by omega) (show (1 : Int) * 2 ^ (s.r i p).toNat = ((2 ^ (s.r i p).toNat : Nat) : Int) by simp) (Int.le_trans (by decide) (Int.natCast_nonneg _)) (by omega)) <| Af rfl (T0 Aa Aa (m := setTo s p i) (k := 2 ^ (s.r i p).toNat) rfl rfl (by omega) (by omega) rfl) <| Ao (Ae 1) <| Am <| Az <| Ab <| By (fun _ _ h => h.drop (kD <| kK <| kK <| kK <| kK <| .refl _)) <| Al fun ds => Af rfl (AE Aa Aa rfl (by omega) (by omega)) <| Ao (Ae 1) <| Am ?_
    refine Ab ⟨_, m1 - 1, Off.eq (BT rfl <| Ci rfl <| Cw rfl <| BY rfl <| A2), by omega, ?_⟩
    exact ⟨i + 1, by omega, Bb, BN (by rw [QM]), rfl⟩
   refine AI (Ae 1) <| Ac <| Ad Aa (by first | rfl | exact dF (by omega)) ?_
   obtain rfl : i = ps.length := by omega
   have hst := Ld (s := s) (p := p) (fun i hi => hv.rd i p hi hp) (k := ps.length) (by omega)
   refine AC ?_
   refine A0 <| A0 <| A4 <| Ab <| AI (Ae 1) <| Ac <| AI (Ae 1) <| Ak ?_
   refine AJ [10, 11, 48, 49, 50, 51, 52, 53, 54, 55, 56, 57, 58] (fun m e σ => ∃ j : Nat, m + j = 3 ∧ Fct e 48 (.int .i64 (j : Int)) ∧ Fct e 10 (.int .i64 (-1 + kindTo s p j)) ∧ σ = ⟨F4, (b8, bx 44 [v5]) :: (b2, bx 44 [.slice none 0 0]) :: (b1, bx 30 [vp, ve]) :: (kb, mapO []) :: R5⟩) (3) ?_ ?_
   · exact ⟨0, rfl, Bb, Bb, rfl⟩
   rintro m2 e2 _ ⟨j, hm2, hu48, hu10, rfl⟩
   by_cases hl3 : j < 3
   ·have hkb := El (s := s) (p := p) j
    have hbt : (setTo s p ps.length / 2 ^ (j + 1) &&& 1 : Nat) = (if metB s p (j + 1) = true then 1 else 0 : Nat) := by have h9 := bit_met (j := j) hv hp; rw [← hlen] at h9; exact h9
    refine AI (Ae 1) <| Ac <| Ag Aa (by first | rfl | exact dT (by omega)) <| Aj <| Ab <| Ac <| Ak <| AI (Ae 2) <| Al fun ds => Ao (Ae 3) <| Af rfl (AE Aa Aa rfl (by omega) (by omega)) <| Af rfl (HL Aa Aa (k := j + 1) (by omega) (by show j + 1 < 64; omega) (shr_nat (m := setTo s p ps.length))) <| Af rfl (HM Aa Aa (m := setTo s p ps.length / 2 ^ (j + 1)) (k := 1) rfl rfl (by have := Nat.div_le_self (setTo s p ps.length) (2 ^ (j + 1)); omega) (by omega) rfl) <| Af rfl (AE Aa Aa rfl (by rw [hbt]; split <;> omega) (by rw [hbt]; split <;> omega)) <| Ao (Ae 1) <| Am <| Az <| Ab <| Al fun ds => Af rfl (AE Aa Aa rfl (by omega) (by omega)) <| Ao (Ae 1) <| Am ?_
    refine Ab ⟨_, m2 - 1, Off.eq (BT rfl <| Ci rfl <| BY rfl <| A2), by omega, ?_⟩
    refine ⟨j + 1, by omega, Bb, BN ?_, rfl⟩
    rw [P4, hbt]; congr 1; split <;> omega
   refine AI (Ae 1) <| Ac <| Ad Aa (by first | rfl | exact dF (by omega)) ?_
   obtain rfl : j = 3 := by omega
   have hkb := El (s := s) (p := p) 3
   refine AC ?_
   refine A0 <| A0 <| A4 <| Ab <| Al fun ds => Ao (Ae 3) <| A3 rfl <| AU A7 B1 rfl (.cons Aa .nil) rfl rfl (by decide) (by simp [Value.oneCell']) fun b13 hb13 nb13 => A3 rfl <| Bi A7 D5 Aa ho Aa (BA (s := 1) 0 rfl rfl (by simp [Value.oneCell'])) (by omega) (by omega) (.s <| .s <| .s <| .s <| .s <| .z) .last fun v14 R15 ho16 => ?_
   have ho2 : Own 3 1 v14 (iL (needN s) (p + 1)).length ((iL (needN s) (p + 1)).flatMap intE) R15 := by have h9 := ho16; rw [S2]; exact h9.snoc (x := needN s p) rfl (by unfold needN kindsN intE; congr 2; omega)
   refine AV <| AT E0 Aa Aa (i := 1) rfl (.here) (Own.one ho2) (.next <| .here) <| Am <| Az <| Ab <| By (fun _ _ h => h.drop (kD <| kK <| kK <| kK <| kK <| .refl _)) <| Al fun ds => Af rfl (AE Aa Aa rfl (by omega) (by omega)) <| Ao (Ae 1) <| Am ?_
   refine Ab ⟨_, m - 1, Off.eq (BT rfl <| BJ rfl <| Cw rfl <| BY rfl <| BJ rfl <| BT rfl <| A2), by omega, ?_⟩
   refine ⟨p + 1, by omega, Bb, _, _, ho2, rfl⟩
  refine AI (Ae 1) <| Ac <| Ad Aa (by first | rfl | exact dF (by omega)) ?_
  obtain rfl : p = s.places.length := by omega
  refine Bm (σ := ⟨_, _⟩) (by rfl) ho (.s <| .s <| .s <| .s <| .z) .last fun F17 hF18 hz19 => ?_
  replace hX := hX.mono hF18
  have hnd := ho.sl (fun _ => rfl) hz19 (by rw [Bp]; omega)
  refine AL (i := 0) rfl hb8 (.here) fun F20 hF21 hz5 => ?_
  replace hX := hX.mono hF21
  replace hnd := hnd.mono hF21
  refine AC ?_
  refine A0 <| A0 <| A4 <| Ab <| Ac <| Al fun ds => A3 rfl <| AN zr_4 rfl fun b22 hb22 nb22 => AV <| AT Tk Aa Aa (i := 0) rfl (.here) rfl (.here) <| Am <| Ab <| Aw (Ae 1) fun ds => Af rfl (DT AY .nil) <| A3 rfl <| AN zr_156 rfl fun b23 hb23 nb23 => AV <| AT sz_156 Aa Aa (i := 0) rfl (.here) rfl (.here) <| Am <| Ab <| Ac <| Ac <| AL (i := 0) rfl hb23 (.here) fun F24 hF25 hz13 => ?_
  replace hX := hX.mono hF25
  replace hnd := hnd.mono hF25
  replace hz5 := hF25 _ _ hz5
  refine Al fun ds => Ao (Ae 1) <| A3 rfl <| Be bd_79 Aa AY (OJ hX) fun v26 F27 hr28 hF29 => ?_
  replace hX := hX.mono hF29
  replace hnd := hnd.mono hF29
  replace hz5 := hF29 _ _ hz5
  replace hz13 := hF29 _ _ hz13
  obtain ⟨dz, rfl, hzd⟩ := hr28
  refine Am <| Ab <| Ak ?_
  refine GR rfl Aa (WF) (JX hX hv hzd) (Heap.le_refl _) (fun pre G H => ∃ v2, Nats G v2 ((cleanR s pre).getD []) ∧ H = [(b22, bx 4 [.bool (cleanR s pre).isSome]), (b2, bx 44 [v2]), (b1, bx 30 [vp, ve]), (kb, mapO [])]) (fun _ _ _ => False) (fun _ _ _ _ hF h => by obtain ⟨v, h1, h2⟩ := h; exact ⟨v, h1.mono hF, h2⟩) (fun _ _ _ _ _ h => h) ⟨_, Sl.nil, rfl⟩ (fun L D fn tm pre x rest G H1 vs hxs hle hJ hA => ?_) (fun _ _ _ _ h => h.elim) (fun F2 H1 hF2 hJ => ?_)
  ·replace hX := hX.mono hle
   replace hnd := hnd.mono hle
   replace hz5 := hle _ _ hz5
   replace hz13 := hle _ _ hz13
   obtain ⟨v2, hv2, rfl⟩ := hJ
   obtain rfl : vs = [treeV x] := hA
   have hxm : x ∈ allTrees s := by rw [hxs]; simp
   obtain ⟨hll, ht, -⟩ := Cf.1 hxm
   refine ⟨rfl, rfl, fun w1 => ?_⟩
   refine GA (e' := (upd _ 69 (treeV x))) rfl rfl <| AB (.inr (by kernel_rfl)) (fun _ _ h => h) fun ds => A3 rfl <| AN Db rfl fun b30 hb30 nb30 => D8 (.cons (.next <| .here) <| .cons (.next <| .here) <| .cons (.here) <| .cons (.here) <| .cons (.here) <| .cons (.here) <| .cons (.here) <| .nil) <| AV <| AQ Dk Aa Aa (i := 2) rfl rfl rfl rfl Cn (.next <| .next <| .here) <| Am ?_
   refine Ab ⟨_, rfl, ?_⟩
   refine Ak <| Ac <| Jr (i := 0) rfl (fun _ => .here) fun oL hoL => AB (.inr (by kernel_rfl)) (fun _ _ h => h) fun ds => As (Ae 1) <| Ac <| Ac <| AB (.inr (by kernel_rfl)) (fun _ _ h => h) fun ds => Af rfl (Ah Br Aa (AM hz5 rfl)) <| Af rfl (A6 A7 Aa hnd.plain) <| As (Ae 1) <| Ak ?_
   refine AJ [15, 16, 17, 72, 73, 74, 75, 76, 77, 78, 79, 80, 81, 82, 83, 84, 85, 86, 87] (fun m e σ => ∃ q : Nat, m + q = s.places.length ∧ Fct e 72 (.int .i64 (q : Int)) ∧ ∃ v15 R15, Fct e 15 v15 ∧ Own 3 1 v15 (selN (uncleanB s x) q).length ((selN (uncleanB s x) q).flatMap natE) R15 ∧ σ = ⟨G, (L, oL) :: (D, openO) :: (b30, bx 128 (treeC x)) :: (b22, bx 4 [.bool (cleanR s pre).isSome]) :: (b2, bx 44 [v2]) :: (b1, bx 30 [vp, ve]) :: (kb, mapO []) :: R15⟩) (s.places.length) ?_ ?_
   · exact ⟨0, by omega, Bb, _, _, Bb, Own.nil, rfl⟩
   rintro m e _ ⟨q, hm, hs72, v15, R15, hs15, ho, rfl⟩; have hsl := Dn (p := (uncleanB s x)) (k := q)
   by_cases hlq : q < s.places.length
   ·refine Ac <| AB (.inr (by kernel_rfl)) (fun _ _ h => h) fun ds => As (Ae 1) <| Ac <| Ag Aa (by first | rfl | exact dT (by omega)) ?_
    have hnq : (iL (needN s) s.places.length)[q]'(by rw [Bp]; exact hlq) = needN s q := LD _
    have hup := Mz ht hv hll (p := q)
    by_cases hub : uncleanB s x q = true
    ·refine Aj <| Ab <| Ac <| Ak <| Ac <| AB (.inr (by kernel_rfl)) (fun _ _ h => h) fun ds => Ao (Ae 1) <| Af rfl (Ax (k := q) A7 Aa hnd.plain Aa rfl (by rw [Bp]; exact hlq)) <| Af rfl (Ah AA Aa (hnd.cell1 (by rw [Bp]; exact hlq) rfl)) <| As (Ae 2) <| Ac <| AB (.inr (by kernel_rfl)) (fun _ _ h => h) fun ds => Af rfl (Ah NX Aa (AM hz13 rfl)) <| Ao (Ae 2) <| AS rfl (Sf Jj Aa AY (CY hX ht hll hv hlq) (fun _ _ h => h)) <| As (Ae 2) <| Ag Aa (dT (by rw [hnq]; exact hup.2 hub)) <| AB (.inr (by kernel_rfl)) (fun _ _ h => h) fun ds => Ao (Ae 2) <| A3 rfl <| AU A7 B1 rfl (.cons Aa .nil) rfl rfl (by decide) (by simp [Value.oneCell']) fun b32 hb32 nb32 => A3 rfl <| Bi A7 D5 Aa ho Aa (BA (s := 1) 0 rfl rfl (by simp [Value.oneCell'])) (by omega) (by omega) (.s <| .s <| .s <| .s <| .s <| .s <| .s <| .s <| .z) .last fun v33 R34 ho35 => ?_
     have ho2 := ho35.snoc (x := q) rfl rfl
     refine Ao (Ae 1) <| Am <| Az <| Ab <| By (fun _ _ h => h.drop (kD <| kK <| kK <| kK <| kK <| kK <| kK <| kK <| .refl _)) <| AB (.inr (by kernel_rfl)) (fun _ _ h => h) fun ds => Af rfl (AE Aa Aa rfl (by omega) (by omega)) <| Ao (Ae 1) <| Am ?_
     refine Ab ⟨_, m - 1, Off.eq (B3 rfl <| Cw rfl <| BY rfl <| A2), by omega, ?_⟩
     exact ⟨q + 1, by omega, Bb, _, _, Bb, by rw [Dm, if_pos hub]; exact ho2, rfl⟩
    replace hub : uncleanB s x q = false := by simpa using hub
    refine Aj <| Ab <| Ac <| Ak <| Ac <| AB (.inr (by kernel_rfl)) (fun _ _ h => h) fun ds => Ao (Ae 1) <| Af rfl (Ax (k := q) A7 Aa hnd.plain Aa rfl (by rw [Bp]; exact hlq)) <| Af rfl (Ah AA Aa (hnd.cell1 (by rw [Bp]; exact hlq) rfl)) <| As (Ae 2) <| Ac <| AB (.inr (by kernel_rfl)) (fun _ _ h => h) fun ds => Af rfl (Ah NX Aa (AM hz13 rfl)) <| Ao (Ae 2) <| AS rfl (Sf Jj Aa AY (CY hX ht hll hv hlq) (fun _ _ h => h)) <| As (Ae 2) <| Ad Aa (dF (by rw [hnq]; exact fun h => by rw [hup.1 h] at hub; cases hub)) <| Aj <| Az <| Ab <| AB (.inr (by kernel_rfl)) (fun _ _ h => h) fun ds => Af rfl (AE Aa Aa rfl (by omega) (by omega)) <| Ao (Ae 1) <| Am ?_
    refine Ab ⟨_, m - 1, Off.eq (BT rfl <| Ci rfl <| Cw rfl <| A2), by omega, ?_⟩
    exact ⟨q + 1, by omega, Bb, _, _, Bb, by rw [Dm, if_neg (by rw [hub]; simp)]; exact ho, rfl⟩
   refine Ac <| AB (.inr (by kernel_rfl)) (fun _ _ h => h) fun ds => As (Ae 1) <| Ac <| Ad Aa (by first | rfl | exact dF (by omega)) ?_
   obtain rfl : q = s.places.length := by omega
   refine Kt (σ := ⟨_, _⟩) (by intro m hm; simp [keys] at hm ⊢; rcases hm with h | h | h | h | h | h <;> simp [h]) ho (.s <| .s <| .s <| .s <| .s <| .s <| .s <| .z) .last fun F36 hF37 hz38 => ?_
   replace hle := hle.mono hF37
   replace hv2 := hv2.mono hF37
   have hl15 := ho.sl (fun _ => rfl) hz38 (by omega)
   change Nats _ _ (uncleanL s x) at hl15
   rcases Vs (cleanR s pre) with hcs | ⟨bb, hcs⟩
   ·refine AC ?_
    refine A0 <| A0 <| A4 <| Ab <| Ac <| AB (.inr (by kernel_rfl)) (fun _ _ h => h) fun ds => Ao (Ae 3) <| Ar rfl rfl Aa (.inl (congrArg Value.bool (by rw [hcs]; rfl))) rfl <| Ar rfl rfl Aa (.inl (congrArg Value.bool (by rw [hcs]; rfl))) rfl <| Ar rfl rfl Aa (.inl (congrArg Value.bool (by rw [hcs]; rfl))) rfl <| Ar rfl rfl Aa (.inl (congrArg Value.bool (by rw [hcs]; rfl))) rfl <| Ar rfl rfl Aa (.inl (congrArg Value.bool (by rw [hcs]; rfl))) rfl <| Af rfl (Au Aa (by rw [hcs]; rfl) Aa) <| Ao (Ae 1) <| Ar rfl rfl Aa (.inl (congrArg Value.bool rfl)) rfl <| Ar rfl rfl Aa (.inl (congrArg Value.bool rfl)) rfl <| Ar rfl rfl Aa (.inl (congrArg Value.bool rfl)) rfl <| Ar rfl rfl Aa (.inl (congrArg Value.bool rfl)) rfl <| Ar rfl rfl Aa (.inl (congrArg Value.bool rfl)) rfl <| Ar rfl rfl Aa (.inl (congrArg Value.bool rfl)) rfl <| Ar rfl rfl Aa (.inr rfl) rfl <| Ar rfl rfl Aa (.inr rfl) rfl <| Ar rfl rfl Aa (.inr rfl) rfl <| Ar rfl rfl Aa (.inr rfl) rfl <| Ar rfl rfl Aa (.inl (congrArg Value.bool rfl)) rfl <| Af rfl (Au Aa rfl BF) <| Am <| Ab <| Ag Aa rfl ?_
    subst hoL
    refine AB (.inr (by kernel_rfl)) (fun _ _ h => h) fun ds => Ao (Ae 1) <| AV <| AT E0 Aa Aa (i := 4) rfl (.here) (by first | rfl | exact hl15.plain.one) (.next <| .next <| .next <| .next <| .here) <| AV <| AT Tk Aa Aa (i := 3) rfl (.here) (by first | rfl | exact hl15.plain.one) (.next <| .next <| .next <| .here) <| Am <| Az <| BS (.one (.here) <| .one (.here) <| .one (.next <| .here) <| .one (.next <| .here) <| .one (.next <| .here) <| .one (.next <| .here) <| .nil) ?_
    refine .inl ⟨rfl, _, rfl, hle, ?_⟩
    exact ⟨_, by rw [Kp hcs]; exact hl15, by rw [Kp hcs]; first | done | rfl⟩
   have hv2b := hv2
   rw [hcs] at hv2b
   replace hv2b : Nats _ v2 bb := hv2b
   have hbl := hv2b.plain.lt
   refine AC ?_
   refine A0 <| A0 <| A4 <| Ab <| Ac <| AB (.inr (by kernel_rfl)) (fun _ _ h => h) fun ds => Ao (Ae 3) <| Ap rfl rfl Aa (by rw [hcs]; rfl) <| Ao (Ae 1) <| Ap rfl rfl Aa (by rw [hcs]; rfl) <| Af rfl (A6 A7 Aa hl15.plain) <| Ap rfl rfl Aa (by rw [hcs]; rfl) <| Ao (Ae 1) <| Ap rfl rfl Aa (by rw [hcs]; rfl) <| Af rfl (A6 A7 Aa hv2.plain) <| Ap rfl rfl Aa (by rw [hcs]; rfl) <| Ao (Ae 1) <| Af rfl (A5 Aa (by rw [hcs]; rfl) Aa) <| Ao (Ae 1) ?_
   by_cases h1 : (uncleanL s x).length < bb.length
   ·refine Ar rfl rfl Aa (.inl (congrArg Value.bool (dT (by rw [hcs]; show (_ : Int) < (bb.length : Int); omega)))) rfl <| Ar rfl rfl Aa (.inl (congrArg Value.bool (dT (by rw [hcs]; show (_ : Int) < (bb.length : Int); omega)))) rfl <| Ar rfl rfl Aa (.inl (congrArg Value.bool (dT (by rw [hcs]; show (_ : Int) < (bb.length : Int); omega)))) rfl <| Ar rfl rfl Aa (.inl (congrArg Value.bool (dT (by rw [hcs]; show (_ : Int) < (bb.length : Int); omega)))) rfl <| Ar rfl rfl Aa (.inl (congrArg Value.bool (dT (by rw [hcs]; show (_ : Int) < (bb.length : Int); omega)))) rfl <| Ar rfl rfl Aa (.inl (congrArg Value.bool (dT (by rw [hcs]; show (_ : Int) < (bb.length : Int); omega)))) rfl <| Ar rfl rfl Aa (.inr rfl) rfl <| Ar rfl rfl Aa (.inr rfl) rfl <| Ar rfl rfl Aa (.inr rfl) rfl <| Ar rfl rfl Aa (.inr rfl) rfl <| Ar rfl rfl Aa (.inl (congrArg Value.bool (dT (by rw [hcs]; show (_ : Int) < (bb.length : Int); omega)))) rfl <| Af rfl (Au Aa (dT (by rw [hcs]; show (_ : Int) < (bb.length : Int); omega)) Aa) <| Am <| Ab <| Ag Aa rfl ?_
    subst hoL
    refine AB (.inr (by kernel_rfl)) (fun _ _ h => h) fun ds => Ao (Ae 1) <| AV <| AT E0 Aa Aa (i := 4) rfl (.here) (by first | rfl | exact hl15.plain.one) (.next <| .next <| .next <| .next <| .here) <| AV <| AT Tk Aa Aa (i := 3) rfl (.here) (by first | rfl | exact hl15.plain.one) (.next <| .next <| .next <| .here) <| Am <| Az <| BS (.one (.here) <| .one (.here) <| .one (.next <| .here) <| .one (.next <| .here) <| .one (.next <| .here) <| .one (.next <| .here) <| .nil) ?_
    refine .inl ⟨rfl, _, rfl, hle, ?_⟩
    exact ⟨_, by rw [FK hcs (.inl h1)]; exact hl15, by rw [FK hcs (.inl h1)]; first | done | rfl⟩
   refine Ap rfl rfl Aa (dF (by rw [hcs]; show ¬ (_ : Int) < (bb.length : Int); omega)) <| Ao (Ae 1) <| Ap rfl rfl Aa (dF (by rw [hcs]; show ¬ (_ : Int) < (bb.length : Int); omega)) <| Af rfl (A6 A7 Aa hl15.plain) <| Ap rfl rfl Aa (dF (by rw [hcs]; show ¬ (_ : Int) < (bb.length : Int); omega)) <| Ao (Ae 1) <| Ap rfl rfl Aa (dF (by rw [hcs]; show ¬ (_ : Int) < (bb.length : Int); omega)) <| Af rfl (A6 A7 Aa hv2.plain) <| Ap rfl rfl Aa (dF (by rw [hcs]; show ¬ (_ : Int) < (bb.length : Int); omega)) <| Ao (Ae 1) <| Ap rfl rfl Aa (dF (by rw [hcs]; show ¬ (_ : Int) < (bb.length : Int); omega)) <| Ao (Ae 1) ?_
   by_cases h2 : (uncleanL s x).length = bb.length
   ·refine Ap rfl rfl Aa (dT (by rw [hcs]; show (_ : Int) = (bb.length : Int); omega)) <| Ao (Ae 1) <| Ap rfl rfl Aa (dT (by rw [hcs]; show (_ : Int) = (bb.length : Int); omega)) <| Ao (Ae 1) <| Ap rfl rfl Aa (dT (by rw [hcs]; show (_ : Int) = (bb.length : Int); omega)) <| AS rfl (Ay bd_80 Aa AY (LU hl15 hv2) (fun _ _ h => h)) <| Ap rfl rfl Aa (dT (by rw [hcs]; show (_ : Int) = (bb.length : Int); omega)) <| Ao (Ae 1) <| Ap rfl rfl Aa (dF (by rw [hcs]; show ¬ (_ : Int) < (bb.length : Int); omega)) <| Af rfl (Au Aa (dT (by rw [hcs]; show (_ : Int) = (bb.length : Int); omega)) Aa) <| Af rfl (A5 Aa (dF (by rw [hcs]; show ¬ (_ : Int) < (bb.length : Int); omega)) Aa) <| Am <| Ab ?_
    by_cases h3 : cmpL (uncleanL s x) bb < 0
    ·refine Ag Aa (by rw [hcs]; exact dT h3) ?_
     subst hoL
     refine AB (.inr (by kernel_rfl)) (fun _ _ h => h) fun ds => Ao (Ae 1) <| AV <| AT E0 Aa Aa (i := 4) rfl (.here) (by first | rfl | exact hl15.plain.one) (.next <| .next <| .next <| .next <| .here) <| AV <| AT Tk Aa Aa (i := 3) rfl (.here) (by first | rfl | exact hl15.plain.one) (.next <| .next <| .next <| .here) <| Am <| Az <| BS (.one (.here) <| .one (.here) <| .one (.next <| .here) <| .one (.next <| .here) <| .one (.next <| .here) <| .one (.next <| .here) <| .nil) ?_
     refine .inl ⟨rfl, _, rfl, hle, ?_⟩
     exact ⟨_, by rw [FK hcs (.inr ⟨h2, h3⟩)]; exact hl15, by rw [FK hcs (.inr ⟨h2, h3⟩)]; first | done | rfl⟩
    refine Ad Aa (by rw [hcs]; exact dF h3) ?_
    subst hoL
    refine Aj <| Az <| BS (.one (.here) <| .one (.here) <| .one (.next <| .here) <| .one (.next <| .here) <| .one (.next <| .here) <| .one (.next <| .here) <| .nil) ?_
    refine .inl ⟨rfl, _, rfl, hle, ?_⟩
    exact ⟨_, by rw [GO hcs (fun h => h.elim h1 (fun h => h3 h.2))]; exact hv2b, by rw [GO hcs (fun h => h.elim h1 (fun h => h3 h.2)), hcs]; first | done | rfl⟩
   refine Ar rfl rfl Aa (.inl (congrArg Value.bool (dF (by rw [hcs]; show ¬ (_ : Int) = (bb.length : Int); omega)))) rfl <| Ar rfl rfl Aa (.inl (congrArg Value.bool (dF (by rw [hcs]; show ¬ (_ : Int) = (bb.length : Int); omega)))) rfl <| Ar rfl rfl Aa (.inl (congrArg Value.bool (dF (by rw [hcs]; show ¬ (_ : Int) = (bb.length : Int); omega)))) rfl <| Ar rfl rfl Aa (.inl (congrArg Value.bool (dF (by rw [hcs]; show ¬ (_ : Int) = (bb.length : Int); omega)))) rfl <| Ap rfl rfl Aa (dF (by rw [hcs]; show ¬ (_ : Int) < (bb.length : Int); omega)) <| Af rfl (A5 Aa (dF (by rw [hcs]; show ¬ (_ : Int) = (bb.length : Int); omega)) Aa) <| Af rfl (A5 Aa (dF (by rw [hcs]; show ¬ (_ : Int) < (bb.length : Int); omega)) Aa) <| Am <| Ab <| Ad Aa rfl ?_
   subst hoL
   refine Aj <| Az <| BS (.one (.here) <| .one (.here) <| .one (.next <| .here) <| .one (.next <| .here) <| .one (.next <| .here) <| .one (.next <| .here) <| .nil) ?_
   refine .inl ⟨rfl, _, rfl, hle, ?_⟩
   exact ⟨_, by rw [GO hcs (fun h => h.elim h1 (fun h => h2 h.1))]; exact hv2b, by rw [GO hcs (fun h => h.elim h1 (fun h => h2 h.1)), hcs]; first | done | rfl⟩
  obtain ⟨v2, hv2, rfl⟩ := hJ
  refine Az <| Ab ?_
  rcases Vs (cleanR s (allTrees s)) with hcs | ⟨bb, hcs⟩
  ·refine Ac <| AI (Ae 2) <| Ag Aa (by rw [hcs]; rfl) <| Ac <| Al fun ds => AV <| AT E0 Aa Aa (i := 1) rfl (.here) rfl (.next <| .here) <| As (Ae 1) <| At <| A1 <| Aq rfl (.one Br Aa (Cell.own 1 rfl rfl) Bf) ?_
   rw [Qd h0 hcs]
   exact ⟨_, rfl, Sl.nil⟩
  refine Ac <| AI (Ae 2) <| Ad Aa (by rw [hcs]; rfl) <| Aj <| Ab <| Aw (Ae 1) fun ds => AV <| AT E0 Aa Aa (i := 1) rfl (.here) hv2.plain.one (.next <| .here) <| As (Ae 1) <| At <| Aq rfl (.one Br Aa (Cell.own 1 rfl rfl) Bf) ?_
  rw [Qc h0 hcs]
  rw [hcs] at hv2
  exact ⟨_, rfl, hv2⟩
 refine Ac <| Al fun ds => A3 rfl <| Bc Aa rfl fun b39 hb39 nb39 => A3 rfl <| AN FS rfl fun b40 hb40 nb40 => As (Ae 1) <| Aw (Ae 1) fun ds => AS rfl (Ay Gx Aa AY (HP hr h0) (fun _ _ h => h)) <| As (Ae 5) <| Ac <| AI (Ae 2) <| Ag Aa (dT h0) <| Aw (Ae 1) fun ds => AV <| AT E0 Aa Aa (i := 0) rfl (.here) rfl (.here) <| As (Ae 1) <| At <| A1 <| Aq rfl (.one Br Aa (Cell.own 0 rfl rfl) Bf) ?_
 rw [R0 h0]
 exact ⟨_, rfl, Sl.nil⟩
end
section
open Go.RowKit
def plA : Plc := ⟨⟨#[97]⟩, 0⟩
def plB : Plc := ⟨⟨#[98]⟩, 1⟩
def plC : Plc := ⟨⟨#[99]⟩, 0⟩
def edQ1 : Edn := ⟨⟨#[113, 49]⟩, 1600, 1600, [1, 1, 1]⟩
def edQ2 : Edn := ⟨⟨#[113, 50]⟩, 1605, 1610, [2, 1, 1]⟩
def edF1 : Edn := ⟨⟨#[102, 49]⟩, 1623, 1623, [2, 2, 1]⟩
def edQ3 : Edn := ⟨⟨#[113, 51]⟩, 1608, 1630, [0, 1, 2]⟩
def stemX : Stm := ⟨[plA, plB, plC], [edQ1, edQ2, edF1, edQ3]⟩
def bestX : List Int := [-1, 0, 1, 0]
def starX : List Int := [-1, 0, 0, 0]
def lineX : List Int := [-1, 0, 1, 2]
def twoX : List Int := [-1, 0, 1, 1]
theorem ev_p1 : apartE stemX 0 2 = ([0, 1], 0) := by kernel_rfl
theorem ev_c1 : changesE stemX starX = (4, 0) := by kernel_rfl
theorem ev_c2 : changesE stemX lineX = (0, 9) := by kernel_rfl
theorem ev_y1 : yearsE stemX twoX = ([(1600, 1600), (1605, 1610), (1623, 1623), (1608, 1630)], 0) := by kernel_rfl
theorem ev_b1 : bestTE stemX = (bestX, 3, 2, 0) := by kernel_rfl
theorem ev_f1 : firstTE stemX = ([0], 0) := by kernel_rfl
theorem ev_m1 : fromE stemX 1 2 = (1, 0) := by kernel_rfl
theorem ev_r1 : readE stemX bestX 3 0 = ([1], 0) := by kernel_rfl
theorem ev_l1 : cleanE stemX = ([], 0) := by kernel_rfl
theorem ev_s1 : secE stemX starX 2 = (1, 1, 0) := by kernel_rfl
theorem ev_s2 : secE stemX bestX 2 = (0, 0, 8) := by kernel_rfl
end
section
set_option maxRecDepth 100000
open Go.RowKit
theorem MA : ZeroT Tryz.prog 30 (.agg #[.slice none 0 0, .slice none 0 0]) := Bv (by kernel_rfl)
theorem Jl : Body Tryz.prog 31 := AF (by kernel_rfl)
theorem SO : Body Tryz.prog 13 := AF (by kernel_rfl)
theorem bd_14 : Body Tryz.prog 14 := AF (by kernel_rfl)
theorem bd_40 : Body Tryz.prog 40 := AF (by kernel_rfl)
theorem Wv : Body Tryz.prog 15 := AF (by kernel_rfl)
theorem bd_35 : Body Tryz.prog 35 := AF (by kernel_rfl)
theorem bd_36 : Body Tryz.prog 36 := AF (by kernel_rfl)
theorem bd_38 : Body Tryz.prog 38 := AF (by kernel_rfl)
theorem bd_37 : Body Tryz.prog 37 := AF (by kernel_rfl)
theorem bd_39 : Body Tryz.prog 39 := AF (by kernel_rfl)
theorem bd_33 : Body Tryz.prog 33 := AF (by kernel_rfl)
theorem SL : Body Tryz.prog 69 := AF (by kernel_rfl)
theorem bt_30 : BuildT Tryz.prog 30 [.slice none 0 0, .slice none 0 0] [(0, 1), (1, 1)] := Cs MA (by kernel_rfl) (by decide)
theorem GX : BuildT Tryz.prog 54 [.int .i64 0, .int .i64 0] [(0, 1), (1, 1)] := Cs EE (by kernel_rfl) (by decide)
theorem bt_59 : BuildT Tryz.prog 59 [.string ⟨#[]⟩, .int .i64 0, .int .i64 0, .slice none 0 0] [(0, 1), (1, 2), (3, 1)] := Cs JV (by kernel_rfl) (by decide)
theorem Wb : BuildT Tryz.prog 80 [.string ⟨#[]⟩, .int .i64 0] [(0, 1), (1, 1)] := Cs RO (by kernel_rfl) (by decide)
theorem OP : SizeT Tryz.prog 30 2 := Bq (by kernel_rfl)
theorem TW {F : Heap} {b T : Nat} {x y z : Int} (h : F b = some (bx T [.int .i64 x, .int .i64 y, .int .i64 z])) : Ints F (.slice (some ⟨b, 0, none⟩) 3 3) [x, y, z] :=
 Dc (xs := [x, y, z]) h rfl rfl (fun _ => rfl) (by decide)
theorem Ff {F : Heap} {b T : Nat} {x y z w : Int} (h : F b = some (bx T [.int .i64 x, .int .i64 y, .int .i64 z, .int .i64 w])) : Ints F (.slice (some ⟨b, 0, none⟩) 4 4) [x, y, z, w] :=
 Dc (xs := [x, y, z, w]) h rfl rfl (fun _ => rfl) (by decide)
theorem T7 {F : Heap} {b T : Nat} (h : F b = some (bx T [.string ⟨#[97]⟩, .int .i64 0, .string ⟨#[98]⟩, .int .i64 1, .string ⟨#[99]⟩, .int .i64 0])) : Sl F (.slice (some ⟨b, 0, none⟩) 3 3) 2 Plc.enc [plA, plB, plC] :=
 Dc (xs := [plA, plB, plC]) h rfl rfl (fun _ => rfl) (by decide)
theorem Uc {F : Heap} {b T : Nat} {v1 v2 v3 v4 : Value} (h : F b = some (bx T [.string ⟨#[113, 49]⟩, .int .i64 1600, .int .i64 1600, v1, .string ⟨#[113, 50]⟩, .int .i64 1605, .int .i64 1610, v2, .string ⟨#[102, 49]⟩, .int .i64 1623, .int .i64 1623, v3, .string ⟨#[113, 51]⟩, .int .i64 1608, .int .i64 1630, v4])) : Sl F (.slice (some ⟨b, 0, none⟩) 4 4) 4 edE [(v1, edQ1), (v2, edQ2), (v3, edF1), (v4, edQ3)] :=
 Dc (xs := [(v1, edQ1), (v2, edQ2), (v3, edF1), (v4, edQ3)]) h rfl rfl (fun _ => rfl) (by decide)
theorem OS {F : Heap} {b T : Nat} (h : F b = some (bx T [.int .i64 1600, .int .i64 1600, .int .i64 1605, .int .i64 1610, .int .i64 1623, .int .i64 1623, .int .i64 1608, .int .i64 1630])) : Sl F (.slice (some ⟨b, 0, none⟩) 4 4) 2 spanE [(1600, 1600), (1605, 1610), (1623, 1623), (1608, 1630)] :=
 Dc (xs := ([(1600, 1600), (1605, 1610), (1623, 1623), (1608, 1630)] : List (Int × Int))) h rfl rfl (fun _ => rfl) (by decide)
theorem FB {F : Heap} (nm : ByteArray) (lo hi a b c : Int) : Ok Tryz.prog 69 [.string nm, .int .i64 lo, .int .i64 hi, .int .i64 a, .int .i64 b, .int .i64 c].toArray F fun u F' => ∃ v, u = .agg #[.string nm, .int .i64 lo, .int .i64 hi, v] ∧ Ints F' v [a, b, c] := by
 refine Ok.intro Tryz.func69 rfl Tryz.ntmps69 rfl fun w0 => Ac <| Al fun ds => A3 rfl <| AN JV rfl fun b1 hb1 nb1 => Am <| Ab <| Aw (Ae 3) fun ds => Af rfl (BE GX (.cons Aa rfl (.cons Aa rfl .nil)) (.cons rfl rfl (Nat.le_of_ble_eq_true rfl) (.cons (.here) .nil) (.cons rfl rfl (Nat.le_of_ble_eq_true rfl) (.cons (.next <| .here) .nil) .nil))) <| Ao (Ae 3) <| A3 rfl <| AU A7 B1 rfl (.cons Aa (.cons Aa (.cons Aa .nil))) rfl rfl (by decide) (by simp [Value.oneCell']) fun b2 hb2 nb2 => AW (i := 0) rfl hb2 .here fun F3 hF4 hz5 => ?_
 have hsl6 := TW hz5
 refine Af rfl (BE bt_59 (.cons Aa rfl (.cons Aa rfl (.cons Aa rfl .nil))) (.cons rfl rfl (Nat.le_of_ble_eq_true rfl) (.cons (.here) .nil) (.cons rfl rfl (Nat.le_of_ble_eq_true rfl) (.cons (.next <| .here) (.cons (.next <| .next <| .here) .nil)) (.cons rfl rfl (Nat.le_of_ble_eq_true rfl) (.cons (.next <| .next <| .next <| .here) .nil) .nil)))) <| AV <| AQ MK Aa Aa (i := 0) rfl rfl rfl rfl (by simp [Value.oneCell']) (.here) <| Am <| Ab <| At <| Aq rfl (.agg ED Aa rfl rfl (Bg 0 rfl) .nil) ?_
 exact ⟨_, rfl, hsl6⟩
theorem UN {F : Heap} : Ok Tryz.prog 33 [].toArray F fun u F' => ∃ vp ve ps, u = .agg #[vp, ve] ∧ StmR F' vp ve ps stemX := by
 refine Ok.intro Tryz.func33 rfl Tryz.ntmps33 rfl fun w0 => Ac <| Al fun ds => A3 rfl <| AN MA rfl fun b1 hb1 nb1 => Am <| Ab <| Ac <| Al fun ds => Af rfl (BE Wb (.cons Aa rfl .nil) (.cons rfl rfl (Nat.le_of_ble_eq_true rfl) (.cons (.here) .nil) .nil)) <| Af rfl (BE Wb (.cons Aa rfl (.cons Aa rfl .nil)) (.cons rfl rfl (Nat.le_of_ble_eq_true rfl) (.cons (.here) .nil) (.cons rfl rfl (Nat.le_of_ble_eq_true rfl) (.cons (.next <| .here) .nil) .nil))) <| Af rfl (BE Wb (.cons Aa rfl .nil) (.cons rfl rfl (Nat.le_of_ble_eq_true rfl) (.cons (.here) .nil) .nil)) <| A3 rfl <| C2 (offs := [(0, 2), (2, 2), (4, 2)]) (zl := [.string ⟨#[]⟩, .int .i64 0, .string ⟨#[]⟩, .int .i64 0, .string ⟨#[]⟩, .int .i64 0]) BO RO rfl (.cons Aa rfl (.cons Aa rfl (.cons Aa rfl .nil))) (by intro i p h; rcases i with _ | _ | _ | i <;> simp at h <;> subst h <;> rfl) (.cons rfl rfl (Nat.le_of_ble_eq_true rfl) (.cons (.here) (.cons (.next <| .here) .nil)) (.cons rfl rfl (Nat.le_of_ble_eq_true rfl) (.cons (.next <| .next <| .here) (.cons (.next <| .next <| .next <| .here) .nil)) (.cons rfl rfl (Nat.le_of_ble_eq_true rfl) (.cons (.next <| .next <| .next <| .next <| .here) (.cons (.next <| .next <| .next <| .next <| .next <| .here) .nil)) .nil))) (by decide) (by decide) fun b2 hb2 nb2 => AW (i := 0) rfl hb2 .here fun F3 hF4 hz5 => ?_
 have hsl6 := T7 hz5
 refine A3 rfl <| Be SL Aa AY (FB _ _ _ _ _ _) fun v7 F8 hr9 hF10 => ?_
 replace hsl6 := hsl6.mono hF10
 obtain ⟨vq1, rfl, hq1⟩ := hr9
 refine A3 rfl <| Be SL Aa AY (FB _ _ _ _ _ _) fun v11 F12 hr13 hF14 => ?_
 replace hsl6 := hsl6.mono hF14
 replace hq1 := hq1.mono hF14
 obtain ⟨vq2, rfl, hq2⟩ := hr13
 refine A3 rfl <| Be SL Aa AY (FB _ _ _ _ _ _) fun v15 F16 hr17 hF18 => ?_
 replace hsl6 := hsl6.mono hF18
 replace hq1 := hq1.mono hF18
 replace hq2 := hq2.mono hF18
 obtain ⟨vf1, rfl, hf1⟩ := hr17
 refine A3 rfl <| Be SL Aa AY (FB _ _ _ _ _ _) fun v19 F20 hr21 hF22 => ?_
 replace hsl6 := hsl6.mono hF22
 replace hq1 := hq1.mono hF22
 replace hq2 := hq2.mono hF22
 replace hf1 := hf1.mono hF22
 obtain ⟨vq3, rfl, hq3⟩ := hr21
 refine A3 rfl <| C2 (offs := [(0, 4), (4, 4), (8, 4), (12, 4)]) (zl := [.string ⟨#[]⟩, .int .i64 0, .int .i64 0, .slice none 0 0, .string ⟨#[]⟩, .int .i64 0, .int .i64 0, .slice none 0 0, .string ⟨#[]⟩, .int .i64 0, .int .i64 0, .slice none 0 0, .string ⟨#[]⟩, .int .i64 0, .int .i64 0, .slice none 0 0]) Bl JV rfl (.cons Aa rfl (.cons Aa rfl (.cons Aa rfl (.cons Aa rfl .nil)))) (by intro i p h; rcases i with _ | _ | _ | _ | i <;> simp at h <;> subst h <;> rfl) (.cons rfl rfl (Nat.le_of_ble_eq_true rfl) (.cons (.here) (.cons (.next <| .here) (.cons (.next <| .next <| .here) (.cons (.next <| .next <| .next <| .here) .nil)))) (.cons rfl rfl (Nat.le_of_ble_eq_true rfl) (.cons (.next <| .next <| .next <| .next <| .here) (.cons (.next <| .next <| .next <| .next <| .next <| .here) (.cons (.next <| .next <| .next <| .next <| .next <| .next <| .here) (.cons (.next <| .next <| .next <| .next <| .next <| .next <| .next <| .here) .nil)))) (.cons rfl rfl (Nat.le_of_ble_eq_true rfl) (.cons (.next <| .next <| .next <| .next <| .next <| .next <| .next <| .next <| .here) (.cons (.next <| .next <| .next <| .next <| .next <| .next <| .next <| .next <| .next <| .here) (.cons (.next <| .next <| .next <| .next <| .next <| .next <| .next <| .next <| .next <| .next <| .here) (.cons (.next <| .next <| .next <| .next <| .next <| .next <| .next <| .next <| .next <| .next <| .next <| .here) .nil)))) (.cons rfl rfl (Nat.le_of_ble_eq_true rfl) (.cons (.next <| .next <| .next <| .next <| .next <| .next <| .next <| .next <| .next <| .next <| .next <| .next <| .here) (.cons (.next <| .next <| .next <| .next <| .next <| .next <| .next <| .next <| .next <| .next <| .next <| .next <| .next <| .here) (.cons (.next <| .next <| .next <| .next <| .next <| .next <| .next <| .next <| .next <| .next <| .next <| .next <| .next <| .next <| .here) (.cons (.next <| .next <| .next <| .next <| .next <| .next <| .next <| .next <| .next <| .next <| .next <| .next <| .next <| .next <| .next <| .here) .nil)))) .nil)))) (by decide) (by decide) fun b23 hb23 nb23 => ?_
 refine AW (i := 0) rfl hb23 .here fun F24 hF25 hz26 => ?_
 replace hsl6 := hsl6.mono hF25
 replace hq1 := hq1.mono hF25
 replace hq2 := hq2.mono hF25
 replace hf1 := hf1.mono hF25
 replace hq3 := hq3.mono hF25
 have hsl27 := Uc hz26
 refine Af rfl (BE bt_30 (.cons Aa rfl (.cons Aa rfl .nil)) (.cons rfl rfl (Nat.le_of_ble_eq_true rfl) (.cons (.here) .nil) (.cons rfl rfl (Nat.le_of_ble_eq_true rfl) (.cons (.next <| .here) .nil) .nil))) <| AV <| AQ OP Aa Aa (i := 0) rfl rfl rfl rfl (by simp [Value.oneCell']) (.here) <| Am <| Ab <| At <| Aq rfl (.agg RL Aa rfl rfl (Bg 0 rfl) .nil) ?_
 refine ⟨_, _, [(vq1, edQ1), (vq2, edQ2), (vf1, edF1), (vq3, edQ3)], rfl, ⟨hsl6, hsl27, ?_, rfl⟩⟩
 intro p hp
 simp only [List.mem_cons, List.not_mem_nil, or_false] at hp
 rcases hp with rfl | rfl | rfl | rfl
 · exact hq1
 · exact hq2
 · exact hf1
 exact hq3
theorem Gz {F : Heap} : Ok Tryz.prog 7 [].toArray F fun u _ => u = .bool true := by
 refine Ok.intro Tryz.func7 rfl Tryz.ntmps7 rfl fun w0 => AI (Ae 1) <| Ac <| Al fun ds => A3 rfl <| Be bd_33 Aa .nil UN fun v1 F2 hr3 hF4 => ?_
 obtain ⟨vp, ve, ps, rfl, hr⟩ := hr3
 refine A3 rfl <| AN MA rfl fun b5 hb5 nb5 => AV <| AQ OP Aa Aa (i := 0) rfl rfl rfl rfl hr.ones (.here) <| Am <| Ab <| Ac <| Al fun ds => A3 rfl <| AU A7 B1 rfl (.cons Aa (.cons Aa (.cons Aa (.cons Aa .nil)))) rfl rfl (by decide) (by simp [Value.oneCell']) fun b6 hb6 nb6 => AW (i := 0) rfl hb6 .here fun F7 hF8 hz9 => ?_
 replace hr := hr.mono hF8
 have hsl10 := Ff hz9
 refine As (Ae 1) <| Aw (Ae 1) fun ds => A3 rfl <| Be Wt Aa AY ((FP hr 0 2).mono fun u F2 _ h => (by rw [ev_p1] at h; exact h : ∃ ws, u = .tuple #[ws, .int .i64 0] ∧ Nats F2 ws [0, 1])) fun v11 F12 hr13 hF14 => ?_
 replace hr := hr.mono hF14
 replace hsl10 := hsl10.mono hF14
 obtain ⟨hq1_, rfl, hq1⟩ := hr13
 refine As (Ae 5) <| Aw (Ae 1) fun ds => A3 rfl <| AU A7 B1 rfl (.cons Aa (.cons Aa (.cons Aa (.cons Aa .nil)))) rfl rfl (by decide) (by simp [Value.oneCell']) fun b15 hb15 nb15 => AW (i := 0) rfl hb15 .here fun F16 hF17 hz18 => ?_
 replace hr := hr.mono hF17
 replace hsl10 := hsl10.mono hF17
 replace hq1 := hq1.mono hF17
 have hsl19 := Ff hz18
 refine AS rfl (Ay SO Aa AY (D6 hr (l := starX) hsl19) (fun _ _ h => h.trans (show _ = Value.tuple #[.int .i64 4, .int .i64 0] by unfold changesEV; rw [ev_c1]))) <| As (Ae 5) <| Aw (Ae 1) fun ds => A3 rfl <| AU A7 B1 rfl (.cons Aa (.cons Aa (.cons Aa (.cons Aa .nil)))) rfl rfl (by decide) (by simp [Value.oneCell']) fun b20 hb20 nb20 => AW (i := 0) rfl hb20 .here fun F21 hF22 hz23 => ?_
 replace hr := hr.mono hF22
 replace hsl10 := hsl10.mono hF22
 replace hq1 := hq1.mono hF22
 have hsl24 := Ff hz23
 refine AS rfl (Ay SO Aa AY (D6 hr (l := lineX) hsl24) (fun _ _ h => h.trans (show _ = Value.tuple #[.int .i64 0, .int .i64 9] by unfold changesEV; rw [ev_c2]))) <| As (Ae 5) <| Aw (Ae 1) fun ds => A3 rfl <| AU A7 B1 rfl (.cons Aa (.cons Aa (.cons Aa (.cons Aa .nil)))) rfl rfl (by decide) (by simp [Value.oneCell']) fun b25 hb25 nb25 => AW (i := 0) rfl hb25 .here fun F26 hF27 hz28 => ?_
 replace hr := hr.mono hF27
 replace hsl10 := hsl10.mono hF27
 replace hq1 := hq1.mono hF27
 have hsl29 := Ff hz28
 refine A3 rfl <| Be bd_14 Aa AY ((Hx hr (l := twoX) hsl29).mono fun u F2 _ h => (by rw [ev_y1] at h; exact h : ∃ ws, u = .tuple #[ws, .int .i64 0] ∧ (fun F v l => Sl F v 2 spanE l) F2 ws [(1600, 1600), (1605, 1610), (1623, 1623), (1608, 1630)])) fun v30 F31 hr32 hF33 => ?_
 replace hr := hr.mono hF33
 replace hsl10 := hsl10.mono hF33
 replace hq1 := hq1.mono hF33
 obtain ⟨hq2_, rfl, hq2⟩ := hr32
 refine As (Ae 5) <| Aw (Ae 1) fun ds => A3 rfl <| Be Wv Aa AY ((Gw hr).mono fun u F2 _ h => (by rw [ev_b1] at h; exact h : ∃ ws, u = .tuple #[ws, .int .i64 3, .int .i64 2, .int .i64 0] ∧ Ints F2 ws bestX)) fun v34 F35 hr36 hF37 => ?_
 replace hr := hr.mono hF37
 replace hsl10 := hsl10.mono hF37
 replace hq1 := hq1.mono hF37
 replace hq2 := hq2.mono hF37
 obtain ⟨hq3_, rfl, hq3⟩ := hr36
 refine As (Ae 9) <| Aw (Ae 1) fun ds => A3 rfl <| Be bd_35 Aa AY ((Og hr).mono fun u F2 _ h => (by rw [ev_f1] at h; exact h : ∃ ws, u = .tuple #[ws, .int .i64 0] ∧ Nats F2 ws [0])) fun v38 F39 hr40 hF41 => ?_
 replace hr := hr.mono hF41
 replace hsl10 := hsl10.mono hF41
 replace hq1 := hq1.mono hF41
 replace hq2 := hq2.mono hF41
 replace hq3 := hq3.mono hF41
 obtain ⟨hq4_, rfl, hq4⟩ := hr40
 refine As (Ae 5) <| Aw (Ae 1) fun ds => AS rfl (Ay bd_36 Aa AY (PF hr 1 2) (fun _ _ h => h.trans (show _ = Value.tuple #[.int .i64 1, .int .i64 0] by unfold fromV; rw [ev_m1]))) <| As (Ae 5) <| Aw (Ae 2) fun ds => A3 rfl <| Be bd_37 Aa AY ((Lh hr (l := bestX) hsl10 3 0).mono fun u F2 _ h => (by rw [ev_r1] at h; exact h : ∃ ws, u = .tuple #[ws, .int .i64 0] ∧ Ints F2 ws [1])) fun v42 F43 hr44 hF45 => ?_
 replace hr := hr.mono hF45
 replace hsl10 := hsl10.mono hF45
 replace hq1 := hq1.mono hF45
 replace hq2 := hq2.mono hF45
 replace hq3 := hq3.mono hF45
 replace hq4 := hq4.mono hF45
 obtain ⟨hq5_, rfl, hq5⟩ := hr44
 refine As (Ae 5) <| Aw (Ae 1) fun ds => A3 rfl <| Be bd_38 Aa AY ((Ov hr).mono fun u F2 _ h => (by rw [ev_l1] at h; exact h : ∃ ws, u = .tuple #[ws, .int .i64 0] ∧ Nats F2 ws [])) fun v46 F47 hr48 hF49 => ?_
 replace hr := hr.mono hF49
 replace hsl10 := hsl10.mono hF49
 replace hq1 := hq1.mono hF49
 replace hq2 := hq2.mono hF49
 replace hq3 := hq3.mono hF49
 replace hq4 := hq4.mono hF49
 replace hq5 := hq5.mono hF49
 obtain ⟨hq6_, rfl, hq6⟩ := hr48
 refine As (Ae 5) <| Aw (Ae 1) fun ds => A3 rfl <| AU A7 B1 rfl (.cons Aa (.cons Aa (.cons Aa (.cons Aa .nil)))) rfl rfl (by decide) (by simp [Value.oneCell']) fun b50 hb50 nb50 => AW (i := 0) rfl hb50 .here fun F51 hF52 hz53 => ?_
 replace hr := hr.mono hF52
 replace hsl10 := hsl10.mono hF52
 replace hq1 := hq1.mono hF52
 replace hq2 := hq2.mono hF52
 replace hq3 := hq3.mono hF52
 replace hq4 := hq4.mono hF52
 replace hq5 := hq5.mono hF52
 replace hq6 := hq6.mono hF52
 have hsl54 := Ff hz53
 refine AS rfl (Ay bd_39 Aa AY (GT hr (l := starX) hsl54 2) (fun _ _ h => h.trans (show _ = Value.tuple #[.int .i64 1, .int .i64 1, .int .i64 0] by unfold secV; rw [ev_s1]))) <| As (Ae 7) <| Aw (Ae 2) fun ds => AS rfl (Ay bd_39 Aa AY (GT hr (l := bestX) hsl10 2) (fun _ _ h => h.trans (show _ = Value.tuple #[.int .i64 0, .int .i64 0, .int .i64 8] by unfold secV; rw [ev_s2]))) <| As (Ae 7) <| Ac <| Al fun ds => Af rfl (A9 Aa) <| Af rfl (Cm Aa Aa) <| Af rfl (A9 Aa) <| Ap rfl rfl Aa (by first | rfl | decide) <| Af rfl (A9 Aa) <| Ap rfl rfl Aa (by first | rfl | decide) <| Af rfl (Cm Aa Aa) <| Af rfl (Au Aa (by first | rfl | decide) Aa) <| Af rfl (A9 Aa) <| Ap rfl rfl Aa (by first | rfl | decide) <| Af rfl (A9 Aa) <| Ap rfl rfl Aa (by first | rfl | decide) <| Af rfl (Cm Aa Aa) <| Af rfl (Au Aa (by first | rfl | decide) Aa) <| Af rfl (A9 Aa) <| Ap rfl rfl Aa (by first | rfl | decide) <| Af rfl (A9 Aa) <| Ap rfl rfl Aa (by first | rfl | decide) <| Af rfl (Cm Aa Aa) <| Af rfl (Au Aa (by first | rfl | decide) Aa) <| Af rfl (A9 Aa) <| Ap rfl rfl Aa (by first | rfl | decide) <| Af rfl (A9 Aa) <| Ap rfl rfl Aa (by first | rfl | decide) <| Af rfl (Cm Aa Aa) <| Af rfl (Au Aa (by first | rfl | decide) Aa) <| Af rfl (A9 Aa) <| Ap rfl rfl Aa (by first | rfl | decide) ?_
 refine Af rfl (A9 Aa) <| Ap rfl rfl Aa (by first | rfl | decide) <| Af rfl (Cm Aa Aa) <| Af rfl (Au Aa (by first | rfl | decide) Aa) <| Af rfl (A9 Aa) <| Ap rfl rfl Aa (by first | rfl | decide) <| Af rfl (A9 Aa) <| Ap rfl rfl Aa (by first | rfl | decide) <| Af rfl (Cm Aa Aa) <| Af rfl (Au Aa (by first | rfl | decide) Aa) <| Af rfl (A9 Aa) <| Ap rfl rfl Aa (by first | rfl | decide) <| Af rfl (A9 Aa) <| Ap rfl rfl Aa (by first | rfl | decide) <| Af rfl (Cm Aa Aa) <| Af rfl (Au Aa (by first | rfl | decide) Aa) <| Af rfl (A9 Aa) <| Ap rfl rfl Aa (by first | rfl | decide) <| Af rfl (A9 Aa) <| Ap rfl rfl Aa (by first | rfl | decide) <| Af rfl (Cm Aa Aa) <| Af rfl (Au Aa (by first | rfl | decide) Aa) <| Af rfl (A9 Aa) <| Ap rfl rfl Aa (by first | rfl | decide) <| Af rfl (A9 Aa) <| Ap rfl rfl Aa (by first | rfl | decide) <| Af rfl (Cm Aa Aa) <| Af rfl (Au Aa (by first | rfl | decide) Aa) <| Af rfl (A9 Aa) <| Ap rfl rfl Aa (by first | rfl | decide) <| Af rfl (A9 Aa) <| Ap rfl rfl Aa (by first | rfl | decide) <| Af rfl (Cm Aa Aa) <| Af rfl (Au Aa (by first | rfl | decide) Aa) <| Af rfl (A9 Aa) <| Ap rfl rfl Aa (by first | rfl | decide) <| Af rfl (A9 Aa) <| Ap rfl rfl Aa (by first | rfl | decide) <| A3 rfl <| AU A7 B1 rfl (.cons Aa (.cons Aa .nil)) rfl rfl (by decide) (by simp [Value.oneCell']) fun b55 hb55 nb55 => ?_
 refine AW (i := 0) rfl hb55 .here fun F56 hF57 hz58 => ?_
 replace hsl10 := hsl10.mono hF57
 replace hq1 := hq1.mono hF57
 replace hq2 := hq2.mono hF57
 replace hq3 := hq3.mono hF57
 replace hq4 := hq4.mono hF57
 replace hq5 := hq5.mono hF57
 replace hq6 := hq6.mono hF57
 have hsl59 := Cp hz58
 refine Ap rfl rfl Aa (by first | rfl | decide) <| AS rfl (Ay Jl Aa AY (CJ (Nats.ints hq1) hsl59) (fun _ _ h => h)) <| Af rfl (Au Aa (by first | rfl | decide) Aa) <| Af rfl (A9 Aa) <| Ap rfl rfl Aa (by first | rfl | decide) <| Af rfl (A9 Aa) <| Ap rfl rfl Aa (by first | rfl | decide) <| Af rfl (Cm Aa Aa) <| Af rfl (Au Aa (by first | rfl | decide) Aa) <| Af rfl (A9 Aa) <| Ap rfl rfl Aa (by first | rfl | decide) <| Af rfl (A9 Aa) <| Ap rfl rfl Aa (by first | rfl | decide) <| Af rfl (BE GX (.cons Aa rfl (.cons Aa rfl .nil)) (.cons rfl rfl (Nat.le_of_ble_eq_true rfl) (.cons (.here) .nil) (.cons rfl rfl (Nat.le_of_ble_eq_true rfl) (.cons (.next <| .here) .nil) .nil))) <| Ap rfl rfl Aa (by first | rfl | decide) <| Af rfl (BE GX (.cons Aa rfl (.cons Aa rfl .nil)) (.cons rfl rfl (Nat.le_of_ble_eq_true rfl) (.cons (.here) .nil) (.cons rfl rfl (Nat.le_of_ble_eq_true rfl) (.cons (.next <| .here) .nil) .nil))) <| Ap rfl rfl Aa (by first | rfl | decide) <| Af rfl (BE GX (.cons Aa rfl (.cons Aa rfl .nil)) (.cons rfl rfl (Nat.le_of_ble_eq_true rfl) (.cons (.here) .nil) (.cons rfl rfl (Nat.le_of_ble_eq_true rfl) (.cons (.next <| .here) .nil) .nil))) <| Ap rfl rfl Aa (by first | rfl | decide) <| Af rfl (BE GX (.cons Aa rfl (.cons Aa rfl .nil)) (.cons rfl rfl (Nat.le_of_ble_eq_true rfl) (.cons (.here) .nil) (.cons rfl rfl (Nat.le_of_ble_eq_true rfl) (.cons (.next <| .here) .nil) .nil))) ?_
 refine Ap rfl rfl Aa (by first | rfl | decide) <| A3 rfl <| C2 (offs := [(0, 2), (2, 2), (4, 2), (6, 2)]) (zl := [.int .i64 0, .int .i64 0, .int .i64 0, .int .i64 0, .int .i64 0, .int .i64 0, .int .i64 0, .int .i64 0]) CL EE rfl (.cons Aa rfl (.cons Aa rfl (.cons Aa rfl (.cons Aa rfl .nil)))) (by intro i p h; rcases i with _ | _ | _ | _ | i <;> simp at h <;> subst h <;> rfl) (.cons rfl rfl (Nat.le_of_ble_eq_true rfl) (.cons (.here) (.cons (.next <| .here) .nil)) (.cons rfl rfl (Nat.le_of_ble_eq_true rfl) (.cons (.next <| .next <| .here) (.cons (.next <| .next <| .next <| .here) .nil)) (.cons rfl rfl (Nat.le_of_ble_eq_true rfl) (.cons (.next <| .next <| .next <| .next <| .here) (.cons (.next <| .next <| .next <| .next <| .next <| .here) .nil)) (.cons rfl rfl (Nat.le_of_ble_eq_true rfl) (.cons (.next <| .next <| .next <| .next <| .next <| .next <| .here) (.cons (.next <| .next <| .next <| .next <| .next <| .next <| .next <| .here) .nil)) .nil)))) (by decide) (by decide) fun b60 hb60 nb60 => AW (i := 0) rfl hb60 .here fun F61 hF62 hz63 => ?_
 replace hsl10 := hsl10.mono hF62
 replace hq2 := hq2.mono hF62
 replace hq3 := hq3.mono hF62
 replace hq4 := hq4.mono hF62
 replace hq5 := hq5.mono hF62
 replace hq6 := hq6.mono hF62
 have hsl64 := OS hz63
 refine Ap rfl rfl Aa (by first | rfl | decide) <| AS rfl (Ay bd_40 Aa AY (Ph hq2 hsl64) (fun _ _ h => h)) <| Af rfl (Au Aa (by first | rfl | decide) Aa) <| Af rfl (A9 Aa) <| Ap rfl rfl Aa (by first | rfl | decide) <| Af rfl (A9 Aa) <| Ap rfl rfl Aa (by first | rfl | decide) <| Af rfl (A9 Aa) <| Ap rfl rfl Aa (by first | rfl | decide) <| AS rfl (Ay Jl Aa AY (CJ hq3 hsl10) (fun _ _ h => h)) <| Af rfl (Au Aa (by first | rfl | decide) Aa) <| Af rfl (A9 Aa) <| Ap rfl rfl Aa (by first | rfl | decide) <| Af rfl (A9 Aa) <| Ap rfl rfl Aa (by first | rfl | decide) <| Af rfl (Cm Aa Aa) <| Af rfl (Au Aa (by first | rfl | decide) Aa) <| Af rfl (A9 Aa) <| Ap rfl rfl Aa (by first | rfl | decide) <| Af rfl (A9 Aa) <| Ap rfl rfl Aa (by first | rfl | decide) <| Af rfl (Cm Aa Aa) <| Af rfl (Au Aa (by first | rfl | decide) Aa) <| Af rfl (A9 Aa) <| Ap rfl rfl Aa (by first | rfl | decide) <| Af rfl (A9 Aa) <| Ap rfl rfl Aa (by first | rfl | decide) <| A3 rfl <| AU A7 B1 rfl (.cons Aa .nil) rfl rfl (by decide) (by simp [Value.oneCell']) fun b65 hb65 nb65 => AW (i := 0) rfl hb65 .here fun F66 hF67 hz68 => ?_
 replace hq4 := hq4.mono hF67
 replace hq5 := hq5.mono hF67
 replace hq6 := hq6.mono hF67
 have hsl69 := Bk hz68
 refine Ap rfl rfl Aa (by first | rfl | decide) <| AS rfl (Ay Jl Aa AY (CJ (Nats.ints hq4) hsl69) (fun _ _ h => h)) <| Af rfl (Au Aa (by first | rfl | decide) Aa) <| Af rfl (A9 Aa) <| Ap rfl rfl Aa (by first | rfl | decide) <| Af rfl (A9 Aa) <| Ap rfl rfl Aa (by first | rfl | decide) <| Af rfl (Cm Aa Aa) <| Af rfl (Au Aa (by first | rfl | decide) Aa) <| Af rfl (A9 Aa) <| Ap rfl rfl Aa (by first | rfl | decide) <| Af rfl (A9 Aa) <| Ap rfl rfl Aa (by first | rfl | decide) <| A3 rfl <| AU A7 B1 rfl (.cons Aa .nil) rfl rfl (by decide) (by simp [Value.oneCell']) fun b70 hb70 nb70 => AW (i := 0) rfl hb70 .here fun F71 hF72 hz73 => ?_
 replace hq5 := hq5.mono hF72
 replace hq6 := hq6.mono hF72
 have hsl74 := Bk hz73
 refine Ap rfl rfl Aa (by first | rfl | decide) <| AS rfl (Ay Jl Aa AY (CJ hq5 hsl74) (fun _ _ h => h)) <| Af rfl (Au Aa (by first | rfl | decide) Aa) <| Af rfl (A9 Aa) <| Ap rfl rfl Aa (by first | rfl | decide) <| Af rfl (A9 Aa) <| Ap rfl rfl Aa (by first | rfl | decide) <| Af rfl (A6 A7 Aa hq6.plain) <| Ap rfl rfl Aa (by first | rfl | decide) <| Af rfl (Cm Aa Aa) <| Af rfl (Au Aa (by first | rfl | decide) Aa) <| Af rfl (A9 Aa) <| Ap rfl rfl Aa (by first | rfl | decide) <| Af rfl (A9 Aa) <| Ap rfl rfl Aa (by first | rfl | decide) <| Af rfl (Cm Aa Aa) <| Af rfl (Au Aa (by first | rfl | decide) Aa) <| Af rfl (A9 Aa) <| Ap rfl rfl Aa (by first | rfl | decide) <| Af rfl (A9 Aa) <| Ap rfl rfl Aa (by first | rfl | decide) <| Af rfl (Cm Aa Aa) <| Af rfl (Au Aa (by first | rfl | decide) Aa) <| Af rfl (Bz Aa) <| Am <| Ab <| At <| Aq rfl Bf ?_
 show _ = _
 first | rfl | decide
end
section
def turnN (xs : List Nat) (n : Nat) : Nat := xs[n % xs.length]?.getD 0
theorem D0 {xs : List Nat} (h : ∀ x ∈ xs, x < 256) {n : Nat} : turnN xs n < 256 := by
 unfold turnN
 cases hx : xs[n % xs.length]? with
 | none => decide
 | some x => exact h x (List.mem_of_getElem? hx)
theorem MG {n : Nat} : turnN [] n = 0 := by simp [turnN]
theorem OI {xs : List Nat} {n : Nat} (h : n % xs.length < xs.length) : turnN xs n = xs[n % xs.length] := by simp [turnN, h]
structure TreeI (n : Nat) (g : Nat → Int) (taken left : List Nat) : Prop where
 nodup : (taken ++ left).Nodup
 len : taken.length + left.length = n
 all : ∀ i, i < n ↔ i ∈ taken ++ left
 root : ∀ (h : 0 < taken.length), g taken[0] = -1
 up : ∀ j (h : j < taken.length), 0 < j → ∃ k, ∃ hk : k < j, g taken[j] = (taken[k] : Int)
theorem TreeI.start {n : Nat} {g : Nat → Int} : TreeI n g [] (List.range n) := ⟨by simpa using List.nodup_range, by simp, fun i => by simp, fun h => absurd h (by simp), fun j h => absurd h (by simp)⟩
theorem Rq {α : Type} {l : List α} {k : Nat} (hk : k < l.length) : l.Perm (l[k] :: l.eraseIdx k) := by
 rw [List.eraseIdx_eq_take_drop_succ]
 have h : l = l.take k ++ l[k] :: l.drop (k + 1) := by rw [← List.drop_eq_getElem_cons hk, List.take_append_drop]
 conv => lhs; rw [h]
 exact List.perm_middle
section
variable {n : Nat} {g : Nat → Int} {taken left : List Nat} {k : Nat}
theorem TreeI.perm (hk : k < left.length) : (taken ++ left).Perm ((taken ++ [left[k]]) ++ left.eraseIdx k) := by
 rw [List.append_assoc]
 exact (Rq hk).append_left taken
theorem TreeI.fresh (h : TreeI n g taken left) (hk : k < left.length) {j : Nat} (hj : j < taken.length) : taken[j] ≠ left[k] := fun he => by
 have := (List.nodup_append.1 h.nodup).2.2 _ (List.getElem_mem hj) _ (List.getElem_mem hk)
 exact this he
theorem TreeI.lt (h : TreeI n g taken left) (hk : k < left.length) : left[k] < n := (h.all _).2 (List.mem_append_right _ (List.getElem_mem hk))
theorem TreeI.step (h : TreeI n g taken left) (hk : k < left.length) {g' : Nat → Int} (hg : ∀ i, i ≠ left[k] → g' i = g i) (h0 : taken.length = 0 → g' left[k] = -1) (h1 : 0 < taken.length → ∃ q, ∃ hq : q < taken.length, g' left[k] = (taken[q] : Int)) :
   TreeI n g' (taken ++ [left[k]]) (left.eraseIdx k) := by
 have hp := TreeI.perm (taken := taken) hk
 refine ⟨hp.nodup_iff.1 h.nodup, by have := h.len; rw [List.length_append, List.length_eraseIdx_of_lt hk, List.length_singleton]; omega, fun i => (h.all i).trans hp.mem_iff, fun hl => ?_, fun j hj hj0 => ?_⟩
 · by_cases ht : 0 < taken.length
   · rw [List.getElem_append_left ht, hg _ (h.fresh hk ht)]; exact h.root ht
   rw [List.getElem_append_right (by omega)]
   simp only [List.getElem_singleton]
   exact h0 (by omega)
 by_cases ht : j < taken.length
 · obtain ⟨q, hq, he⟩ := h.up j ht hj0
   refine ⟨q, hq, ?_⟩
   rw [List.getElem_append_left ht, List.getElem_append_left (by omega), hg _ (h.fresh hk ht)]; exact he
 have hj2 : j = taken.length := by simp at hj; omega
 subst hj2
 obtain ⟨q, hq, he⟩ := h1 hj0
 refine ⟨q, hq, ?_⟩
 rw [List.getElem_append_right (Nat.le_refl _), List.getElem_append_left hq]
 simp only [List.getElem_singleton]
 exact he
end
theorem Ln {l : List Int} {i f : Nat} (h : reach l f i = true) : ∀ d, reach l (f + d) i = true
 | 0 => h
 | d + 1 => Ll (Ln h d)
theorem Gi {l : List Int} {r : Nat} (hr : upN l r = -1) : ∀ {k : Nat}, (∀ i, i < k → upN l i = -1 → i = r) → firstsN l k = if r < k then 1 else 0
 | 0, _ => by simp [firstsN]
 | k + 1, h => by
   unfold firstsN
   rw [Gi hr (fun i hi => h i (by omega))]
   by_cases hk : upN l k = -1
   · have := h k (by omega) hk
     subst this
     rw [if_pos hk, if_neg (by omega), if_pos (by omega)]; rfl
   rw [if_neg hk]
   have : r ≠ k := fun e => hk (by rw [← e]; exact hr)
   by_cases hrk : r < k
   · rw [if_pos hrk, if_pos (by omega)]
   rw [if_neg hrk, if_neg (by omega)]
def listG (g : Nat → Int) (n : Nat) : List Int := (List.range n).map g
theorem TreeI.tree {n : Nat} {g : Nat → Int} {taken : List Nat} (h : TreeI n g taken []) (hn : 0 < n) : IsTree (listG g n) := by
 have hlen : (listG g n).length = n := by simp [listG]
 have hup : ∀ i, i < n → upN (listG g n) i = g i := fun i hi => Kv hi
 have hall : ∀ i, i < n ↔ i ∈ taken := fun i => by rw [h.all i, List.append_nil]
 have htl : taken.length = n := by have := h.len; simpa using this
 have hlt : ∀ j (hj : j < taken.length), taken[j] < n := fun j hj => (hall _).2 (List.getElem_mem hj)
 refine ⟨fun i hi => ?_, fun i hi => ?_, ?_⟩
 · rw [hlen] at hi ⊢
   rw [hup i hi]
   obtain ⟨j, hj, rfl⟩ := List.getElem_of_mem ((hall i).1 hi)
   by_cases hj0 : j = 0
   · subst hj0; rw [h.root hj]; omega
   obtain ⟨k, hk, he⟩ := h.up j hj (by omega)
   rw [he]
   have := hlt k (by omega)
   omega
 · rw [hlen] at hi ⊢
   obtain ⟨j, hj, rfl⟩ := List.getElem_of_mem ((hall i).1 hi)
   have key : ∀ j (hj : j < taken.length), reach (listG g n) j taken[j] = true := by
     intro j
     induction j using Nat.strongRecOn with
     | _ j ih =>
       intro hj
       by_cases hj0 : j = 0
       · subst hj0; exact DE (by rw [hup _ (hlt 0 hj)]; exact h.root hj)
       obtain ⟨k, hk, he⟩ := h.up j hj (by omega)
       obtain ⟨j', rfl⟩ : ∃ j', j = j' + 1 := ⟨j - 1, by omega⟩
       rw [DD (j := taken[k]) (by rw [hup _ (hlt _ hj)]; exact he)]
       have := Ln (ih k hk (by omega)) (j' - k)
       rw [show k + (j' - k) = j' by omega] at this
       exact this
   have := Ln (key j hj) (n - j)
   rw [show j + (n - j) = n by omega] at this
   exact this
 rw [hlen]
 have h0 : 0 < taken.length := by omega
 rw [Gi (r := taken[0]) (by rw [hup _ (hlt 0 h0)]; exact h.root h0) fun i hi hu => ?_, if_pos (hlt 0 h0)]
 rw [hup i hi] at hu
 obtain ⟨j, hj, rfl⟩ := List.getElem_of_mem ((hall i).1 hi)
 by_cases hj0 : j = 0
 · subst hj0; rfl
 obtain ⟨k, hk, he⟩ := h.up j hj (by omega)
 omega
end
section
set_option maxRecDepth 100000
open Go.RowKit
theorem FT : Body Tryz.prog 46 := AF (by kernel_rfl)
theorem Vt : OneT Tryz.prog 5 := BI (by kernel_rfl)
instance : OneI Tryz.prog 5 := ⟨Vt⟩
theorem Pb : SliceT Tryz.prog 34 5 1 := Co (by kernel_rfl)
instance : SliceI Tryz.prog 34 := ⟨_, _, Pb⟩
theorem Dh {F : Heap} {vx : Value} {xs : List Nat} (hxs : Sl F vx 1 u8E xs) (hxb : ∀ x ∈ xs, x < 256) {n : Nat} {z : Int} (hz : z = (n : Int)) : Ok Tryz.prog 46 [vx, .int .i64 z].toArray F fun u _ => u = .int .i64 (turnN xs n : Int) := by
 subst hz
 refine Ok.intro Tryz.func46 rfl Tryz.ntmps46 rfl fun w0 => ?_
 have hL := hxs.plain.lt
 by_cases h0 : xs.length = 0
 ·refine AI (Ae 1) <| Ac <| Aw (Ae 1) fun ds => Af rfl (A6 Pb Aa hxs.plain) <| As (Ae 1) <| Ag Aa (by first | rfl | exact dT (by omega)) <| AI (Ae 1) <| At <| A1 <| Aq rfl Bf ?_
  show _ = _
  have : xs = [] := List.eq_nil_of_length_eq_zero h0
  subst this
  rw [MG]; rfl
 refine AI (Ae 1) <| Ac <| Aw (Ae 1) fun ds => Af rfl (A6 Pb Aa hxs.plain) <| As (Ae 1) <| Ad Aa (by first | rfl | exact dF (by omega)) ?_
 have hlt : n % xs.length < xs.length := Nat.mod_lt _ (by omega)
 have hb := hxb _ (List.getElem_mem hlt)
 refine Aj <| Ab <| Aw (Ae 3) fun ds => Af rfl (A6 Pb Aa hxs.plain) <| Af rfl (CE Aa Aa (Int.natCast_nonneg _) (by omega)) <| Af rfl (Ax (k := n % xs.length) Pb Aa hxs.plain Aa (by omega) hlt) <| Af rfl (Ah Vt Aa (hxs.cell1 hlt rfl)) <| Af rfl (Ck ⟨_, Tryz.underlying5⟩ Tryz.underlying3 Aa (IntWalk.i64_in _ ⟨by omega, by omega⟩)) <| As (Ae 1) <| At <| Aq rfl Bf ?_
 show _ = _
 rw [OI hlt]; rfl
theorem S1 {n : Nat} : List.replicate n (Value.int .i64 0) = (iL (fun _ => 0) n).flatMap intE := by
 induction n with
 | zero => rfl
 | succ n ih => rw [List.replicate_succ', S2, List.flatMap_append, ih]; rfl
theorem nat_get {xs : List Nat} {i : Nat} (h : i < xs.length) : (xs.flatMap natE)[i * 1]? = some (.int .i64 (xs[i] : Int)) := FI (enc := natE) (s := 1) (fun _ => rfl) (j := 0) xs i h rfl
theorem set_one {g : Nat → Int} {i : Nat} {v w : Int} : updI (updI g i v) i w = updI g i w := by funext j; unfold updI; split <;> rfl
theorem Pe {b n c : Nat} : addc (base (.slice (some ⟨b, 0, none⟩) n n)) (c * 1) = ⟨b, c * 1, none⟩ := by simp [base, addc]
theorem RU {g : Nat → Int} {i : Nat} {v : Int} : ∀ j, j ≠ i → updI g i v j = g j := fun j h => by unfold updI; rw [if_neg h]
theorem RV {g : Nat → Int} {i : Nat} {v : Int} : updI g i v i = v := by unfold updI; rw [if_pos rfl]
theorem UC {F : Heap} {vx : Value} {xs : List Nat} (hxs : Sl F vx 1 u8E xs) (hxb : ∀ x ∈ xs, x < 256) {many : Nat} (hm0 : 0 < many) (hm5 : many ≤ 5) : Ok Tryz.prog 45 [.int .i64 (many : Int), vx].toArray F fun u F' => ∃ l, Ints F' u l ∧ l.length = many ∧ IsTree l := by
 have hle0 : F.le F := Heap.le_refl _
 refine Ok.intro Tryz.func45 rfl Tryz.ntmps45 rfl fun w0 => ?_
 have hxl := hxs.plain.lt
 refine AI (Ae 1) <| Aw (Ae 1) fun ds => A3 rfl <| NA (k := many) A7 D5 rfl rfl Aa Aa rfl (by omega) (by omega) fun b1 hb1 nb1 => As (Ae 1) <| AI (Ae 2) <| Ac <| AI (Ae 1) <| Ak ?_
 refine AJ [6, 8, 13, 14, 15, 16, 17, 18, 19, 20, 21] (fun m e σ => ∃ k : Nat, m + k = many ∧ Fct e 8 (.int .i64 (k : Int)) ∧ ∃ v6 R6, Fct e 6 v6 ∧ Own 3 1 v6 (List.range k).length ((List.range k).flatMap natE) R6 ∧ σ = ⟨F, (b1, bx 3 ((iL (fun _ => 0) many).flatMap intE)) :: R6⟩) (many) ?_ ?_
 · exact ⟨0, by omega, Bb, _, _, Bb, Own.nil, by rw [S1]⟩
 rintro m e _ ⟨k, hm9, hs8, v6, R6, hs6, ho, rfl⟩; have hrl : (List.range k).length = k := List.length_range
 by_cases hlt : k < many
 ·refine Ac <| AI (Ae 3) <| Ag Aa (by first | rfl | exact dT (by omega)) <| Aj <| Ab <| Ac <| Ak <| Al fun ds => Ao (Ae 2) <| A3 rfl <| AU A7 B1 rfl (.cons Aa .nil) rfl rfl (by decide) (by simp [Value.oneCell']) fun b3 hb3 nb3 => A3 rfl <| Bi A7 D5 Aa ho Aa (BA (s := 1) 0 rfl rfl (by simp [Value.oneCell'])) (by omega) (by omega) (.s <| .s <| .z) .last fun v4 R5 ho6 => ?_
  have ho2 := ho6.snoc (x := k) rfl rfl
  refine Ao (Ae 1) <| Am <| Az <| Ab <| By (fun _ _ h => h.drop (kD <| kK <| .refl _)) <| Al fun ds => Ao (Ae 1) <| Af rfl (AE Aa Aa rfl (by omega) (by omega)) <| Ao (Ae 1) <| Am ?_
  refine Ab ⟨_, m - 1, Off.eq (BT rfl <| Cw rfl <| BY rfl <| A2), by omega, ?_⟩
  exact ⟨k + 1, by omega, Bb, _, _, Bb, by rw [List.range_succ]; exact ho2, rfl⟩
 refine Ac <| AI (Ae 3) <| Ad Aa (by first | rfl | exact dF (by omega)) ?_
 obtain rfl : many = k := by omega
 refine Bm (σ := ⟨_, _⟩) (by rfl) ho (.s <| .z) .last fun F7 hF8 hz9 => ?_
 replace hxs := hxs.mono hF8
 replace hle0 := Heap.le_trans hle0 hF8
 have hlf := ho.sl (fun _ => rfl) hz9 (by omega)
 refine AC ?_
 refine A0 <| A0 <| A4 <| Ab <| Ac <| Ak ?_
 refine AJ [6, 7, 9, 10, 22, 23, 24, 25, 26, 27, 28, 29, 30, 31, 32, 33, 34, 35, 36, 37, 38, 39, 40, 41, 42, 43, 44, 45, 46, 47, 48, 49, 50, 51, 52, 53, 54, 55, 56, 57, 58, 59, 60, 61, 62, 63, 64, 65, 66, 67, 68, 69, 70, 71] (fun m e σ => ∃ G, F7.le G ∧ ∃ (g : Nat → Int) (taken left : List Nat) (v6 v7 : Value) (R7 : List (Nat × Obj)), m = left.length ∧ Fct e 6 v6 ∧ Fct e 7 v7 ∧ Nats G v6 left ∧ Own 3 1 v7 taken.length (taken.flatMap natE) R7 ∧ TreeI many g taken left ∧ σ = ⟨G, (b1, bx 3 ((iL g many).flatMap intE)) :: R7⟩) (many) ?_ ?_
 · exact ⟨_, Heap.le_refl _, fun _ => 0, [], _, _, _, _, List.length_range.symm, Bb, Bb, hlf, Ce, TreeI.start, rfl⟩
 rintro m2 e2 _ ⟨G, hFG, g, taken, left, v6, v7, R7, rfl, ht6, ht7, hlf, ho, hI, rfl⟩; replace hxs := hxs.mono hFG; replace hle0 := Heap.le_trans hle0 hFG; have hlf9 := hlf.plain.lt; have hlen0 := hI.len
 by_cases hl0 : left.length = 0
 ·refine Ac <| Aw (Ae 1) fun ds => Af rfl (A6 A7 Aa hlf.plain) <| As (Ae 1) <| Ad Aa (dF (by omega)) ?_
  have hle := List.eq_nil_of_length_eq_zero hl0
  subst hle
  refine AC ?_
  refine A0 <| A0 <| A4 <| Ab <| Ac <| AL (i := 0) rfl hb1 (.here) fun F11 hF12 hz5 => ?_
  refine Al fun ds => As (Ae 2) <| At <| Aq rfl Bf ?_
  refine ⟨iL g many, Dc hz5 rfl Bp (fun _ => rfl) (by omega), Bp, ?_⟩
  exact hI.tree hm0
 refine Ac <| Aw (Ae 1) fun ds => Af rfl (A6 A7 Aa hlf.plain) <| As (Ae 1) <| Ag Aa (dT (by omega)) ?_
 have hkk : (turnN xs taken.length % left.length) < left.length := Nat.mod_lt _ (by omega)
 have hil := hI.lt hkk
 have hlen := hI.len
 have ht1 : turnN xs taken.length < 256 := D0 hxb
 have ht2 : turnN xs (many + taken.length) < 256 := D0 hxb
 refine Aj <| Ab <| Ak <| Aw (Ae 2) fun ds => Af rfl (A6 A7 Aa (ho.plain (by omega))) <| AS rfl (Ay FT Aa AY (Dh hxs hxb rfl) (fun _ _ h => h)) <| Ao (Ae 1) <| Af rfl (A6 A7 Aa hlf.plain) <| Af rfl (CE Aa Aa (Int.natCast_nonneg _) (by omega)) <| As (Ae 1) <| Aw (Ae 2) fun ds => Af rfl (Ax (k := (turnN xs taken.length % left.length)) A7 Aa hlf.plain Aa (by omega) hkk) <| Af rfl (Ah AA Aa (hlf.cell1 hkk rfl)) <| As (Ae 1) <| Ac ?_
 have hleS := hle0
 refine Bn (.inl rfl) (fun _ _ h => h) (kK <| .refl _) [] (by kernel_rfl) fun ds => Ai 1 rfl (by kernel_rfl) (by kernel_rfl) (by kernel_rfl) (by kernel_rfl) rfl rfl (fun _ h => h.drop (kK <| .refl _)) (fun _ _ _ h => h) (A9 Aa) <| Ai 2 rfl (by kernel_rfl) (by kernel_rfl) (by kernel_rfl) (by kernel_rfl) rfl rfl (fun _ h => h.drop (kK <| .refl _)) (fun _ _ _ h => h) (A9 Aa) <| Ai 3 rfl (by kernel_rfl) (by kernel_rfl) (by kernel_rfl) (by kernel_rfl) rfl rfl (fun _ h => h.drop (kK <| .refl _)) (fun _ _ _ h => h) (Do A7 Aa hlf.plain Aa (k := (turnN xs taken.length % left.length)) (by omega) (by omega)) <| Ai 5 rfl (by kernel_rfl) (by kernel_rfl) (by kernel_rfl) (by kernel_rfl) rfl rfl (fun _ h => h.drop (kK <| .refl _)) (fun _ _ _ h => h) (A9 Aa) <| Ai 6 rfl (by kernel_rfl) (by kernel_rfl) (by kernel_rfl) (by kernel_rfl) rfl rfl (fun _ h => h.drop (kK <| .refl _)) (fun _ _ _ h => h) (A9 Aa) <| Ai 7 rfl (by kernel_rfl) (by kernel_rfl) (by kernel_rfl) (by kernel_rfl) rfl rfl (fun _ h => h.drop (kK <| .refl _)) (fun _ _ _ h => h) (AE Aa Aa rfl (by omega) (by omega)) <| Ai 8 rfl (by kernel_rfl) (by kernel_rfl) (by kernel_rfl) (by kernel_rfl) rfl rfl (fun _ h => h.drop (kK <| .refl _)) (fun _ _ _ h => h) (Pj A7 Aa hlf.plain Aa (k := (turnN xs taken.length % left.length) + 1) (by omega) (by omega)) ?_
 refine CK 0 rfl (by kernel_rfl) rfl (FW A7 fun b13 hb13 nb13 => ⟨fun _ _ => (fun _ h => h.drop (kD <| kK <| .refl _)), ?_⟩)
 refine CK 4 rfl (by kernel_rfl) rfl (Bi A7 D5 Aa (CR rfl) Aa ((hlf.to (k := (turnN xs taken.length % left.length)) (by omega)).src (fun _ => rfl) L3) (by rw [List.length_take]; omega) (by rw [List.length_take]; omega) (.z) .box fun v14 R15 ho16 => ⟨fun _ _ => (fun _ h => h.drop (List.sublist_append_of_sublist_right <| kK <| .refl _)), ?_⟩)
 refine CK 9 rfl (by kernel_rfl) rfl (Bi A7 D5 Aa ho16 Aa ((hlf.from (k := (turnN xs taken.length % left.length) + 1) (by omega)).src (fun _ => rfl) L3) (by rw [List.length_take, List.length_drop]; omega) (by rw [List.length_take, List.length_drop]; omega) (.z) .more fun v17 R18 ho19 => ⟨fun _ _ => (fun _ h => h.drop (List.sublist_append_of_sublist_right <| kK <| .refl _)), ?_⟩)
 have ho45 : Own 3 1 v17 (left.eraseIdx (turnN xs taken.length % left.length)).length ((left.eraseIdx (turnN xs taken.length % left.length)).flatMap natE) R18 := by rw [List.eraseIdx_eq_take_drop_succ]; simpa using ho19
 refine Ai 10 rfl (by kernel_rfl) (by kernel_rfl) (by kernel_rfl) (by kernel_rfl) rfl rfl (fun _ h => h.drop (List.sublist_append_of_sublist_right <| kK <| .refl _)) (fun _ _ _ h => h) (Bz Aa) ?_
 refine Bo (by kernel_rfl) ?_ _
 refine Ab <| Ac <| Bm (σ := ⟨_, _⟩) (by rfl) ho45 (.z) .more fun F20 hF21 hz22 => ?_
 replace hxs := hxs.mono hF21
 replace hFG := Heap.le_trans hFG hF21
 refine Cl (.one (.skip <| .here) <| .lastb (.lastS)) ?_
 have hlf2 := ho45.sl (fun _ => rfl) hz22 (by rw [List.length_eraseIdx_of_lt hkk]; omega)
 refine Al fun ds => Ao (Ae 2) <| Af rfl (Ax (k := left[(turnN xs taken.length % left.length)]) A7 Aa (BH (Nat.le_refl _) (by omega)) Aa rfl hil) <| AV <| Ct Cc Aa Pe Aa (i := 0) rfl (by rw [GH]; omega) rfl (.here) <| Am <| Ab <| Ac <| Ac ?_
 rw [Rk hil]
 by_cases ht0 : taken.length = 0
 ·refine Al fun ds => Ao (Ae 1) <| Af rfl (A6 A7 Aa (ho.plain (by omega))) <| As (Ae 1) <| Ad Aa (dF (by omega)) <| Aj <| Ab <| Al fun ds => Ao (Ae 2) <| A3 rfl <| AU A7 B1 rfl (.cons Aa .nil) rfl rfl (by decide) (by simp [Value.oneCell']) fun b23 hb23 nb23 => A3 rfl <| Bi A7 D5 Aa ho Aa (BA (s := 1) 0 rfl rfl (by simp [Value.oneCell'])) (by omega) (by omega) (.s <| .s <| .z) .last fun v24 R25 ho26 => ?_
  have ho9 := ho26.snoc (x := left[(turnN xs taken.length % left.length)]) rfl rfl
  refine BP (.one (.next <| .here) <| .lastb (.next <| .last)) <| Ao (Ae 1) <| Am <| Az ?_
  refine Ab ⟨_, (left.eraseIdx (turnN xs taken.length % left.length)).length, Off.eq (Cv rfl <| Ci rfl <| Cw rfl <| A2), (by rw [List.length_eraseIdx_of_lt hkk]; omega), ?_⟩
  refine ⟨_, hFG, updI g left[(turnN xs taken.length % left.length)] (-1), _, _, _, _, _, rfl, Bb, Bb, hlf2, ho9, hI.step hkk RU (fun h => RV) (fun h => absurd h (by omega)), rfl⟩
 have hqq : (turnN xs (many + taken.length) / 2 % taken.length) < taken.length := Nat.mod_lt _ (by omega)
 refine Al fun ds => Ao (Ae 1) <| Af rfl (A6 A7 Aa (ho.plain (by omega))) <| As (Ae 1) <| Ag Aa (dT (by omega)) <| Al fun ds => Ao (Ae 6) <| Af rfl (A6 A7 Aa (ho.plain (by omega))) <| Af rfl (AE Aa Aa rfl (by omega) (by omega)) <| AS rfl (Ay FT Aa AY (Dh hxs hxb (n := many + taken.length) (by push_cast; rfl)) (fun _ _ h => h)) <| Af rfl (Se Aa Aa (Int.natCast_nonneg _) (by omega) (by decide)) <| Ao (Ae 1) <| Af rfl (A6 A7 Aa (ho.plain (by omega))) <| Af rfl (CE Aa Aa (by omega) (by omega)) <| Af rfl (Ax (k := (turnN xs (many + taken.length) / 2 % taken.length)) A7 Aa (ho.plain (by omega)) Aa (by push_cast; rfl) hqq) <| Af rfl (Ah AA Aa (CM ho (fun p hp => .tail _ (hp)) (nat_get hqq))) <| Af rfl (Ax (k := left[(turnN xs taken.length % left.length)]) A7 Aa (BH (Nat.le_refl _) (by omega)) Aa rfl hil) <| AV <| Ct Cc Aa Pe Aa (i := 0) rfl (by rw [GH]; omega) rfl (.here) <| Am <| Ab ?_
 rw [Rk hil, set_one]
 refine Al fun ds => Ao (Ae 2) <| A3 rfl <| AU A7 B1 rfl (.cons Aa .nil) rfl rfl (by decide) (by simp [Value.oneCell']) fun b27 hb27 nb27 => A3 rfl <| Bi A7 D5 Aa ho Aa (BA (s := 1) 0 rfl rfl (by simp [Value.oneCell'])) (by omega) (by omega) (.s <| .s <| .z) .last fun v28 R29 ho30 => ?_
 have ho9 := ho30.snoc (x := left[(turnN xs taken.length % left.length)]) rfl rfl
 refine BP (.one (.next <| .here) <| .lastb (.next <| .last)) <| Ao (Ae 1) <| Am <| Az ?_
 refine Ab ⟨_, (left.eraseIdx (turnN xs taken.length % left.length)).length, Off.eq (Cv rfl <| B3 rfl <| Ci rfl <| Cw rfl <| A2), (by rw [List.length_eraseIdx_of_lt hkk]; omega), ?_⟩
 refine ⟨_, hFG, updI g left[(turnN xs taken.length % left.length)] (taken[(turnN xs (many + taken.length) / 2 % taken.length)] : Int), _, _, _, _, _, rfl, Bb, Bb, hlf2, ho9, hI.step hkk RU (fun h => absurd h ht0) (fun h => ⟨_, hqq, RV⟩), rfl⟩
end
section
theorem Ry {s : Stm} {l : List Int} (h : fitsT s l = false) : costL s l = 1000 := by unfold costL; unfold fitsT at h; rw [h]; rfl
theorem EH {s : Stm} {l : List Int} (h : costL s l < 1000) : fitsT s l = true := by
 cases hf : fitsT s l with
 | true => rfl
 | false => rw [Ry hf] at h; omega
section
variable {s : Stm} {l : List Int}
theorem Q8 (ht : IsTree l) (hl : l.length = s.editions.length) {i k : Nat} (hi : i < l.length) (h : upN l i = (k : Int)) : firstY s (treeE l) k + 1 ≤ firstY s (treeE l) i ∧ lastY s (treeE l) k + 1 ≤ lastY s (treeE l) i := by
 have he := KV hi h
 have hd : Dag s.editions.length (treeE l) := by rw [← hl]; exact ht.dag
 refine ⟨hd.fits (base := fun i => (s.ed i).lo) he, ?_⟩
 have h1 := hd.swap.fits (base := fun i => -(s.ed i).hi) (e := (i, k)) (CO.2 he)
 simp only at h1
 unfold lastY
 omega
end
theorem Je {s : Stm} {l : List Int} (h : costL s l < 1000) : costL s l = sumN s.places.length (leastL s l) ∧ ∀ p, p < s.places.length → leastL s l p < 1000 := by
 have hf := EH h
 unfold fitsT at hf
 unfold costL at h ⊢
 rw [if_pos hf] at h ⊢
 refine ⟨by omega, fun p hp => ?_⟩
 have := OR (n := s.places.length) (i := p) (f := leastL s l) (fun i _ => CG.1) hp
 omega
theorem Rh {s : Stm} {l : List Int} {p : Nat} (hl : l.length = s.editions.length) (h : leastL s l p < 1000) : ∃ g, Filling s l p g ∧ Possible s l p g ∧ changesOf l g = leastL s l p := by
 rcases Hm (f := countL s l p) (l := allFill s p) (m := 1000) with h1 | ⟨x, hx, h1⟩
 · have : leastL s l p = 1000 := h1
   omega
 have h2 : leastL s l p = countL s l p x := h1
 have h3 := ((G6 hl).1 hx).2
 rw [h2] at h
 unfold countL at h h2
 split at h
 · rename_i h4
   rw [if_pos h4] at h2
   exact ⟨_, h3, JA.1 h4, h2.symm⟩
 omega
end
section
open Go.RowKit
theorem bd_45 : Body Tryz.prog 45 := AF (by kernel_rfl)
theorem EX : SizeT Tryz.prog 54 2 := Bq (by kernel_rfl)
end
section
def EarR (F : Heap) (u : Go.Value) (s : Stm) (E : Edges) : Prop := fitsE s E = true ∧ Ints F u (iL (firstY s E) s.editions.length) ∨ fitsE s E = false ∧ u = .slice none 0 0
theorem EarR.mono {F F' : Heap} {u : Go.Value} {s : Stm} {E : Edges} (h : EarR F u s E) (hF : F.le F') : EarR F' u s E := h.elim (fun h => .inl ⟨h.1, h.2.mono hF⟩) .inr
theorem EarR.nil {F : Heap} {u : Go.Value} {s : Stm} {E : Edges} (h : EarR F u s E) (hn : 0 < s.editions.length) : ∃ a k c, u = .slice a k c ∧ (decide (a = none)) = !(fitsE s E) := by
 rcases h with ⟨h1, h2⟩ | ⟨h1, rfl⟩
 · obtain ⟨a, c, rfl, -, g2, -, -⟩ := h2.plain
   refine ⟨a, _, c, rfl, ?_⟩
   rw [h1]
   refine dF fun h => ?_
   have := (g2 h).1
   rw [Bp] at this
   omega
 exact ⟨none, 0, 0, rfl, by rw [h1]; rfl⟩
section
variable {s : Stm} {l : List Int} {M : Edges} {r i q : Nat} {cur : Nat → Int}
end
end
section
def diffN (l : List ByteArray) : Prop := l.Pairwise fun a b => sameS a b = false
theorem GM {α : Type} {f : α → ByteArray} {l : List α} : diffN (l.map f) ↔ ∀ j (hj : j < l.length), (l.take j).any (fun y => sameS (f y) (f l[j])) = false := by
 unfold diffN
 rw [List.pairwise_map, List.pairwise_iff_getElem]
 constructor
 · intro h j hj
   rw [List.any_eq_false]
   intro y hy
   obtain ⟨i, hi, rfl⟩ := List.getElem_of_mem hy
   rw [List.length_take] at hi
   rw [List.getElem_take]
   rw [h i j (by omega) hj (by omega)]; simp
 intro h i j hi hj hij
 have := List.any_eq_false.1 (h j hj) l[i] (by rw [List.mem_iff_getElem]; exact ⟨i, by rw [List.length_take]; omega, by rw [List.getElem_take]⟩)
 simpa using this
structure CheckOk (s : Stm) : Prop where
 np : inB 1 6 s.places.length = true
 pl : ∀ x ∈ s.places, nameOk x.name = true ∧ inB 0 1 x.kind = true
 pn : diffN (s.places.map (·.name))
 ne : inB 1 5 s.editions.length = true
 ed : ∀ x ∈ s.editions, nameOk x.name = true ∧ ednErr s x = 0
 en : diffN (s.editions.map (·.name))
theorem Jh {s : Stm} : (checkT s).2.2 = 0 ↔ CheckOk s := by
 constructor
 · intro h
   obtain ⟨h1, h2, h3, h4⟩ := Kq h
   have hp : ∀ k (hk : k < s.places.length), nameOk s.places[k].name = true ∧ (s.places.take k).any (fun y => sameS y.name s.places[k].name) = false ∧ inB 0 1 s.places[k].kind = true := fun k hk => by
     have := h2 k hk
     rw [Dq hk] at this
     split at this
     · cases this
     split at this
     · cases this
     split at this
     · cases this
     rename_i a b c; exact ⟨by simpa using a, by simpa using b, by simpa using c⟩
   have he : ∀ k (hk : k < s.editions.length), nameOk s.editions[k].name = true ∧ (s.editions.take k).any (fun y => sameS y.name s.editions[k].name) = false ∧ ednErr s s.editions[k] = 0 := fun k hk => by
     have := h4 k hk
     rw [CT hk] at this
     rw [ed_at hk]
     split at this
     · cases this
     split at this
     · cases this
     rename_i a b; exact ⟨by simpa using a, by simpa using b, this⟩
   refine ⟨h1, fun x hx => ?_, GM.2 fun j hj => (hp j hj).2.1, h3, fun x hx => ?_, GM.2 fun j hj => (he j hj).2.1⟩
   · obtain ⟨k, hk, rfl⟩ := List.getElem_of_mem hx
     exact ⟨(hp k hk).1, (hp k hk).2.2⟩
   obtain ⟨k, hk, rfl⟩ := List.getElem_of_mem hx
   exact ⟨(he k hk).1, (he k hk).2.2⟩
 intro h
 have hp : firstQ s.places.length (plcErr s) = (0, 0) := BU fun k hk => by
   have h1 := h.pl _ (List.getElem_mem hk)
   have h2 := GM.1 h.pn k hk
   rw [Dq hk, h1.1, h2, h1.2]; rfl
 have he : firstQ s.editions.length (edErr s) = (0, 0) := BU fun k hk => by
   have h1 := h.ed _ (List.getElem_mem hk)
   have h2 := GM.1 h.en k hk
   rw [CT hk, ← ed_at hk, h1.1, h2, h1.2]; rfl
 unfold checkT
 rw [if_neg (by rw [h.np]; simp), hp, if_neg (by simp), if_neg (by rw [h.ne]; simp), he, if_neg (by simp)]
section
variable {s s' : Stm} {l : List Int}
theorem TR (hl : l.length = s.editions.length) {p : Nat} (h : leastL s l p < 1000) : leastL s l p ≤ l.length := by
 obtain ⟨g, -, -, h1⟩ := Rh hl h
 rw [← h1]; exact CN.2
theorem E1 {n : Nat} {f : Nat → Int} {c : Int} (h : ∀ i, i < n → f i ≤ c) : sumN n f ≤ n * c := by
 induction n with
 | zero => simp [sumN]
 | succ n ih =>
   have h1 := ih fun i hi => h i (by omega)
   have h2 := h n (by omega)
   simp only [sumN]
   have h3 : ((n + 1 : Nat) : Int) * c = (n : Int) * c + c := by push_cast; rw [Int.add_mul, Int.one_mul]
   rw [h3]; omega
theorem PX (hv : ValidT s) (hl : l.length = s.editions.length) : costL s l < 1000 ↔ fitsT s l = true ∧ ∀ p, p < s.places.length → leastL s l p < 1000 := by
 constructor
 · exact fun h => ⟨EH h, (Je h).2⟩
 rintro ⟨h1, h2⟩
 unfold fitsT at h1
 unfold costL
 rw [if_pos h1]
 have h3 := E1 (n := s.places.length) (f := leastL s l) (c := 5) fun p hp => by
   have := TR hl (h2 p hp)
   have := hv.ne
   omega
 have h4 := hv.np
 have h5 : (s.places.length : Int) * 5 ≤ 6 * 5 := Int.mul_le_mul_of_nonneg_right (by omega) (by omega)
 omega
theorem L8 {p p' : Nat} (hl : l.length = s.editions.length) (hl' : l.length = s'.editions.length) (hin : TreeIn l) (h : ∀ g, Filling s' l p' g → Possible s' l p' g → Filling s l p g ∧ Possible s l p g) : leastL s l p ≤ leastL s' l p' :=
 Gg CG.2 hl' fun g h1 h2 => Fe hin hl (h g h1 h2).1 (h g h1 h2).2
theorem Ri {p p' : Nat} (hl : l.length = s.editions.length) (hl' : l.length = s'.editions.length) (hin : TreeIn l) (h : ∀ g, (Filling s' l p' g ∧ Possible s' l p' g) ↔ (Filling s l p g ∧ Possible s l p g)) : leastL s l p = leastL s' l p' :=
 Int.le_antisymm (L8 hl hl' hin fun g h1 h2 => (h g).1 ⟨h1, h2⟩) (L8 hl' hl hin fun g h1 h2 => (h g).2 ⟨h1, h2⟩)
theorem JN {E : Edges} {b b' : Nat → Int} {n : Nat} (hE : ∀ e ∈ E, e.1 < n ∧ e.2 < n) (h : ∀ i, i < n → b i = b' i) : ∀ f i, i < n → climb E b f i = climb E b' f i := by
 intro f
 induction f with
 | zero => exact h
 | succ f ih =>
   intro i hi
   have one : ∀ c c' : Nat → Int, (∀ i, i < n → c i = c' i) → (∀ i, i < n → climb E c f i = climb E c' f i) → climb E c (f + 1) i ≤ climb E c' (f + 1) i := fun c c' h ih => by
     refine CV.2 ⟨by rw [h i hi]; exact BX, fun e he hei => ?_⟩
     rw [ih _ (hE e he).1]
     have := DI (f := f) (base := c') he
     rw [hei] at this
     exact this
   exact Int.le_antisymm (one _ _ h ih) (one _ _ (fun i hi => (h i hi).symm) fun i hi => (ih i hi).symm)
theorem Rn (ht : IsTree l) (hl : l.length = s.editions.length) (hl' : l.length = s'.editions.length) (h : ∀ i, i < l.length → (s'.ed i).lo = (s.ed i).lo ∧ (s'.ed i).hi = (s.ed i).hi) : fitsT s' l = fitsT s l := by
 unfold fitsT
 rw [Bool.eq_iff_iff, Dr, Dr]
 have hd := ht.dag
 have e : ∀ i, i < l.length → firstY s' (treeE l) i = firstY s (treeE l) i := fun i hi => by
   unfold firstY
   rw [← hl, ← hl']
   exact JN hd.1 (fun i hi => (h i hi).1) _ i hi
 rw [← hl, ← hl']
 constructor
 · intro h1 i hi; rw [← e i hi, ← (h i hi).2]; exact h1 i hi
 intro h1 i hi; rw [e i hi, (h i hi).2]; exact h1 i hi
end
section
variable {s : Stm} {l : List Int} {x p : Nat} {v : Int}
end
end
section
theorem sum_hit {m i : Nat} {σ : Nat → Nat} {c : Int} (hc : 0 ≤ c) (hinj : ∀ j k, j < m → k < m → σ j = σ k → j = k) : sumN m (fun k => if σ k = i then c else 0) ≤ c := by
 by_cases h : ∃ k, k < m ∧ σ k = i
 · obtain ⟨k, hk, he⟩ := h
   rw [Bs (g := fun q => if k = q then c else 0) fun q hq => ?_, H8 hk]
   · exact Int.le_refl _
   by_cases h1 : k = q
   · subst h1; rw [if_pos he, if_pos rfl]
   rw [if_neg h1, if_neg fun h2 => h1 (hinj k q hk hq (by rw [he, h2]))]
 rw [Bs (g := fun _ => 0) fun q hq => if_neg fun h1 => h ⟨q, hq, h1⟩, Ep]
 exact hc
theorem sum_emb {m n : Nat} {σ : Nat → Nat} {f : Nat → Int} (hlt : ∀ k, k < m → σ k < n) (hinj : ∀ j k, j < m → k < m → σ j = σ k → j = k) (hf : ∀ i, i < n → 0 ≤ f i) : sumN m (fun k => f (σ k)) ≤ sumN n f := by
 have e1 : ∀ k, k < m → sumN n (fun i => if σ k = i then f i else 0) = f (σ k) := fun k hk => by
   rw [Bs (f := fun i => if σ k = i then f i else 0) (g := fun i => if σ k = i then f (σ k) else 0) (fun i _ => by by_cases h : σ k = i <;> simp [h])]
   exact H8 (hlt k hk)
 have e : sumN m (fun k => f (σ k)) = sumN m fun k => sumN n fun i => if σ k = i then f i else 0 := Bs fun k hk => (e1 k hk).symm
 rw [e, J2]
 exact Fs fun i hi => sum_hit (hf i hi) hinj
structure Emb (l l' : List Int) (σ : Nat → Nat) : Prop where
 lt : ∀ k, k < l'.length → σ k < l.length
 inj : ∀ j k, j < l'.length → k < l'.length → σ j = σ k → j = k
 up : ∀ k, k < l'.length → (upN l' k = -1 ∧ upN l (σ k) = -1) ∨ ∃ q : Nat, q < l'.length ∧ upN l' k = (q : Int) ∧ upN l (σ k) = (σ q : Int)
theorem Tc {l : List Int} (hin : TreeIn l) (hr : ∃ ρ : Nat → Nat, ∀ (i k : Nat), i < l.length → upN l i = (k : Int) → ρ k < ρ i) (h1 : firstsN l l.length = 1) : IsTree l := by
 obtain ⟨ρ, hρ⟩ := hr
 refine ⟨hin, fun i hi => ?_, h1⟩
 have key : ∀ d i, i < l.length → rankC ρ l.length i ≤ d → reach l d i = true := by
   intro d
   induction d with
   | zero =>
     intro i hi hd
     by_cases hu : upN l i = -1
     · exact DE hu
     obtain ⟨j, hj, hjl⟩ := hin.nat hi hu
     have := HK (n := l.length) hjl (hρ i j hi hj)
     omega
   | succ d ih =>
     intro i hi hd
     by_cases hu : upN l i = -1
     · exact DE hu
     obtain ⟨j, hj, hjl⟩ := hin.nat hi hu
     have := HK (n := l.length) hjl (hρ i j hi hj)
     rw [DD hj]
     exact ih j hjl (by omega)
 exact key _ i hi Pi
section
variable {l l' : List Int} {σ : Nat → Nat} {s s' : Stm}
theorem Emb.root (h : Emb l l' σ) {k : Nat} (hk : k < l'.length) (hu : upN l' k = -1) : upN l (σ k) = -1 := by
 rcases h.up k hk with ⟨-, h1⟩ | ⟨q, -, h2, -⟩
 · exact h1
 omega
theorem Emb.edge (h : Emb l l' σ) {k q : Nat} (hk : k < l'.length) (hu : upN l' k = (q : Int)) : q < l'.length ∧ upN l (σ k) = (σ q : Int) := by
 rcases h.up k hk with ⟨h1, -⟩ | ⟨q', h1, h2, h3⟩
 · omega
 obtain rfl : q' = q := by omega
 exact ⟨h1, h3⟩
theorem Emb.in_ (h : Emb l l' σ) : TreeIn l' := fun i hi => by
 rcases h.up i hi with ⟨h1, -⟩ | ⟨q, h1, h2, -⟩ <;> omega
theorem Emb.tree (h : Emb l l' σ) (ht : IsTree l) (hr : ∃ r, r < l'.length ∧ upN l' r = -1) : IsTree l' := by
 obtain ⟨r, hr, hru⟩ := hr
 refine Tc h.in_ ⟨fun k => dep l l.length (σ k), fun i k hi hk => ?_⟩ ?_
 · have h3 := (h.edge hi hk).2
   show dep l l.length (σ k) < dep l l.length (σ i)
   rw [Ea h3 (ht.reach _ (h.lt i hi))]; omega
 rw [Gi (r := r) hru fun i hi hu => ?_, if_pos hr]
 exact h.inj i r hi hr (En (l := l) (σ i) (σ r) (h.lt i hi) (h.lt r hr) (h.root hi hu) (h.root hr hru) (by rw [ht.one]; exact Int.le_refl _))
theorem Emb.same (h : Emb l l' σ) {g : Nat → Int} {k : Nat} (hk : k < l'.length) : chg l' (fun k => g (σ k)) k = chg l g (σ k) := by
 unfold chg
 rcases h.up k hk with ⟨h1, h2⟩ | ⟨q, h1, h2, h3⟩
 · rw [if_pos h1, if_pos h2]
 rw [if_neg (show ¬ upN l' k = -1 by omega), if_neg (show ¬ upN l (σ k) = -1 by omega), h2, h3, Int.toNat_natCast, Int.toNat_natCast]
theorem Emb.changes (h : Emb l l' σ) {g : Nat → Int} : changesOf l' (fun k => g (σ k)) ≤ changesOf l g := by
 unfold changesOf
 rw [Bs fun k hk => h.same hk]
 exact sum_emb (f := chg l g) h.lt h.inj fun i _ => Fh.1
structure EmbS (s s' : Stm) (l l' : List Int) (σ : Nat → Nat) : Prop extends Emb l l' σ where
 len : l.length = s.editions.length
 len' : l'.length = s'.editions.length
 pl : s'.places = s.places
 ed : ∀ k, k < l'.length → s'.ed k = s.ed (σ k)
theorem EmbS.least (h : EmbS s s' l l' σ) {p : Nat} : leastL s' l' p ≤ leastL s l p := by
 have hfr : freeP s' p = freeP s p := by unfold freeP Stm.pl; rw [h.pl]
 refine Gg CG.2 h.len fun g h1 h2 => Int.le_trans (Fe (g := fun k => g (σ k)) h.in_ h.len' ⟨fun i hi => h1.val _ (h.lt i hi), fun i hi => ?_⟩ fun i hi hu => ?_) h.changes
 · have := h1.fit _ (h.lt i hi)
   unfold fitR Stm.r at this ⊢
   rw [h.ed i hi]; exact this
 obtain ⟨q, hq, hql⟩ := h.in_.nat hi hu
 have h3 := (h.edge hi hq).2
 have := h2 _ (h.lt i hi) (by omega)
 rw [h3, Int.toNat_natCast] at this
 rw [hq, Int.toNat_natCast, hfr]; exact this
theorem EmbS.fits (h : EmbS s s' l l' σ) (ht : IsTree l) (ht' : IsTree l') (hf : fitsT s l = true) : fitsT s' l' = true := by
 unfold fitsT at hf ⊢
 rw [Dr] at hf ⊢
 intro i hi
 rw [← h.len'] at hi
 have hd := ht'.dag
 have := Gu (base := fun i => (s'.ed i).lo) hd.1 (L := fun k => firstY s (treeE l) (σ k)) (fun k hk => by show (s'.ed k).lo ≤ _; rw [h.ed k hk]; exact JI) (fun e he => by
   obtain ⟨h1, h2, h3⟩ := ht'.edge he
   exact (Q8 ht h.len (h.lt _ h2) (h.edge h2 h3).2).1) s'.editions.length i hi
 have h4 := hf (σ i) (by rw [← h.len]; exact h.lt i hi)
 unfold firstY
 rw [h.ed i hi]
 exact Int.le_trans this h4
theorem VV (hv : ValidT s) (hl : l.length = s.editions.length) (hp : s'.places.length = s.places.length) (hf : fitsT s' l' = true → fitsT s l = true) (h : ∀ p, p < s.places.length → leastL s l p ≤ leastL s' l' p) (hc : costL s' l' < 1000) : costL s l < 1000 ∧ costL s l ≤ costL s' l' := by
 obtain ⟨h1, h2⟩ := Je hc
 have h3 : costL s l < 1000 := (PX hv hl).2 ⟨hf (EH hc), fun p hp' => by have := h p hp'; have := h2 p (by omega); omega⟩
 refine ⟨h3, ?_⟩
 rw [h1, (Je h3).1, hp]
 exact Fs h
theorem EmbS.cost (h : EmbS s s' l l' σ) (hv' : ValidT s') (ht : IsTree l) (ht' : IsTree l') (hc : costL s l < 1000) : costL s' l' < 1000 ∧ costL s' l' ≤ costL s l :=
 VV hv' h.len' (by rw [h.pl]) (h.fits ht ht') (fun _ _ => h.least) hc
end
section
variable {s : Stm} {l : List Int} {i : Nat}
end
def backS (s : Stm) : Stm := ⟨s.places, s.editions.reverse⟩
section
variable {s : Stm} {l : List Int}
end
end
section
def Edn.sub (x : Edn) (P : List Nat) : Edn := ⟨x.name, x.lo, x.hi, P.map fun p => x.rd[p]?.getD 0⟩
section
variable {s : Stm} {b : Nat → Bool} {l : List Int}
end
def oneS (s : Stm) (p : Nat) : Stm := ⟨s.places.set p ⟨(s.pl p).name, 1⟩, s.editions⟩
section
variable {s : Stm} {l : List Int} {p : Nat}
end
section
variable {s : Stm} {l : List Int} {p : Nat}
theorem HU {v : Nat} : metB s p v = true ↔ ∃ i, i < s.editions.length ∧ s.r i p = (v : Int) := by
 unfold metB
 rw [List.any_eq_true]
 exact ⟨fun ⟨i, hi, h⟩ => ⟨i, List.mem_range.1 hi, of_decide_eq_true h⟩, fun ⟨i, hi, h⟩ => ⟨i, List.mem_range.2 hi, dT h⟩⟩
end
end
section
def Edn.cut (x : Edn) (p : Nat) : Edn := ⟨x.name, x.lo, x.hi, x.rd.take p ++ x.rd.drop (p + 1)⟩
section
variable {s : Stm} {p : Nat} {l : List Int}
end
theorem StmR.kind {F : Heap} {vp ve w : Go.Value} {ps : List (Go.Value × Edn)} {s : Stm} {p : Nat} (h : StmR F vp ve ps s) (hw : Sl F w 2 Plc.enc (oneS s p).places) : StmR F w ve ps (oneS s p) := ⟨hw, h.eds, h.rds, h.eqs⟩
structure EdsR (F : Heap) (qs : List (Go.Value × Edn)) (es : List Edn) : Prop where
 rds : ∀ q ∈ qs, Ints F q.1 q.2.rd
 eqs : qs.map (·.2) = es
theorem EdsR.nil {F : Heap} : EdsR F [] [] := ⟨fun _ h => (by cases h), rfl⟩
theorem EdsR.mono {F F' : Heap} {qs : List (Go.Value × Edn)} {es : List Edn} (h : EdsR F qs es) (hF : F.le F') : EdsR F' qs es := ⟨fun q hq => (h.rds q hq).mono hF, h.eqs⟩
theorem EdsR.snoc {F : Heap} {qs : List (Go.Value × Edn)} {es : List Edn} (h : EdsR F qs es) {v : Go.Value} {x : Edn} (hv : Ints F v x.rd) : EdsR F (qs ++ [(v, x)]) (es ++ [x]) :=
 ⟨fun q hq => (by rcases List.mem_append.1 hq with hq | hq; exact h.rds q hq; simp at hq; subst hq; exact hv), by rw [List.map_append, h.eqs]; rfl⟩
theorem EdsR.len {F : Heap} {qs : List (Go.Value × Edn)} {es : List Edn} (h : EdsR F qs es) : qs.length = es.length := by rw [← h.eqs, List.length_map]
theorem EdsR.stm {F : Heap} {vp ve : Go.Value} {qs : List (Go.Value × Edn)} {s : Stm} (h : EdsR F qs s.editions) (hp : Sl F vp 2 Plc.enc s.places) (he : Sl F ve 4 edE qs) : StmR F vp ve qs s := ⟨hp, he, h.rds, h.eqs⟩
end
section
def renV (w : Nat) (r : Int) : Int := 1 + (r + w) % 3
theorem NL {w : Nat} {r : Int} : 1 ≤ renV w r ∧ renV w r ≤ 3 := by unfold renV; omega
theorem Sd {w : Nat} {a b : Int} (ha : 1 ≤ a ∧ a ≤ 3) (hb : 1 ≤ b ∧ b ≤ 3) : renV w a = renV w b ↔ a = b := by unfold renV; omega
theorem Tu {w : Nat} {a : Int} (ha : 1 ≤ a ∧ a ≤ 3) : renV (2 * w + 1) (renV w a) = a := by unfold renV; push_cast; omega
structure Ren (s s' : Stm) (p w : Nat) : Prop where
 pl : s'.places = s.places
 len : s'.editions.length = s.editions.length
 year : ∀ i, i < s.editions.length → (s'.ed i).lo = (s.ed i).lo ∧ (s'.ed i).hi = (s.ed i).hi
 same : ∀ i, i < s.editions.length → ∀ q, q ≠ p → s'.r i q = s.r i q
 zero : ∀ i, i < s.editions.length → s.r i p = 0 → s'.r i p = 0
 other : ∀ i, i < s.editions.length → s.r i p ≠ 0 → s'.r i p = renV w (s.r i p)
section
variable {s s' : Stm} {p w : Nat} {l : List Int}
theorem Ren.back (h : Ren s s' p w) (hv : ValidT s) (hp : p < s.places.length) : Ren s' s p (2 * w + 1) :=
 ⟨h.pl.symm, h.len.symm, fun i hi => by rw [h.len] at hi; exact ⟨(h.year i hi).1.symm, (h.year i hi).2.symm⟩, fun i hi q hq => by rw [h.len] at hi; exact (h.same i hi q hq).symm,
  fun i hi h0 => by
    rw [h.len] at hi
    by_cases hz : s.r i p = 0
    · exact hz
    have := h.other i hi hz
    have := NL (w := w) (r := s.r i p)
    omega,
  fun i hi h0 => by
    rw [h.len] at hi
    by_cases hz : s.r i p = 0
    · exact absurd (h.zero i hi hz) h0
    rw [h.other i hi hz, Tu]
    have := hv.rd i p hi hp
    omega⟩
theorem Ren.free (h : Ren s s' p w) {q : Nat} : freeP s' q = freeP s q := by unfold freeP Stm.pl; rw [h.pl]
theorem Qn (hin : TreeIn l) {g : Nat → Int} (hg : ∀ i, i < l.length → 1 ≤ g i ∧ g i ≤ 3) : changesOf l (fun i => renV w (g i)) = changesOf l g := by
 unfold changesOf
 refine Bs fun i hi => ?_
 unfold chg
 by_cases hu : upN l i = -1
 · rw [if_pos hu, if_pos hu]
 obtain ⟨q, hq, hql⟩ := hin.nat hi hu
 have e : (renV w (g (upN l i).toNat) = renV w (g i)) ↔ g (upN l i).toNat = g i := by
   rw [hq, Int.toNat_natCast]; exact Sd (hg q hql) (hg i hi)
 rw [if_neg hu, if_neg hu]
 by_cases h : g (upN l i).toNat = g i
 · rw [if_pos h, if_pos (e.2 h)]
 rw [if_neg h, if_neg (fun k => h (e.1 k))]
theorem Ren.least_le (h : Ren s s' p w) (hf : freeP s p = true) (hl : l.length = s.editions.length) (hin : TreeIn l) : leastL s' l p ≤ leastL s l p := by
 refine Gg CG.2 hl fun g h1 h2 => ?_
 rw [← Qn (w := w) hin h1.val]
 refine Fe hin (by rw [h.len]; exact hl) ⟨fun i _ => NL, fun i hi => ?_⟩ fun i hi hu => .inr (.inr (by rw [h.free]; exact hf))
 rcases h1.fit i hi with h3 | h3
 · exact .inl (h.zero i (by omega) h3)
 by_cases hz : s.r i p = 0
 · exact .inl (h.zero i (by omega) hz)
 exact .inr (by rw [h.other i (by omega) hz, h3])
theorem Ren.least (h : Ren s s' p w) (hv : ValidT s) (hp : p < s.places.length) (hf : freeP s p = true) (hl : l.length = s.editions.length) (hin : TreeIn l) (q : Nat) : leastL s' l q = leastL s l q := by
 by_cases hq : q = p
 · subst hq
   exact Int.le_antisymm (h.least_le hf hl hin) ((h.back hv hp).least_le (by rw [h.free]; exact hf) (by rw [h.len]; exact hl) hin)
 refine (Ri hl (by rw [h.len]; exact hl) hin fun g => ?_).symm
 have hfr := h.free (q := q)
 constructor
 · rintro ⟨h1, h2⟩
   exact ⟨⟨h1.val, fun i hi => by have := h1.fit i hi; unfold fitR at this ⊢; rw [h.same i (by omega) q hq] at this; exact this⟩, fun i hi hu => by have := h2 i hi hu; rw [hfr] at this; exact this⟩
 rintro ⟨h1, h2⟩
 exact ⟨⟨h1.val, fun i hi => by have := h1.fit i hi; unfold fitR at this ⊢; rw [h.same i (by omega) q hq]; exact this⟩, fun i hi hu => by have := h2 i hi hu; rw [hfr]; exact this⟩
theorem Ren.fits (h : Ren s s' p w) (ht : IsTree l) (hl : l.length = s.editions.length) : fitsT s' l = fitsT s l :=
 Rn ht hl (by rw [h.len]; exact hl) fun i hi => h.year i (by omega)
theorem Ren.cost (h : Ren s s' p w) (hv : ValidT s) (hp : p < s.places.length) (hf : freeP s p = true) (hl : l.length = s.editions.length) (ht : IsTree l) : costL s' l = costL s l := by
 have h1 := h.fits ht hl
 unfold fitsT at h1
 unfold costL
 rw [h1, h.pl, show leastL s' l = leastL s l from funext fun q => h.least hv hp hf hl ht.in_ q]
theorem PI {α : Type} {f g : α → Bool} {l : List α} (h : ∀ x ∈ l, f x = g x) : l.filter f = l.filter g := by
 induction l with
 | nil => rfl
 | cons a l ih =>
   rw [List.filter_cons, List.filter_cons, h a List.mem_cons_self, ih fun x hx => h x (List.mem_cons_of_mem _ hx)]
theorem Ren.trees (h : Ren s s' p w) : allTrees s' = allTrees s := by
 unfold allTrees
 rw [h.len]
 refine PI fun x hx => ?_
 obtain ⟨t, rfl, hd, hin, hT⟩ := EW.1 hx
 refine h.fits ?_ hd
 exact Eu (fun i hi => by have := hin i (by omega); rw [hd]; exact this) hT
theorem Qu {top : Int} {c c' : List Int → Int} : ∀ {xs : List (List Int)}, (∀ x ∈ xs, c x = c' x) → bestR top c xs = bestR top c' xs := by
 intro xs
 induction xs using HD with
 | h0 => intro _; rfl
 | h1 xs t ih =>
   intro h
   rw [CW, CW, ih fun x hx => h x (by simp [hx])]
   unfold bestStep
   rw [h t (by simp)]
theorem Ren.best (h : Ren s s' p w) (hv : ValidT s) (hp : p < s.places.length) (hf : freeP s p = true) : bestR 1000 (costL s') (allTrees s') = bestR 1000 (costL s) (allTrees s) := by
 rw [h.trees]
 refine Qu fun x hx => ?_
 obtain ⟨h1, h2, -⟩ := Cf.1 hx
 exact h.cost hv hp hf h1 h2
theorem Ren.met (h : Ren s s' p w) (hv : ValidT s) (hp : p < s.places.length) {v : Nat} (hv3 : 1 ≤ v ∧ v ≤ 3) : metB s' p (renV w v).toNat = metB s p v := by
 have hin := NL (w := w) (r := (v : Int))
 rw [Bool.eq_iff_iff, HU, HU, h.len]
 constructor
 · rintro ⟨i, hi, h1⟩
   by_cases hz : s.r i p = 0
   · rw [h.zero i hi hz] at h1; omega
   rw [h.other i hi hz, Int.toNat_of_nonneg (by omega)] at h1
   have hrd := hv.rd i p hi hp
   exact ⟨i, hi, (Sd (by omega) (by omega)).1 h1⟩
 rintro ⟨i, hi, h1⟩
 refine ⟨i, hi, ?_⟩
 rw [h.other i hi (by omega), h1, Int.toNat_of_nonneg (by omega)]
theorem Ren.kinds (h : Ren s s' p w) (hv : ValidT s) (hp : p < s.places.length) (q : Nat) : kindsN s' q = kindsN s q := by
 by_cases hq : q = p
 · subst hq
   have h1 := h.met hv hp (v := 1) (by omega)
   have h2 := h.met hv hp (v := 2) (by omega)
   have h3 := h.met hv hp (v := 3) (by omega)
   unfold kindsN kindTo
   simp only [sumN, Nat.zero_add, Nat.reduceAdd]
   rw [← h1, ← h2, ← h3]
   unfold renV
   rcases (show w % 3 = 0 ∨ w % 3 = 1 ∨ w % 3 = 2 by omega) with hw | hw | hw
   · rw [show (1 + (((1 : Nat) : Int) + w) % 3).toNat = 2 by omega, show (1 + (((2 : Nat) : Int) + w) % 3).toNat = 3 by omega, show (1 + (((3 : Nat) : Int) + w) % 3).toNat = 1 by omega]
     omega
   · rw [show (1 + (((1 : Nat) : Int) + w) % 3).toNat = 3 by omega, show (1 + (((2 : Nat) : Int) + w) % 3).toNat = 1 by omega, show (1 + (((3 : Nat) : Int) + w) % 3).toNat = 2 by omega]
     omega
   rw [show (1 + (((1 : Nat) : Int) + w) % 3).toNat = 1 by omega, show (1 + (((2 : Nat) : Int) + w) % 3).toNat = 2 by omega, show (1 + (((3 : Nat) : Int) + w) % 3).toNat = 3 by omega]
 have e : ∀ v, metB s' q v = metB s q v := fun v => by
   rw [Bool.eq_iff_iff, HU, HU, h.len]
   constructor
   · rintro ⟨i, hi, h1⟩; exact ⟨i, hi, by rw [← h.same i hi q hq]; exact h1⟩
   rintro ⟨i, hi, h1⟩; exact ⟨i, hi, by rw [h.same i hi q hq]; exact h1⟩
 unfold kindsN kindTo
 exact Bs fun j _ => by rw [e]
theorem Ren.unclean (h : Ren s s' p w) (hv : ValidT s) (hp : p < s.places.length) (hf : freeP s p = true) (hl : l.length = s.editions.length) (ht : IsTree l) : uncleanL s' l = uncleanL s l := by
 unfold uncleanL
 rw [h.pl]
 refine congrArg (fun b => selN b s.places.length) (funext fun q => ?_)
 unfold uncleanB
 rw [h.least hv hp hf hl ht.in_ q]
 unfold needN
 rw [h.kinds hv hp q]
theorem Ren.clean (h : Ren s s' p w) (hv : ValidT s) (hp : p < s.places.length) (hf : freeP s p = true) : cleanR s' (allTrees s') = cleanR s (allTrees s) := by
 rw [h.trees]
 have key : ∀ (xs : List (List Int)), (∀ x ∈ xs, x ∈ allTrees s) → cleanR s' xs = cleanR s xs := fun xs => by
   induction xs using HD with
   | h0 => intro _; rfl
   | h1 xs t ih =>
     intro hx
     obtain ⟨h1, h2, -⟩ := Cf.1 (hx t (by simp))
     rw [Eb, Eb, ih fun x h => hx x (by simp [h])]
     unfold cleanStep
     rw [h.unclean hv hp hf h1 h2]
 exact key _ fun x hx => hx
theorem Ren.bests (h : Ren s s' p w) (hv : ValidT s) (hp : p < s.places.length) (hf : freeP s p = true) : bestsL s' = bestsL s ∧ bestsM s' = bestsM s := by
 unfold bestsL bestsM; rw [h.best hv hp hf]; exact ⟨rfl, rfl⟩
theorem Ren.bestTE (h : Ren s s' p w) (h0 : (checkT s).2.2 = 0) (h0' : (checkT s').2.2 = 0) (hp : p < s.places.length) (hf : freeP s p = true) : bestTE s' = bestTE s := by
 obtain ⟨h1, h2⟩ := h.bests (Cj h0) hp hf
 unfold Go.Proofs.YtkjfmibiinfhfabGreat.bestTE askedT
 rw [h1, h2, h0, h0']
theorem Ren.cleanE (h : Ren s s' p w) (h0 : (checkT s).2.2 = 0) (h0' : (checkT s').2.2 = 0) (hp : p < s.places.length) (hf : freeP s p = true) : cleanE s' = cleanE s := by
 unfold Go.Proofs.YtkjfmibiinfhfabGreat.cleanE
 rw [h.clean (Cj h0) hp hf, h0, h0']
end
theorem StmR.back {F : Heap} {vp ve w : Go.Value} {ps : List (Go.Value × Edn)} {s : Stm} (h : StmR F vp ve ps s) (hw : Sl F w 4 edE ps.reverse) : StmR F vp w ps.reverse (backS s) :=
 ⟨h.places, hw, fun p hp => h.rds p (List.mem_reverse.1 hp), by rw [List.map_reverse, h.eqs]; rfl⟩
end
section
theorem UL {n i : Nat} {f f' : Nat → Int} (hi : i < n) (h : ∀ j, j < n → j ≠ i → f' j = f j) : sumN n f' = sumN n f + (f' i - f i) := by
 induction n with
 | zero => omega
 | succ n ih =>
   by_cases hn : i = n
   · subst hn
     have := Bs (n := i) (f := f') (g := f) fun j hj => h j (by omega) (by omega)
     simp only [sumN]; omega
   have := ih (by omega) fun j hj hne => h j (by omega) hne
   have := h n (by omega) (fun k => hn k.symm)
   simp only [sumN]; omega
def updA {α : Type} (f : Nat → α) (i : Nat) (v : α) : Nat → α := fun j => if j = i then v else f j
theorem C0 {α : Type} {f : Nat → α} {i : Nat} {v : α} : updA f i v i = v := if_pos rfl
theorem B7 {α : Type} {f : Nat → α} {i j : Nat} {v : α} (h : j ≠ i) : updA f i v j = f j := if_neg h
def rdL (R : Nat → List Int) (p j : Nat) : Int := (R j)[p]?.getD 0
def chgX (l : List Int) (R : Nat → List Int) (i p : Nat) (r : Int) : Int := if upN l i = -1 then 0 else if rdL R p (upN l i).toNat = r then 0 else 1
structure TellI (s : Stm) (l : List Int) (ρ : Nat → Nat) (D : Nat → Bool) (Y : Nat → Int) (R : Nat → List Int) (c : Int) : Prop where
 no : ∀ i, i < l.length → D i = false → Y i = 0
 len : ∀ i, i < l.length → D i = true → (R i).length = s.places.length
 val : ∀ i, i < l.length → D i = true → ∀ x ∈ R i, 1 ≤ x ∧ x ≤ 3
 lo : ∀ i, i < l.length → D i = true → 1450 ≤ Y i ∧ Y i ≤ 1499 + 50 * (ρ i : Int)
 src : ∀ i, i < l.length → D i = true → ∀ k : Nat, upN l i = (k : Int) → D k = true ∧ Y k < Y i ∧ ∀ p, p < s.places.length → stepOk (freeP s p) (rdL R p k) (rdL R p i)
 cnt : c = sumN l.length fun i => if D i = true then sumN s.places.length (fun p => chg l (rdL R p) i) else 0
section
variable {s : Stm} {l : List Int} {ρ : Nat → Nat} {D : Nat → Bool} {Y : Nat → Int} {R : Nat → List Int} {c : Int}
theorem TellI.start : TellI s l ρ (fun _ => false) (fun _ => 0) (fun _ => []) 0 :=
 ⟨fun _ _ _ => rfl, (fun _ _ h => nomatch h), (fun _ _ h => nomatch h), (fun _ _ h => nomatch h), (fun _ _ h => nomatch h), by
   have : (fun i : Nat => if (fun _ => false : Nat → Bool) i = true then sumN s.places.length (fun p => chg l (rdL (fun _ => []) p) i) else 0) = fun _ => 0 := funext fun i => if_neg (fun h => nomatch h)
   rw [this, Ep]⟩
theorem TellI.bound (h : TellI s l ρ D Y R c) (hn : l.length ≤ 5) (hp : s.places.length ≤ 6) : 0 ≤ c ∧ c ≤ 30 := by
 have h1 : ∀ k, 0 ≤ sumN s.places.length (fun p => chg l (rdL R p) k) ∧ sumN s.places.length (fun p => chg l (rdL R p) k) ≤ s.places.length * 1 := fun k =>
   ⟨CC fun _ _ => Fh.1, E1 fun _ _ => Fh.2⟩
 have h2 : c ≤ l.length * 6 := by
   rw [h.cnt]
   refine E1 fun i _ => ?_
   split
   · have := (h1 i).2; omega
   omega
 refine ⟨?_, by omega⟩
 rw [h.cnt]
 refine CC fun i _ => ?_
 split
 · exact (h1 i).1
 exact Int.le_refl _
theorem TellI.step (h : TellI s l ρ D Y R c) (ht : IsTree l) {i : Nat} (hi : i < l.length) (hD : D i = false) {y : Int} {xs : List Int} (hl : xs.length = s.places.length) (hx : ∀ x ∈ xs, 1 ≤ x ∧ x ≤ 3)
   (h0 : upN l i = -1 → 1450 ≤ y ∧ y ≤ 1499) (hρ : ∀ k : Nat, upN l i = (k : Int) → ρ k < ρ i)
   (hk : ∀ k : Nat, upN l i = (k : Int) → D k = true ∧ Y k < y ∧ y ≤ Y k + 50 ∧ ∀ p, p < s.places.length → stepOk (freeP s p) (rdL R p k) (xs[p]?.getD 0)) :
   TellI s l ρ (updA D i true) (updA Y i y) (updA R i xs) (c + sumN s.places.length fun p => chgX l R i p (xs[p]?.getD 0)) := by
 have hne : ∀ j, j < l.length → D j = true → j ≠ i := fun j _ hj e => by subst e; rw [hD] at hj; cases hj
 have hup : ∀ j, j < l.length → D j = true → ∀ k : Nat, upN l j = (k : Int) → k ≠ i := fun j hj hd k hu e => by
   have := (h.src j hj hd k hu).1
   subst e; rw [hD] at this; cases this
 have hki : ∀ k : Nat, upN l i = (k : Int) → k ≠ i := fun k hu e => by
   have := (hk k hu).1
   subst e; rw [hD] at this; cases this
 refine ⟨fun j hj hd => ?_, fun j hj hd => ?_, fun j hj hd => ?_, fun j hj hd => ?_, fun j hj hd k hu => ?_, ?_⟩
 · by_cases e : j = i
   · subst e; rw [C0] at hd; cases hd
   rw [B7 e] at hd ⊢; exact h.no j hj hd
 · by_cases e : j = i
   · subst e; rw [C0]; exact hl
   rw [B7 e] at hd ⊢; exact h.len j hj hd
 · by_cases e : j = i
   · subst e; rw [C0]; exact hx
   rw [B7 e] at hd ⊢; exact h.val j hj hd
 · by_cases e : j = i
   · subst e
     rw [C0]
     by_cases hu : upN l j = -1
     · have := h0 hu; omega
     obtain ⟨k, hk1, hkl⟩ := ht.in_.nat hj hu
     obtain ⟨q1, q2, q3, -⟩ := hk k hk1
     have := h.lo k hkl q1
     have := hρ k hk1
     omega
   rw [B7 e] at hd ⊢; exact h.lo j hj hd
 · by_cases e : j = i
   · subst e
     obtain ⟨q1, q2, q3, q4⟩ := hk k hu
     have hkj := hki k hu
     refine ⟨by rw [B7 hkj]; exact q1, by rw [C0, B7 hkj]; exact q2, fun p hp => ?_⟩
     have := q4 p hp
     unfold rdL at this ⊢
     rw [C0, B7 hkj]; exact this
   rw [B7 e] at hd
   have hkj := hup j hj hd k hu
   obtain ⟨q1, q2, q3⟩ := h.src j hj hd k hu
   refine ⟨by rw [B7 hkj]; exact q1, by rw [B7 e, B7 hkj]; exact q2, fun p hp => ?_⟩
   have := q3 p hp
   unfold rdL at this ⊢
   rw [B7 e, B7 hkj]; exact this
 rw [UL (f := fun i => if D i = true then sumN s.places.length (fun p => chg l (rdL R p) i) else 0) hi (fun j hj e => ?_), ← h.cnt]
 · rw [C0, if_pos rfl, if_neg (by rw [hD]; simp), Int.sub_zero]
   refine congrArg (fun z => c + z) (Bs fun p _ => ?_)
   unfold chgX chg rdL
   by_cases hu : upN l i = -1
   · rw [if_pos hu, if_pos hu]
   obtain ⟨k, hk1, hkl⟩ := ht.in_.nat hi hu
   rw [if_neg hu, if_neg hu, hk1, Int.toNat_natCast, B7 (hki k hk1), C0]
 by_cases hd : D j = true
 · rw [B7 e, if_pos hd, if_pos hd]
   refine Bs fun p _ => ?_
   unfold chg rdL
   by_cases hu : upN l j = -1
   · rw [if_pos hu, if_pos hu]
   obtain ⟨k, hk1, hkl⟩ := ht.in_.nat hj hu
   rw [if_neg hu, if_neg hu, hk1, Int.toNat_natCast, B7 (hup j hj hd k hk1), B7 e]
 rw [B7 e, if_neg hd, if_neg hd]
theorem QE (ht : IsTree l) : ∃ ρ : Nat → Nat, (∀ i, i < l.length → ρ i < l.length) ∧ ∀ i, i < l.length → ∀ k : Nat, upN l i = (k : Int) → ρ k < ρ i := by
 obtain ⟨h1, ρ, h2⟩ := ht.dag
 refine ⟨rankC ρ l.length, fun i hi => ?_, fun i hi k hu => ?_⟩
 · have := JM (p := fun j => decide (ρ j < ρ i)) (q := fun _ => true) (k := i) (fun _ _ => rfl) rfl (dF (by omega)) (List.mem_range.2 hi)
   unfold rankC
   have h9 : (List.range l.length).countP (fun _ => true) ≤ (List.range l.length).length := List.countP_le_length
   rw [List.length_range] at h9
   omega
 have he := KV hi hu
 exact HK (h1 _ he).1 (h2 _ he)
def lostL (xd : List Nat) (np i : Nat) (xs : List Int) : Nat → List Int
 | 0 => xs
 | p + 1 => if turnN xd (i * np + p) % 4 = 1 then (lostL xd np i xs p).set p 0 else lostL xd np i xs p
theorem Et {xd : List Nat} {np i : Nat} {xs : List Int} : ∀ p, (lostL xd np i xs p).length = xs.length
 | 0 => rfl
 | p + 1 => by unfold lostL; split; rw [List.length_set]; exact Et p; exact Et p
theorem HV {xd : List Nat} {np i : Nat} {xs : List Int} {q : Nat} : ∀ p, (lostL xd np i xs p)[q]?.getD 0 = 0 ∨ (lostL xd np i xs p)[q]?.getD 0 = xs[q]?.getD 0
 | 0 => .inr rfl
 | p + 1 => by
   unfold lostL
   split
   · rw [List.getElem?_set]
     by_cases h : p = q
     · subst h
       rw [if_pos rfl]
       split
       · exact .inl rfl
       exact .inl rfl
     rw [if_neg h]; exact HV p
   exact HV p
def toldE (s : Stm) (xd : List Nat) (Y : Nat → Int) (R : Nat → List Int) (i : Nat) : Edn :=
 ⟨(s.ed i).name, max 1450 (Y i - ((turnN xd i % 40 : Nat) : Int)), min 1850 (Y i + ((turnN xd (i + 1) % 40 : Nat) : Int)), lostL xd s.places.length i (R i) s.places.length⟩
def toldS (s : Stm) (xd : List Nat) (Y : Nat → Int) (R : Nat → List Int) : Stm := ⟨s.places, (List.range s.editions.length).map (toldE s xd Y R)⟩
variable {xd : List Nat}
theorem BD : (toldS s xd Y R).editions.length = s.editions.length := by simp [toldS]
theorem Kx {i : Nat} (hi : i < s.editions.length) : (toldS s xd Y R).ed i = toldE s xd Y R i := by simp [Stm.ed, toldS, hi]
theorem Tj {p : Nat} : freeP (toldS s xd Y R) p = freeP s p := rfl
structure ToldI (s : Stm) (l : List Int) (Y : Nat → Int) (R : Nat → List Int) (c : Int) : Prop where
 len : ∀ i, i < l.length → (R i).length = s.places.length
 val : ∀ i, i < l.length → ∀ x ∈ R i, 1 ≤ x ∧ x ≤ 3
 lo : ∀ i, i < l.length → 1450 ≤ Y i ∧ Y i ≤ 1850
 src : ∀ i, i < l.length → ∀ k : Nat, upN l i = (k : Int) → Y k < Y i ∧ ∀ p, p < s.places.length → stepOk (freeP s p) (rdL R p k) (rdL R p i)
 cnt : c = sumN l.length fun i => sumN s.places.length (fun p => chg l (rdL R p) i)
theorem TellI.all (h : TellI s l ρ D Y R c) (hd : ∀ i, i < l.length → D i = true) (hn : l.length ≤ 5) (hρ : ∀ i, i < l.length → ρ i < l.length) : ToldI s l Y R c :=
 ⟨fun i hi => h.len i hi (hd i hi), fun i hi => h.val i hi (hd i hi), fun i hi => by have := h.lo i hi (hd i hi); have := hρ i hi; omega,
  fun i hi k hu => (h.src i hi (hd i hi) k hu).2, by rw [h.cnt]; exact Bs fun i hi => if_pos (hd i hi)⟩
theorem ToldI.at (h : ToldI s l Y R c) {i : Nat} (hi : i < l.length) {p : Nat} (hp : p < s.places.length) : 1 ≤ rdL R p i ∧ rdL R p i ≤ 3 := by
 have hl := h.len i hi
 unfold rdL
 rw [List.getElem?_eq_getElem (by omega)]
 exact h.val i hi _ (List.getElem_mem _)
theorem ToldI.check (h : ToldI s l Y R c) (h0 : (checkT s).2.2 = 0) (hll : l.length = s.editions.length) : (checkT (toldS s xd Y R)).2.2 = 0 := by
 have hc := Jh.1 h0
 have hn : (toldS s xd Y R).editions.map (·.name) = s.editions.map (·.name) := by
   refine List.ext_getElem (by simp [toldS]) fun i h1 h2 => ?_
   have hi : i < s.editions.length := by simpa using h2
   simp [toldS, toldE, Stm.ed, hi]
 refine Jh.2 ⟨hc.np, hc.pl, hc.pn, by rw [BD]; exact hc.ne, fun x hx => ?_, by rw [hn]; exact hc.en⟩
 obtain ⟨i, hi, rfl⟩ := List.mem_map.1 hx
 have hi' : i < s.editions.length := List.mem_range.1 hi
 refine ⟨(hc.ed (s.ed i) (by rw [← ed_at hi']; exact List.getElem_mem hi')).1, ?_⟩
 have hy := h.lo i (by omega)
 have hl := h.len i (by omega)
 unfold ednErr
 rw [if_neg, if_neg, if_neg, if_neg]
 · intro h5
   rw [List.any_eq_true] at h5
   obtain ⟨z, hz, hb⟩ := h5
   obtain ⟨q, hq, rfl⟩ := List.getElem_of_mem hz
   have hq' : q < (R i).length := by rw [← Et (xd := xd) (np := s.places.length) (i := i) (xs := R i) s.places.length]; exact hq
   have hv := h.at (i := i) (p := q) (by omega) (by omega)
   have := HV (xd := xd) (np := s.places.length) (i := i) (xs := R i) (q := q) s.places.length
   rw [List.getElem?_eq_getElem (show q < (lostL xd s.places.length i (R i) s.places.length).length from hq)] at this
   have e : (R i)[q]?.getD 0 = rdL R q i := rfl
   rw [e] at this
   have hb' : inB 0 3 ((lostL xd s.places.length i (R i) s.places.length)[q]'hq) = true := by
     simp only [Option.getD_some] at this
     unfold inB
     simp only [Bool.and_eq_true, decide_eq_true_eq]
     omega
   rw [show ((toldE s xd Y R i).rd[q]'hq) = (lostL xd s.places.length i (R i) s.places.length)[q]'hq from rfl, hb'] at hb
   cases hb
 · show ¬ (lostL xd s.places.length i (R i) s.places.length).length ≠ s.places.length
   rw [Et]; exact fun h => h hl
 · show ¬ (min 1850 _ : Int) < max 1450 _
   omega
 show ¬ ((inB 1450 1850 (max 1450 _) && inB 1450 1850 (min 1850 _)) = false)
 unfold inB
 simp only [Bool.and_eq_false_iff, decide_eq_false_iff_not]
 omega
theorem ToldI.years (h : ToldI s l Y R c) (hll : l.length = s.editions.length) (ht : IsTree l) {i : Nat} (hi : i < s.editions.length) : firstY (toldS s xd Y R) (treeE l) i ≤ Y i ∧ Y i ≤ lastY (toldS s xd Y R) (treeE l) i := by
 refine KH (s := toldS s xd Y R) (L := Y) (fun e he => ?_) (fun j hj => ?_) (fun e he => ?_) i (by rw [BD]; exact hi)
 · obtain ⟨h1, h2, -⟩ := ht.edge he
   rw [BD]; omega
 · rw [BD] at hj
   rw [Kx hj]
   have := h.lo j (by omega)
   show (max 1450 _ : Int) ≤ _ ∧ _ ≤ (min 1850 _ : Int)
   omega
 obtain ⟨h1, h2, h3⟩ := ht.edge he
 have := (h.src e.2 h2 e.1 h3).1
 omega
theorem ToldI.fits (h : ToldI s l Y R c) (hll : l.length = s.editions.length) (ht : IsTree l) : fitsT (toldS s xd Y R) l = true := by
 unfold fitsT
 rw [Dr]
 intro i hi
 rw [BD] at hi
 have h1 := (h.years (xd := xd) hll ht hi).1
 refine Int.le_trans h1 ?_
 rw [Kx hi]
 have := h.lo i (by omega)
 show _ ≤ (min 1850 _ : Int)
 omega
theorem ToldI.cost (h : ToldI s l Y R c) (h0 : (checkT s).2.2 = 0) (hll : l.length = s.editions.length) (ht : IsTree l) : costL (toldS s xd Y R) l < 1000 ∧ costL (toldS s xd Y R) l ≤ c := by
 have hv := Cj (h.check (xd := xd) h0 hll)
 have hle : ∀ p, p < s.places.length → leastL (toldS s xd Y R) l p ≤ changesOf l (rdL R p) := fun p hp => by
   refine Fe ht.in_ (by rw [BD]; exact hll) ⟨fun i hi => h.at hi hp, fun i hi => ?_⟩ fun i hi hu => ?_
   · unfold fitR Stm.r
     rw [Kx (by omega)]
     exact HV _
   obtain ⟨k, hk, hkl⟩ := ht.in_.nat hi hu
   rw [hk, Int.toNat_natCast, Tj]
   exact (h.src i hi k hk).2 p hp
 have hc : costL (toldS s xd Y R) l < 1000 := (PX hv (by rw [BD]; exact hll)).2 ⟨h.fits hll ht, fun p hp => by
   have := hle p hp
   have := (CN (l := l) (g := rdL R p)).2
   have := hv.ne
   rw [BD] at this
   omega⟩
 refine ⟨hc, ?_⟩
 rw [(Je hc).1, h.cnt, J2]
 exact Fs hle
end
end
section
open Go
theorem FL {l : List Int} {R : Nat → List Int} {i p : Nat} {r : Int} : 0 ≤ chgX l R i p r ∧ chgX l R i p r ≤ 1 := by unfold chgX; split; omega; split <;> omega
theorem S3 {xs : List Int} {r : Int} {q : Nat} (h : q < xs.length) : (xs ++ [r])[q]?.getD 0 = xs[q]?.getD 0 := by rw [List.getElem?_append_left h]
theorem S4 {xs : List Int} {r : Int} : (xs ++ [r])[xs.length]?.getD 0 = r := by simp
theorem MJ {c : Int} {l : List Int} {R : Nat → List Int} {j p : Nat} {r : Int} {xs : List Int} (h : xs.length = p) : c + sumN p (fun q => chgX l R j q (xs[q]?.getD 0)) + chgX l R j p r = c + sumN (p + 1) (fun q => chgX l R j q ((xs ++ [r])[q]?.getD 0)) := by
 subst h
 simp only [sumN]
 rw [S4, Bs (f := fun q => chgX l R j q ((xs ++ [r])[q]?.getD 0)) (g := fun q => chgX l R j q (xs[q]?.getD 0)) fun q hq => by rw [S3 hq]]
 omega
theorem ON {r : Int} {xs : List Int} (h : ∀ x ∈ xs, 1 ≤ x ∧ x ≤ 3) (hr : 1 ≤ r ∧ r ≤ 3) : ∀ x ∈ xs ++ [r], 1 ≤ x ∧ x ≤ 3 := fun x hx => by
 rcases List.mem_append.1 hx with hx | hx
 · exact h x hx
 rw [List.mem_singleton.1 hx]; exact hr
theorem MI {l : List Int} {s : Stm} {R : Nat → List Int} {j p : Nat} {r : Int} {xs : List Int} (h : xs.length = p) (hk : ∀ k : Nat, upN l j = (k : Int) → ∀ q, q < p → stepOk (freeP s q) (rdL R q k) (xs[q]?.getD 0)) (hr : ∀ k : Nat, upN l j = (k : Int) → stepOk (freeP s p) (rdL R p k) r) :
   ∀ k : Nat, upN l j = (k : Int) → ∀ q, q < p + 1 → stepOk (freeP s q) (rdL R q k) ((xs ++ [r])[q]?.getD 0) := fun k hu q hq => by
 subst h
 by_cases e : q = xs.length
 · subst e; rw [S4]; exact hr k hu
 rw [S3 (by omega)]; exact hk k hu q (by omega)
theorem TQ {xd : List Nat} {np i : Nat} {xs : List Int} {p : Nat} (h : turnN xd (i * np + p) % 4 = 1) : lostL xd np i xs (p + 1) = (lostL xd np i xs p).set p 0 := if_pos h
theorem Vz {xd : List Nat} {np i : Nat} {xs : List Int} {p : Nat} (h : ¬ turnN xd (i * np + p) % 4 = 1) : lostL xd np i xs (p + 1) = lostL xd np i xs p := if_neg h
@[reducible] def valE (v : Value) : List Value := [v]
def vL (W : Nat → Value) (n : Nat) : List Value := (List.range n).map W
theorem Jw {W : Nat → Value} {n : Nat} : (vL W n).length = n := by simp [vL]
theorem EU {l : List Value} : l.flatMap valE = l := by
 induction l with
 | nil => rfl
 | cons a l ih => rw [List.flatMap_cons, ih]; rfl
theorem vL_zero {v : Value} {n : Nat} : List.replicate n v = (vL (fun _ => v) n).flatMap valE := by
 rw [EU]
 refine List.ext_getElem (by simp [vL]) fun i h1 h2 => ?_
 simp [vL]
theorem OF {W : Nat → Value} {n i : Nat} (h : i < (vL W n).length) : (vL W n)[i] = W i := by simp [vL]
theorem Jy {W : Nat → Value} {n i : Nat} (h : i < n) : ((vL W n).flatMap valE)[i * 1]? = some (W i) := by
 rw [EU, Nat.mul_one, List.getElem?_eq_getElem (by rw [Jw]; exact h), OF]
theorem RT {W : Nat → Value} {n : Nat} : ((vL W n).flatMap valE).length = n := by rw [EU, Jw]
theorem U8 {W : Nat → Value} {n i : Nat} {v : Value} (_h : i < n) : ((vL W n).flatMap valE).set (i * 1) v = (vL (updA W i v) n).flatMap valE := by
 rw [EU, EU, Nat.mul_one]
 refine List.ext_getElem (by simp [vL]) fun j h1 h2 => ?_
 rw [List.getElem_set]
 by_cases h : i = j
 · subst h; rw [if_pos rfl, OF, C0]
 rw [if_neg h, OF, OF, B7 (fun k => h k.symm)]
theorem GB {α : Type} {f : Nat → α} {i : Nat} {v w : α} : updA (updA f i v) i w = updA f i w := by funext j; unfold updA; split <;> rfl
theorem MF {α : Type} {f : Nat → α} {i : Nat} {v : α} (h : f i = v) : updA f i v = f := by funext j; unfold updA; split; rename_i e; subst e; exact h.symm; rfl
theorem K6 {f : Nat → Int} {n i : Nat} {v : Int} (h : i < n) : ((iL f n).flatMap intE).set (i * 1) (.int .i64 v) = (iL (updA f i v) n).flatMap intE := Rk h
theorem DC {b n c : Nat} : addc (base (.slice (some ⟨b, 0, none⟩) n n)) (c * 1) = ⟨b, c * 1, none⟩ := by simp [base, addc]
theorem C9 {F : Heap} {H : List (Nat × Obj)} {b c n T : Nat} {l : List Value} {v : Value} (i : Nat) (hi : H[i]? = some (b, bx T l)) (hc : l[c * 1]? = some v) : Cell ⟨F, H⟩ (addc (base (.slice (some ⟨b, 0, none⟩) n n)) (c * 1)) v := by
 rw [DC]; exact Cell.own i hi hc
structure TellR (F : Heap) (n : Nat) (W : Nat → Value) (D : Nat → Bool) (R : Nat → List Int) : Prop where
 rd : ∀ i, i < n → D i = true → Ints F (W i) (R i)
 no : ∀ i, i < n → D i = false → W i = .slice none 0 0
theorem TellR.mono {F F' : Heap} {n : Nat} {W : Nat → Value} {D : Nat → Bool} {R : Nat → List Int} (h : TellR F n W D R) (hF : F.le F') : TellR F' n W D R := ⟨fun i hi hd => (h.rd i hi hd).mono hF, h.no⟩
theorem TellR.start {F : Heap} {n : Nat} : TellR F n (fun _ => .slice none 0 0) (fun _ => false) (fun _ => []) := ⟨(fun _ _ h => nomatch h), fun _ _ _ => rfl⟩
theorem TellR.step {F : Heap} {n : Nat} {W : Nat → Value} {D : Nat → Bool} {R : Nat → List Int} (h : TellR F n W D R) {i : Nat} {w : Value} {xs : List Int} (hw : Ints F w xs) : TellR F n (updA W i w) (updA D i true) (updA R i xs) :=
 ⟨fun j hj hd => by
   by_cases e : j = i
   · subst e; rw [C0, C0]; exact hw
   rw [B7 e] at hd; rw [B7 e, B7 e]; exact h.rd j hj hd,
  fun j hj hd => by
   by_cases e : j = i
   · subst e; rw [C0] at hd; cases hd
   rw [B7 e] at hd; rw [B7 e]; exact h.no j hj hd⟩
structure TellQ (F : Heap) (ps qs : List (Value × Edn)) (s : Stm) (xd : List Nat) (Y : Nat → Int) (R : Nat → List Int) (i : Nat) : Prop where
 len : qs.length = ps.length
 done : ∀ j (h : j < qs.length), j < i → qs[j].2 = toldE s xd Y R j ∧ Ints F qs[j].1 (toldE s xd Y R j).rd
 left : ∀ j (h : j < qs.length) (h2 : j < ps.length), i ≤ j → qs[j] = ps[j]
section
variable {F : Heap} {ps qs : List (Value × Edn)} {s : Stm} {xd : List Nat} {Y : Nat → Int} {R : Nat → List Int} {i : Nat}
theorem TellQ.mono {F' : Heap} (h : TellQ F ps qs s xd Y R i) (hF : F.le F') : TellQ F' ps qs s xd Y R i := ⟨h.len, fun j hj hi => ⟨(h.done j hj hi).1, (h.done j hj hi).2.mono hF⟩, h.left⟩
theorem TellQ.start : TellQ F ps ps s xd Y R 0 := ⟨rfl, fun j _ h => absurd h (by omega), fun _ _ _ _ => rfl⟩
theorem TellQ.step (h : TellQ F ps qs s xd Y R i) (_hi : i < qs.length) {w : Value} (hw : Ints F w (toldE s xd Y R i).rd) : TellQ F ps (qs.set i (w, toldE s xd Y R i)) s xd Y R (i + 1) := by
 refine ⟨by rw [List.length_set]; exact h.len, fun j hj hji => ?_, fun j hj h2 hij => ?_⟩
 · rw [List.length_set] at hj
   rw [List.getElem_set]
   by_cases e : i = j
   · subst e; rw [if_pos rfl]; exact ⟨rfl, hw⟩
   rw [if_neg e]; exact h.done j hj (by omega)
 rw [List.length_set] at hj
 rw [List.getElem_set, if_neg (by omega)]
 exact h.left j hj h2 (by omega)
theorem TellQ.stm {vp ve w : Value} (h : TellQ F ps qs s xd Y R ps.length) (hr : StmR F vp ve ps s) (hw : Sl F w 4 edE qs) : StmR F vp w qs (toldS s xd Y R) := by
 refine ⟨hr.places, hw, fun q hq => ?_, ?_⟩
 · obtain ⟨j, hj, rfl⟩ := List.getElem_of_mem hq
   obtain ⟨h1, h2⟩ := h.done j hj (by have := h.len; omega)
   rw [h1]; exact h2
 have hl := h.len
 have hl2 := hr.len
 refine List.ext_getElem (by simp [toldS]; omega) fun j h1 h2 => ?_
 rw [List.getElem_map, (h.done j (by simpa using h1) (by have := h1; rw [List.length_map] at this; omega)).1]
 simp [toldS]
end
theorem PO {E : Nat} {w : Value} {R : List (Nat × Obj)} {qs : List (Value × Edn)} {i : Nat} {a b : Int} (h : Own E 4 w qs.length (((qs.flatMap edE).set (i * 4 + 1) (.int .i64 a)).set (i * 4 + 1 + 1) (.int .i64 b)) R) (hi : i < qs.length) :
   Own E 4 w (qs.set i (qs[i].1, ⟨qs[i].2.name, a, b, qs[i].2.rd⟩)).length ((qs.set i (qs[i].1, ⟨qs[i].2.name, a, b, qs[i].2.rd⟩)).flatMap edE) R := by
 rw [De Da (j := 1) (x := (qs[i].1, ⟨qs[i].2.name, a, qs[i].2.hi, qs[i].2.rd⟩)) (by omega) qs i hi rfl, show i * 4 + 1 + 1 = i * 4 + 2 from rfl,
   De Da (j := 2) (x := (qs[i].1, ⟨qs[i].2.name, a, b, qs[i].2.rd⟩)) (by omega) _ i (by rw [List.length_set]; exact hi) (by rw [List.getElem_set_self]; rfl), List.set_set] at h
 rw [List.length_set]; exact h
theorem Ud {E : Nat} {w u : Value} {R : List (Nat × Obj)} {qs : List (Value × Edn)} {i : Nat} {y : Value × Edn} {x : Edn} (hi : i < qs.length) (h : Own E 4 w (qs.set i y).length (((qs.set i y).flatMap edE).set (i * 4 + 3) u) R) (h1 : y.2.name = x.name) (h2 : y.2.lo = x.lo) (h3 : y.2.hi = x.hi) :
   Own E 4 w (qs.set i (u, x)).length ((qs.set i (u, x)).flatMap edE) R := by
 rw [De Da (j := 3) (x := (u, x)) (by omega) _ i (by rw [List.length_set]; exact hi) (by rw [List.getElem_set_self]; simp [edE, h1, h2, h3]), List.set_set, List.length_set] at h
 rw [List.length_set]; exact h
end
end Go.Proofs.YtkjfmibiinfhfabGreat
