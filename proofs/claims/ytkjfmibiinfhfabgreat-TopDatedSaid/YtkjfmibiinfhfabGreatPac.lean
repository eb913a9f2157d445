/-
  A part of a proof: TopDated returns true of any case of paper, any stem and any past, and leaves what it is handed as it was. No conditions.
-/
import Derived.Test.YtkjfmibiinfhfabGreatPab
namespace Go.Proofs.YtkjfmibiinfhfabGreat
set_option synthInstance.maxSize 4000
set_option synthInstance.maxHeartbeats 1000000
section
set_option maxRecDepth 100000
open Go.RowKit
theorem zr_9 : ZeroT Tryz.prog 9 (.string ⟨#[]⟩) := Bv (by kernel_rfl)
theorem RL : AggT Tryz.prog 30 2 := Cx (by kernel_rfl)
instance : AggI Tryz.prog 30 2 := ⟨RL⟩
theorem N5 : Body Tryz.prog 18 := AF (by kernel_rfl)
theorem bd_21 : Body Tryz.prog 21 := AF (by kernel_rfl)
theorem el_9 : ElemT Tryz.prog 9 1 16 (.string ⟨#[]⟩) := EA (by kernel_rfl) rfl (by decide)
theorem Fx {F : Heap} {vp ve : Value} {ps : List (Value × Edn)} {s : Stm} (hr : StmR F vp ve ps s) : Ok Tryz.prog 5 [.agg #[vp, ve]].toArray F fun r _ => r = checkTV s := by
 refine Ok.intro Tryz.func5 rfl Tryz.ntmps5 rfl fun w0 => ?_
 have hL1 := hr.places.plain.lt
 have hL2 := hr.eds.plain.lt
 by_cases h1 : inB 1 6 s.places.length = true
 ·have hp6 : s.places.length ≤ 6 := by have h := h1; unfold inB at h; simp at h; omega
  refine Ac <| Al fun ds => A3 rfl <| Bc Aa rfl fun b1 hb1 nb1 => As (Ae 3) <| Ac <| Aw (Ae 2) fun ds => Af rfl (A6 BO Aa hr.places.plain) <| AS rfl (Ay Gy Aa AY (E6 _ _ _) (fun _ _ h => h)) <| As (Ae 1) <| Ad Aa (by rw [h1]; rfl) <| Aj <| Ab <| AI (Ae 1) <| Ac <| AI (Ae 1) <| Ak ?_
  refine AJ [2, 3, 4, 5, 6, 7, 15, 16, 17, 18, 19, 20, 21, 22, 23, 24, 25, 26, 27, 28, 29, 30, 31, 32, 33, 34, 35, 36, 37, 38, 39, 40, 41, 42, 43, 44, 45, 46, 47, 48, 49, 50, 51, 52, 53, 54] (fun m e σ => ∃ k : Nat, m + k = s.places.length ∧ Fct e 6 (.int .i64 (k : Int)) ∧ ∃ (v : Value) (R : List (Nat × Obj)), Fct e 5 v ∧ Own 9 1 v (pnames s k).length ((pnames s k).flatMap strE) R ∧ σ = ⟨F, (b1, bx 30 [vp, ve]) :: R⟩ ∧ ∀ j, j < k → plcErr s j = 0) (s.places.length) ?_ ?_
  · exact ⟨0, by omega, Bb, _, _, Bb, Own.nil, rfl, fun j h => absurd h (by omega)⟩
  rintro m e _ ⟨k, hm, hs6, v4, R4, hs5, ho, rfl, hno⟩
  by_cases hlt : k < s.places.length
  ·have hnl := QU (Nat.le_of_lt hlt)
   refine Ac <| Aw (Ae 3) fun ds => Af rfl (A6 BO Aa hr.places.plain) <| As (Ae 1) <| Ag Aa (by first | rfl | exact dT (by omega)) ?_
   by_cases hf : freshE s.places[k].name (pnames s k) = 0
   ·refine Aj <| Ab <| Ac <| Ak <| Aw (Ae 3) fun ds => Af rfl (Ax (k := k) BO Aa hr.places.plain Aa rfl hlt) <| Ao (Ae 1) <| Af rfl (Ah DU Aa (hr.places.cell hlt rfl)) <| Ao (Ae 1) <| AS rfl (FA N5 Aa AY (fun G _ hG => Fg (ho.sl (fun _ => rfl) (fun p hp => hG p (List.mem_cons_of_mem _ hp)) (by omega)) _) (fun _ _ h => h)) <| As (Ae 1) <| Ac <| Aw (Ae 3) fun ds => Ap rfl rfl Aa (dT hf) <| Ao (Ae 1) <| Ap rfl rfl Aa (dT hf) <| Ao (Ae 1) <| Ap rfl rfl Aa (dT hf) <| Ao (Ae 1) <| Ap rfl rfl Aa (dT hf) <| Af rfl (Ax (k := k) BO Aa hr.places.plain Aa rfl hlt) <| Ap rfl rfl Aa (dT hf) <| Ao (Ae 1) <| Ap rfl rfl Aa (dT hf) <| Af rfl (Ah AA Aa (hr.places.cell hlt rfl)) <| Ap rfl rfl Aa (dT hf) <| AS rfl (Ay Gy Aa AY (E6 _ _ _) (fun _ _ h => h)) <| Ap rfl rfl Aa (dT hf) <| Ao (Ae 1) <| Af rfl (Au Aa (dT hf) Aa) <| Am <| Ab ?_
    by_cases hv : inB 0 1 s.places[k].kind = true
    ·refine Ad Aa (by rw [hv]; rfl) <| Aj <| Ab <| Ac <| AI (Ae 2) <| Ad Aa (dF (fun h => h hf)) <| Aj <| Ab <| Al fun ds => Ao (Ae 4) <| Af rfl (Ax (k := k) BO Aa hr.places.plain Aa rfl hlt) <| Ao (Ae 1) <| Af rfl (Ah DU Aa (hr.places.cell hlt rfl)) <| A3 rfl <| AU EY zr_9 rfl (.cons Aa .nil) rfl rfl (by decide) (by simp [Value.oneCell']) fun b3 hb3 nb3 => A3 rfl <| Bi EY el_9 Aa ho Aa (BA (s := 1) 0 rfl rfl (by simp [Value.oneCell'])) (by omega) (by omega) (.s <| .s <| .z) .last fun v4 R5 ho6 => ?_
     have ho2 := ho6.snoc (x := s.places[k].name) rfl rfl
     refine Ao (Ae 1) <| Am <| Az <| Ab <| By (fun _ _ h => h.drop (kD <| kK <| .refl _)) <| Al fun ds => Ao (Ae 1) <| Af rfl (AE Aa Aa rfl (by omega) (by omega)) <| Ao (Ae 1) <| Am ?_
     refine Ab ⟨_, m - 1, Off.eq (Cv rfl <| BT rfl <| BY rfl <| A2), by omega, ?_⟩
     refine ⟨k + 1, by omega, Bb, _, _, Bb, by rw [Pm hlt]; exact ho2, rfl, fun j hjk => ?_⟩
     rcases Nat.lt_succ_iff_lt_or_eq.1 hjk with hjk | rfl
     · exact hno j hjk
     rw [FC hlt, if_neg (fun h => h hf), hv]; rfl
    replace hv : inB 0 1 s.places[k].kind = false := by simpa using hv
    refine Ag Aa (by rw [hv]; rfl) <| Al fun ds => As (Ae 1) <| Ac <| AI (Ae 2) <| Ag Aa (by first | rfl | decide) <| AI (Ae 5) <| At ?_
    refine A1 (A8 (A1 (A1 (A8 (A1 ?_)))))
    refine Aq rfl Bf ?_
    have hE : plcErr s k = 7 := by rw [FC hlt]; simp [hf, hv]
    rw [← hE]
    exact (LW h1 (B0 hlt hno (by rw [hE]; decide)) (by rw [hE]; decide)).symm
   refine Aj <| Ab <| Ac <| Ak <| Aw (Ae 3) fun ds => Af rfl (Ax (k := k) BO Aa hr.places.plain Aa rfl hlt) <| Ao (Ae 1) <| Af rfl (Ah DU Aa (hr.places.cell hlt rfl)) <| Ao (Ae 1) <| AS rfl (FA N5 Aa AY (fun G _ hG => Fg (ho.sl (fun _ => rfl) (fun p hp => hG p (List.mem_cons_of_mem _ hp)) (by omega)) _) (fun _ _ h => h)) <| As (Ae 1) <| Ac <| Aw (Ae 3) fun ds => Ar rfl rfl Aa (.inl (congrArg Value.bool (dF hf))) rfl <| Ar rfl rfl Aa (.inl (congrArg Value.bool (dF hf))) rfl <| Ar rfl rfl Aa (.inl (congrArg Value.bool (dF hf))) rfl <| Ar rfl rfl Aa (.inl (congrArg Value.bool (dF hf))) rfl <| Ar rfl rfl Aa (.inl (congrArg Value.bool (dF hf))) rfl <| Ar rfl rfl Aa (.inl (congrArg Value.bool (dF hf))) rfl <| Ar rfl rfl Aa (.inl (congrArg Value.bool (dF hf))) rfl <| Ar rfl rfl Aa (.inl (congrArg Value.bool (dF hf))) rfl <| Af rfl (A5 Aa (dF hf) Aa) <| Am <| Ab <| Ad Aa rfl <| Aj <| Ab <| Ac <| AI (Ae 2) <| Ag Aa (dT hf) <| AI (Ae 5) <| At ?_
   refine A1 (A8 (A1 (A1 (A8 (A1 ?_)))))
   refine Aq rfl Bf ?_
   have hE : plcErr s k = freshE s.places[k].name (pnames s k) := by rw [FC hlt]; simp [hf]
   rw [← hE]
   exact (LW h1 (B0 hlt hno (by rw [hE]; exact hf)) (by rw [hE]; exact hf)).symm
  refine Ac <| Aw (Ae 3) fun ds => Af rfl (A6 BO Aa hr.places.plain) <| As (Ae 1) <| Ad Aa (by first | rfl | exact dF (by omega)) ?_
  have h2 : firstQ s.places.length (plcErr s) = (0, 0) := BU fun j hj => hno j (by omega)
  refine SS (.cons (.here) <| .nil) ?_
  by_cases h3 : inB 1 5 s.editions.length = true
  ·have he5 : ps.length ≤ 5 := by have h := h3; have := hr.len; unfold inB at h; simp at h; omega
   refine AC ?_
   refine A0 <| A0 <| A4 <| Ab <| Ac <| Aw (Ae 2) fun ds => Af rfl (A6 Bl Aa hr.eds.plain) <| AS rfl (Ay Gy Aa AY (E6 _ _ _) (fun _ _ h => h)) <| As (Ae 1) <| Ad Aa (by simp [hr.len, h3]) <| Aj <| Ab <| AI (Ae 1) <| Ac <| AI (Ae 1) <| Ak ?_
   refine AJ [2, 3, 4, 5, 8, 9, 60, 61, 62, 63, 64, 65, 66, 67, 68, 69, 70, 71, 72, 73, 74, 75, 76, 77, 78, 79, 80, 81, 82, 83, 84, 85, 86, 87, 88, 89, 90, 91, 92, 93, 94, 95, 96] (fun m e σ => ∃ k : Nat, m + k = ps.length ∧ Fct e 8 (.int .i64 (k : Int)) ∧ ∃ (v : Value) (R : List (Nat × Obj)), Fct e 5 v ∧ Own 9 1 v (enames s k).length ((enames s k).flatMap strE) R ∧ σ = ⟨F, (b1, bx 30 [vp, ve]) :: R⟩ ∧ ∀ j, j < k → edErr s j = 0) (ps.length) ?_ ?_
   · exact ⟨0, by omega, Bb, _, _, Bb, Own.nil, rfl, fun j h => absurd h (by omega)⟩
   rintro m e _ ⟨k, hm, hs8, v5, R5, hs5, ho, rfl, hno⟩
   by_cases hlt : k < ps.length
   ·have hke : k < s.editions.length := by rw [← hr.len]; exact hlt
    have hea := hr.at hlt
    have hnl := Rr (Nat.le_of_lt hke)
    refine Ac <| Aw (Ae 3) fun ds => Af rfl (A6 Bl Aa hr.eds.plain) <| As (Ae 1) <| Ag Aa (by first | rfl | exact dT (by omega)) ?_
    by_cases hf : freshE ps[k].2.name (enames s k) = 0
    ·refine Aj <| Ab <| Ac <| Ak <| Aw (Ae 3) fun ds => Af rfl (Ax (k := k) Bl Aa hr.eds.plain Aa rfl hlt) <| Ao (Ae 1) <| Af rfl (Ah DU Aa (hr.eds.cell hlt rfl)) <| Ao (Ae 1) <| AS rfl (FA N5 Aa AY (fun G _ hG => Fg (ho.sl (fun _ => rfl) (fun p hp => hG p (List.mem_cons_of_mem _ hp)) (by omega)) _) (fun _ _ h => h)) <| As (Ae 1) <| Ac <| AI (Ae 2) <| Ag Aa (dT hf) ?_
     by_cases he : ednErr s ps[k].2 = 0
     ·refine Bx (.inl rfl) (fun _ _ h => h) (by kernel_rfl) (by kernel_rfl) fun ds => Ba (Ae 4) <| AX rfl (Ax (k := k) Bl Aa hr.eds.plain Aa rfl hlt) <| AX rfl (AO ED Aa rfl rfl (hr.eds.whole hlt)) <| GS rfl (Ay bd_21 Aa AY (GV hr (hr.rds _ (List.getElem_mem hlt))) (fun _ _ h => h)) <| Ba (Ae 1) <| B9 <| Ab <| Ac <| AI (Ae 2) <| Ad Aa (dF (fun h => h he)) <| Aj <| Ab <| Al fun ds => Ao (Ae 4) <| Af rfl (Ax (k := k) Bl Aa hr.eds.plain Aa rfl hlt) <| Ao (Ae 1) <| Af rfl (Ah DU Aa (hr.eds.cell hlt rfl)) <| A3 rfl <| AU EY zr_9 rfl (.cons Aa .nil) rfl rfl (by decide) (by simp [Value.oneCell']) fun b8 hb8 nb8 => A3 rfl <| Bi EY el_9 Aa ho Aa (BA (s := 1) 0 rfl rfl (by simp [Value.oneCell'])) (by omega) (by omega) (.s <| .s <| .z) .last fun v9 R10 ho11 => ?_
      have ho2 := ho11.snoc (x := ps[k].2.name) rfl rfl
      refine Ao (Ae 1) <| Am <| Az <| Ab <| By (fun _ _ h => h.drop (kD <| kK <| .refl _)) <| Al fun ds => Ao (Ae 1) <| Af rfl (AE Aa Aa rfl (by omega) (by omega)) <| Ao (Ae 1) <| Am ?_
      refine Ab ⟨_, m - 1, Off.eq (Cv rfl <| Ci rfl <| Cw rfl <| BY rfl <| A2), by omega, ?_⟩
      refine ⟨k + 1, by omega, Bb, _, _, Bb, by rw [PM hke, ← hea]; exact ho2, rfl, fun j hjk => ?_⟩
      rcases Nat.lt_succ_iff_lt_or_eq.1 hjk with hjk | rfl
      · exact hno j hjk
      rw [Gn hke, ← hea, if_neg (fun h => h hf)]; exact he
     refine Bx (.inl rfl) (fun _ _ h => h) (by kernel_rfl) (by kernel_rfl) fun ds => Ba (Ae 4) <| AX rfl (Ax (k := k) Bl Aa hr.eds.plain Aa rfl hlt) <| AX rfl (AO ED Aa rfl rfl (hr.eds.whole hlt)) <| GS rfl (Ay bd_21 Aa AY (GV hr (hr.rds _ (List.getElem_mem hlt))) (fun _ _ h => h)) <| Ba (Ae 1) <| B9 <| Ab <| Ac <| AI (Ae 2) <| Ag Aa (dT he) <| AI (Ae 5) <| At ?_
     refine A1 (A8 (A1 (A1 (A8 (A1 ?_)))))
     refine Aq rfl Bf ?_
     have hE : edErr s k = ednErr s ps[k].2 := by rw [Gn hke, ← hea]; simp [hf]
     rw [← hE]
     exact (LX h1 h2 h3 (B0 hke hno (by rw [hE]; exact he)) (by rw [hE]; exact he)).symm
    refine Aj <| Ab <| Ac <| Ak <| Aw (Ae 3) fun ds => Af rfl (Ax (k := k) Bl Aa hr.eds.plain Aa rfl hlt) <| Ao (Ae 1) <| Af rfl (Ah DU Aa (hr.eds.cell hlt rfl)) <| Ao (Ae 1) <| AS rfl (FA N5 Aa AY (fun G _ hG => Fg (ho.sl (fun _ => rfl) (fun p hp => hG p (List.mem_cons_of_mem _ hp)) (by omega)) _) (fun _ _ h => h)) <| As (Ae 1) <| Ac <| AI (Ae 2) <| Ad Aa (dF hf) <| Aj <| Ab <| Ac <| AI (Ae 2) <| Ag Aa (dT hf) <| AI (Ae 5) <| At ?_
    refine A1 (A8 (A1 (A1 (A8 (A1 ?_)))))
    refine Aq rfl Bf ?_
    have hE : edErr s k = freshE ps[k].2.name (enames s k) := by rw [Gn hke, ← hea]; simp [hf]
    rw [← hE]
    exact (LX h1 h2 h3 (B0 hke hno (by rw [hE]; exact hf)) (by rw [hE]; exact hf)).symm
   refine Ac <| Aw (Ae 3) fun ds => Af rfl (A6 Bl Aa hr.eds.plain) <| As (Ae 1) <| Ad Aa (by first | rfl | exact dF (by omega)) <| AC ?_
   refine A0 <| A0 <| A4 <| Ab <| AI (Ae 3) <| At <| Aq rfl Bf ?_
   exact (Qg h1 h2 h3 (BU fun j hj => hno j (by have := hr.len; omega))).symm
  replace h3 : inB 1 5 s.editions.length = false := by simpa using h3
  refine AC ?_
  refine A0 <| A0 <| A4 <| Ab <| Ac <| Aw (Ae 2) fun ds => Af rfl (A6 Bl Aa hr.eds.plain) <| AS rfl (Ay Gy Aa AY (E6 _ _ _) (fun _ _ h => h)) <| As (Ae 1) <| Ag Aa (by simp [hr.len, h3]) <| AI (Ae 3) <| At <| A1 <| Aq rfl Bf ?_
  exact (Qe h1 h2 h3).symm
 replace h1 : inB 1 6 s.places.length = false := by simpa using h1
 refine Ac <| Al fun ds => A3 rfl <| Bc Aa rfl fun b12 hb12 nb12 => As (Ae 3) <| Ac <| Aw (Ae 2) fun ds => Af rfl (A6 BO Aa hr.places.plain) <| AS rfl (Ay Gy Aa AY (E6 _ _ _) (fun _ _ h => h)) <| As (Ae 1) <| Ag Aa (by rw [h1]; rfl) <| AI (Ae 3) <| At <| A1 <| Aq rfl Bf ?_
 exact (Qf h1).symm
end
section
open Go.RowKit
theorem D5 : ElemT Tryz.prog 3 1 8 (.int .i64 0) := EA (by kernel_rfl) rfl (by decide)
end
section
set_option maxRecDepth 100000
open Go.RowKit
theorem Q7 : ZeroT Tryz.prog 159 (.agg #[.slice none 0 0, .slice none 0 0, .map none]) := Bv (by kernel_rfl)
theorem WH : Body Tryz.prog 102 := AF (by kernel_rfl)
theorem bt_159 : BuildT Tryz.prog 159 [.slice none 0 0, .slice none 0 0, .map none] [(0, 2), (2, 1)] := Cs Q7 (by kernel_rfl) (by decide)
theorem Gk : FieldT Tryz.prog 159 0 0 := Bd (by kernel_rfl)
instance : FieldI Tryz.prog 159 0 0 := ⟨Gk⟩
structure StmX (F : Heap) (b : Nat) (vp ve vm : Value) (ps : List (Value × Edn)) (s : Stm) : Prop where
 r : StmR F vp ve ps s
 blk : F b = some (bx 159 [vp, ve, vm])
theorem StmX.mono {F F' : Heap} {b : Nat} {vp ve vm : Value} {ps : List (Value × Edn)} {s : Stm} (h : StmX F b vp ve vm ps s) (hF : F.le F') : StmX F' b vp ve vm ps s := ⟨h.r.mono hF, hF _ _ h.blk⟩
def OpenR (F : Heap) (u : Value) (Hn : List (Nat × Obj)) (vp ve : Value) (ps : List (Value × Edn)) (s : Stm) : Prop := ∃ b kb, u = .tuple #[.pointer (some ⟨b, 0, none⟩), .int .i64 0] ∧ StmX F b vp ve (.map (some kb)) ps s ∧ Hn = [(kb, mapO [])]
theorem FD {F : Heap} {vp ve : Value} {ps : List (Value × Edn)} {s : Stm} (hr : StmR F vp ve ps s) (h0 : (checkT s).2.2 = 0) : OkN Tryz.prog 70 [.agg #[vp, ve]].toArray F fun u F' Hn => OpenR F' u Hn vp ve ps s := by
 refine OkN.intro Tryz.func70 rfl Tryz.ntmps70 rfl fun w0 => Ac <| Al fun ds => A3 rfl <| Bc Aa rfl fun b1 hb1 nb1 => As (Ae 2) <| Ac <| Aw (Ae 1) fun ds => AS rfl (Ay WH Aa AY (Ns hr) (fun _ _ h => h.trans (show checkTV s = .tuple #[.int .i64 (checkT s).1, .int .i64 (checkT s).2.1, .int .i64 (checkT s).2.2] from rfl))) <| As (Ae 7) <| AI (Ae 2) <| Ad Aa (dF (fun h => h h0)) <| Aj <| Ab <| Aw (Ae 1) fun ds => A3 rfl <| MD fun b2 hb2 nb2 => Af rfl (BE bt_159 (.cons Aa rfl (.cons Aa rfl .nil)) (.cons rfl rfl (Nat.le_of_ble_eq_true rfl) (.cons (.here) (.cons (.next <| .here) .nil)) (.cons rfl rfl (Nat.le_of_ble_eq_true rfl) (.cons (.next <| .next <| .here) .nil) .nil))) <| A3 rfl <| Bc Aa rfl fun b3 hb3 nb3 => As (Ae 2) <| AL (i := 0) rfl hb3 (.here) fun F4 hF5 hz => ?_
 replace hr := hr.mono hF5
 refine At <| CP rfl Bf (kK <| kD <| .refl _) ?_
 exact ⟨_, _, rfl, ⟨hr, hz⟩, rfl⟩
theorem HP {F : Heap} {vp ve : Value} {ps : List (Value × Edn)} {s : Stm} (hr : StmR F vp ve ps s) (h0 : (checkT s).2.2 ≠ 0) : Ok Tryz.prog 70 [.agg #[vp, ve]].toArray F fun u _ => u = .tuple #[.pointer none, .int .i64 (checkT s).2.2] := by
 refine Ok.intro Tryz.func70 rfl Tryz.ntmps70 rfl fun w0 => Ac <| Al fun ds => A3 rfl <| Bc Aa rfl fun b1 hb1 nb1 => As (Ae 2) <| Ac <| Aw (Ae 1) fun ds => AS rfl (Ay WH Aa AY (Ns hr) (fun _ _ h => h.trans (show checkTV s = .tuple #[.int .i64 (checkT s).1, .int .i64 (checkT s).2.1, .int .i64 (checkT s).2.2] from rfl))) <| As (Ae 7) <| AI (Ae 2) <| Ag Aa (dT h0) <| AI (Ae 3) <| At <| A1 <| Aq rfl Bf ?_
 rfl
theorem Q1 {F : Heap} {b : Nat} {vp ve vm : Value} {ps : List (Value × Edn)} {s : Stm} (hX : StmX F b vp ve vm ps s) (hv : ValidT s) {a c : Nat} (ha : a < s.editions.length) (hb : c < s.editions.length) : Ok Tryz.prog 72 [.pointer (some ⟨b, 0, none⟩), .int .i64 (a : Int), .int .i64 (c : Int)].toArray F fun u F' => Nats F' u (apartL s a c) := by
 refine Ok.intro Tryz.func72 rfl Tryz.ntmps72 rfl fun w0 => ?_
 have hap : a < ps.length := by rw [hX.r.len]; exact ha
 have hbp : c < ps.length := by rw [hX.r.len]; exact hb
 have hL := hv.np
 have hL1 := hX.r.places.plain.lt
 refine AI (Ae 1) <| Ac <| Aw (Ae 1) fun ds => Af rfl (AH Aa) <| Ao (Ae 2) <| Af rfl (Ah Ef Aa (AM hX.blk rfl)) <| Af rfl (A6 BO Aa hX.r.places.plain) <| As (Ae 1) <| Ak ?_
 refine AJ [6, 7, 8, 9, 16, 17, 18, 19, 20, 21, 22, 23, 24, 25, 26, 27, 28, 29, 30, 31, 32, 33, 34, 35, 36, 37, 38, 39, 40, 41, 42, 43, 44, 45, 46, 47, 48, 49, 50, 51, 52, 53, 54, 55, 56] (fun m e σ => ∃ k : Nat, m + k = s.places.length ∧ Fct e 16 (.int .i64 (k : Int)) ∧ ∃ v6 R6, Fct e 6 v6 ∧ Own 3 1 v6 (selN (differB s a c) k).length ((selN (differB s a c) k).flatMap natE) R6 ∧ σ = ⟨F, R6⟩) (s.places.length) ?_ ?_
 · exact ⟨0, by omega, Bb, _, _, Bb, Own.nil, rfl⟩
 rintro m e _ ⟨k, hm, hs16, v6, R6, hs6, ho, rfl⟩; have hsl := Dn (p := differB s a c) (k := k)
 by_cases hlt : k < s.places.length
 ·have hpa : k < (s.ed a).rd.length := by rw [hv.rdl a ha]; exact hlt
  have hpb : k < (s.ed c).rd.length := by rw [hv.rdl c hb]; exact hlt
  have hra := hX.r.rd hap
  have hrb := hX.r.rd hbp
  have hd3 := Rs hv ha hb hlt
  have e1 := FZ hpa
  have e2 := FZ hpb
  have k1 := hv.rd a k ha hlt
  have k2 := hv.rd c k hb hlt
  have k3 : 0 ≤ s.r a k * s.r c k ∧ s.r a k * s.r c k ≤ 9 := ⟨Int.mul_nonneg k1.1 k2.1, Int.le_trans (Int.mul_le_mul_of_nonneg_left k2.2 k1.1) (by omega)⟩
  refine AI (Ae 1) <| Ac <| Ag Aa (by first | rfl | exact dT (by omega)) ?_
  by_cases hne : s.r a k ≠ s.r c k
  ·refine Aj <| Ab <| Ac <| Ak <| AI (Ae 2) <| Ac <| Bx (.inl rfl) (fun _ _ h => h) (by kernel_rfl) (by kernel_rfl) fun ds => Ba (Ae 1) <| AX rfl (AH Aa) <| Ba (Ae 2) <| AX rfl (Ah B4 Aa (AM hX.blk rfl)) <| Ba (Ae 1) <| AX rfl (Ax (k := a) Bl Aa hX.r.eds.plain Aa rfl hap) <| Ba (Ae 1) <| AX rfl (Ah Br Aa (hX.r.eds.cell hap rfl)) <| Ba (Ae 1) <| AX rfl (Ax (k := k) A7 Aa hra.plain Aa rfl hpa) <| AX rfl (Ah AA Aa (hra.cell1 hpa rfl)) <| Ba (Ae 1) <| AX rfl (AH Aa) <| Ba (Ae 2) <| AX rfl (Ah B4 Aa (AM hX.blk rfl)) <| Ba (Ae 1) <| AX rfl (Ax (k := c) Bl Aa hX.r.eds.plain Aa rfl hbp) <| Ba (Ae 1) <| AX rfl (Ah Br Aa (hX.r.eds.cell hbp rfl)) <| Ba (Ae 1) <| AX rfl (Ax (k := k) A7 Aa hrb.plain Aa rfl hpb) <| AX rfl (Ah AA Aa (hrb.cell1 hpb rfl)) <| Ba (Ae 2) <| B9 <| Ab <| Aw (Ae 4) fun ds => Ap rfl rfl Aa (by rw [e1, e2]; exact dT hne) <| Ao (Ae 1) <| Ap rfl rfl Aa (by rw [e1, e2]; exact dT hne) <| Ao (Ae 1) <| Ap rfl rfl Aa (by rw [e1, e2]; exact dT hne) <| Af rfl (D9 Aa Aa rfl (by rw [e1, e2]; omega) (by rw [e1, e2]; omega)) <| Ap rfl rfl Aa (by rw [e1, e2]; exact dT hne) <| Ao (Ae 1) <| Af rfl (Au Aa (by rw [e1, e2]; exact dT hne) Aa) <| Am <| Ab ?_
   by_cases hp : 0 < s.r a k * s.r c k
   ·refine Ag Aa (by rw [e1, e2]; exact dT hp) <| Al fun ds => Ao (Ae 2) <| A3 rfl <| AU A7 B1 rfl (.cons Aa .nil) rfl rfl (by decide) (by simp [Value.oneCell']) fun b2 hb2 nb2 => A3 rfl <| Bi A7 D5 Aa ho Aa (BA (s := 1) 0 rfl rfl (by simp [Value.oneCell'])) (by omega) (by omega) (.s <| .z) .last fun v3 R4 ho5 => ?_
    have ho2 := ho5.snoc (x := k) rfl rfl
    refine Ao (Ae 1) <| Am <| Az <| Ab <| By (fun _ _ h => h.drop (kD <| .refl _)) <| Al fun ds => Af rfl (AE Aa Aa rfl (by omega) (by omega)) <| Ao (Ae 1) <| Am ?_
    refine Ab ⟨_, m - 1, Off.eq (Cv rfl <| BT rfl <| Ci rfl <| BY rfl <| A2), by omega, ?_⟩
    exact ⟨k + 1, by omega, Bb, _, _, Bb, by rw [Dm, if_pos (hd3.1 ⟨hne, hp⟩)]; exact ho2, rfl⟩
   refine Ad Aa (by rw [e1, e2]; exact dF hp) <| Aj <| Az <| Ab <| Al fun ds => Af rfl (AE Aa Aa rfl (by omega) (by omega)) <| Ao (Ae 1) <| Am ?_
   refine Ab ⟨_, m - 1, Off.eq (Cv rfl <| BT rfl <| A2), by omega, ?_⟩
   exact ⟨k + 1, by omega, Bb, _, _, Bb, by rw [Dm, if_neg (fun h => hp (hd3.2 h).2)]; exact ho, rfl⟩
  refine Aj <| Ab <| Ac <| Ak <| AI (Ae 2) <| Ac <| Bx (.inl rfl) (fun _ _ h => h) (by kernel_rfl) (by kernel_rfl) fun ds => Ba (Ae 1) <| AX rfl (AH Aa) <| Ba (Ae 2) <| AX rfl (Ah B4 Aa (AM hX.blk rfl)) <| Ba (Ae 1) <| AX rfl (Ax (k := a) Bl Aa hX.r.eds.plain Aa rfl hap) <| Ba (Ae 1) <| AX rfl (Ah Br Aa (hX.r.eds.cell hap rfl)) <| Ba (Ae 1) <| AX rfl (Ax (k := k) A7 Aa hra.plain Aa rfl hpa) <| AX rfl (Ah AA Aa (hra.cell1 hpa rfl)) <| Ba (Ae 1) <| AX rfl (AH Aa) <| Ba (Ae 2) <| AX rfl (Ah B4 Aa (AM hX.blk rfl)) <| Ba (Ae 1) <| AX rfl (Ax (k := c) Bl Aa hX.r.eds.plain Aa rfl hbp) <| Ba (Ae 1) <| AX rfl (Ah Br Aa (hX.r.eds.cell hbp rfl)) <| Ba (Ae 1) <| AX rfl (Ax (k := k) A7 Aa hrb.plain Aa rfl hpb) <| AX rfl (Ah AA Aa (hrb.cell1 hpb rfl)) <| Ba (Ae 2) <| B9 <| Ab <| Aw (Ae 4) fun ds => Ar rfl rfl Aa (.inl (congrArg Value.bool (by rw [e1, e2]; exact dF hne))) rfl <| Ar rfl rfl Aa (.inl (congrArg Value.bool (by rw [e1, e2]; exact dF hne))) rfl <| Ar rfl rfl Aa (.inl (congrArg Value.bool (by rw [e1, e2]; exact dF hne))) rfl <| Ar rfl rfl Aa (.inl (congrArg Value.bool (by rw [e1, e2]; exact dF hne))) rfl <| Af rfl (A5 Aa (by rw [e1, e2]; exact dF hne) Aa) <| Am <| Ab ?_
  refine Ad Aa rfl <| Aj <| Az <| Ab <| Al fun ds => Af rfl (AE Aa Aa rfl (by omega) (by omega)) <| Ao (Ae 1) <| Am ?_
  refine Ab ⟨_, m - 1, Off.eq (Cv rfl <| BT rfl <| A2), by omega, ?_⟩
  exact ⟨k + 1, by omega, Bb, _, _, Bb, by rw [Dm, if_neg (fun h => hne (hd3.2 h).1)]; exact ho, rfl⟩
 refine AI (Ae 1) <| Ac <| Ad Aa (by first | rfl | exact dF (by omega)) ?_
 obtain rfl : k = s.places.length := by omega
 refine Bm (σ := ⟨_, _⟩) (by rfl) ho (.z) .last fun F6 hF7 hz8 => ?_
 have hn2 := ho.sl (fun _ => rfl) hz8 (by omega)
 refine AC ?_
 refine A0 <| A0 <| A4 <| Ab <| AI (Ae 2) <| At <| Aq rfl Bf ?_
 exact hn2
end
section
set_option maxRecDepth 100000
open Go.RowKit
theorem Gx : Body Tryz.prog 70 := AF (by kernel_rfl)
theorem bd_72 : Body Tryz.prog 72 := AF (by kernel_rfl)
theorem FP {F : Heap} {vp ve : Value} {ps : List (Value × Edn)} {s : Stm} (hr : StmR F vp ve ps s) (a b : Int) : Ok Tryz.prog 34 [.agg #[vp, ve], .int .i64 a, .int .i64 b].toArray F fun u F' => NatsR F' u (apartE s a b) := by
 refine Ok.intro Tryz.func34 rfl Tryz.ntmps34 rfl fun w0 => ?_
 have hL := hr.eds.plain.lt
 have hlen := hr.len
 by_cases h0 : (checkT s).2.2 = 0
 ·have hv := Cj h0
  by_cases h1 : inB 0 (s.editions.length - 1) a = true
  ·by_cases h2 : inB 0 (s.editions.length - 1) b = true
   ·have h3 := eds_ok h0 h1 h2
    obtain ⟨i, rfl, hi⟩ := FH h1
    obtain ⟨j, rfl, hj⟩ := FH h2
    refine Ac <| Al fun ds => A3 rfl <| Bc Aa rfl fun b1 hb1 nb1 => As (Ae 2) <| Aw (Ae 1) fun ds => A3 rfl <| CH Gx Aa AY (FD hr h0) fun v2 F3 R6 hr4 hF5 => ?_
    replace hr := hr.mono hF5
    obtain ⟨ba, kb, rfl, hX, rfl⟩ := hr4
    refine As (Ae 5) <| Ac <| Ak <| AI (Ae 3) <| Ad Aa (by decide) <| Aw (Ae 2) fun ds => Af rfl (A6 Bl Aa hr.eds.plain) <| Af rfl (BZ Aa Aa rfl (by omega) (by omega)) <| Ao (Ae 2) <| A3 rfl <| AU A7 B1 rfl (.cons Aa (.cons Aa .nil)) rfl rfl (by decide) (by simp [Value.oneCell']) fun b7 hb7 nb7 => AW (i := 0) rfl hb7 .here fun F8 hF9 hz10 => ?_
    replace hX := hX.mono hF9
    have hsl11 := Cp hz10
    refine AS rfl (Ay Df Aa AY (B2 _ _ hsl11) (fun _ _ h => h)) <| As (Ae 1) <| Ad Aa (by simp [hlen, h1, h2]) <| Aj <| Az <| Ab <| Aw (Ae 3) fun ds => A3 rfl <| Be bd_72 Aa AY (Q1 hX hv hi hj) fun v12 F13 hr14 hF15 => ?_
    have hap := hr14
    refine As (Ae 2) <| At <| Aq rfl Bf ?_
    rw [Uw h3]
    exact ⟨_, rfl, hap⟩
   replace h2 : inB 0 (s.editions.length - 1) b = false := by simpa using h2
   refine Ac <| Al fun ds => A3 rfl <| Bc Aa rfl fun b16 hb16 nb16 => As (Ae 2) <| Aw (Ae 1) fun ds => A3 rfl <| CH Gx Aa AY (FD hr h0) fun v17 F18 R21 hr19 hF20 => ?_
   replace hr := hr.mono hF20
   obtain ⟨ba, kb, rfl, hX, rfl⟩ := hr19
   refine As (Ae 5) <| Ac <| Ak <| AI (Ae 3) <| Ad Aa (by decide) <| Aw (Ae 2) fun ds => Af rfl (A6 Bl Aa hr.eds.plain) <| Af rfl (BZ Aa Aa rfl (by omega) (by omega)) <| Ao (Ae 2) <| A3 rfl <| AU A7 B1 rfl (.cons Aa (.cons Aa .nil)) rfl rfl (by decide) (by simp [Value.oneCell']) fun b22 hb22 nb22 => AW (i := 0) rfl hb22 .here fun F23 hF24 hz25 => ?_
   have hsl26 := Cp hz25
   refine AS rfl (Ay Df Aa AY (B2 _ _ hsl26) (fun _ _ h => h)) <| As (Ae 1) <| Ag Aa (by simp [hlen, h1, h2]) <| AI (Ae 2) <| At <| A8 <| A1 <| Aq rfl Bf ?_
   rw [Hu (PN h0 (by simp [h1, h2])) (by decide)]
   exact ⟨_, rfl, Sl.nil⟩
  replace h1 : inB 0 (s.editions.length - 1) a = false := by simpa using h1
  refine Ac <| Al fun ds => A3 rfl <| Bc Aa rfl fun b27 hb27 nb27 => As (Ae 2) <| Aw (Ae 1) fun ds => A3 rfl <| CH Gx Aa AY (FD hr h0) fun v28 F29 R32 hr30 hF31 => ?_
  replace hr := hr.mono hF31
  obtain ⟨ba, kb, rfl, hX, rfl⟩ := hr30
  refine As (Ae 5) <| Ac <| Ak <| AI (Ae 3) <| Ad Aa (by decide) <| Aw (Ae 2) fun ds => Af rfl (A6 Bl Aa hr.eds.plain) <| Af rfl (BZ Aa Aa rfl (by omega) (by omega)) <| Ao (Ae 2) <| A3 rfl <| AU A7 B1 rfl (.cons Aa (.cons Aa .nil)) rfl rfl (by decide) (by simp [Value.oneCell']) fun b33 hb33 nb33 => AW (i := 0) rfl hb33 .here fun F34 hF35 hz36 => ?_
  have hsl37 := Cp hz36
  refine AS rfl (Ay Df Aa AY (B2 _ _ hsl37) (fun _ _ h => h)) <| As (Ae 1) <| Ag Aa (by simp [hlen, h1]) <| AI (Ae 2) <| At <| A8 <| A1 <| Aq rfl Bf ?_
  rw [Hu (PN h0 (by simp [h1])) (by decide)]
  exact ⟨_, rfl, Sl.nil⟩
 refine Ac <| Al fun ds => A3 rfl <| Bc Aa rfl fun b38 hb38 nb38 => As (Ae 2) <| Aw (Ae 1) fun ds => AS rfl (Ay Gx Aa AY (HP hr h0) (fun _ _ h => h)) <| As (Ae 5) <| Ac <| Ak <| AI (Ae 3) <| Ag Aa (dT h0) <| AI (Ae 3) <| At <| A8 <| A1 <| Aq rfl Bf ?_
 rw [Hu (eds_bad h0) h0]
 exact ⟨_, rfl, Sl.nil⟩
end
section
set_option maxRecDepth 100000
open Go.RowKit
theorem BL : ArrT Tryz.prog 128 5 3 1 := KF (by kernel_rfl)
theorem KK {F : Heap} {b : Nat} {vp ve vm : Value} {ps : List (Value × Edn)} {s : Stm} (hX : StmX F b vp ve vm ps s) {l : List Int} (hin : TreeIn l) (hll : l.length = s.editions.length) (hv : ValidT s) : Ok Tryz.prog 93 [.pointer (some ⟨b, 0, none⟩), treeV l].toArray F fun r _ => r = .bool (isT l) := by
 refine Ok.intro Tryz.func93 rfl Tryz.ntmps93 rfl fun w0 => ?_
 have hL := hX.r.eds.plain.lt
 have hlen := hX.r.len
 have hne := hv.ne
 refine Ac <| Al fun ds => A3 rfl <| Bc Aa rfl fun b1 hb1 nb1 => As (Ae 1) <| AI (Ae 1) <| Ac <| Aw (Ae 1) fun ds => Af rfl (AH Aa) <| Ao (Ae 2) <| Af rfl (Ah B4 Aa (AM hX.blk rfl)) <| Af rfl (A6 Bl Aa hX.r.eds.plain) <| As (Ae 1) <| Ak ?_
 refine AJ [4, 5, 6, 7, 8, 15, 16, 17, 18, 19, 20, 21, 22, 23, 24, 25, 26, 27, 28, 29, 30, 31, 32, 33, 34, 35, 36, 37, 38, 39, 40, 41, 42] (fun m e σ => ∃ k : Nat, m + k = l.length ∧ Fct e 15 (.int .i64 (k : Int)) ∧ Fct e 5 (.int .i64 (firstsN l k)) ∧ σ = ⟨F, [(b1, bx 128 (treeC l))]⟩ ∧ ∀ j, j < k → reach l l.length j = true) (l.length) ?_ ?_
 · exact ⟨0, by omega, Bb, Bb, rfl, fun j h => absurd h (by omega)⟩
 rintro m e _ ⟨k, hm, hs15, hs5, rfl, hno⟩
 by_cases hlt : k < l.length
 ·have hfb := Em (l := l) k
  have hk5 : k < 5 := by omega
  refine AI (Ae 1) <| Ac <| Ag Aa (by first | rfl | exact dT (by omega)) ?_
  by_cases hf1 : upN l k = -1
  ·refine Aj <| Ab <| Ac <| Ak <| AI (Ae 2) <| Ac <| Aw (Ae 1) fun ds => Af rfl (AR (k := k) BL Aa Aa rfl hk5) <| Af rfl (Ah AA Aa (Cell.own 0 rfl (B5 hk5))) <| As (Ae 1) <| Ag Aa (dT hf1) <| Al fun ds => Ao (Ae 1) <| Af rfl (AE Aa Aa rfl (by omega) (by omega)) <| As (Ae 1) <| AI (Ae 3) <| Ak ?_
   refine AJ [4, 7, 8, 25, 26, 27, 28, 29, 30, 31, 32, 33, 34, 35, 36, 37, 38, 39, 40, 41] (fun m e σ => ∃ st a : Nat, m + st = l.length ∧ st ≤ l.length ∧ a < l.length ∧ Fct e 8 (.int .i64 (st : Int)) ∧ Fct e 7 (.int .i64 (a : Int)) ∧ reach l l.length k = reach l (l.length - st) a ∧ σ = ⟨F, [(b1, bx 128 (treeC l))]⟩) (l.length) ?_ ?_
   · exact ⟨0, k, by omega, by omega, hlt, Bb, Bb, rfl, rfl⟩
   rintro m2 e2 _ ⟨st, a, hm2, hsl, ha, ht8, ht7, hre, rfl⟩
   have ha5 : a < 5 := by omega
   by_cases hz0 : upN l a = -1
   ·have htrue : reach l l.length k = true := by rw [hre]; exact DE hz0
    refine Ac <| Aw (Ae 1) fun ds => Af rfl (AR (k := a) BL Aa Aa rfl ha5) <| Af rfl (Ah AA Aa (Cell.own 0 rfl (B5 ha5))) <| As (Ae 1) <| Ad Aa (dF (fun h => h hz0)) <| AC ?_
    refine A0 <| A0 <| A4 <| Az <| Ab <| Al fun ds => Af rfl (AE Aa Aa rfl (by omega) (by omega)) <| Ao (Ae 1) <| Am ?_
    refine Ab ⟨_, m - 1, Off.eq (Ci rfl <| Cw rfl <| BJ rfl <| BT rfl <| Ci rfl <| BY rfl <| A2), by omega, ?_⟩
    refine ⟨k + 1, by omega, Bb, by rw [firstsN, if_pos hf1]; exact Bb, rfl, fun j hj => ?_⟩
    rcases Nat.lt_succ_iff_lt_or_eq.1 hj with hj | rfl
    · exact hno j hj
    exact htrue
   obtain ⟨c, hc, hcl⟩ := hin.nat ha hz0
   refine Ac <| Aw (Ae 1) fun ds => Af rfl (AR (k := a) BL Aa Aa rfl ha5) <| Af rfl (Ah AA Aa (Cell.own 0 rfl (B5 ha5))) <| As (Ae 1) <| Ag Aa (dT hz0) ?_
   by_cases hs : l.length ≤ st
   ·have hfalse : reach l l.length k = false := by rw [hre, show l.length - st = 0 by omega]; exact Fz hz0
    refine Aj <| Ab <| Ac <| Ak <| Aw (Ae 1) fun ds => Af rfl (AE Aa Aa rfl (by omega) (by omega)) <| As (Ae 1) <| Aw (Ae 2) fun ds => Af rfl (AH Aa) <| Ao (Ae 2) <| Af rfl (Ah B4 Aa (AM hX.blk rfl)) <| Af rfl (A6 Bl Aa hX.r.eds.plain) <| As (Ae 1) <| Ag Aa (dT (by omega)) <| AI (Ae 1) <| At ?_
    refine A8 (A1 (A1 (A8 (A8 (A1 (A1 (A8 (A1 ?_))))))))
    refine Aq rfl Bf ?_
    show _ = _
    rw [V6 hlt hfalse]; rfl
   refine Aj <| Ab <| Ac <| Ak <| Aw (Ae 1) fun ds => Af rfl (AE Aa Aa rfl (by omega) (by omega)) <| As (Ae 1) <| Aw (Ae 2) fun ds => Af rfl (AH Aa) <| Ao (Ae 2) <| Af rfl (Ah B4 Aa (AM hX.blk rfl)) <| Af rfl (A6 Bl Aa hX.r.eds.plain) <| As (Ae 1) <| Ad Aa (dF (by omega)) <| Aj <| Az <| Ab <| Al fun ds => Ao (Ae 1) <| Af rfl (AR (k := a) BL Aa Aa rfl ha5) <| Af rfl (Ah AA Aa (Cell.own 0 rfl (B5 ha5))) <| Ao (Ae 1) <| Am ?_
   refine Ab ⟨_, m2 - 1, Off.eq (B3 rfl <| Cw rfl <| BY rfl <| A2), by omega, ?_⟩
   exact ⟨st + 1, c, by omega, by omega, hcl, Bb, by rw [← hc]; exact Bb, by rw [hre, show l.length - st = (l.length - (st + 1)) + 1 by omega]; exact DD hc, rfl⟩
  refine Aj <| Ab <| Ac <| Ak <| AI (Ae 2) <| Ac <| Aw (Ae 1) fun ds => Af rfl (AR (k := k) BL Aa Aa rfl hk5) <| Af rfl (Ah AA Aa (Cell.own 0 rfl (B5 hk5))) <| As (Ae 1) <| Ad Aa (dF hf1) <| Aj <| Ab <| AI (Ae 3) <| Ak ?_
  refine AJ [4, 7, 8, 25, 26, 27, 28, 29, 30, 31, 32, 33, 34, 35, 36, 37, 38, 39, 40, 41] (fun m e σ => ∃ st a : Nat, m + st = l.length ∧ st ≤ l.length ∧ a < l.length ∧ Fct e 8 (.int .i64 (st : Int)) ∧ Fct e 7 (.int .i64 (a : Int)) ∧ reach l l.length k = reach l (l.length - st) a ∧ σ = ⟨F, [(b1, bx 128 (treeC l))]⟩) (l.length) ?_ ?_
  · exact ⟨0, k, by omega, by omega, hlt, Bb, Bb, rfl, rfl⟩
  rintro m2 e2 _ ⟨st, a, hm2, hsl, ha, ht8, ht7, hre, rfl⟩
  have ha5 : a < 5 := by omega
  by_cases hz0 : upN l a = -1
  ·have htrue : reach l l.length k = true := by rw [hre]; exact DE hz0
   refine Ac <| Aw (Ae 1) fun ds => Af rfl (AR (k := a) BL Aa Aa rfl ha5) <| Af rfl (Ah AA Aa (Cell.own 0 rfl (B5 ha5))) <| As (Ae 1) <| Ad Aa (dF (fun h => h hz0)) <| AC ?_
   refine A0 <| A0 <| A4 <| Az <| Ab <| Al fun ds => Af rfl (AE Aa Aa rfl (by omega) (by omega)) <| Ao (Ae 1) <| Am ?_
   refine Ab ⟨_, m - 1, Off.eq (Ci rfl <| Cw rfl <| BJ rfl <| BT rfl <| Cw rfl <| A2), by omega, ?_⟩
   refine ⟨k + 1, by omega, Bb, by rw [firstsN, if_neg hf1]; exact Bb, rfl, fun j hj => ?_⟩
   rcases Nat.lt_succ_iff_lt_or_eq.1 hj with hj | rfl
   · exact hno j hj
   exact htrue
  obtain ⟨c, hc, hcl⟩ := hin.nat ha hz0
  refine Ac <| Aw (Ae 1) fun ds => Af rfl (AR (k := a) BL Aa Aa rfl ha5) <| Af rfl (Ah AA Aa (Cell.own 0 rfl (B5 ha5))) <| As (Ae 1) <| Ag Aa (dT hz0) ?_
  by_cases hs : l.length ≤ st
  ·have hfalse : reach l l.length k = false := by rw [hre, show l.length - st = 0 by omega]; exact Fz hz0
   refine Aj <| Ab <| Ac <| Ak <| Aw (Ae 1) fun ds => Af rfl (AE Aa Aa rfl (by omega) (by omega)) <| As (Ae 1) <| Aw (Ae 2) fun ds => Af rfl (AH Aa) <| Ao (Ae 2) <| Af rfl (Ah B4 Aa (AM hX.blk rfl)) <| Af rfl (A6 Bl Aa hX.r.eds.plain) <| As (Ae 1) <| Ag Aa (dT (by omega)) <| AI (Ae 1) <| At ?_
   refine A8 (A1 (A1 (A8 (A8 (A1 (A1 (A8 (A1 ?_))))))))
   refine Aq rfl Bf ?_
   show _ = _
   rw [V6 hlt hfalse]; rfl
  refine Aj <| Ab <| Ac <| Ak <| Aw (Ae 1) fun ds => Af rfl (AE Aa Aa rfl (by omega) (by omega)) <| As (Ae 1) <| Aw (Ae 2) fun ds => Af rfl (AH Aa) <| Ao (Ae 2) <| Af rfl (Ah B4 Aa (AM hX.blk rfl)) <| Af rfl (A6 Bl Aa hX.r.eds.plain) <| As (Ae 1) <| Ad Aa (dF (by omega)) <| Aj <| Az <| Ab <| Al fun ds => Ao (Ae 1) <| Af rfl (AR (k := a) BL Aa Aa rfl ha5) <| Af rfl (Ah AA Aa (Cell.own 0 rfl (B5 ha5))) <| Ao (Ae 1) <| Am ?_
  refine Ab ⟨_, m2 - 1, Off.eq (B3 rfl <| Cw rfl <| BY rfl <| A2), by omega, ?_⟩
  exact ⟨st + 1, c, by omega, by omega, hcl, Bb, by rw [← hc]; exact Bb, by rw [hre, show l.length - st = (l.length - (st + 1)) + 1 by omega]; exact DD hc, rfl⟩
 refine AI (Ae 1) <| Ac <| Ad Aa (by first | rfl | exact dF (by omega)) ?_
 obtain rfl : k = l.length := by omega
 refine AC ?_
 refine A0 <| A0 <| A4 <| Ab <| AI (Ae 3) <| At <| Aq rfl Bf ?_
 show _ = _
 rw [isT_all hno]; rfl
end
section
set_option maxRecDepth 100000
open Go.RowKit
theorem Db : ZeroT Tryz.prog 128 (.agg #[.int .i64 0, .int .i64 0, .int .i64 0, .int .i64 0, .int .i64 0]) := Bv (by kernel_rfl)
theorem B8 : AggT Tryz.prog 128 5 := Cx (by kernel_rfl)
instance : AggI Tryz.prog 128 5 := ⟨B8⟩
theorem Wl : Body Tryz.prog 93 := AF (by kernel_rfl)
theorem Dk : SizeT Tryz.prog 128 5 := Bq (by kernel_rfl)
theorem KW {l : List Int} (h : l.length ≤ 5) : l.flatMap intE ++ (treeC []).drop (l.flatMap intE).length = treeC l := by
 have e : l.flatMap intE = l.map fun z => .int .i64 z := by
   induction l with
   | nil => rfl
   | cons a l ih => rw [List.flatMap_cons, ih (by simp at h; omega)]; rfl
 rw [e]
 apply List.ext_getElem
 · simp [treeC]; omega
 intro i h1 h2
 have hi : i < 5 := by simpa [treeC] using h2
 by_cases hl : i < l.length
 · rw [List.getElem_append_left (by simpa using hl)]
   simp [treeC, upN, hl]
 rw [List.getElem_append_right (by simp; omega)]
 simp [treeC, upN, hl]
theorem Cn {l : List Int} : ∀ u ∈ treeC l, u.oneCell' = true := by
 intro u hu
 obtain ⟨i, -, rfl⟩ := List.mem_map.1 hu
 rfl
theorem OL {s : Stm} {l : List Int} (h0 : (checkT s).2.2 = 0) (hle : l.length = s.editions.length) : trTo s l l.length = if (l.any fun x => !(inB (-1) (l.length - 1) x)) = true then 7 else 0 := by
 unfold trTo; rw [JG (OK h0 hle), List.take_length]; rfl
def EnterR (F : Heap) (u : Value) (Hn : List (Nat × Obj)) (vp ve : Value) (ps : List (Value × Edn)) (s : Stm) (l : List Int) : Prop := ∃ b kb, u = .tuple #[.pointer (some ⟨b, 0, none⟩), treeV l, .int .i64 0] ∧ StmX F b vp ve (.map (some kb)) ps s ∧ Hn = [(kb, mapO [])]
theorem Jd {F : Heap} {vp ve : Value} {ps : List (Value × Edn)} {s : Stm} (hr : StmR F vp ve ps s) {v : Value} {l : List Int} (hl : Ints F v l) (hok : treeErr s l = 0) : OkN Tryz.prog 52 [.agg #[vp, ve], v].toArray F fun u F' Hn => EnterR F' u Hn vp ve ps s l := by
 have hle0 : F.le F := Heap.le_refl _
 refine OkN.intro Tryz.func52 rfl Tryz.ntmps52 rfl fun w0 => ?_
 have hL := hl.plain.lt
 obtain ⟨h0, hle, hin, hT⟩ := KU hok
 have hv := Cj h0
 have hne := hv.ne
 have hlen := hr.len
 have hl5 : l.length ≤ 5 := by omega
 have hany : (l.any fun x => !(inB (-1) (l.length - 1) x)) = false := by rw [List.any_eq_false]; intro x hx; obtain ⟨i, hi, rfl⟩ := List.getElem_of_mem hx; rw [BR hi]; have := hin i hi; simp [inB]; omega
 refine Ac <| Al fun ds => A3 rfl <| Bc Aa rfl fun b1 hb1 nb1 => Ao (Ae 1) <| A3 rfl <| AN Db rfl fun b2 hb2 nb2 => As (Ae 1) <| Aw (Ae 1) fun ds => A3 rfl <| CH Gx Aa AY (FD hr h0) fun v3 F4 R7 hr5 hF6 => ?_
 replace hr := hr.mono hF6
 replace hl := hl.mono hF6
 replace hle0 := Heap.le_trans hle0 hF6
 obtain ⟨ba, kb, rfl, hX, rfl⟩ := hr5
 refine As (Ae 5) <| Ac <| Ak <| AI (Ae 3) <| Ad Aa (by decide) <| Aw (Ae 1) fun ds => Af rfl (A6 A7 Aa hl.plain) <| Ao (Ae 2) <| Af rfl (A6 Bl Aa hr.eds.plain) <| As (Ae 2) <| Ad Aa (dF (by omega)) <| Aw (Ae 1) fun ds => Af rfl (A6 A7 Aa hl.plain) <| Af rfl (BZ Aa Aa rfl (by omega) (by omega)) <| Ao (Ae 1) <| AS rfl (Ay Df Aa AY (B2 _ _ hl) (fun _ _ h => h)) <| As (Ae 1) <| Ad Aa hany <| Aj <| Az <| Ab <| Ac <| Al fun ds => Af rfl (Lp (s := 1) Tryz.underlying128 (Bq (by kernel_rfl)) Aa) <| Ao (Ae 1) <| A3 rfl <| O9 (s := 1) rfl A7 Aa Aa (i := 0) rfl rfl hl.srcInt (by omega) (by rw [C8 (enc := intE) (s := 1) (fun _ => rfl)]) (KW hl5) (.here) <| Am <| Ab <| Ac <| Aw (Ae 2) fun ds => AS rfl (Ay Wl Aa AY (KK hX hin hle hv) (fun _ _ h => h)) <| As (Ae 1) <| Ad Aa (by rw [hT]; rfl) <| Aj <| Ab <| Ac ?_
 have hleS := hle0
 refine Bn (.inl rfl) (fun _ _ h => h) (kK <| kK <| kK <| .refl _) [] (by kernel_rfl) fun ds => Ai 0 rfl (by kernel_rfl) (by kernel_rfl) (by kernel_rfl) (by kernel_rfl) rfl rfl (fun _ h => h.drop (kK <| kK <| kK <| .refl _)) (fun _ _ _ h => h) (A9 Aa) <| Ai 1 rfl (by kernel_rfl) (by kernel_rfl) (by kernel_rfl) (by kernel_rfl) rfl rfl (fun _ h => h.drop (kK <| kK <| kK <| .refl _)) (fun _ _ _ h => h) (AO B8 Aa rfl rfl (Bg 0 rfl)) <| Ai 2 rfl (by kernel_rfl) (by kernel_rfl) (by kernel_rfl) (by kernel_rfl) rfl rfl (fun _ h => h.drop (kK <| kK <| kK <| .refl _)) (fun _ _ _ h => h) (Bz Aa) ?_
 refine BG 3 rfl (by kernel_rfl) (AQ Dk Aa Aa (i := 0) rfl rfl rfl rfl Cn (.here) ⟨fun _ _ => (fun _ h => h.drop (kK <| kK <| kK <| .refl _)), ?_⟩)
 refine Ai 4 rfl (by kernel_rfl) (by kernel_rfl) (by kernel_rfl) (by kernel_rfl) rfl rfl (fun _ h => h.drop (kK <| kK <| kK <| .refl _)) (fun _ _ _ h => h) (Bz BF) ?_
 refine Bo (by kernel_rfl) ?_ _
 refine Ab <| At <| CP rfl (.tmp Aa (.agg B8 Aa rfl rfl (Bg 0 rfl) Bf)) (kD <| kD <| .refl _) ?_
 exact ⟨_, _, rfl, hX, rfl⟩
theorem tr_bad {s : Stm} {l : List Int} (h : (checkT s).2.2 ≠ 0) : treeErr s l = (checkT s).2.2 := by
 have e : trTo s l 0 = (checkT s).2.2 := (PE).trans (Tf h)
 rw [Fp (k := 0) (by rw [e]; exact h), e]
theorem tr_len {s : Stm} {l : List Int} (h : (checkT s).2.2 = 0) (h2 : l.length ≠ s.editions.length) : treeErr s l = 3 := by
 have e : trTo s l 0 = 3 := (PE).trans (Te h h2)
 rw [Fp (k := 0) (by rw [e]; decide), e]
theorem tr_out {s : Stm} {l : List Int} (h : (checkT s).2.2 = 0) (h2 : l.length = s.editions.length) (h3 : (l.any fun x => !(inB (-1) (l.length - 1) x)) = true) : treeErr s l = 7 := by
 have e := OL h h2
 rw [if_pos h3] at e
 rw [Fp (by rw [e]; decide), e]
theorem tr_in {s : Stm} {l : List Int} (h : (checkT s).2.2 = 0) (h2 : l.length = s.editions.length) (h3 : (l.any fun x => !(inB (-1) (l.length - 1) x)) = false) : trTo s l l.length = 0 := by
 rw [OL h h2, if_neg (by rw [h3]; simp)]
theorem GJ {F : Heap} {vp ve : Value} {ps : List (Value × Edn)} {s : Stm} (hr : StmR F vp ve ps s) {v : Value} {l : List Int} (hl : Ints F v l) (hbad : treeErr s l ≠ 0) : Ok Tryz.prog 52 [.agg #[vp, ve], v].toArray F fun u _ => ∃ l2, u = .tuple #[.pointer none, treeV l2, .int .i64 (treeErr s l)] := by
 have hle0 : F.le F := Heap.le_refl _
 refine Ok.intro Tryz.func52 rfl Tryz.ntmps52 rfl fun w0 => ?_
 have hL := hl.plain.lt
 have hlen := hr.len
 by_cases h0 : (checkT s).2.2 = 0
 ·have hv := Cj h0
  have hne := hv.ne
  refine Ac <| Al fun ds => A3 rfl <| Bc Aa rfl fun b1 hb1 nb1 => Ao (Ae 1) <| A3 rfl <| AN Db rfl fun b2 hb2 nb2 => As (Ae 1) <| Aw (Ae 1) fun ds => A3 rfl <| CH Gx Aa AY (FD hr h0) fun v3 F4 R7 hr5 hF6 => ?_
  replace hr := hr.mono hF6
  replace hl := hl.mono hF6
  replace hle0 := Heap.le_trans hle0 hF6
  obtain ⟨ba, kb, rfl, hX, rfl⟩ := hr5
  refine As (Ae 5) <| Ac <| Ak <| AI (Ae 3) <| Ad Aa (by decide) ?_
  by_cases hle : l.length = s.editions.length
  ·have hl5 : l.length ≤ 5 := by omega
   refine Aw (Ae 1) fun ds => Af rfl (A6 A7 Aa hl.plain) <| Ao (Ae 2) <| Af rfl (A6 Bl Aa hr.eds.plain) <| As (Ae 2) <| Ad Aa (dF (by omega)) ?_
   by_cases hany : (l.any fun x => !(inB (-1) (l.length - 1) x)) = true
   ·refine Aw (Ae 1) fun ds => Af rfl (A6 A7 Aa hl.plain) <| Af rfl (BZ Aa Aa rfl (by omega) (by omega)) <| Ao (Ae 1) <| AS rfl (Ay Df Aa AY (B2 _ _ hl) (fun _ _ h => h)) <| As (Ae 1) <| Ag Aa hany <| Ac ?_
    have hleS := hle0
    refine Bn (.inl rfl) (fun _ _ h => h) (kK <| kK <| kK <| .refl _) [] (by kernel_rfl) fun ds => Ai 0 rfl (by kernel_rfl) (by kernel_rfl) (by kernel_rfl) (by kernel_rfl) rfl rfl (fun _ h => h.drop (kK <| kK <| kK <| .refl _)) (fun _ _ _ h => h) (AO B8 Aa rfl rfl (Bg 0 rfl)) <| Ai 1 rfl (by kernel_rfl) (by kernel_rfl) (by kernel_rfl) (by kernel_rfl) rfl rfl (fun _ h => h.drop (kK <| kK <| kK <| .refl _)) (fun _ _ _ h => h) (Bz BF) ?_
    refine BG 2 rfl (by kernel_rfl) (AQ Dk Aa Aa (i := 0) rfl rfl rfl rfl (by simp [Value.oneCell']) (.here) ⟨fun _ _ => (fun _ h => h.drop (kK <| kK <| kK <| .refl _)), ?_⟩)
    refine Ai 3 rfl (by kernel_rfl) (by kernel_rfl) (by kernel_rfl) (by kernel_rfl) rfl rfl (fun _ h => h.drop (kK <| kK <| kK <| .refl _)) (fun _ _ _ h => h) (Bz BF) ?_
    refine Bo (by kernel_rfl) ?_ _
    refine Ab <| At <| A8 <| A1 <| Aq rfl (.tmp Aa (.agg B8 Aa rfl rfl (Bg 0 rfl) Bf)) ?_
    rw [tr_out h0 hle hany]
    exact ⟨[], rfl⟩
   replace hany : (l.any fun x => !(inB (-1) (l.length - 1) x)) = false := by simpa using hany
   have hi0 := tr_in h0 hle hany
   obtain ⟨-, -, hin⟩ := RX hi0
   refine Aw (Ae 1) fun ds => Af rfl (A6 A7 Aa hl.plain) <| Af rfl (BZ Aa Aa rfl (by omega) (by omega)) <| Ao (Ae 1) <| AS rfl (Ay Df Aa AY (B2 _ _ hl) (fun _ _ h => h)) <| As (Ae 1) <| Ad Aa hany ?_
   have hT : isT l = false := by cases hq : isT l with | true => exact absurd (by rw [Hd hi0, hq]; rfl) hbad | false => rfl
   refine Aj <| Az <| Ab <| Ac <| Al fun ds => Af rfl (Lp (s := 1) Tryz.underlying128 (Bq (by kernel_rfl)) Aa) <| Ao (Ae 1) <| A3 rfl <| O9 (s := 1) rfl A7 Aa Aa (i := 0) rfl rfl hl.srcInt (by omega) (by rw [C8 (enc := intE) (s := 1) (fun _ => rfl)]) (KW hl5) (.here) <| Am <| Ab <| Ac <| Aw (Ae 2) fun ds => AS rfl (Ay Wl Aa AY (KK hX hin hle hv) (fun _ _ h => h)) <| As (Ae 1) <| Ag Aa (by rw [hT]; rfl) <| Ac ?_
   have hleS := hle0
   refine Bn (.inl rfl) (fun _ _ h => h) (kK <| kK <| kK <| .refl _) [] (by kernel_rfl) fun ds => Ai 0 rfl (by kernel_rfl) (by kernel_rfl) (by kernel_rfl) (by kernel_rfl) rfl rfl (fun _ h => h.drop (kK <| kK <| kK <| .refl _)) (fun _ _ _ h => h) (AO B8 Aa rfl rfl (Bg 0 rfl)) <| Ai 1 rfl (by kernel_rfl) (by kernel_rfl) (by kernel_rfl) (by kernel_rfl) rfl rfl (fun _ h => h.drop (kK <| kK <| kK <| .refl _)) (fun _ _ _ h => h) (Bz BF) ?_
   refine BG 2 rfl (by kernel_rfl) (AQ Dk Aa Aa (i := 0) rfl rfl rfl rfl Cn (.here) ⟨fun _ _ => (fun _ h => h.drop (kK <| kK <| kK <| .refl _)), ?_⟩)
   refine Ai 3 rfl (by kernel_rfl) (by kernel_rfl) (by kernel_rfl) (by kernel_rfl) rfl rfl (fun _ h => h.drop (kK <| kK <| kK <| .refl _)) (fun _ _ _ h => h) (Bz BF) ?_
   refine Bo (by kernel_rfl) ?_ _
   refine Ab <| At <| A1 <| Aq rfl (.tmp Aa (.agg B8 Aa rfl rfl (Bg 0 rfl) Bf)) ?_
   rw [show treeErr s l = 2 by rw [Hd hi0, hT]; rfl]
   exact ⟨l, rfl⟩
  refine Aw (Ae 1) fun ds => Af rfl (A6 A7 Aa hl.plain) <| Ao (Ae 2) <| Af rfl (A6 Bl Aa hr.eds.plain) <| As (Ae 2) <| Ag Aa (dT (by omega)) <| Ac ?_
  have hleS := hle0
  refine Bn (.inl rfl) (fun _ _ h => h) (kK <| kK <| kK <| .refl _) [] (by kernel_rfl) fun ds => Ai 0 rfl (by kernel_rfl) (by kernel_rfl) (by kernel_rfl) (by kernel_rfl) rfl rfl (fun _ h => h.drop (kK <| kK <| kK <| .refl _)) (fun _ _ _ h => h) (AO B8 Aa rfl rfl (Bg 0 rfl)) <| Ai 1 rfl (by kernel_rfl) (by kernel_rfl) (by kernel_rfl) (by kernel_rfl) rfl rfl (fun _ h => h.drop (kK <| kK <| kK <| .refl _)) (fun _ _ _ h => h) (Bz BF) ?_
  refine BG 2 rfl (by kernel_rfl) (AQ Dk Aa Aa (i := 0) rfl rfl rfl rfl (by simp [Value.oneCell']) (.here) ⟨fun _ _ => (fun _ h => h.drop (kK <| kK <| kK <| .refl _)), ?_⟩)
  refine Ai 3 rfl (by kernel_rfl) (by kernel_rfl) (by kernel_rfl) (by kernel_rfl) rfl rfl (fun _ h => h.drop (kK <| kK <| kK <| .refl _)) (fun _ _ _ h => h) (Bz BF) ?_
  refine Bo (by kernel_rfl) ?_ _
  refine Ab <| At <| A8 <| A1 <| Aq rfl (.tmp Aa (.agg B8 Aa rfl rfl (Bg 0 rfl) Bf)) ?_
  rw [tr_len h0 hle]
  exact ⟨[], rfl⟩
 refine Ac <| Al fun ds => A3 rfl <| Bc Aa rfl fun b8 hb8 nb8 => Ao (Ae 1) <| A3 rfl <| AN Db rfl fun b9 hb9 nb9 => As (Ae 1) <| Aw (Ae 1) fun ds => AS rfl (Ay Gx Aa AY (HP hr h0) (fun _ _ h => h)) <| As (Ae 5) <| Ac <| Ak <| AI (Ae 3) <| Ag Aa (dT h0) <| Ac ?_
 have hleS := hle0
 refine Bn (.inl rfl) (fun _ _ h => h) (kK <| kK <| .refl _) [] (by kernel_rfl) fun ds => Ai 0 rfl (by kernel_rfl) (by kernel_rfl) (by kernel_rfl) (by kernel_rfl) rfl rfl (fun _ h => h.drop (kK <| kK <| .refl _)) (fun _ _ _ h => h) (AO B8 Aa rfl rfl (Bg 0 rfl)) <| Ai 1 rfl (by kernel_rfl) (by kernel_rfl) (by kernel_rfl) (by kernel_rfl) rfl rfl (fun _ h => h.drop (kK <| kK <| .refl _)) (fun _ _ _ h => h) (A9 Aa) <| Ai 2 rfl (by kernel_rfl) (by kernel_rfl) (by kernel_rfl) (by kernel_rfl) rfl rfl (fun _ h => h.drop (kK <| kK <| .refl _)) (fun _ _ _ h => h) (Bz BF) ?_
 refine BG 3 rfl (by kernel_rfl) (AQ Dk Aa Aa (i := 0) rfl rfl rfl rfl (by simp [Value.oneCell']) (.here) ⟨fun _ _ => (fun _ h => h.drop (kK <| kK <| .refl _)), ?_⟩)
 refine Ai 4 rfl (by kernel_rfl) (by kernel_rfl) (by kernel_rfl) (by kernel_rfl) rfl rfl (fun _ h => h.drop (kK <| kK <| .refl _)) (fun _ _ _ h => h) (Bz Aa) ?_
 refine Bo (by kernel_rfl) ?_ _
 refine Ab <| At <| A8 <| A1 <| Aq rfl (.tmp Aa (.agg B8 Aa rfl rfl (Bg 0 rfl) Bf)) ?_
 rw [tr_bad h0]
 exact ⟨[], rfl⟩
end
section
set_option maxRecDepth 100000
open Go.RowKit
theorem stoodSp : Tryz.prog.stoodInHeld 54 = false := by kernel_rfl
theorem guardSp : Tryz.prog.eqGuardType Tryz.prog.depth 54 = false := by kernel_rfl
theorem Vv : OneT Tryz.prog 3 := BI (by kernel_rfl)
instance : OneI Tryz.prog 3 := ⟨Vv⟩
theorem CJ {F : Heap} {v u : Value} {xs ys : List Int} (hx : Sl F v 1 intE xs) (hy : Sl F u 1 intE ys) : Ok Tryz.prog 31 [v, u].toArray F fun r _ => r = .bool (decide (xs = ys)) := by
 refine Ok.intro Tryz.func31 rfl Tryz.ntmps31 rfl fun w0 => ?_
 have hlen := hx.plain.lt
 have hlen2 := hy.plain.lt
 refine AI (Ae 1) <| Aw (Ae 1) fun ds => Af rfl (A6 A7 Aa hx.plain) <| Ao (Ae 1) <| Af rfl (A6 A7 Aa hy.plain) <| As (Ae 2) <| Ac <| AI (Ae 1) <| Ak ?_
 refine AJ [5, 6, 12, 13, 14, 15, 16, 17, 18, 19, 20, 21, 22, 23, 24, 25, 26, 27, 28, 29] (fun m e σ => ∃ (k : Nat) (ok : Bool), m + k = xs.length + 1 ∧ Fct e 6 (.int .i64 k) ∧ Fct e 5 (.bool ok) ∧ σ = ⟨F, []⟩ ∧ (ok = true → k ≤ xs.length ∧ xs.length = ys.length ∧ xs.take k = ys.take k) ∧ (ok = false → xs ≠ ys)) (xs.length + 1) ?_ ?_
 · refine ⟨0, _, by omega, Bb, Bb, rfl, fun h => ⟨by omega, by have := of_decide_eq_true h; omega, rfl⟩, fun h he => ?_⟩; subst he; exact absurd rfl (of_decide_eq_false h)
 rintro m e _ ⟨k, ok, hm, hs6, hs5, rfl, hT, hF⟩
 cases ok
 ·refine Ac <| Aw (Ae 2) fun ds => Ar rfl rfl Aa (.inl (congrArg Value.bool rfl)) rfl <| Ar rfl rfl Aa (.inl (congrArg Value.bool rfl)) rfl <| Ar rfl rfl Aa (.inl (congrArg Value.bool rfl)) rfl <| Ar rfl rfl Aa (.inl (congrArg Value.bool rfl)) rfl <| Af rfl (A5 Aa rfl BF) <| Am <| Ab <| Ad Aa rfl <| AC ?_
  refine A0 <| A0 <| A4 <| Ab <| AI (Ae 2) <| At <| Aq rfl Bf ?_
  show _ = _
  rw [dF (hF rfl)]; rfl
 obtain ⟨hk, hll, htk⟩ := hT rfl
 refine Ac <| Aw (Ae 2) fun ds => Ap rfl rfl Aa rfl <| Ao (Ae 1) <| Ap rfl rfl Aa rfl <| Ao (Ae 1) <| Ap rfl rfl Aa rfl <| Af rfl (A6 A7 Aa hx.plain) <| Ap rfl rfl Aa rfl <| Ao (Ae 1) <| Af rfl (Au Aa rfl Aa) <| Am <| Ab ?_
 by_cases hlt : k < xs.length
 ·refine Ag Aa (by first | rfl | exact dT (by omega)) <| Aj <| Ab <| Ac <| Ak <| Bx (.inl rfl) (fun _ _ h => h) (by kernel_rfl) (by kernel_rfl) fun ds => Ba (Ae 2) <| AX rfl (Ax  A7 Aa hx.plain Aa rfl hlt) <| AX rfl (Ah AA Aa (hx.cell1 hlt rfl)) <| Ba (Ae 2) <| AX rfl (Ax  A7 Aa hy.plain Aa rfl (by omega)) <| AX rfl (Ah AA Aa (hy.cell1 (by omega) rfl)) <| Ba (Ae 2) <| B9 <| Az <| Ab <| Al fun ds => Ao (Ae 1) <| Af rfl (AE Aa Aa rfl (by omega) (by omega)) <| Ao (Ae 1) <| Am ?_
  refine Ab ⟨_, m - 1, Off.eq (B3 rfl <| Ci rfl <| A2), by omega, ?_⟩
  have hlt2 : k < ys.length := by omega
  refine ⟨k + 1, _, by omega, Bb, Bb, rfl, fun h => ⟨by omega, hll, Fq hlt hlt2 htk (of_decide_eq_true h)⟩, fun h => ne_at hlt hlt2 (of_decide_eq_false h)⟩
 refine Ad Aa (by first | rfl | exact dF (by omega)) <| AC ?_
 refine A0 <| A0 <| A4 <| Ab <| AI (Ae 2) <| At <| Aq rfl Bf ?_
 show _ = _
 obtain rfl : k = xs.length := by omega
 rw [dT (LM hll htk)]; rfl
theorem Ph {F : Heap} {v u : Value} {xs ys : List (Int × Int)} (hx : Sl F v 2 spanE xs) (hy : Sl F u 2 spanE ys) : Ok Tryz.prog 40 [v, u].toArray F fun r _ => r = .bool (decide (xs = ys)) := by
 refine Ok.intro Tryz.func40 rfl Tryz.ntmps40 rfl fun w0 => ?_
 have hlen := hx.plain.lt
 have hlen2 := hy.plain.lt
 refine AI (Ae 1) <| Aw (Ae 1) fun ds => Af rfl (A6 CL Aa hx.plain) <| Ao (Ae 1) <| Af rfl (A6 CL Aa hy.plain) <| As (Ae 2) <| Ac <| AI (Ae 1) <| Ak ?_
 refine AJ [5, 6, 12, 13, 14, 15, 16, 17, 18, 19, 20, 21, 22, 23, 24, 25, 26, 27, 28, 29] (fun m e σ => ∃ (k : Nat) (ok : Bool), m + k = xs.length + 1 ∧ Fct e 6 (.int .i64 k) ∧ Fct e 5 (.bool ok) ∧ σ = ⟨F, []⟩ ∧ (ok = true → k ≤ xs.length ∧ xs.length = ys.length ∧ xs.take k = ys.take k) ∧ (ok = false → xs ≠ ys)) (xs.length + 1) ?_ ?_
 · refine ⟨0, _, by omega, Bb, Bb, rfl, fun h => ⟨by omega, by have := of_decide_eq_true h; omega, rfl⟩, fun h he => ?_⟩; subst he; exact absurd rfl (of_decide_eq_false h)
 rintro m e _ ⟨k, ok, hm, hs6, hs5, rfl, hT, hF⟩
 cases ok
 ·refine Ac <| Aw (Ae 2) fun ds => Ar rfl rfl Aa (.inl (congrArg Value.bool rfl)) rfl <| Ar rfl rfl Aa (.inl (congrArg Value.bool rfl)) rfl <| Ar rfl rfl Aa (.inl (congrArg Value.bool rfl)) rfl <| Ar rfl rfl Aa (.inl (congrArg Value.bool rfl)) rfl <| Af rfl (A5 Aa rfl BF) <| Am <| Ab <| Ad Aa rfl <| AC ?_
  refine A0 <| A0 <| A4 <| Ab <| AI (Ae 2) <| At <| Aq rfl Bf ?_
  show _ = _
  rw [dF (hF rfl)]; rfl
 obtain ⟨hk, hll, htk⟩ := hT rfl
 refine Ac <| Aw (Ae 2) fun ds => Ap rfl rfl Aa rfl <| Ao (Ae 1) <| Ap rfl rfl Aa rfl <| Ao (Ae 1) <| Ap rfl rfl Aa rfl <| Af rfl (A6 CL Aa hx.plain) <| Ap rfl rfl Aa rfl <| Ao (Ae 1) <| Af rfl (Au Aa rfl Aa) <| Am <| Ab ?_
 by_cases hlt : k < xs.length
 ·refine Ag Aa (by first | rfl | exact dT (by omega)) <| Aj <| Ab <| Ac <| Ak <| Bx (.inl rfl) (fun _ _ h => h) (by kernel_rfl) (by kernel_rfl) fun ds => Ba (Ae 2) <| AX rfl (Ax  CL Aa hx.plain Aa rfl hlt) <| AX rfl (AO Cg Aa rfl rfl (hx.whole hlt)) <| Ba (Ae 2) <| AX rfl (Ax  CL Aa hy.plain Aa rfl (by omega)) <| AX rfl (AO Cg Aa rfl rfl (hy.whole (by omega))) <| AX rfl (Kz Tryz.underlying54 stoodSp guardSp (by decide) (by decide) rfl rfl Tryz.underlying3 Tryz.underlying3 Vv Vv Aa Aa) <| Ba (Ae 1) <| B9 <| Az <| Ab <| Al fun ds => Ao (Ae 1) <| Af rfl (AE Aa Aa rfl (by omega) (by omega)) <| Ao (Ae 1) <| Am ?_
  refine Ab ⟨_, m - 1, Off.eq (B3 rfl <| Ci rfl <| A2), by omega, ?_⟩
  have hlt2 : k < ys.length := by omega
  refine ⟨k + 1, _, by omega, Bb, Bb, rfl, fun h => ⟨by omega, hll, Fq hlt hlt2 htk (by simp only [Bool.and_eq_true, beq_iff_eq] at h; exact Prod.ext h.1 h.2)⟩, fun h => ne_at hlt hlt2 (by intro he; rw [he] at h; simp at h)⟩
 refine Ad Aa (by first | rfl | exact dF (by omega)) <| AC ?_
 refine A0 <| A0 <| A4 <| Ab <| AI (Ae 2) <| At <| Aq rfl Bf ?_
 show _ = _
 obtain rfl : k = xs.length := by omega
 rw [dT (LM hll htk)]; rfl
def sourceL (l : List Int) (i : Nat) : List Int := if upN l i = -1 then [] else [upN l i]
theorem To {F : Heap} {l : List Int} {i : Nat} (hi : i < 5) : Ok Tryz.prog 55 [treeV l, .int .i64 (i : Int)].toArray F fun u F' => Ints F' u (sourceL l i) := by
 refine Ok.intro Tryz.func55 rfl Tryz.ntmps55 rfl fun w0 => ?_
 by_cases h1 : upN l i = -1
 ·refine Ac <| Al fun ds => A3 rfl <| Bc Aa rfl fun b1 hb1 nb1 => As (Ae 1) <| Ac <| Aw (Ae 1) fun ds => Af rfl (AR (k := i) BL Aa Aa rfl hi) <| Af rfl (Ah AA Aa (Cell.own 0 rfl (B5 hi))) <| As (Ae 1) <| Ag Aa (dT h1) <| AI (Ae 1) <| At <| A1 <| Aq rfl Bf ?_
  unfold sourceL; rw [if_pos h1]; exact Sl.nil
 refine Ac <| Al fun ds => A3 rfl <| Bc Aa rfl fun b2 hb2 nb2 => As (Ae 1) <| Ac <| Aw (Ae 1) fun ds => Af rfl (AR (k := i) BL Aa Aa rfl hi) <| Af rfl (Ah AA Aa (Cell.own 0 rfl (B5 hi))) <| As (Ae 1) <| Ad Aa (dF h1) <| Aj <| Ab <| Aw (Ae 1) fun ds => Af rfl (AR (k := i) BL Aa Aa rfl hi) <| Af rfl (Ah AA Aa (Cell.own 0 rfl (B5 hi))) <| A3 rfl <| AU A7 B1 rfl (.cons Aa .nil) rfl rfl (by decide) (by simp [Value.oneCell']) fun b3 hb3 nb3 => AW (i := 0) rfl hb3 .here fun F4 hF5 hz6 => ?_
 have hsl7 := Bk hz6
 refine As (Ae 1) <| At <| Aq rfl Bf ?_
 unfold sourceL; rw [if_neg h1]; exact hsl7
end
section
set_option maxRecDepth 100000
open Go.RowKit
theorem WE : Body Tryz.prog 110 := AF (by kernel_rfl)
theorem Ww : Body Tryz.prog 132 := AF (by kernel_rfl)
theorem V8 {F : Heap} {v : Value} {xs : List Int} (hx : Ints F v xs) (z : Int) : Ok Tryz.prog 85 [v, .int .i64 z].toArray F fun u _ => u = .bool (decide (z ∈ xs)) := by
 refine Ok.intro Tryz.func85 rfl Tryz.ntmps85 rfl fun w0 => ?_
 have hlen := hx.plain.lt
 refine AI (Ae 1) <| Ac <| AI (Ae 1) <| Ak ?_
 refine AJ [4, 5, 6, 7, 8, 9, 10, 11, 12, 13, 14, 15, 16, 17] (fun m e σ => ∃ k : Nat, m + k = xs.length ∧ Fct e 5 (.int .i64 (k : Int)) ∧ σ = ⟨F, []⟩ ∧ ∀ j (hj : j < xs.length), j < k → xs[j] ≠ z) (xs.length) ?_ ?_
 · exact ⟨0, by omega, Bb, rfl, fun j hj h => absurd h (by omega)⟩
 rintro m e _ ⟨k, hm, hs5, rfl, hno⟩
 by_cases hlt : k < xs.length
 ·refine Ac <| Aw (Ae 2) fun ds => Af rfl (A6 A7 Aa hx.plain) <| As (Ae 1) <| Ag Aa (by first | rfl | exact dT (by omega)) ?_
  by_cases he : xs[k] = z
  ·refine Aj <| Ab <| Ac <| Ak <| Aw (Ae 2) fun ds => Af rfl (Ax  A7 Aa hx.plain Aa rfl hlt) <| Af rfl (Ah AA Aa (hx.cell1 hlt rfl)) <| As (Ae 2) <| Ag Aa (dT he) <| AI (Ae 1) <| At ?_
   refine A8 (A1 (A1 (A8 (A1 ?_))))
   refine Aq rfl Bf ?_
   show _ = _
   rw [dT (by rw [← he]; exact List.getElem_mem hlt : z ∈ xs)]; rfl
  refine Aj <| Ab <| Ac <| Ak <| Aw (Ae 2) fun ds => Af rfl (Ax  A7 Aa hx.plain Aa rfl hlt) <| Af rfl (Ah AA Aa (hx.cell1 hlt rfl)) <| As (Ae 2) <| Ad Aa (dF he) <| Aj <| Az <| Ab <| Al fun ds => Ao (Ae 1) <| Af rfl (AE Aa Aa rfl (by omega) (by omega)) <| Ao (Ae 1) <| Am ?_
  refine Ab ⟨_, m - 1, Off.eq (BT rfl <| Ci rfl <| BY rfl <| A2), by omega, ?_⟩
  refine ⟨k + 1, by omega, Bb, rfl, fun j hj hjk => ?_⟩
  rcases Nat.lt_succ_iff_lt_or_eq.1 hjk with hjk | rfl
  · exact hno j hj hjk
  exact he
 refine Ac <| Aw (Ae 2) fun ds => Af rfl (A6 A7 Aa hx.plain) <| As (Ae 1) <| Ad Aa (by first | rfl | exact dF (by omega)) <| AC ?_
 refine A0 <| A0 <| A4 <| Ab <| AI (Ae 1) <| At <| Aq rfl Bf ?_
 show _ = _
 rw [dF (fun h : z ∈ xs => by obtain ⟨j, hj, he⟩ := List.mem_iff_getElem.1 h; exact hno j hj (by omega) he)]; rfl
theorem P5 {F : Heap} (z : Int) : Ok Tryz.prog 132 [.int .i64 z].toArray F fun r _ => r = .bool false := by
 refine Ok.intro Tryz.func132 rfl Tryz.ntmps132 rfl fun w0 => AI (Ae 1) <| AI (Ae 4) <| At <| Aq rfl Bf ?_
 show _ = _
 simp [outOf]
theorem VW {F : Heap} (a b : Int) : Ok Tryz.prog 110 [.int .i64 a, .int .i64 b].toArray F fun r _ => r = .int .i64 (cmpZ a b) := by
 refine Ok.intro Tryz.func110 rfl Tryz.ntmps110 rfl fun w0 => AI (Ae 1) <| Aw (Ae 1) fun ds => AS rfl (Ay Ww Aa AY (P5 _) (fun _ _ h => h)) <| As (Ae 1) <| Aw (Ae 1) fun ds => AS rfl (Ay Ww Aa AY (P5 _) (fun _ _ h => h)) <| As (Ae 1) <| Ac <| AI (Ae 1) <| Ad Aa rfl <| Aj <| Ab <| Ac <| AI (Ae 1) <| Ad Aa rfl ?_
 by_cases h1 : a < b
 ·refine Aj <| Ab <| Ac <| AI (Ae 3) <| Ag Aa (by first | rfl | exact dT (by omega)) <| AI (Ae 1) <| At <| A1 <| Aq rfl Bf ?_
  show _ = _
  unfold cmpZ; rw [if_pos h1]; rfl
 refine Aj <| Ab <| Ac <| AI (Ae 3) <| Ad Aa (by first | rfl | exact dF (by omega)) ?_
 by_cases h2 : b < a
 ·refine Aj <| Ab <| Ac <| AI (Ae 3) <| Ag Aa (by first | rfl | exact dT (by omega)) <| AI (Ae 1) <| At <| A1 <| Aq rfl Bf ?_
  show _ = _
  unfold cmpZ; rw [if_neg h1, if_pos h2]; rfl
 refine Aj <| Ab <| Ac <| AI (Ae 3) <| Ad Aa (by first | rfl | exact dF (by omega)) <| Aj <| Ab <| AI (Ae 1) <| At <| Aq rfl Bf ?_
 show _ = _
 unfold cmpZ; rw [if_neg h1, if_neg h2]; rfl
theorem LU {F : Heap} {v u : Value} {xs ys : List Nat} (hx : Nats F v xs) (hy : Nats F u ys) : Ok Tryz.prog 80 [v, u].toArray F fun r _ => r = .int .i64 (cmpL xs ys) := by
 refine Ok.intro Tryz.func80 rfl Tryz.ntmps80 rfl fun w0 => ?_
 have hlen := hx.plain.lt
 have hlen2 := hy.plain.lt
 refine AI (Ae 1) <| Ac <| Aw (Ae 1) fun ds => Af rfl (A6 A7 Aa hx.plain) <| As (Ae 1) <| Ak ?_
 refine AJ [4, 5, 6, 7, 8, 11, 12, 13, 14, 15, 16, 17, 18, 19, 20, 21, 22, 23, 24, 25, 26, 27, 28, 29, 30] (fun m e σ => ∃ k : Nat, m + k = xs.length ∧ k ≤ ys.length ∧ Fct e 11 (.int .i64 k) ∧ σ = ⟨F, []⟩ ∧ xs.take k = ys.take k) (xs.length) ?_ ?_
 · exact ⟨0, by omega, by omega, Bb, rfl, rfl⟩
 rintro m e _ ⟨k, hm, hk, hs11, rfl, htk⟩
 by_cases hlt : k < xs.length
 ·refine AI (Ae 1) <| Ac <| Ag Aa (by first | rfl | exact dT (by omega)) ?_
  by_cases hlt2 : k < ys.length
  ·refine Aj <| Ab <| Ac <| Ak <| Aw (Ae 1) fun ds => Af rfl (Ax  A7 Aa hx.plain Aa rfl hlt) <| Af rfl (Ah AA Aa (hx.cell1 hlt rfl)) <| As (Ae 2) <| Ac <| Aw (Ae 2) fun ds => Af rfl (A6 A7 Aa hy.plain) <| As (Ae 1) <| Ad Aa (by first | rfl | exact dF (by omega)) ?_
   by_cases hc : cmpZ xs[k] ys[k] = 0
   ·refine Aj <| Ab <| Aw (Ae 2) fun ds => Af rfl (Ax  A7 Aa hy.plain Aa rfl hlt2) <| Af rfl (Ah AA Aa (hy.cell1 hlt2 rfl)) <| As (Ae 1) <| Aw (Ae 2) fun ds => AS rfl (Ay WE Aa AY (VW _ _) (fun _ _ h => h)) <| As (Ae 1) <| AI (Ae 2) <| Ad Aa (dF (by simpa using hc)) <| Aj <| Az <| Ab <| Al fun ds => Af rfl (AE Aa Aa rfl (by omega) (by omega)) <| Ao (Ae 1) <| Am ?_
    refine Ab ⟨_, m - 1, Off.eq (B3 rfl <| Ci rfl <| Cw rfl <| BY rfl <| A2), by omega, ?_⟩
    exact ⟨k + 1, by omega, by omega, Bb, rfl, Fq hlt hlt2 htk (by have := Uk hc; omega)⟩
   refine Aj <| Ab <| Aw (Ae 2) fun ds => Af rfl (Ax  A7 Aa hy.plain Aa rfl hlt2) <| Af rfl (Ah AA Aa (hy.cell1 hlt2 rfl)) <| As (Ae 1) <| Aw (Ae 2) fun ds => AS rfl (Ay WE Aa AY (VW _ _) (fun _ _ h => h)) <| As (Ae 1) <| AI (Ae 2) <| Ag Aa (dT hc) <| AI (Ae 2) <| At ?_
   refine A8 (A1 (A1 (A8 (A1 ?_))))
   refine Aq rfl Bf ?_
   show _ = _
   rw [cmpL_at hlt hlt2 htk hc]; rfl
  refine Aj <| Ab <| Ac <| Ak <| Aw (Ae 1) fun ds => Af rfl (Ax  A7 Aa hx.plain Aa rfl hlt) <| Af rfl (Ah AA Aa (hx.cell1 hlt rfl)) <| As (Ae 2) <| Ac <| Aw (Ae 2) fun ds => Af rfl (A6 A7 Aa hy.plain) <| As (Ae 1) <| Ag Aa (by first | rfl | exact dT (by omega)) <| AI (Ae 1) <| At ?_
  refine A1 (A8 (A1 (A1 (A8 (A1 ?_)))))
  refine Aq rfl Bf ?_
  show _ = _
  rw [Um hlt (by omega) htk]; rfl
 refine AI (Ae 1) <| Ac <| Ad Aa (by first | rfl | exact dF (by omega)) ?_
 obtain rfl : k = xs.length := by omega
 by_cases h2 : xs.length < ys.length
 ·refine AC ?_
  refine A0 <| A0 <| A4 <| Ab <| Ac <| Aw (Ae 1) fun ds => Af rfl (A6 A7 Aa hx.plain) <| Ao (Ae 1) <| Af rfl (A6 A7 Aa hy.plain) <| As (Ae 1) <| Ag Aa (by first | rfl | exact dT (by omega)) <| AI (Ae 1) <| At <| A1 <| Aq rfl Bf ?_
  show _ = _
  rw [Nr hk htk, if_pos h2]; rfl
 refine AC ?_
 refine A0 <| A0 <| A4 <| Ab <| Ac <| Aw (Ae 1) fun ds => Af rfl (A6 A7 Aa hx.plain) <| Ao (Ae 1) <| Af rfl (A6 A7 Aa hy.plain) <| As (Ae 1) <| Ad Aa (by first | rfl | exact dF (by omega)) <| Aj <| Ab <| AI (Ae 1) <| At <| Aq rfl Bf ?_
 show _ = _
 rw [Nr hk htk, if_neg h2]; rfl
theorem Ev {F : Heap} {v : Value} {l : List Int} (hl : Ints F v l) (z : Int) : Ok Tryz.prog 63 [v, .int .i64 z].toArray F fun r _ => r = .int .i64 (findI (fun x => decide (z = x)) l) := by
 refine Ok.intro Tryz.func63 rfl Tryz.ntmps63 rfl fun w0 => ?_
 have hlen := hl.plain.lt
 refine AI (Ae 1) <| Ac <| Aw (Ae 1) fun ds => Af rfl (A6 A7 Aa hl.plain) <| As (Ae 1) <| Ak ?_
 refine AJ [4, 5, 8, 9, 10, 11, 12, 13, 14, 15, 16, 17, 18] (fun m e σ => ∃ k : Nat, m + k = l.length ∧ Fct e 8 (.int .i64 k) ∧ σ = ⟨F, []⟩ ∧ ∀ j (hj : j < l.length), j < k → (fun x => decide (z = x)) l[j] = false) (l.length) ?_ ?_
 · exact ⟨0, by omega, Bb, rfl, fun j hj h => absurd h (by omega)⟩
 rintro m e _ ⟨k, hm, hs8, rfl, hno⟩
 by_cases hlt : k < l.length
 ·refine AI (Ae 1) <| Ac <| Ag Aa (by first | rfl | exact dT (by omega)) ?_
  by_cases he : z = l[k]
  ·refine Aj <| Ab <| Ac <| Ak <| AI (Ae 2) <| Aw (Ae 3) fun ds => Af rfl (Ax  A7 Aa hl.plain Aa rfl hlt) <| Af rfl (Ah AA Aa (hl.cell1 hlt rfl)) <| As (Ae 1) <| Ag Aa (dT he) <| AI (Ae 2) <| At ?_
   refine A8 (A1 (A1 (A8 (A1 ?_))))
   refine Aq rfl Bf ?_
   show _ = _
   rw [Cz (p := (fun x => decide (z = x))) hlt (dT he) hno]; rfl
  refine Aj <| Ab <| Ac <| Ak <| AI (Ae 2) <| Aw (Ae 3) fun ds => Af rfl (Ax  A7 Aa hl.plain Aa rfl hlt) <| Af rfl (Ah AA Aa (hl.cell1 hlt rfl)) <| As (Ae 1) <| Ad Aa (dF he) <| Aj <| Az <| Ab <| Al fun ds => Af rfl (AE Aa Aa rfl (by omega) (by omega)) <| Ao (Ae 1) <| Am ?_
  refine Ab ⟨_, m - 1, Off.eq (BT rfl <| Cw rfl <| BY rfl <| A2), by omega, ?_⟩
  refine ⟨k + 1, by omega, Bb, rfl, fun j hj hjk => ?_⟩
  rcases Nat.lt_succ_iff_lt_or_eq.1 hjk with hjk | rfl
  · exact hno j hj hjk
  exact dF he
 refine AI (Ae 1) <| Ac <| Ad Aa (by first | rfl | exact dF (by omega)) <| AC ?_
 refine A0 <| A0 <| A4 <| Ab <| AI (Ae 1) <| At <| Aq rfl Bf ?_
 show _ = _
 rw [CS (p := (fun x => decide (z = x))) (fun j hj => hno j hj (by omega))]; rfl
end
section
set_option maxRecDepth 100000
open Go.RowKit
theorem EE : ZeroT Tryz.prog 54 (.agg #[.int .i64 0, .int .i64 0]) := Bv (by kernel_rfl)
theorem bd_94 : Body Tryz.prog 94 := AF (by kernel_rfl)
theorem bd_95 : Body Tryz.prog 95 := AF (by kernel_rfl)
theorem el_54 : ElemT Tryz.prog 54 2 16 (.agg #[.int .i64 0, .int .i64 0]) := EA (by kernel_rfl) rfl (by decide)
theorem Cc : SizeT Tryz.prog 3 1 := Bq (by kernel_rfl)
def SpansR (F : Heap) (u : Value) (l : List (Int × Int)) (ok : Bool) : Prop := ∃ v, u = .tuple #[v, .bool ok] ∧ Sl F v 2 spanE l
theorem Tn {F : Heap} (y : Int × Int) : Ok Tryz.prog 95 [.agg (spanE y).toArray].toArray F fun u _ => u = .bool (decide (y.2 < y.1)) := by
 refine Ok.intro Tryz.func95 rfl Tryz.ntmps95 rfl fun w0 => Ac <| Al fun ds => A3 rfl <| Bc Aa rfl fun b1 hb1 nb1 => As (Ae 1) <| AI (Ae 6) <| At <| Aq rfl Bf ?_
 rfl
theorem HC {F : Heap} {b : Nat} {vp ve vm : Value} {ps : List (Value × Edn)} {s : Stm} (hX : StmX F b vp ve vm ps s) (hv : ValidT s) {g : FuncId} {fs cs : List Value} (hg : Body Tryz.prog g) {bef : Nat → List Nat} (hbf : ∀ G, F.le G → ∀ i, i < s.editions.length → Ok Tryz.prog g (fs ++ [Value.int .i64 (i : Int)] ++ cs).toArray G fun u G' => Nats G' u (bef i)) {E : Edges} (hE : ∀ k i, (k, i) ∈ E ↔ i < s.editions.length ∧ k ∈ bef i) (hd : Dag s.editions.length E) : Ok Tryz.prog 54 [.pointer (some ⟨b, 0, none⟩), .func (.func g) fs.toArray cs.toArray].toArray F fun u F' => SpansR F' u (spL (firstY s E) (lastY s E) s.editions.length) (fitsE s E) := by
 refine Ok.intro Tryz.func54 rfl Tryz.ntmps54 rfl fun w0 => ?_
 have hX0 := hX
 have hne := hv.ne
 have hlen := hX.r.len
 have hL1 := hX.r.eds.plain.lt
 refine AI (Ae 2) <| AI (Ae 1) <| Ac <| Aw (Ae 1) fun ds => Af rfl (AH Aa) <| Ao (Ae 2) <| Af rfl (Ah B4 Aa (AM hX.blk rfl)) <| Af rfl (A6 Bl Aa hX.r.eds.plain) <| As (Ae 1) <| Ak ?_
 refine AJ [6, 8, 18, 19, 20, 21, 22, 23, 24, 25, 26, 27] (fun m e σ => ∃ k : Nat, m + k = ps.length ∧ Fct e 18 (.int .i64 (k : Int)) ∧ ∃ v6 R6, Fct e 6 v6 ∧ Own 54 2 v6 k ((spL (loS s) (hiS s) k).flatMap spanE) R6 ∧ σ = ⟨F, R6⟩) (ps.length) ?_ ?_
 · exact ⟨0, by omega, Bb, _, _, Bb, Ce, rfl⟩
 rintro m e _ ⟨k, hm, hs18, v6, R6, hs6, ho, rfl⟩
 by_cases hlt : k < ps.length
 ·refine AI (Ae 1) <| Ac <| Ag Aa (by first | rfl | exact dT (by omega)) <| Aj <| Ab <| Ac <| Ak <| Ac <| Al fun ds => Af rfl (Ax  Bl Aa hX.r.eds.plain Aa rfl hlt) <| Af rfl (AO ED Aa rfl rfl (hX.r.eds.whole hlt)) <| A3 rfl <| AN JV rfl fun b2 hb2 nb2 => AV <| AQ MK Aa Aa (i := 0) rfl rfl rfl rfl (GL (hX.r.one _ (List.getElem_mem hlt))) (.here) <| Am <| Ab <| Al fun ds => Ao (Ae 2) <| Af rfl (AO (vs := [.int .i64 ps[k].2.lo, .int .i64 ps[k].2.hi]) Cg Aa rfl rfl (Fd 0 rfl rfl)) <| A3 rfl <| C2 (offs := [(0, 2)]) (zl := [.int .i64 0, .int .i64 0]) CL EE rfl (.cons Aa rfl .nil) (by intro i p h; rcases i with _ | i <;> simp at h <;> subst h <;> rfl) (.cons rfl rfl (Nat.le_of_ble_eq_true rfl) (.cons (.here) (.cons (.next <| .here) .nil)) .nil) (by decide) (by decide) fun b3 hb3 nb3 => A3 rfl <| Bi CL el_54 Aa ho Aa (BA (s := 2) 0 rfl rfl (by simp [Value.oneCell'])) (by omega) (by omega) (.s <| .s <| .z) .last fun v4 R5 ho6 => ?_
  have ho2 : Own 54 2 v4 (k + 1) ((spL (loS s) (hiS s) (k + 1)).flatMap spanE) R5 := by have h9 := ho6; rw [UQ, List.flatMap_append, show [(loS s k, hiS s k)].flatMap spanE = [.int .i64 ps[k].2.lo, .int .i64 ps[k].2.hi] by unfold loS hiS; rw [← hX.r.at hlt]; rfl]; exact h9
  refine Ao (Ae 1) <| Am <| Az <| Ab <| By (fun _ _ h => h.drop (kD <| kD <| .refl _)) <| Al fun ds => Af rfl (AE Aa Aa rfl (by omega) (by omega)) <| Ao (Ae 1) <| Am ?_
  refine Ab ⟨_, m - 1, Off.eq (BT rfl <| Ci rfl <| A2), by omega, ?_⟩
  exact ⟨k + 1, by omega, Bb, _, _, Bb, ho2, rfl⟩
 refine AI (Ae 1) <| Ac <| Ad Aa (by first | rfl | exact dF (by omega)) ?_
 obtain rfl : k = s.editions.length := by omega
 refine AC ?_
 refine A0 <| A0 <| A4 <| Ab <| Ac <| Aw (Ae 1) fun ds => Af rfl (A6 CL Aa (ho.plain (by omega))) <| As (Ae 1) <| Ak ?_
 refine AJ [9, 11, 30, 31, 32, 33, 34, 35, 36, 37, 38, 39, 40, 41, 42, 43, 44, 45, 46, 47, 48, 49, 50, 51, 52, 53, 54, 55, 56, 57, 58, 59, 60, 61, 62, 63, 64, 65, 66, 67, 68, 69, 70, 71, 72, 73, 74, 75, 76, 77, 78, 79] (fun m e σ => ∃ (r : Nat) (G : Heap), m + r = s.editions.length ∧ Fct e 30 (.int .i64 (r : Int)) ∧ F.le G ∧ ∃ (lo hi : Nat → Int) (R6 : List (Nat × Obj)), Own 54 2 v6 s.editions.length ((spL lo hi s.editions.length).flatMap spanE) R6 ∧ YrI s E r (fun _ _ => False) lo hi ∧ σ = ⟨G, R6⟩) (s.editions.length) ?_ ?_
 · exact ⟨0, _, by omega, Bb, Heap.le_refl _, _, _, _, ho, YrI.start, rfl⟩
 rintro m2 e2 _ ⟨r, G2, hm, hr30, hle0, lo, hi, R6, ho, hI, rfl⟩; replace hX := hX0.mono hle0
 by_cases hltr : r < s.editions.length
 ·refine AI (Ae 1) <| Ac <| Ag Aa (by first | rfl | exact dT (by omega)) <| Aj <| Ab <| Ac <| Ak <| Aw (Ae 1) fun ds => Af rfl (A6 CL Aa (ho.plain (by omega))) <| As (Ae 1) <| Ak ?_
  refine AJ [9, 11, 34, 35, 36, 37, 38, 39, 40, 41, 42, 43, 44, 45, 46, 47, 48, 49, 50, 51, 52, 53, 54, 55, 56, 57, 58, 59, 60, 61, 62, 63, 64, 65, 66, 67, 68, 69, 70, 71, 72, 73, 74, 75, 76, 77, 78] (fun m e σ => ∃ (i : Nat) (G : Heap), m + i = s.editions.length ∧ Fct e 34 (.int .i64 (i : Int)) ∧ F.le G ∧ ∃ (lo hi : Nat → Int) (R6 : List (Nat × Obj)), Own 54 2 v6 s.editions.length ((spL lo hi s.editions.length).flatMap spanE) R6 ∧ YrI s E r (fun _ y => y < i) lo hi ∧ σ = ⟨G, R6⟩) (s.editions.length) ?_ ?_
  · exact ⟨0, _, by omega, Bb, hle0, _, _, _, ho, hI.weaken (fun x y _ h => absurd h (by omega)), rfl⟩
  rintro m3 e3 _ ⟨i, G3, hm, ht34, hle0, lo, hi, R6, ho, hI, rfl⟩; replace hX := hX0.mono hle0
  by_cases hlt : i < s.editions.length
  ·refine AI (Ae 1) <| Ac <| Ag Aa (by first | rfl | exact dT (by omega)) <| Aj <| Ab <| Ac <| Ak <| AI (Ae 2) <| Aw (Ae 2) fun ds => A3 rfl <| x_callF hg Aa AY (hbf _ hle0 i hlt) fun v9 F10 hr11 hF12 => ?_
   replace hle0 := Heap.le_trans hle0 hF12
   have hb := hr11
   refine Af rfl (A6 A7 Aa hb.plain) <| As (Ae 1) <| Ak ?_
   refine AJ [11, 41, 42, 43, 44, 45, 46, 47, 48, 49, 50, 51, 52, 53, 54, 55, 56, 57, 58, 59, 60, 61, 62, 63, 64, 65, 66, 67, 68, 69, 70, 71, 72, 73, 74, 75, 76, 77] (fun m e σ => ∃ q : Nat, m + q = (bef i).length ∧ Fct e 41 (.int .i64 (q : Int)) ∧ ∃ (lo hi : Nat → Int) (R6 : List (Nat × Obj)), Own 54 2 v6 s.editions.length ((spL lo hi s.editions.length).flatMap spanE) R6 ∧ YrI s E r (fun x y => y < i ∨ y = i ∧ x ∈ (bef i).take q) lo hi ∧ σ = ⟨F10, R6⟩) ((bef i).length) ?_ ?_
   · exact ⟨0, by omega, Bb, _, _, _, ho, hI.weaken (fun x y _ h => by rcases h with h | ⟨-, h⟩; exact h; simp at h), rfl⟩
   rintro m4 e4 _ ⟨q, hm, hu41, lo, hi, R6, ho, hI, rfl⟩
   have hbl := hb.plain.lt
   by_cases hlq : q < (bef i).length
   ·refine AI (Ae 1) <| Ac <| Ag Aa (by first | rfl | exact dT (by omega)) ?_
    have hkE : ((bef i)[q], i) ∈ E := (hE _ _).2 ⟨hlt, List.getElem_mem hlq⟩
    have hkn := (hd.1 _ hkE).1
    have hbk := hI.bound hv hd.1 hkn
    have hbi := hI.bound hv hd.1 hlt
    have hI2 := hI.step hd hkE
    have hbk2 : 1400 ≤ lo (bef i)[q] ∧ lo (bef i)[q] ≤ 1900 := ⟨hbk.1, hbk.2.1⟩
    refine Aj <| Ab <| Ac <| Ak <| Ac <| Al fun ds => Af rfl (Ax  A7 Aa hb.plain Aa rfl hlq) <| Af rfl (Ah AA Aa (hb.cell1 hlq rfl)) <| As (Ae 1) <| Ac ?_
    have hleS := hle0
    refine Bn (.inl rfl) (fun _ _ h => h) (.refl _) [16] (by kernel_rfl) fun ds => Ai 0 rfl (by kernel_rfl) (by kernel_rfl) (by kernel_rfl) (by kernel_rfl) rfl rfl (fun _ h => h.drop (.refl _)) (fun _ _ _ h => h) (A9 Aa) <| Ai 1 rfl (by kernel_rfl) (by kernel_rfl) (by kernel_rfl) (by kernel_rfl) rfl rfl (fun _ h => h.drop (.refl _)) (fun _ _ _ h => h) (A9 Aa) <| Ai 2 rfl (by kernel_rfl) (by kernel_rfl) (by kernel_rfl) (by kernel_rfl) rfl rfl (fun _ h => h.drop (.refl _)) (fun _ _ _ h => h) (A9 Aa) <| Ai 3 rfl (by kernel_rfl) (by kernel_rfl) (by kernel_rfl) (by kernel_rfl) rfl rfl (fun _ h => h.drop (.refl _)) (fun _ _ _ h => h) (A9 Aa) <| Ai 4 rfl (by kernel_rfl) (by kernel_rfl) (by kernel_rfl) (by kernel_rfl) rfl rfl (fun _ h => h.drop (.refl _)) (fun _ _ _ h => h) (Ax (k := i) CL Aa (ho.plain (by omega)) Aa rfl hlt) <| Ai 5 rfl (by kernel_rfl) (by kernel_rfl) (by kernel_rfl) (by kernel_rfl) rfl rfl (fun _ h => h.drop (.refl _)) (fun _ _ _ h => h) (BB EI Aa) <| Ai 6 rfl (by kernel_rfl) (by kernel_rfl) (by kernel_rfl) (by kernel_rfl) rfl rfl (fun _ h => h.drop (.refl _)) (fun _ _ _ h => h) (Ah AA Aa (CM ho (fun p hp => hp) (OW hlt))) <| Ai 7 rfl (by kernel_rfl) (by kernel_rfl) (by kernel_rfl) (by kernel_rfl) rfl rfl (fun _ h => h.drop (.refl _)) (fun _ _ _ h => h) (A9 Aa) <| Ai 8 rfl (by kernel_rfl) (by kernel_rfl) (by kernel_rfl) (by kernel_rfl) rfl rfl (fun _ h => h.drop (.refl _)) (fun _ _ _ h => h) (A9 Aa) ?_
    refine Ai 9 rfl (by kernel_rfl) (by kernel_rfl) (by kernel_rfl) (by kernel_rfl) rfl rfl (fun _ h => h.drop (.refl _)) (fun _ _ _ h => h) (Ax (k := (bef i)[q]) CL Aa (ho.plain (by omega)) Aa rfl hkn) <| Ai 10 rfl (by kernel_rfl) (by kernel_rfl) (by kernel_rfl) (by kernel_rfl) rfl rfl (fun _ h => h.drop (.refl _)) (fun _ _ _ h => h) (BB EI Aa) <| Ai 11 rfl (by kernel_rfl) (by kernel_rfl) (by kernel_rfl) (by kernel_rfl) rfl rfl (fun _ h => h.drop (.refl _)) (fun _ _ _ h => h) (Ah AA Aa (CM ho (fun p hp => hp) (OW hkn))) <| Ai 12 rfl (by kernel_rfl) (by kernel_rfl) (by kernel_rfl) (by kernel_rfl) rfl rfl (fun _ h => h.drop (.refl _)) (fun _ _ _ h => h) (AE Aa Aa rfl (by omega) (by omega)) <| Ai 13 rfl (by kernel_rfl) (by kernel_rfl) (by kernel_rfl) (by kernel_rfl) rfl rfl (fun _ h => h.drop (.refl _)) (fun _ _ _ h => h) (Ee Aa Aa) <| Ai 14 rfl (by kernel_rfl) (by kernel_rfl) (by kernel_rfl) (by kernel_rfl) rfl rfl (fun _ h => h.drop (.refl _)) (fun _ _ _ h => h) (Ax (k := i) CL Aa (ho.plain (by omega)) Aa rfl hlt) <| Ai 15 rfl (by kernel_rfl) (by kernel_rfl) (by kernel_rfl) (by kernel_rfl) rfl rfl (fun _ h => h.drop (.refl _)) (fun _ _ _ h => h) (BB EI Aa) ?_
    refine BG 16 rfl (by kernel_rfl) (Dy Cc Aa Aa ho (by rw [OU]; omega) rfl (.z) .last fun R14 ho15 => ⟨(fun h => nomatch h), ?_⟩)
    have ho3 := ho15
    rw [US hlt] at ho3
    refine Bo (by kernel_rfl) ?_ _
    refine Ab ?_
    have hleS := hle0
    refine Bn (.inl rfl) (fun _ _ h => h) (.refl _) [16] (by kernel_rfl) fun ds => Ai 0 rfl (by kernel_rfl) (by kernel_rfl) (by kernel_rfl) (by kernel_rfl) rfl rfl (fun _ h => h.drop (.refl _)) (fun _ _ _ h => h) (A9 Aa) <| Ai 1 rfl (by kernel_rfl) (by kernel_rfl) (by kernel_rfl) (by kernel_rfl) rfl rfl (fun _ h => h.drop (.refl _)) (fun _ _ _ h => h) (A9 Aa) <| Ai 2 rfl (by kernel_rfl) (by kernel_rfl) (by kernel_rfl) (by kernel_rfl) rfl rfl (fun _ h => h.drop (.refl _)) (fun _ _ _ h => h) (A9 Aa) <| Ai 3 rfl (by kernel_rfl) (by kernel_rfl) (by kernel_rfl) (by kernel_rfl) rfl rfl (fun _ h => h.drop (.refl _)) (fun _ _ _ h => h) (A9 Aa) <| Ai 4 rfl (by kernel_rfl) (by kernel_rfl) (by kernel_rfl) (by kernel_rfl) rfl rfl (fun _ h => h.drop (.refl _)) (fun _ _ _ h => h) (Ax (k := (bef i)[q]) CL Aa (ho3.plain (by omega)) Aa rfl hkn) <| Ai 5 rfl (by kernel_rfl) (by kernel_rfl) (by kernel_rfl) (by kernel_rfl) rfl rfl (fun _ h => h.drop (.refl _)) (fun _ _ _ h => h) (BB K8 Aa) <| Ai 6 rfl (by kernel_rfl) (by kernel_rfl) (by kernel_rfl) (by kernel_rfl) rfl rfl (fun _ h => h.drop (.refl _)) (fun _ _ _ h => h) (Ah AA Aa (CM ho3 (fun p hp => hp) (OV hkn))) <| Ai 7 rfl (by kernel_rfl) (by kernel_rfl) (by kernel_rfl) (by kernel_rfl) rfl rfl (fun _ h => h.drop (.refl _)) (fun _ _ _ h => h) (A9 Aa) <| Ai 8 rfl (by kernel_rfl) (by kernel_rfl) (by kernel_rfl) (by kernel_rfl) rfl rfl (fun _ h => h.drop (.refl _)) (fun _ _ _ h => h) (A9 Aa) ?_
    refine Ai 9 rfl (by kernel_rfl) (by kernel_rfl) (by kernel_rfl) (by kernel_rfl) rfl rfl (fun _ h => h.drop (.refl _)) (fun _ _ _ h => h) (Ax (k := i) CL Aa (ho3.plain (by omega)) Aa rfl hlt) <| Ai 10 rfl (by kernel_rfl) (by kernel_rfl) (by kernel_rfl) (by kernel_rfl) rfl rfl (fun _ h => h.drop (.refl _)) (fun _ _ _ h => h) (BB K8 Aa) <| Ai 11 rfl (by kernel_rfl) (by kernel_rfl) (by kernel_rfl) (by kernel_rfl) rfl rfl (fun _ h => h.drop (.refl _)) (fun _ _ _ h => h) (Ah AA Aa (CM ho3 (fun p hp => hp) (OV hlt))) <| Ai 12 rfl (by kernel_rfl) (by kernel_rfl) (by kernel_rfl) (by kernel_rfl) rfl rfl (fun _ h => h.drop (.refl _)) (fun _ _ _ h => h) (BZ Aa Aa rfl (by omega) (by omega)) <| Ai 13 rfl (by kernel_rfl) (by kernel_rfl) (by kernel_rfl) (by kernel_rfl) rfl rfl (fun _ h => h.drop (.refl _)) (fun _ _ _ h => h) (E4 Aa Aa) <| Ai 14 rfl (by kernel_rfl) (by kernel_rfl) (by kernel_rfl) (by kernel_rfl) rfl rfl (fun _ h => h.drop (.refl _)) (fun _ _ _ h => h) (Ax (k := (bef i)[q]) CL Aa (ho3.plain (by omega)) Aa rfl hkn) <| Ai 15 rfl (by kernel_rfl) (by kernel_rfl) (by kernel_rfl) (by kernel_rfl) rfl rfl (fun _ h => h.drop (.refl _)) (fun _ _ _ h => h) (BB K8 Aa) ?_
    refine BG 16 rfl (by kernel_rfl) (Dy Cc Aa Aa ho3 (by rw [OU]; omega) rfl (.z) .last fun R16 ho17 => ⟨(fun h => nomatch h), ?_⟩)
    have ho4 := ho17
    rw [UR hkn] at ho4
    refine Bo (by kernel_rfl) ?_ _
    refine Az <| Ab <| Al fun ds => Af rfl (AE Aa Aa rfl (by omega) (by omega)) <| Ao (Ae 1) <| Am ?_
    refine Ab ⟨_, m4 - 1, Off.eq (Cv rfl <| Ci rfl <| Cw rfl <| A2), by omega, ?_⟩
    refine ⟨q + 1, by omega, Bb, _, _, _, ho4, hI2.weaken (fun x y _ h => ?_), rfl⟩
    rcases h with h | ⟨h1, h2⟩
    · exact .inl (.inl h)
    rw [List.take_succ_eq_append_getElem hlq, List.mem_append] at h2
    rcases h2 with h2 | h2
    · exact .inl (.inr ⟨h1, h2⟩)
    exact .inr ⟨by simpa using h2, h1⟩
   refine AI (Ae 1) <| Ac <| Ad Aa (by first | rfl | exact dF (by omega)) ?_
   obtain rfl : q = (bef i).length := by omega
   refine AC ?_
   refine A0 <| A0 <| A4 <| Az <| Ab <| Al fun ds => Af rfl (AE Aa Aa rfl (by omega) (by omega)) <| Ao (Ae 1) <| Am ?_
   refine Ab ⟨_, m3 - 1, Off.eq (Cw rfl <| BY rfl <| BJ rfl <| BT rfl <| A2), by omega, ?_⟩
   refine ⟨i + 1, _, by omega, Bb, hle0, _, _, _, ho, hI.weaken (fun x y hxy h => ?_), rfl⟩
   by_cases h2 : y = i
   · exact .inr ⟨h2, by rw [List.take_length]; subst h2; exact ((hE _ _).1 hxy).2⟩
   exact .inl (by omega)
  refine AI (Ae 1) <| Ac <| Ad Aa (by first | rfl | exact dF (by omega)) ?_
  obtain rfl : i = s.editions.length := by omega
  refine AC ?_
  refine A0 <| A0 <| A4 <| Az <| Ab <| Al fun ds => Af rfl (AE Aa Aa rfl (by omega) (by omega)) <| Ao (Ae 1) <| Am ?_
  refine Ab ⟨_, m2 - 1, Off.eq (Cw rfl <| BY rfl <| BJ rfl <| Ci rfl <| A2), by omega, ?_⟩
  exact ⟨r + 1, _, by omega, Bb, hle0, _, _, _, ho, hI.round (fun x y h => (hd.1 _ h).2), rfl⟩
 refine AI (Ae 1) <| Ac <| Ad Aa (by first | rfl | exact dF (by omega)) ?_
 have ho9 := ho.to (k' := (spL lo hi s.editions.length).length) BC.symm
 refine Bm (σ := ⟨_, _⟩) (by rfl) ho9 (.z) .last fun F18 hF19 hz20 => ?_
 have hsp := ho9.sl (fun _ => rfl) hz20 (by rw [BC]; omega)
 rw [hI.full (by omega)] at hsp
 refine AC ?_
 refine A0 <| A0 <| A4 <| Ab <| Aw (Ae 2) fun ds => AS rfl (Ay bd_94 Aa AY (LT hsp (fun y => decide (y.2 < y.1)) bd_95 fun k hk => Tn _) (fun _ _ h => h)) <| As (Ae 3) <| At <| Aq rfl Bf ?_
 exact ⟨_, by rw [VB hd, Bool.not_not]; rfl, hsp⟩
end
section
open Go.RowKit
def dstB (ops : Array Oper) (j : Nat) : Nat := match (ops[j]?).bind (·.dst) with | some d => d | none => 0
def depB (ops : Array Oper) (i j : Nat) : Bool := match ops[i]? with | some o => o.after.any fun x => Region.binds .any x && x.on == j | none => false
def factB (n : Nat) (ops : Array Oper) (k : Nat) : Bool :=
 (List.range k).all (fun i => match ops[i]? with
   | some o => (match o.dst with | some d => Nat.blt d n | none => false) && o.guard.isNone && o.after.all (fun x => !(Region.binds .any x) || Nat.blt x.on i) && (List.range i).all (fun j => !(Nat.beq (dstB ops j) (dstB ops i)))
   | none => false) &&
 (ops.size == k || (ops.size == k + 1 && (match ops[k]? with
   | some o => o.dst.isNone && o.guard.isNone && o.after.all (fun x => !(Region.binds .any x) || Nat.blt x.on k) && (List.range k).all (depB ops k)
   | none => false)))
def AllTo (H : Nat → Prop) : Nat → Prop
 | 0 => True
 | k + 1 => AllTo H k ∧ H k
theorem AllTo.get {H : Nat → Prop} : ∀ {k : Nat}, AllTo H k → ∀ i, i < k → H i
 | 0, _, i, h => absurd h (by omega)
 | k + 1, h, i, hi => by
   by_cases hk : i = k
   · subst hk; exact h.2
   exact AllTo.get h.1 i (by omega)
section
variable {P : Program} {n : Nat} {B : Base} {e0 : Env} {σ : St}
def Hop (P : Program) (n : Nat) (B : Base) (ops : Array Oper) (k : Nat) (Φ : Nat → Heap → Value → Prop) (e0 : Env) (σ : St) (i : Nat) : Prop :=
 ∀ e F, σ.F.le F → (∀ t, (∀ j, j < k → t ≠ dstB ops j) → e t = e0 t) → (∀ j, depB ops i j = true → j < k → Φ j F (e (dstB ops j))) →
   ∃ d op ty pos af, ops[i]? = some ⟨some d, op, ty, pos, af, none⟩ ∧ OpX P n B ⟨some d, op, ty, pos, af, none⟩ e ⟨F, σ.H⟩ fun v σ' => ∃ F', σ' = ⟨F', σ.H⟩ ∧ F.le F' ∧ Φ i F' v
def Hend (P : Program) (n : Nat) (B : Base) (ops : Array Oper) (k : Nat) (Φ : Nat → Heap → Value → Prop) (e0 : Env) (σ : St) (Q : Exit → Env → St → Prop) : Prop :=
 ∀ e F, σ.F.le F → (∀ t, (∀ j, j < k → t ≠ dstB ops j) → e t = e0 t) → (∀ j, j < k → Φ j F (e (dstB ops j))) →
   (ops.size = k → Q .normal e ⟨F, σ.H⟩) ∧ (ops.size = k + 1 → ∃ op ty pos af, ops[k]? = some ⟨none, op, ty, pos, af, none⟩ ∧ OpX P n B ⟨none, op, ty, pos, af, none⟩ e ⟨F, σ.H⟩ fun _ σ' => Q .normal e σ')
def HendT (P : Program) (n : Nat) (B : Base) (ops : Array Oper) (k : Nat) (Φ : Nat → Heap → Value → Prop) (e0 : Env) (σ : St) (Q : Exit → Env → St → Prop) : Bool → Prop
 | false => ∀ e F, σ.F.le F → (∀ t, (∀ j, j < k → t ≠ dstB ops j) → e t = e0 t) → (∀ j, j < k → Φ j F (e (dstB ops j))) → Q .normal e ⟨F, σ.H⟩
 | true => ∀ e F, σ.F.le F → (∀ t, (∀ j, j < k → t ≠ dstB ops j) → e t = e0 t) → (∀ j, j < k → Φ j F (e (dstB ops j))) → ∃ op ty pos af, ops[k]? = some ⟨none, op, ty, pos, af, none⟩ ∧ OpX P n B ⟨none, op, ty, pos, af, none⟩ e ⟨F, σ.H⟩ fun _ σ' => Q .normal e σ'
theorem HendT.to {ops : Array Oper} {k : Nat} {Φ : Nat → Heap → Value → Prop} {Q : Exit → Env → St → Prop} {tail : Bool} (ht : Nat.beq ops.size (k + 1) = tail) (h : HendT P n B ops k Φ e0 σ Q tail) : Hend P n B ops k Φ e0 σ Q := by
 intro e F h1 h2 h3
 cases tail with
 | false => exact ⟨fun _ => h e F h1 h2 h3, fun hs => by rw [hs] at ht; simp at ht⟩
 | true => exact ⟨fun hs => by rw [hs] at ht; simp at ht, fun _ => h e F h1 h2 h3⟩
def freshB (ops : Array Oper) (k t : Nat) : Bool := (List.range k).all fun j => !(Nat.beq t (dstB ops j))
theorem C7 {ops : Array Oper} {k t : Nat} {e : Env} (he : ∀ t, (∀ j, j < k → t ≠ dstB ops j) → e t = e0 t) (h : freshB ops k t = true) : e t = e0 t :=
 he t fun j hj hh => by
   have := List.all_eq_true.1 h j (by simpa using hj)
   rw [← hh] at this
   simp at this
theorem Bh {e : Env} {t : Nat} {v : Value} (h : e t = v) : ev e (.tmp t) = v := h
theorem BW {e e0 : Env} {t : Nat} {v : Value} (h0 : e t = e0 t) (h : ev e0 (.tmp t) = v) : ev e (.tmp t) = v := h0.trans h
theorem Dl {o : Oper} {e : Env} {K : Value → St → Prop} (h : OpX P n B o e σ fun v σ' => ∃ b ob, B.w0.heap.size ≤ b ∧ σ' = ⟨σ.F, (b, ob) :: σ.H⟩ ∧ ∀ F', σ.F.le F' → F' b = some ob → K v ⟨F', σ.H⟩) : OpX P n B o e σ K := by
 intro a w ha hw next Qx hnext
 refine h a w ha hw next Qx fun v σ' w' hK hw' => ?_
 obtain ⟨b, ob, hb, rfl, hK⟩ := hK
 have hn := (hw'.own (b, ob) (by simp)).2.1
 have hfz := hw'.freeze (i := 0) rfl hb
 exact hnext v _ w' (hK _ (E8 hn) DG) hfz
theorem Dc {α : Type} {F : Heap} {b T s m : Nat} {l : List Value} {enc : α → List Value} {xs : List α} (h : F b = some (bx T l)) (hl : l = xs.flatMap enc) (hm : xs.length = m) (hs : ∀ x, (enc x).length = s) (hlt : m < 281474976710656) : Sl F (.slice (some ⟨b, 0, none⟩) m m) s enc xs := by
 subst hl; subst hm
 exact Own.sl (E := T) (R := [(b, bx T (xs.flatMap enc))]) (CR (C8 hs xs)) hs (fun p hp => by simp at hp; subst hp; exact h) hlt
theorem Oq {ops : Array Oper} {i : Nat} {o : Oper} (ho : ops[i]? = some o) {j : Nat} (h : depB ops i j = true) : ∃ x ∈ o.after, Region.binds .any x = true ∧ x.on = j := by
 unfold depB at h
 rw [ho] at h
 obtain ⟨x, hx, hb⟩ := Array.any_eq_true'.1 h
 simp only [Bool.and_eq_true, beq_iff_eq] at hb
 exact ⟨x, hx, hb.1, hb.2⟩
def undone (listed : Array Bool) : Nat := listed.toList.count false
theorem Nq : ∀ {l : List Bool} {i : Nat} (hi : i < l.length), l[i] = false → (l.set i true).count false + 1 = l.count false
 | [], i, hi, _ => by simp at hi
 | a :: l, 0, _, hv => by simp at hv; subst hv; simp
 | a :: l, i + 1, hi, hv => by
   have := Nq (l := l) (i := i) (by simpa using hi) (by simpa using hv)
   simp only [List.set_cons_succ, List.count_cons]
   omega
theorem KP {listed : Array Bool} {i : Nat} (h : listed.getD i true = false) : undone (listed.setIfInBounds i true) + 1 = undone listed := by
 have hi : i < listed.size := by
   rcases Nat.lt_or_ge i listed.size with h' | h'
   · exact h'
   simp [Array.getD, Nat.not_lt.2 h'] at h
 have hv : listed.toList[i]'(by simpa using hi) = false := by simpa [Array.getD, hi] using h
 unfold undone
 rw [Array.toList_setIfInBounds]
 exact Nq (by simpa using hi) hv
theorem LL {ops : Array Oper} {k : Nat} (hB : factB n ops k = true) {i : Nat} (hi : i < k) : ∃ o d, ops[i]? = some o ∧ o.dst = some d ∧ d < n ∧ o.guard = none ∧ (∀ x ∈ o.after, Region.binds .any x = true → x.on < i) ∧ ∀ j, j < i → dstB ops j ≠ dstB ops i := by
 unfold factB at hB
 simp only [Bool.and_eq_true] at hB
 have h := List.all_eq_true.1 hB.1 i (by simpa using hi)
 split at h
 · rename_i o ho
   simp only [Bool.and_eq_true] at h
   obtain ⟨⟨⟨h1, h2⟩, h3⟩, h4⟩ := h
   split at h1
   · rename_i d hd
     refine ⟨o, d, ho, hd, by simpa using h1, by simpa using h2, fun x hx hb => ?_, fun j hj he => ?_⟩
     · have := Array.all_eq_true'.1 h3 x hx
       simpa [hb] using this
     have := List.all_eq_true.1 h4 j (by simpa using hj)
     rw [he] at this
     simp at this
   cases h1
 cases h
theorem JJ {ops : Array Oper} {k : Nat} (hB : factB n ops k = true) : ops.size = k ∨ (ops.size = k + 1 ∧ ∃ o, ops[k]? = some o ∧ o.dst = none ∧ o.guard = none ∧ (∀ x ∈ o.after, Region.binds .any x = true → x.on < k) ∧ ∀ j, j < k → depB ops k j = true) := by
 unfold factB at hB
 simp only [Bool.and_eq_true, Bool.or_eq_true, beq_iff_eq] at hB
 rcases hB.2 with h | ⟨h1, h2⟩
 · exact .inl h
 refine .inr ⟨h1, ?_⟩
 split at h2
 · rename_i o ho
   simp only [Bool.and_eq_true] at h2
   obtain ⟨⟨⟨q1, q2⟩, q3⟩, q4⟩ := h2
   refine ⟨o, ho, by simpa using q1, by simpa using q2, fun x hx hb => ?_, fun j hj => ?_⟩
   · have := Array.all_eq_true'.1 q3 x hx
     simpa [hb] using this
   exact List.all_eq_true.1 q4 j (by simpa using hj)
 cases h2
theorem OC {ops : Array Oper} {k : Nat} {Φ : Nat → Heap → Value → Prop} {Q : Exit → Env → St → Prop} (hB : factB n ops k = true) (hm : ∀ i F F' v, F.le F' → Φ i F v → Φ i F' v)
   (hops : AllTo (Hop P n B ops k Φ e0 σ) k) (hend : Hend P n B ops k Φ e0 σ Q) : ∀ (fuel : Nat) (listed : Array Bool) (a : Act) (w : World) (e : Env) (F : Heap), Fits n B a e → Holds B ⟨F, σ.H⟩ w → σ.F.le F →
     (∀ t, (∀ j, j < k → t ≠ dstB ops j) → e t = e0 t) → (∀ j, j < k → listed.getD j false = true → Φ j F (e (dstB ops j))) → listed.size = ops.size → listed.getD k false = false → undone listed = fuel →
     wpAny P .any ops (lift n B Q) fuel listed a w := by
 have hready : ∀ (listed : Array Bool), listed.size = ops.size → undone listed ≠ 0 → ∃ i, i ∈ Region.ready .any ops listed := by
   intro listed hsz hun
   have hex : ∃ i, i < listed.size ∧ listed.getD i false = false := by
     have : false ∈ listed.toList := by
       rw [← List.count_pos_iff]; unfold undone at hun; omega
     obtain ⟨i, hi, he⟩ := List.mem_iff_getElem.1 this
     exact ⟨i, by simpa using hi, by simp at hi; simp [Array.getD, hi]; simpa using he⟩
   obtain ⟨i, ⟨hi, hli⟩, hmin⟩ := D4 hex
   refine ⟨i, mem_ready.2 ⟨by simp [Array.getD, hi] at hli ⊢; exact hli, ?_⟩⟩
   have hlt : ∀ j, j < i → listed.getD j false = true := fun j hj => by
     cases hc : listed.getD j false with
     | true => rfl
     | false => exact absurd (hmin j ⟨by omega, hc⟩) (by omega)
   by_cases hik : i < k
   · obtain ⟨o, d, h1, -, -, -, h5, -⟩ := LL hB hik
     exact ⟨o, h1, fun x hx hb => hlt _ (h5 x hx hb)⟩
   rcases JJ hB with h | ⟨h, o, h1, -, -, h4, -⟩
   · omega
   have : i = k := by omega
   subst this
   exact ⟨o, h1, fun x hx hb => hlt _ (h4 x hx hb)⟩
 intro fuel
 induction fuel with
 | zero =>
   intro listed a w e F hf hw hF he hΦ hsz hk0 hun
   have hall : ∀ j, j < listed.size → listed.getD j false = true := fun j hj => by
     cases hc : listed.getD j false with
     | true => rfl
     | false =>
       have h1 : false ∈ listed.toList := List.mem_iff_getElem.2 ⟨j, by simpa using hj, by simp [Array.getD, hj] at hc; simpa using hc⟩
       rw [← List.count_pos_iff] at h1
       unfold undone at hun; omega
   have hsk : ops.size = k := by
     rcases JJ hB with h | ⟨h, -⟩
     · exact h
     have := hall k (by omega); rw [hk0] at this; cases this
   refine ⟨?_, B.ds, e, ⟨F, σ.H⟩, hf, hw, (hend e F hF he fun j hj => hΦ j hj (hall j (by omega))).1 hsk⟩
   cases hr : Region.ready .any ops listed with
   | nil => rfl
   | cons i l =>
     have : i ∈ Region.ready .any ops listed := by rw [hr]; simp
     obtain ⟨h1, o, ho, -⟩ := mem_ready.1 this
     have hi : i < listed.size := by rw [hsz]; exact (Array.getElem?_eq_some_iff.1 ho).1
     have h2 := hall i hi
     simp [Array.getD, hi] at h1 h2
     rw [h1] at h2; cases h2
 | succ fuel ih =>
   intro listed a w e F hf hw hF he hΦ hsz hk0 hun
   obtain ⟨i0, hi0⟩ := hready listed hsz (by omega)
   refine ⟨fun h => (by rw [h] at hi0; cases hi0), fun i hi => ?_⟩
   obtain ⟨h1, o, ho, hdeps⟩ := mem_ready.1 hi
   have hil : i < listed.size := by rw [hsz]; exact (Array.getElem?_eq_some_iff.1 ho).1
   have hun' := KP h1
   by_cases hik : i < k
   · obtain ⟨o', d', h2, h3, h4, h5, h6, h7⟩ := LL hB hik
     obtain ⟨d, op, ty, pos, af, q1, q2⟩ := hops.get i hik e F hF he fun j hj hjk => by
       obtain ⟨x, hx, hb, rfl⟩ := Oq ho hj
       exact hΦ _ hjk (hdeps x hx hb)
     rw [q1] at ho
     cases ho
     rw [q1] at h2
     cases h2
     have hdd : dstB ops i = d := by unfold dstB; rw [q1]; rfl
     have hdn : d < n := by
       have : d = d' := by simpa using h3
       subst this; exact h4
     unfold wpOp
     simp only [q1]
     rw [if_pos (by simp [Region.wanted])]
     refine .inl (q2 a w hf hw _ _ fun v σ' w' hK hw' => ?_)
     obtain ⟨F', rfl, hle, hφ⟩ := hK
     refine ih (listed.setIfInBounds i true) _ w' (upd e d v) F' (hf.put hdn v) hw' (Heap.le_trans hF hle) (fun t ht => ?_) (fun j hj hlj => ?_) (by simpa using hsz) ?_ (by omega)
     · unfold upd
       rw [if_neg (fun h => ht i hik (by rw [h, hdd]))]
       exact he t ht
     · by_cases hji : j = i
       · subst hji
         rw [hdd]
         simp only [upd, if_true]
         exact hφ
       have hne : dstB ops j ≠ d := by
         rw [← hdd]
         rcases Nat.lt_or_ge j i with h | h
         · exact h7 j h
         obtain ⟨-, -, -, -, -, -, -, h8⟩ := LL hB hj
         exact (h8 i (by omega)).symm
       simp only [upd, if_neg hne]
       rw [getD_set_ne false (Ne.symm hji)] at hlj
       exact hm _ _ _ _ hle (hΦ j hj hlj)
     rw [getD_set_ne false (by omega)]; exact hk0
   rcases JJ hB with h | ⟨h, o', q1, q2, q3, q4, q5⟩
   · omega
   have hie : i = k := by omega
   subst hie
   rw [q1] at ho
   cases ho
   have hfull : ∀ j, j < i → listed.getD j false = true := fun j hj => by
     obtain ⟨x, hx, hb, rfl⟩ := Oq q1 (q5 j hj)
     exact hdeps x hx hb
   obtain ⟨op, ty, pos, af, p1, p2⟩ := (hend e F hF he fun j hj => hΦ j hj (hfull j hj)).2 h
   rw [q1] at p1
   cases p1
   unfold wpOp
   simp only [q1]
   rw [if_pos (by simp [Region.wanted])]
   refine .inl (p2 a w hf hw _ _ fun v σ' w' hK hw' => ?_)
   have hz : fuel = 0 := by
     have hcnt : undone (listed.setIfInBounds i true) = 0 := by
       have hall : ∀ j, j < (listed.setIfInBounds i true).size → (listed.setIfInBounds i true).getD j false = true := fun j hj => by
         by_cases hji : j = i
         · subst hji; simp [Array.getD, hil]
         rw [getD_set_ne false (Ne.symm hji)]
         exact hfull j (by simp at hj; omega)
       unfold undone
       rw [List.count_eq_zero]
       intro hmem
       obtain ⟨j, hj, hje⟩ := List.mem_iff_getElem.1 hmem
       have hj' : j < (listed.setIfInBounds i true).size := by simpa using hj
       have h9 := hall j hj'
       simp only [Array.getD, hj', dif_pos] at h9
       rw [Array.getElem_toList] at hje
       have h10 : (listed.setIfInBounds i true)[j]'hj' = true := h9
       rw [h10] at hje; cases hje
     omega
   subst hz
   refine ⟨?_, B.ds, e, σ', hf, hw', hK⟩
   cases hr : Region.ready .any ops (listed.setIfInBounds i true) with
   | nil => rfl
   | cons q l =>
     have hq : q ∈ Region.ready .any ops (listed.setIfInBounds i true) := by rw [hr]; simp
     obtain ⟨h1q, o, hoq, -⟩ := mem_ready.1 hq
     have hqs : q < listed.size := by rw [hsz]; exact (Array.getElem?_eq_some_iff.1 hoq).1
     by_cases hqi : q = i
     · subst hqi; simp [Array.getD, hil] at h1q
     have h2 := hfull q (by omega)
     rw [getD_set_ne true (Ne.symm hqi)] at h1q
     simp [Array.getD, hqs] at h1q h2
     rw [h1q] at h2; cases h2
def AllMono : List (Heap → Value → Prop) → Prop
 | [] => True
 | p :: l => (∀ F F' v, F.le F' → p F v → p F' v) ∧ AllMono l
def phiOf : List (Heap → Value → Prop) → Nat → Heap → Value → Prop
 | [], _ => fun _ _ => True
 | p :: _, 0 => p
 | _ :: l, i + 1 => phiOf l i
theorem AllMono.phi : ∀ {l : List (Heap → Value → Prop)}, AllMono l → ∀ i F F' v, F.le F' → phiOf l i F v → phiOf l i F' v
 | [], _, _, _, _, _, _, h => h
 | _ :: _, h, 0, _, _, _, hF, hp => h.1 _ _ _ hF hp
 | _ :: _, h, i + 1, _, _, _, hF, hp => h.2.phi i _ _ _ hF hp
theorem WU {id : Nat} {l : List Oper} {Q : Exit → Env → St → Prop} (k : Nat) (hp : Plainly B.ro l) (hO : ∀ e σ, Q .outgrown e σ → False) (hm : P.follows .mixedOrders = true) (hB : factB n l.toArray k = true) (tail : Bool) (ht : Nat.beq l.toArray.size (k + 1) = tail)
   (φs : List (Heap → Value → Prop)) (hmono : AllMono φs)
   (hops : ∀ ds, AllTo (Hop P n (B.at ds) l.toArray k (phiOf φs) e0 σ) k) (hend : ∀ ds, HendT P n (B.at ds) l.toArray k (phiOf φs) e0 σ Q tail) : WC P n B (.region id l.toArray true) Q e0 σ := by
 intro ds a w ha hw
 refine wpIn_region_any hm (Ez (HX hO) (by simpa using hp.mem) _ _ _ _ ?_)
 have := OC (P := P) (e0 := e0) (σ := σ) (Q := Q) hB hmono.phi (hops ds) ((hend ds).to ht) l.toArray.size (Array.replicate l.toArray.size false) a _ e0 σ.F ha hw.drew (Heap.le_refl _) (fun _ _ => rfl) (fun j _ h => by simp [Array.getD] at h) (by simp) (by simp [Array.getD]) (by simp [undone])
 exact this
end
end
section
set_option maxRecDepth 100000
open Go.RowKit
theorem N1 : Body Tryz.prog 63 := AF (by kernel_rfl)
theorem bd_131 : Body Tryz.prog 131 := AF (by kernel_rfl)
theorem SN : Body Tryz.prog 54 := AF (by kernel_rfl)
theorem N3 : Body Tryz.prog 55 := AF (by kernel_rfl)
def srcN (l : List Int) (i : Nat) : List Nat := (sourceL l i).map Int.toNat
theorem Hg {l : List Int} (ht : TreeIn l) {i : Nat} (hi : i < l.length) : ∀ x ∈ sourceL l i, 0 ≤ x := by
 intro x hx
 unfold sourceL at hx
 split at hx
 · cases hx
 rename_i h
 have := ht i hi
 simp at hx
 omega
theorem Fu {F : Heap} {l : List Int} (ht : TreeIn l) {i : Nat} (hi : i < l.length) (h5 : l.length ≤ 5) : Ok Tryz.prog 55 [treeV l, .int .i64 (i : Int)].toArray F fun u F' => Nats F' u (srcN l i) :=
 (To (by omega)).mono fun _ _ _ h => h.nats (Hg ht hi)
theorem La {l : List Int} (_ht : TreeIn l) {k i : Nat} : (k, i) ∈ treeE l ↔ i < l.length ∧ k ∈ srcN l i := by
 rw [GC]
 unfold srcN sourceL
 by_cases h : upN l i = -1
 · simp [h]
 rw [if_neg h]
 simp [h]
theorem HY {F : Heap} {b : Nat} {vp ve vm : Value} {ps : List (Value × Edn)} {s : Stm} (hX : StmX F b vp ve vm ps s) {l : List Int} (ht : IsTree l) (hll : l.length = s.editions.length) (hv : ValidT s) : Ok Tryz.prog 81 [.pointer (some ⟨b, 0, none⟩), treeV l].toArray F fun u _ => u = .bool (fitsE s (treeE l)) := by
 refine Ok.intro Tryz.func81 rfl Tryz.ntmps81 rfl fun w0 => ?_
 have hne := hv.ne
 have hl5 : l.length ≤ 5 := by omega
 refine Ac <| Al fun ds => A3 rfl <| Bc Aa rfl fun b1 hb1 nb1 => As (Ae 1) <| Aw (Ae 2) fun ds => Af rfl (DT AY .nil) <| A3 rfl <| Be SN Aa AY (HC hX hv (fs := [treeV l]) (cs := []) N3 (bef := srcN l) (fun G hG i hi => Fu ht.in_ (by omega) hl5) (E := treeE l) (fun k i => by rw [La ht.in_, hll]) (by rw [← hll]; exact ht.dag)) fun v2 F3 hr4 hF5 => ?_
 obtain ⟨vsp, rfl, hsp⟩ := hr4
 refine As (Ae 5) <| AI (Ae 2) <| At <| Aq rfl Bf ?_
 rfl
theorem Td {F : Heap} {b T : Nat} {l : List Int} (h : F b = some (bx T (treeC l))) : Ints F (.slice (some ⟨b, 0, none⟩) 5 5) ((List.range 5).map (upN l)) :=
 Dc h (by simp [treeC, intE, List.flatMap_map, ← List.map_eq_flatMap]) (by simp) (fun _ => rfl) (by omega)
theorem Tb {F : Heap} {b T : Nat} {l : List Int} (h : F b = some (bx T (treeC l))) (hl : l.length ≤ 5) : Ints F (subslice (.slice (some ⟨b, 0, none⟩) 5 5) 0 l.length 1) l := by
 have h1 := (Td h).to (k := l.length) (by simpa using hl)
 have e : ((List.range 5).map (upN l)).take l.length = l := by
   apply List.ext_getElem
   · simp; omega
   intro i h1 h2
   simp [BR h2]
 rw [e] at h1
 exact h1
theorem root_ok {F : Heap} {b : Nat} {vp ve vm : Value} {ps : List (Value × Edn)} {s : Stm} (hX : StmX F b vp ve vm ps s) {l : List Int} (_ht : IsTree l) (hll : l.length = s.editions.length) (hv : ValidT s) : Ok Tryz.prog 106 [.pointer (some ⟨b, 0, none⟩), treeV l].toArray F fun u _ => u = .int .i64 (rootN l) := by
 refine Ok.intro Tryz.func106 rfl Tryz.ntmps106 rfl fun w0 => ?_
 have hne := hv.ne
 have hlen := hX.r.len
 have hL1 := hX.r.eds.plain.lt
 have hl5 : l.length ≤ 5 := by omega
 refine Ac <| Al fun ds => A3 rfl <| Bc Aa rfl fun b1 hb1 nb1 => As (Ae 1) <| Ac <| AL (i := 0) rfl hb1 (.here) fun F2 hF3 hz3 => ?_
 replace hX := hX.mono hF3
 have hli := Tb hz3 hl5
 refine Al fun ds => Ao (Ae 1) <| Af rfl (AH Aa) <| Ao (Ae 2) <| Af rfl (Ah B4 Aa (AM hX.blk rfl)) <| Af rfl (A6 Bl Aa hX.r.eds.plain) <| Af rfl (NM (s := 1) (k := l.length) Tryz.underlying128 (Bq (by kernel_rfl)) Aa Aa (by omega) hl5) <| AS rfl (Ay N1 Aa AY (Ev hli (-1)) (fun _ _ h => h)) <| As (Ae 1) <| At <| Aq rfl Bf ?_
 rfl
theorem min_ok {F : Heap} {v : Value} {xs : List Int} (hx : Ints F v xs) (h0 : 0 < xs.length) : Ok Tryz.prog 131 [v].toArray F fun u _ => u = .int .i64 (xs.foldl min xs[0]) := by
 refine Ok.intro Tryz.func131 rfl Tryz.ntmps131 rfl fun w0 => ?_
 have hlen := hx.plain.lt
 refine AI (Ae 1) <| Ac <| Aw (Ae 1) fun ds => Af rfl (A6 A7 Aa hx.plain) <| As (Ae 1) <| Ad Aa (dF (by omega)) <| Aj <| Ab <| Aw (Ae 1) fun ds => Af rfl (Ax (k := 0) A7 Aa hx.plain Aa rfl h0) <| Af rfl (Ah AA Aa (hx.cell1 h0 rfl)) <| As (Ae 1) <| Ac <| AI (Ae 1) <| Ak ?_
 refine AJ [3, 4, 12, 13, 14, 15, 16, 17, 18, 19, 20, 21, 22, 23] (fun m e σ => ∃ k : Nat, m + k = xs.length ∧ 1 ≤ k ∧ Fct e 4 (.int .i64 (k : Int)) ∧ Fct e 3 (.int .i64 ((xs.take k).foldl min (xs[0]'h0))) ∧ σ = ⟨F, []⟩) (xs.length - 1) ?_ ?_
 · exact ⟨1, by omega, by omega, Bb, by rw [show xs.take 1 = [xs[0]] by cases xs with | nil => simp at h0 | cons a xs => simp]; simp; exact Bb, rfl⟩
 rintro m e _ ⟨k, hm, hk1, hs4, hs3, rfl⟩
 by_cases hlt : k < xs.length
 ·refine Ac <| Aw (Ae 2) fun ds => Af rfl (A6 A7 Aa hx.plain) <| As (Ae 1) <| Ag Aa (by first | rfl | exact dT (by omega)) <| Aj <| Ab <| Ac <| Ak <| Al fun ds => Ao (Ae 3) <| Af rfl (Ax  A7 Aa hx.plain Aa rfl hlt) <| Af rfl (Ah AA Aa (hx.cell1 hlt rfl)) <| Ao (Ae 2) <| Am <| Az <| Ab <| Al fun ds => Ao (Ae 1) <| Af rfl (AE Aa Aa rfl (by omega) (by omega)) <| Ao (Ae 1) <| Am ?_
  refine Ab ⟨_, m - 1, Off.eq (BT rfl <| Ci rfl <| Cw rfl <| A2), by omega, ?_⟩
  exact ⟨k + 1, by omega, by omega, Bb, by rw [List.take_succ_eq_append_getElem hlt, List.foldl_append]; exact Bb, rfl⟩
 refine Ac <| Aw (Ae 2) fun ds => Af rfl (A6 A7 Aa hx.plain) <| As (Ae 1) <| Ad Aa (by first | rfl | exact dF (by omega)) ?_
 obtain rfl : k = xs.length := by omega
 refine AC ?_
 refine A0 <| A0 <| A4 <| Ab <| AI (Ae 2) <| At <| Aq rfl Bf ?_
 show _ = _
 rw [List.take_length]; rfl
def cstC (c : Nat → Int) : List Value := (List.range 4).map fun i => .int .i64 (c i)
def cstV (c : Nat → Int) : Value := .agg (cstC c).toArray
theorem KB {c : Nat → Int} {i : Nat} (h : i < 4) : (cstC c)[0 + i * 1]? = some (.int .i64 (c i)) := by
 rw [show 0 + i * 1 = i by omega]; simp [cstC, h]
theorem PV {c : Nat → Int} {i : Nat} {v : Int} : (cstC c).set (0 + i * 1) (.int .i64 v) = cstC (updI c i v) := by
 rw [show 0 + i * 1 = i by omega]
 apply List.ext_getElem
 · simp [cstC]
 intro j h1 h2
 rw [List.getElem_set]
 simp only [cstC, List.getElem_map, List.getElem_range, updI]
 by_cases hij : i = j
 · subst hij; simp
 rw [if_neg hij, if_neg (fun h => hij h.symm)]
theorem PW {c : Nat → Int} : ∀ u ∈ cstC c, u.oneCell' = true := by
 intro u hu
 obtain ⟨i, -, rfl⟩ := List.mem_map.1 hu
 rfl
theorem CU {c d : Nat → Int} (h : ∀ i, i < 4 → c i = d i) : cstC c = cstC d := List.map_congr_left fun i hi => by rw [h i (List.mem_range.1 hi)]
theorem VU {F : Heap} {b T : Nat} {c : Nat → Int} (h : F b = some (bx T (cstC c))) : Ints F (subslice (.slice (some ⟨b, 0, none⟩) 4 4) 1 4 1) [c 1, c 2, c 3] := by
 have h1 : Ints F (.slice (some ⟨b, 0, none⟩) 4 4) [c 0, c 1, c 2, c 3] := Dc h (by simp [cstC, intE, List.range_succ]) (by simp) (fun _ => rfl) (by omega)
 exact h1.from (k := 1) (by simp)
theorem V4 {F : Heap} (c : Nat → Int) : Ok Tryz.prog 107 [cstV c].toArray F fun u _ => u = .int .i64 (min (min (c 1) (c 2)) (c 3)) := by
 refine Ok.intro Tryz.func107 rfl Tryz.ntmps107 rfl fun w0 => Ac <| Al fun ds => A3 rfl <| Bc Aa rfl fun b1 hb1 nb1 => As (Ae 1) <| Ac <| AL (i := 0) rfl hb1 (.here) fun F2 hF3 hz1 => ?_
 have hci := VU hz1
 refine Al fun ds => Af rfl (Lo (s := 1) (k := 1) Tryz.underlying192 (Bq (by kernel_rfl)) Aa Aa rfl (by decide)) <| AS rfl (Ay bd_131 Aa AY (min_ok hci (by simp)) (fun _ _ h => h.trans (show Value.int .i64 (min (min (min (c 1) (c 1)) (c 2)) (c 3)) = Value.int .i64 (min (min (c 1) (c 2)) (c 3)) by rw [Int.min_self]))) <| As (Ae 1) <| At <| Aq rfl Bf ?_
 rfl
end
section
set_option maxRecDepth 100000
open Go.RowKit
theorem Uz : ZeroT Tryz.prog 192 (.agg #[.int .i64 0, .int .i64 0, .int .i64 0, .int .i64 0]) := Bv (by kernel_rfl)
theorem SP : AggT Tryz.prog 192 4 := Cx (by kernel_rfl)
instance : AggI Tryz.prog 192 4 := ⟨SP⟩
theorem JR : ArrT Tryz.prog 192 4 3 1 := KF (by kernel_rfl)
theorem WG : Body Tryz.prog 105 := AF (by kernel_rfl)
theorem bd_106 : Body Tryz.prog 106 := AF (by kernel_rfl)
theorem bd_107 : Body Tryz.prog 107 := AF (by kernel_rfl)
theorem UH : SizeT Tryz.prog 192 4 := Bq (by kernel_rfl)
def cN (s : Stm) (l : List Int) (p i : Nat) : Nat → Int
 | 0 => 0
 | a + 1 => costN s l p i ((a : Int) + 1)
def cKf (s : Stm) (l : List Int) (p i k n : Nat) : Nat → Int
 | 0 => 0
 | a + 1 => if a + 1 < n then costK s l p (costN s l p) i (k + 1) ((a : Int) + 1) else costK s l p (costN s l p) i k ((a : Int) + 1)
def c0f (s : Stm) (p i n : Nat) : Nat → Int
 | 0 => 0
 | a + 1 => if a + 1 < n then (if fitR s p i ((a : Int) + 1) then 0 else never) else 0
theorem Nv {s : Stm} {p i n a : Nat} : c0f s p i n (a + 1) = if a + 1 < n then (if fitR s p i ((a : Int) + 1) then 0 else never) else 0 := rfl
theorem GW {s : Stm} {l : List Int} {p i k n a : Nat} : cKf s l p i k n (a + 1) = if a + 1 < n then costK s l p (costN s l p) i (k + 1) ((a : Int) + 1) else costK s l p (costN s l p) i k ((a : Int) + 1) := rfl
theorem cN_s {s : Stm} {l : List Int} {p i a : Nat} : cN s l p i (a + 1) = costN s l p i ((a : Int) + 1) := rfl
section
variable {s : Stm} {l : List Int} {p i : Nat}
theorem c0f_one : cstC (c0f s p i 1) = List.replicate 4 (.int .i64 0) := by
 rw [CU (d := fun _ => 0) fun a _ => ?_]
 · rfl
 cases a with
 | zero => rfl
 | succ a => rw [Nv, if_neg (by omega)]
theorem Qp {n : Nat} {v : Int} (hv : v = if fitR s p i ((n : Int) + 1) then 0 else never) : cstC (updI (c0f s p i (n + 1)) (n + 1) v) = cstC (c0f s p i (n + 1 + 1)) := by
 refine CU fun a _ => ?_
 unfold updI
 by_cases h : a = n + 1
 · rw [if_pos h]; subst h; rw [Nv, if_pos (by omega), hv]
 rw [if_neg h]
 cases a with
 | zero => rfl
 | succ a =>
   rw [Nv, Nv]
   by_cases h2 : a + 1 < n + 1
   · rw [if_pos h2, if_pos (show a + 1 < n + 1 + 1 by omega)]
   rw [if_neg h2, if_neg (show ¬ a + 1 < n + 1 + 1 by omega)]
theorem Qq {n : Nat} (hv : fitR s p i ((n : Int) + 1)) : cstC (c0f s p i (n + 1)) = cstC (c0f s p i (n + 1 + 1)) := by
 rw [← Qp (v := 0) (by rw [if_pos hv])]
 refine CU fun a _ => ?_
 unfold updI
 by_cases h : a = n + 1
 · rw [if_pos h]; subst h; rw [Nv, if_neg (by omega)]
 rw [if_neg h]
theorem c0f_end : cstC (c0f s p i 4) = cstC (cKf s l p i 0 1) := by
 refine CU fun a ha => ?_
 cases a with
 | zero => rfl
 | succ a => rw [Nv, GW, if_pos (show a + 1 < 4 by omega), if_neg (show ¬ a + 1 < 1 by omega)]; rfl
theorem cKf_set {k n : Nat} {v : Int} (hv : v = costK s l p (costN s l p) i (k + 1) ((n : Int) + 1)) : cstC (updI (cKf s l p i k (n + 1)) (n + 1) v) = cstC (cKf s l p i k (n + 1 + 1)) := by
 refine CU fun a _ => ?_
 unfold updI
 by_cases h : a = n + 1
 · rw [if_pos h]; subst h; rw [GW, if_pos (by omega), hv]
 rw [if_neg h]
 cases a with
 | zero => rfl
 | succ a =>
   rw [GW, GW]
   by_cases h2 : a + 1 < n + 1
   · rw [if_pos h2, if_pos (by omega)]
   rw [if_neg h2, if_neg (by omega)]
theorem cKf_get {k n : Nat} : cKf s l p i k (n + 1) (n + 1) = costK s l p (costN s l p) i k ((n : Int) + 1) := by rw [GW, if_neg (by omega)]
theorem Wa {k : Nat} : cstC (cKf s l p i k 4) = cstC (cKf s l p i (k + 1) 1) := by
 refine CU fun a ha => ?_
 cases a with
 | zero => rfl
 | succ a => rw [GW, GW, if_pos (by omega), if_neg (by omega)]
theorem VZ {k : Nat} (h : upN l k ≠ (i : Int)) : cstC (cKf s l p i k 1) = cstC (cKf s l p i (k + 1) 1) := by
 refine CU fun a ha => ?_
 cases a with
 | zero => rfl
 | succ a => rw [GW, GW, if_neg (by omega), if_neg (by omega)]; conv => rhs; unfold costK; rw [if_neg h]
theorem cKf_end (ht : IsTree l) (hi : i < l.length) : cstC (cKf s l p i l.length 1) = cstC (cN s l p i) := by
 refine CU fun a ha => ?_
 cases a with
 | zero => rfl
 | succ a => rw [GW, cN_s, if_neg (by omega), Jf ht hi]
theorem Uu {free : Bool} {own : Int → Int} {n m : Nat} (h : m = n) : bestTo free own ((n : Int) + 1) (m + 1) = min (bestTo free own ((n : Int) + 1) m) (own ((m : Int) + 1)) := by
 conv => lhs; unfold bestTo
 rw [if_pos (by omega)]
theorem Ny {free : Bool} {own : Int → Int} {n m : Nat} (h : m ≠ n) (h2 : n < m ∨ free = true) : bestTo free own ((n : Int) + 1) (m + 1) = min (bestTo free own ((n : Int) + 1) m) (own ((m : Int) + 1) + 1) := by
 conv => lhs; unfold bestTo
 rw [if_neg (by omega), if_pos (by rcases h2 with h2 | h2; exact .inl (by omega); exact .inr h2)]
theorem Wf {free : Bool} {own : Int → Int} {n m : Nat} (h : m ≠ n) (h2 : ¬ (n < m ∨ free = true)) : bestTo free own ((n : Int) + 1) (m + 1) = bestTo free own ((n : Int) + 1) m := by
 conv => lhs; unfold bestTo
 rw [if_neg (by omega), if_neg (fun h3 => h2 (by rcases h3 with h3 | h3; exact .inl (by omega); exact .inr h3))]
end
theorem Uj {F : Heap} {b : Nat} {vp ve vm : Value} {ps : List (Value × Edn)} {s : Stm} (hX : StmX F b vp ve vm ps s) {l : List Int} (ht : IsTree l) (hll : l.length = s.editions.length) (hv : ValidT s) {p : Nat} (hp : p < s.places.length) {i : Nat} (hi : i < l.length) (ih : ∀ k, k < l.length → dep l l.length k = dep l l.length i + 1 → Ok Tryz.prog 105 [.pointer (some ⟨b, 0, none⟩), treeV l, .int .i64 (p : Int), .int .i64 (k : Int)].toArray F fun u _ => u = cstV (cN s l p k)) : Ok Tryz.prog 105 [.pointer (some ⟨b, 0, none⟩), treeV l, .int .i64 (p : Int), .int .i64 (i : Int)].toArray F fun u _ => u = cstV (cN s l p i) := by
 refine Ok.intro Tryz.func105 rfl Tryz.ntmps105 rfl fun w0 => ?_
 have hne := hv.ne
 have hnp := hv.np
 have hlen := hX.r.len
 have hL1 := hX.r.eds.plain.lt
 have hip : i < ps.length := by omega
 have hra := hX.r.rd hip
 have hpr : p < (s.ed i).rd.length := by rw [hv.rdl i (by omega)]; exact hp
 have hrv := FZ hpr
 have hrb := hv.rd i p (by omega) hp
 have hpl : (s.places[p]'hp).kind = (s.pl p).kind := by rw [DA hp]
 refine Ac <| Al fun ds => A3 rfl <| Bc Aa rfl fun b1 hb1 nb1 => A3 rfl <| AN Uz rfl fun b2 hb2 nb2 => Am <| Ab <| Ac <| AI (Ae 1) <| Ak ?_
 refine AJ [9, 10, 16, 17, 18, 19, 20, 21, 22, 23, 24, 25, 26, 27, 28, 29, 30, 31, 32, 33, 34, 35, 36, 37, 38, 39, 40] (fun m e σ => ∃ n : Nat, m + n = 3 ∧ Fct e 9 (.int .i64 ((n + 1 : Nat) : Int)) ∧ σ = ⟨F, [(b2, bx 192 (cstC (c0f s p i (n + 1)))), (b1, bx 128 (treeC l))]⟩) (3) ?_ ?_
 · exact ⟨0, rfl, Bb, by rw [c0f_one]; rfl⟩
 rintro m e _ ⟨n, hm, hs9, rfl⟩
 by_cases hn3 : n < 3
 ·refine Ac <| AI (Ae 2) <| Ag Aa (by first | rfl | exact dT (by omega)) ?_
  by_cases hk0 : s.r i p = 0
  ·refine Aj <| Ab <| Ac <| Ak <| Aw (Ae 1) fun ds => Af rfl (AH Aa) <| Ao (Ae 2) <| Af rfl (Ah B4 Aa (AM hX.blk rfl)) <| Ao (Ae 1) <| Af rfl (Ax (k := i) Bl Aa hX.r.eds.plain Aa rfl hip) <| Ao (Ae 1) <| Af rfl (Ah Br Aa (hX.r.eds.cell hip rfl)) <| Ao (Ae 1) <| Af rfl (Ax (k := p) A7 Aa hra.plain Aa rfl hpr) <| Af rfl (Ah AA Aa (hra.cell1 hpr rfl)) <| As (Ae 1) <| Aw (Ae 3) fun ds => Ar rfl rfl Aa (.inl (congrArg Value.bool (by rw [hrv]; exact dF (fun h => h hk0)))) rfl <| Ar rfl rfl Aa (.inl (congrArg Value.bool (by rw [hrv]; exact dF (fun h => h hk0)))) rfl <| Ar rfl rfl Aa (.inl (congrArg Value.bool (by rw [hrv]; exact dF (fun h => h hk0)))) rfl <| Af rfl (A5 Aa (by rw [hrv]; exact dF (fun h => h hk0)) Aa) <| Am <| Ab <| Ad Aa rfl <| Aj <| Az <| Ab <| Al fun ds => Ao (Ae 1) <| Af rfl (AE Aa Aa rfl (by omega) (by omega)) <| Ao (Ae 1) <| Am ?_
   refine Ab ⟨_, m - 1, Off.eq (B3 rfl <| BT rfl <| BY rfl <| A2), by omega, ?_⟩
   refine ⟨n + 1, by omega, Bb, by rw [← Qq (.inl hk0)]⟩
  refine Aj <| Ab <| Ac <| Ak <| Aw (Ae 1) fun ds => Af rfl (AH Aa) <| Ao (Ae 2) <| Af rfl (Ah B4 Aa (AM hX.blk rfl)) <| Ao (Ae 1) <| Af rfl (Ax (k := i) Bl Aa hX.r.eds.plain Aa rfl hip) <| Ao (Ae 1) <| Af rfl (Ah Br Aa (hX.r.eds.cell hip rfl)) <| Ao (Ae 1) <| Af rfl (Ax (k := p) A7 Aa hra.plain Aa rfl hpr) <| Af rfl (Ah AA Aa (hra.cell1 hpr rfl)) <| As (Ae 1) <| Aw (Ae 3) fun ds => Ap rfl rfl Aa (by rw [hrv]; exact dT hk0) <| Ao (Ae 1) <| Ap rfl rfl Aa (by rw [hrv]; exact dT hk0) <| Ao (Ae 1) <| Ap rfl rfl Aa (by rw [hrv]; exact dT hk0) <| Ao (Ae 1) <| Af rfl (Au Aa (by rw [hrv]; exact dT hk0) Aa) <| Am <| Ab ?_
  by_cases hkn : s.r i p = (n : Int) + 1
  ·refine Ad Aa (by rw [hrv]; exact dF (fun h => h hkn)) <| Aj <| Az <| Ab <| Al fun ds => Ao (Ae 1) <| Af rfl (AE Aa Aa rfl (by omega) (by omega)) <| Ao (Ae 1) <| Am ?_
   refine Ab ⟨_, m - 1, Off.eq (B3 rfl <| BT rfl <| BY rfl <| A2), by omega, ?_⟩
   refine ⟨n + 1, by omega, Bb, by rw [← Qq (.inr hkn)]⟩
  refine Ag Aa (by rw [hrv]; exact dT hkn) <| Al fun ds => Ao (Ae 1) <| Af rfl (AR (k := n + 1) JR Aa Aa rfl (by omega)) <| AV <| Ct Cc Aa rfl Aa (i := 0) rfl (by show _ < 4; omega) rfl (.here) <| Am <| Az <| Ab <| Al fun ds => Ao (Ae 1) <| Af rfl (AE Aa Aa rfl (by omega) (by omega)) <| Ao (Ae 1) <| Am ?_
  refine Ab ⟨_, m - 1, Off.eq (B3 rfl <| BT rfl <| Cw rfl <| BY rfl <| A2), by omega, ?_⟩
  refine ⟨n + 1, by omega, Bb, by rw [PV, Qp (by rw [if_neg (fun h => h.elim hk0 hkn)]; rfl)]⟩
 refine Ac <| AI (Ae 2) <| Ad Aa (by first | rfl | exact dF (by omega)) ?_
 obtain rfl : n = 3 := by omega
 rw [c0f_end (l := l)]
 refine AC ?_
 refine A0 <| A0 <| A4 <| Ab <| Ac <| Aw (Ae 1) fun ds => Af rfl (AH Aa) <| Ao (Ae 2) <| Af rfl (Ah B4 Aa (AM hX.blk rfl)) <| Af rfl (A6 Bl Aa hX.r.eds.plain) <| As (Ae 1) <| Ak ?_
 refine AJ [11, 12, 13, 14, 15, 47, 48, 49, 50, 51, 52, 53, 54, 55, 56, 57, 58, 59, 60, 61, 62, 63, 64, 65, 66, 67, 68, 69, 70, 71, 72, 73, 74, 75, 76, 77, 78, 79, 80, 81, 82, 83, 84, 85, 86, 87, 88, 89, 90, 91, 92, 93, 94, 95, 96, 97, 98, 99, 100, 101, 102, 103, 104, 105, 106, 107] (fun m e σ => ∃ k : Nat, m + k = l.length ∧ Fct e 47 (.int .i64 (k : Int)) ∧ σ = ⟨F, [(b2, bx 192 (cstC (cKf s l p i k 1))), (b1, bx 128 (treeC l))]⟩) (l.length) ?_ ?_
 · exact ⟨0, by omega, Bb, rfl⟩
 rintro m2 e2 _ ⟨k, hm2, ht47, rfl⟩
 by_cases hlk : k < l.length
 ·have hk5 : k < 5 := by omega
  refine AI (Ae 1) <| Ac <| Ag Aa (by first | rfl | exact dT (by omega)) ?_
  by_cases huk : upN l k = (i : Int)
  ·refine Aj <| Ab <| Ac <| Ak <| AI (Ae 2) <| Ac <| Aw (Ae 1) fun ds => Af rfl (AR (k := k) BL Aa Aa rfl hk5) <| Af rfl (Ah AA Aa (Cell.own 1 rfl (B5 hk5))) <| As (Ae 2) <| Ad Aa (dF (fun h => h huk)) ?_
   have hdk := Ea huk (ht.reach k hlk)
   refine Aj <| Ab <| Aw (Ae 4) fun ds => AS rfl (Ay WG Aa AY (ih k hlk (by omega)) (fun _ _ h => h)) <| A3 rfl <| AN Uz rfl fun b5 hb5 nb5 => AV <| AQ UH Aa Aa (i := 0) rfl rfl rfl rfl PW (.here) <| Am <| Ab <| AI (Ae 1) <| Ak ?_
   refine AJ [13, 14, 15, 60, 61, 62, 63, 64, 65, 66, 67, 68, 69, 70, 71, 72, 73, 74, 75, 76, 77, 78, 79, 80, 81, 82, 83, 84, 85, 86, 87, 88, 89, 90, 91, 92, 93, 94, 95, 96, 97, 98, 99, 100, 101, 102, 103, 104, 105, 106] (fun m e σ => ∃ n : Nat, m + n = 3 ∧ Fct e 13 (.int .i64 ((n + 1 : Nat) : Int)) ∧ σ = ⟨F, [(b5, bx 192 (cstC (cN s l p k))), (b2, bx 192 (cstC ((cKf s l p i k (n + 1))))), (b1, bx 128 (treeC l))]⟩) (3) ?_ ?_
   · exact ⟨0, rfl, Bb, rfl⟩
   rintro m3 e3 _ ⟨n, hm3, hv13, rfl⟩
   by_cases hn3 : n < 3
   ·refine Ac <| AI (Ae 2) <| Ag Aa (by first | rfl | exact dT (by omega)) <| Aj <| Ab <| Ac <| Ak <| AI (Ae 1) <| Ac <| AI (Ae 1) <| Ak ?_
    refine AJ [14, 15, 64, 65, 66, 67, 68, 69, 70, 71, 72, 73, 74, 75, 76, 77, 78, 79, 80, 81, 82, 83, 84, 85, 86, 87, 88, 89, 90, 91, 92, 93, 94, 95, 96, 97, 98] (fun m e σ => ∃ q : Nat, m + q = 3 ∧ Fct e 15 (.int .i64 ((q + 1 : Nat) : Int)) ∧ Fct e 14 (.int .i64 (bestTo (freeP s p) (costN s l p k) ((n : Int) + 1) q)) ∧ σ = ⟨F, [(b5, bx 192 (cstC (cN s l p k))), (b2, bx 192 (cstC ((cKf s l p i k (n + 1))))), (b1, bx 128 (treeC l))]⟩) (3) ?_ ?_
    · exact ⟨0, rfl, Bb, Bb, rfl⟩
    rintro m4 e4 _ ⟨q, hm4, hu15, hu14, rfl⟩
    by_cases hq3 : q < 3
    ·refine Ac <| AI (Ae 2) <| Ag Aa (by first | rfl | exact dT (by omega)) ?_
     have hob := (Dw (s := s) (l := l) (p := p) k ((q : Int) + 1))
     unfold never at hob
     by_cases hqn : q = n
     ·refine Aj <| Ab <| Ac <| Ak <| Ak <| AI (Ae 4) <| Ag Aa (dT (by omega)) <| Al fun ds => Ao (Ae 2) <| Af rfl (AR (k := q + 1) JR Aa Aa rfl (by omega)) <| Af rfl (Ah AA Aa (Cell.own 0 rfl (KB (by omega)))) <| Ao (Ae 2) <| Am ?_
      refine Az (Az (Ab ?_))
      refine Al fun ds => Ao (Ae 1) <| Af rfl (AE Aa Aa rfl (by omega) (by omega)) <| Ao (Ae 1) <| Am ?_
      refine Ab ⟨_, m4 - 1, Off.eq (BT rfl <| Ci rfl <| Cw rfl <| BY rfl <| A2), by omega, ?_⟩
      exact ⟨q + 1, by omega, Bb, BN (by rw [Uu hqn]; rfl), rfl⟩
     refine Aj <| Ab <| Ac <| Ak <| Ak <| AI (Ae 4) <| Ad Aa (dF (by omega)) ?_
     by_cases hqm : n < q
     ·refine Aw (Ae 4) fun ds => Ar rfl rfl Aa (.inl (congrArg Value.bool (dT (by omega)))) rfl <| Ar rfl rfl Aa (.inl (congrArg Value.bool (dT (by omega)))) rfl <| Ar rfl rfl Aa (.inl (congrArg Value.bool (dT (by omega)))) rfl <| Ar rfl rfl Aa (.inl (congrArg Value.bool (dT (by omega)))) rfl <| Ar rfl rfl Aa (.inl (congrArg Value.bool (dT (by omega)))) rfl <| Ar rfl rfl Aa (.inl (congrArg Value.bool (dT (by omega)))) rfl <| Ar rfl rfl Aa (.inl (congrArg Value.bool (dT (by omega)))) rfl <| Ar rfl rfl Aa (.inl (congrArg Value.bool (dT (by omega)))) rfl <| Ar rfl rfl Aa (.inl (congrArg Value.bool (dT (by omega)))) rfl <| Ar rfl rfl Aa (.inl (congrArg Value.bool (dT (by omega)))) rfl <| Af rfl (Au Aa (dT (by omega)) Aa) <| As (Ae 1) <| Ag Aa rfl <| Al fun ds => Ao (Ae 2) <| Af rfl (AR (k := q + 1) JR Aa Aa rfl (by omega)) <| Af rfl (Ah AA Aa (Cell.own 0 rfl (KB (by omega)))) <| Af rfl (AE Aa Aa rfl (show _ ≤ costN s l p k ((q : Int) + 1) + 1 by omega) (show costN s l p k ((q : Int) + 1) + 1 ≤ _ by omega)) <| Ao (Ae 2) <| Am ?_
      refine Az (Az (Ab ?_))
      refine Al fun ds => Ao (Ae 1) <| Af rfl (AE Aa Aa rfl (by omega) (by omega)) <| Ao (Ae 1) <| Am ?_
      refine Ab ⟨_, m4 - 1, Off.eq (Cv rfl <| A2), by omega, ?_⟩
      exact ⟨q + 1, by omega, Bb, BN (by rw [Ny hqn (.inl hqm)]; rfl), rfl⟩
     refine Aw (Ae 4) fun ds => Ap rfl rfl Aa (dF (by omega)) <| Ao (Ae 1) <| Ap rfl rfl Aa (dF (by omega)) <| Af rfl (AH Aa) <| Ap rfl rfl Aa (dF (by omega)) <| Ao (Ae 1) <| Ap rfl rfl Aa (dF (by omega)) <| Ao (Ae 1) <| Ap rfl rfl Aa (dF (by omega)) <| Af rfl (Ah Ef Aa (AM hX.blk rfl)) <| Ap rfl rfl Aa (dF (by omega)) <| Ao (Ae 1) <| Ap rfl rfl Aa (dF (by omega)) <| Af rfl (Ax (k := p) BO Aa hX.r.places.plain Aa rfl hp) <| Ap rfl rfl Aa (dF (by omega)) <| Ao (Ae 1) <| Ap rfl rfl Aa (dF (by omega)) <| Af rfl (Ah AA Aa (hX.r.places.cell hp rfl)) <| Ap rfl rfl Aa (dF (by omega)) <| Ao (Ae 1) <| Af rfl (A5 Aa (dF (by omega)) Aa) <| As (Ae 1) ?_
     by_cases hfr : (s.pl p).kind = 0
     ·refine Ag Aa (by rw [hpl]; exact dT hfr) <| Al fun ds => Ao (Ae 2) <| Af rfl (AR (k := q + 1) JR Aa Aa rfl (by omega)) <| Af rfl (Ah AA Aa (Cell.own 0 rfl (KB (by omega)))) <| Af rfl (AE Aa Aa rfl (show _ ≤ costN s l p k ((q : Int) + 1) + 1 by omega) (show costN s l p k ((q : Int) + 1) + 1 ≤ _ by omega)) <| Ao (Ae 2) <| Am ?_
      refine Az (Az (Ab ?_))
      refine Al fun ds => Ao (Ae 1) <| Af rfl (AE Aa Aa rfl (by omega) (by omega)) <| Ao (Ae 1) <| Am ?_
      refine Ab ⟨_, m4 - 1, Off.eq (Cv rfl <| A2), by omega, ?_⟩
      exact ⟨q + 1, by omega, Bb, BN (by rw [Ny hqn (.inr (by unfold freeP; exact dT hfr))]; rfl), rfl⟩
     refine Ad Aa (by rw [hpl]; exact dF hfr) <| Aj ?_
     refine Az (Az (Ab ?_))
     refine Al fun ds => Ao (Ae 1) <| Af rfl (AE Aa Aa rfl (by omega) (by omega)) <| Ao (Ae 1) <| Am ?_
     refine Ab ⟨_, m4 - 1, Off.eq (B3 rfl <| BT rfl <| BY rfl <| A2), by omega, ?_⟩
     exact ⟨q + 1, by omega, Bb, BN (by rw [Wf (free := freeP s p) hqn (fun h => h.elim hqm (fun h2 => hfr (of_decide_eq_true h2)))]), rfl⟩
    refine Ac <| AI (Ae 2) <| Ad Aa (by first | rfl | exact dF (by omega)) ?_
    obtain rfl : q = 3 := by omega
    have hbb := FO (free := freeP s p) (own := costN s l p k) (a := (n : Int) + 1) (fun m => (Dw k m).1) 3
    have hkb := EM (s := s) (l := l) (p := p) (sub := costN s l p) (fun k a => (Dw k a).1) (i := i) k ((n : Int) + 1)
    have hck : cKf s l p i k (n + 1) (n + 1) = costK s l p (costN s l p) i k ((n : Int) + 1) := cKf_get
    unfold never at hbb hkb
    refine AC ?_
    refine A0 <| A0 <| A4 <| Ab <| Al fun ds => Ao (Ae 2) <| Af rfl (AR (k := n + 1) JR Aa Aa rfl (by omega)) <| Af rfl (Ah AA Aa (Cell.own 1 rfl (KB (by omega)))) <| Ao (Ae 1) <| Af rfl (AE Aa Aa rfl (by rw [hck]; omega) (by rw [hck]; omega)) <| Ao (Ae 1) <| Af rfl (AR (k := n + 1) JR Aa Aa rfl (by omega)) <| AV <| Ct Cc Aa rfl Aa (i := 1) rfl (by show _ < 4; omega) rfl (.next <| .here) <| Am <| Az <| Ab <| Al fun ds => Ao (Ae 1) <| Af rfl (AE Aa Aa rfl (by omega) (by omega)) <| Ao (Ae 1) <| Am ?_
    refine Ab ⟨_, m3 - 1, Off.eq (BT rfl <| Ci rfl <| BY rfl <| BJ rfl <| Ci rfl <| A2), by omega, ?_⟩
    refine ⟨n + 1, by omega, Bb, by rw [PV, cKf_set (by rw [hck]; (conv => rhs; unfold costK; rw [if_pos huk]); rfl)]⟩
   refine Ac <| AI (Ae 2) <| Ad Aa (by first | rfl | exact dF (by omega)) ?_
   obtain rfl : n = 3 := by omega
   refine AC ?_
   refine A0 <| A0 <| A4 <| Az <| Ab <| By (fun _ _ h => h.drop (kD <| kK <| kK <| .refl _)) <| Al fun ds => Af rfl (AE Aa Aa rfl (by omega) (by omega)) <| Ao (Ae 1) <| Am ?_
   refine Ab ⟨_, m2 - 1, Off.eq (Ci rfl <| BJ rfl <| BT rfl <| Ci rfl <| Cw rfl <| BY rfl <| A2), by omega, ?_⟩
   refine ⟨k + 1, by omega, Bb, by rw [Wa]⟩
  refine Aj <| Ab <| Ac <| Ak <| AI (Ae 2) <| Ac <| Aw (Ae 1) fun ds => Af rfl (AR (k := k) BL Aa Aa rfl hk5) <| Af rfl (Ah AA Aa (Cell.own 1 rfl (B5 hk5))) <| As (Ae 2) <| Ag Aa (dT huk) <| AC <| A0 <| A4 <| Ab <| Al fun ds => Af rfl (AE Aa Aa rfl (by omega) (by omega)) <| Ao (Ae 1) <| Am ?_
  refine Ab ⟨_, m2 - 1, Off.eq (BT rfl <| Cw rfl <| A2), by omega, ?_⟩
  refine ⟨k + 1, by omega, Bb, by rw [VZ huk]⟩
 refine AI (Ae 1) <| Ac <| Ad Aa (by first | rfl | exact dF (by omega)) ?_
 obtain rfl : k = l.length := by omega
 rw [cKf_end ht hi]
 refine AC ?_
 refine A0 <| A0 <| A4 <| Ab <| Aw (Ae 1) fun ds => AV <| AQ UH Aa Aa (i := 0) rfl rfl rfl rfl PW (.here) <| Am <| Ab <| At <| Aq rfl (.agg SP Aa rfl rfl (Bg 0 rfl) .nil) ?_
 rfl
theorem PY {F : Heap} {b : Nat} {vp ve vm : Value} {ps : List (Value × Edn)} {s : Stm} (hX : StmX F b vp ve vm ps s) {l : List Int} (ht : IsTree l) (hll : l.length = s.editions.length) (hv : ValidT s) {p : Nat} (hp : p < s.places.length) : ∀ d i, i < l.length → l.length + 1 ≤ dep l l.length i + d → Ok Tryz.prog 105 [.pointer (some ⟨b, 0, none⟩), treeV l, .int .i64 (p : Int), .int .i64 (i : Int)].toArray F fun u _ => u = cstV (cN s l p i)
 | 0, i, _, h => by have : dep l l.length i ≤ l.length := Oo; omega
 | d + 1, i, hi, h => Uj hX ht hll hv hp hi fun k hk hd => PY hX ht hll hv hp d k hk (by omega)
theorem cost_ok {F : Heap} {b : Nat} {vp ve vm : Value} {ps : List (Value × Edn)} {s : Stm} (hX : StmX F b vp ve vm ps s) {l : List Int} (ht : IsTree l) (hll : l.length = s.editions.length) (hv : ValidT s) {p : Nat} (hp : p < s.places.length) {i : Nat} (hi : i < l.length) : Ok Tryz.prog 105 [.pointer (some ⟨b, 0, none⟩), treeV l, .int .i64 (p : Int), .int .i64 (i : Int)].toArray F fun u _ => u = cstV (cN s l p i) := PY hX ht hll hv hp (l.length + 1) i hi (by omega)
theorem CY {F : Heap} {b : Nat} {vp ve vm : Value} {ps : List (Value × Edn)} {s : Stm} (hX : StmX F b vp ve vm ps s) {l : List Int} (ht : IsTree l) (hll : l.length = s.editions.length) (hv : ValidT s) {p : Nat} (hp : p < s.places.length) : Ok Tryz.prog 77 [.pointer (some ⟨b, 0, none⟩), treeV l, .int .i64 (p : Int)].toArray F fun u _ => u = .int .i64 (placeN s l p) := by
 refine Ok.intro Tryz.func77 rfl Tryz.ntmps77 rfl fun w0 => ?_
 have hne := hv.ne
 obtain ⟨r, hr1, hr2, hr3⟩ := NK ht
 refine Ac <| Al fun ds => A3 rfl <| Bc Aa rfl fun b1 hb1 nb1 => As (Ae 1) <| Ac <| Bn (.inl rfl) (fun _ _ h => h) (kK <| .refl _) [] (by kernel_rfl) fun ds => Ai 0 rfl (by kernel_rfl) (by kernel_rfl) (by kernel_rfl) (by kernel_rfl) rfl rfl (fun _ h => h.drop (kK <| .refl _)) (fun _ _ _ h => h) (A9 Aa) <| Ai 1 rfl (by kernel_rfl) (by kernel_rfl) (by kernel_rfl) (by kernel_rfl) rfl rfl (fun _ h => h.drop (kK <| .refl _)) (fun _ _ _ h => h) (AO B8 Aa rfl rfl (Bg 0 rfl)) <| Ai 2 rfl (by kernel_rfl) (by kernel_rfl) (by kernel_rfl) (by kernel_rfl) rfl rfl (fun _ h => h.drop (kK <| .refl _)) (fun _ _ _ h => h) (A9 Aa) <| Ai 3 rfl (by kernel_rfl) (by kernel_rfl) (by kernel_rfl) (by kernel_rfl) rfl rfl (fun _ h => h.drop (kK <| .refl _)) (fun _ _ _ h => h) (A9 Aa) <| Ai 4 rfl (by kernel_rfl) (by kernel_rfl) (by kernel_rfl) (by kernel_rfl) rfl rfl (fun _ h => h.drop (kK <| .refl _)) (fun _ _ _ h => h) (AO B8 Aa rfl rfl (Bg 0 rfl)) ?_
 refine CK 5 rfl (by kernel_rfl) rfl (AP (Ay bd_106 Aa AY (root_ok hX ht hll hv) (fun _ _ h => h.trans (congrArg (Value.int .i64) hr1))) ⟨fun _ _ => (fun _ h => h.drop (kK <| .refl _)), ?_⟩)
 refine CK 6 rfl (by kernel_rfl) rfl (AP (Ay WG Aa AY (cost_ok hX ht hll hv hp hr2) (fun _ _ h => h)) ⟨fun _ _ => (fun _ h => h.drop (kK <| .refl _)), ?_⟩)
 refine CK 7 rfl (by kernel_rfl) rfl (AP (Ay bd_107 Aa AY (V4 (cN s l p r)) (fun _ _ h => h)) ⟨fun _ _ => (fun _ h => h.drop (kK <| .refl _)), ?_⟩)
 refine Ai 8 rfl (by kernel_rfl) (by kernel_rfl) (by kernel_rfl) (by kernel_rfl) rfl rfl (fun _ h => h.drop (kK <| .refl _)) (fun _ _ _ h => h) (Bz Aa) ?_
 refine Bo (by kernel_rfl) ?_ _
 refine Ab <| At <| Aq rfl Bf ?_
 show _ = _
 unfold placeN; rw [hr1]; rfl
end
section
open Go.RowKit
theorem P6 {P : Program} {K E d : Nat} (hu : P.underlying K = some (.array 5 E)) (he : P.underlying E = some (.int .i64)) (hk : P.keyType K = true) (hc : P.cellsOf K = 5) (c1 : P.cellsOf E = 1) (hs : P.types.size = d + 1) {f : Nat → Int} (hf : ∀ i, i < 5 → -9223372036854775808 ≤ f i ∧ f i ≤ 9223372036854775807) : IsK P K (.agg ((List.range 5).map fun i => Value.int .i64 (f i)).toArray) := by
 have e : (List.range 5).map (fun i => Value.int .i64 (f i)) = [.int .i64 (f 0), .int .i64 (f 1), .int .i64 (f 2), .int .i64 (f 3), .int .i64 (f 4)] := rfl
 rw [e]
 have l0 := Gf (P := P) (d := d) he (U5 (hf 0 (by omega)).1 (hf 0 (by omega)).2)
 have l1 := Gf (P := P) (d := d) he (U5 (hf 1 (by omega)).1 (hf 1 (by omega)).2)
 have l2 := Gf (P := P) (d := d) he (U5 (hf 2 (by omega)).1 (hf 2 (by omega)).2)
 have l3 := Gf (P := P) (d := d) he (U5 (hf 3 (by omega)).1 (hf 3 (by omega)).2)
 have l4 := Gf (P := P) (d := d) he (U5 (hf 4 (by omega)).1 (hf 4 (by omega)).2)
 have h : (P.keyLits (P.types.size + 1) K [.int .i64 (f 0), .int .i64 (f 1), .int .i64 (f 2), .int .i64 (f 3), .int .i64 (f 4)]) = some [.int .i64 (f 0), .int .i64 (f 1), .int .i64 (f 2), .int .i64 (f 3), .int .i64 (f 4)] := by
   rw [hs]
   unfold Program.keyLits
   rw [hu]
   simp only [hc]
   rw [show List.range 5 = [0, 1, 2, 3, 4] from rfl]
   simp [c1, l0, l1, l2, l3, l4]
 refine ⟨.string (keyBytes [.int .i64 (f 0), .int .i64 (f 1), .int .i64 (f 2), .int .i64 (f 3), .int .i64 (f 4)]), ?_⟩
 unfold keyOf
 rw [hu]
 have hf : (Value.agg [.int .i64 (f 0), .int .i64 (f 1), .int .i64 (f 2), .int .i64 (f 3), .int .i64 (f 4)].toArray).formed P K = true := by simp [Value.formed, hu, hc]
 simp only [hk, hf, Bool.and_self, if_true]
 show (P.keyLits (P.types.size + 1) K [.int .i64 (f 0), .int .i64 (f 1), .int .i64 (f 2), .int .i64 (f 3), .int .i64 (f 4)]).map _ = _
 rw [h]; rfl
structure KnownT (P : Program) (K : Nat) (es : List (Value × Value)) (s : Stm) : Prop where
 keys : ∀ p ∈ es, IsK P K p.1
 nodup : (es.map (·.1)).Nodup
 vals : ∀ (j : Nat) (l : List Int) (u : Value), es[j]? = some (treeV l, u) → l.length = s.editions.length → u = .int .i64 (changesN s l)
theorem KnownT.nil {P : Program} {K : Nat} {s : Stm} : KnownT P K [] s := ⟨by simp, by simp, by simp⟩
theorem Tg {l l' : List Int} (h : treeV l = treeV l') (hl : l.length ≤ 5) (he : l.length = l'.length) : l = l' := by
 unfold treeV at h
 have h2 : treeC l = treeC l' := by simpa using h
 apply List.ext_getElem he
 intro i h3 h4
 have a := B5 (l := l) (i := i) (by omega)
 have b := B5 (l := l') (i := i) (by omega)
 rw [h2, b] at a
 rw [BR h3, BR h4]
 simpa using a.symm
theorem KnownT.snoc {P : Program} {K : Nat} {es : List (Value × Value)} {s : Stm} (h : KnownT P K es s) {l : List Int} (hk : IsK P K (treeV l)) (hno : ∀ p ∈ es, p.1 ≠ treeV l) (hl : l.length = s.editions.length) (h5 : l.length ≤ 5) :
   KnownT P K (es ++ [(treeV l, .int .i64 (changesN s l))]) s :=
 ⟨Mt h.keys hk, Oa h.nodup hno, fun j l' u hj hl' => by
   rcases Nat.lt_trichotomy j es.length with h1 | h1 | h1
   · rw [List.getElem?_append_left h1] at hj; exact h.vals j l' u hj hl'
   · subst h1
     rw [Ky] at hj
     simp only [Option.some.injEq, Prod.mk.injEq] at hj
     obtain ⟨hj, rfl⟩ := hj
     rw [Tg hj h5 (by omega)]
   rw [List.getElem?_eq_none (by simp; omega)] at hj; cases hj⟩
end
section
set_option maxRecDepth 100000
open Go.RowKit
theorem Kr : Body Tryz.prog 52 := AF (by kernel_rfl)
theorem Qz : Body Tryz.prog 53 := AF (by kernel_rfl)
theorem Jj : Body Tryz.prog 77 := AF (by kernel_rfl)
theorem Qy : Body Tryz.prog 81 := AF (by kernel_rfl)
theorem LK : FieldT Tryz.prog 159 1 2 := Bd (by kernel_rfl)
instance : FieldI Tryz.prog 159 1 2 := ⟨LK⟩
theorem HQ : OneT Tryz.prog 157 := BI (by kernel_rfl)
instance : OneI Tryz.prog 157 := ⟨HQ⟩
theorem laidT : laidOutB Tryz.prog = true := by kernel_rfl
theorem mapT : MapT Tryz.prog 157 128 3 (.int .i64 0) := ⟨Tryz.underlying157, Bv (by kernel_rfl), Go.Maps.Keyed.of_law (deep_law_laid laidT (m := 5) (by omega) (Nat.le_of_ble_eq_true (by kernel_rfl)) (by kernel_rfl) (by kernel_rfl))⟩
theorem TV {l : List Int} (ht : TreeIn l) (h5 : l.length ≤ 5) : IsK Tryz.prog 128 (treeV l) :=
 P6 Tryz.underlying128 Tryz.underlying3 (by kernel_rfl) (by kernel_rfl) (by kernel_rfl) (d := Tryz.prog.types.size - 1) (by kernel_rfl) fun i hi => by
   by_cases h : i < l.length
   · have := ht i h; omega
   have : upN l i = 0 := by unfold upN; rw [List.getElem?_eq_none (by omega)]; rfl
   omega
theorem EB {F : Heap} {b : Nat} {vp ve : Value} {kb : Nat} {ps : List (Value × Edn)} {s : Stm} (hX : StmX F b vp ve (.map (some kb)) ps s) {l : List Int} (ht : IsTree l) (hll : l.length = s.editions.length) (hv : ValidT s) {es : List (Value × Value)} (hK : KnownT Tryz.prog 128 es s) : OkM Tryz.prog 53 [.pointer (some ⟨b, 0, none⟩), treeV l].toArray F [(kb, mapO es)] fun u _F' H' => ∃ es', u = .int .i64 (changesN s l) ∧ H' = [(kb, mapO es')] ∧ KnownT Tryz.prog 128 es' s := by
 refine OkM.intro Tryz.func53 rfl Tryz.ntmps53 rfl fun w0 => ?_
 have hne := hv.ne
 have hnp := hv.np
 have hL1 := hX.r.places.plain.lt
 have hl5 : l.length ≤ 5 := by omega
 rcases Sz (es := es) (treeV l) with hno | ⟨j, u, hj⟩
 ·refine Ac <| Al fun ds => A3 rfl <| Bc Aa rfl fun b1 hb1 nb1 => As (Ae 1) <| Ac <| Ac <| Bx (.inl rfl) (fun _ _ h => h) (by kernel_rfl) (by kernel_rfl) fun ds => Ba (Ae 1) <| AX rfl (AH Aa) <| Ba (Ae 1) <| AX rfl (Ah HQ Aa (AM hX.blk rfl)) <| Ba (Ae 1) <| AX rfl (QR mapT Aa Aa (i := 1) rfl (TV ht.in_ hl5) hK.keys hno) <| Ba (Ae 5) <| B9 <| Ab <| AI (Ae 1) <| Ad Aa rfl ?_
  by_cases hfit : fitsE s (treeE l) = true
  ·refine Aj <| Ab <| Ac <| Aw (Ae 2) fun ds => AS rfl (Ay Qy Aa AY (HY hX ht hll hv) (fun _ _ h => h)) <| As (Ae 1) <| Ad Aa (by rw [hfit]; rfl) <| Aj <| Ab <| Ac <| Aw (Ae 1) fun ds => Af rfl (AH Aa) <| Ao (Ae 2) <| Af rfl (Ah Ef Aa (AM hX.blk rfl)) <| Af rfl (A6 BO Aa hX.r.places.plain) <| As (Ae 1) <| Ak ?_
   refine AJ [4, 7, 29, 30, 31, 32, 33, 34, 35, 36, 37, 38, 39] (fun m e σ => ∃ k : Nat, m + k = s.places.length ∧ Fct e 29 (.int .i64 (k : Int)) ∧ Fct e 4 (.int .i64 (chTo s l k)) ∧ σ = ⟨F, [(b1, bx 128 (treeC l)), (kb, mapO es)]⟩) (s.places.length) ?_ ?_
   · exact ⟨0, by omega, Bb, BN (by unfold chTo; rw [if_pos hfit]; first | done | rfl), rfl⟩
   rintro m e _ ⟨k, hm, hs29, hs4, rfl⟩
   by_cases hlt : k < s.places.length
   ·refine AI (Ae 1) <| Ac <| Ag Aa (by first | rfl | exact dT (by omega)) ?_
    have hcb := EC (s := s) (l := l) k
    have hpb := CZ (s := s) (l := l) (p := k)
    unfold never at hcb hpb
    refine Aj <| Ab <| Ac <| Ak <| AI (Ae 2) <| Al fun ds => Ao (Ae 4) <| AS rfl (Ay Jj Aa AY (CY hX ht hll hv hlt) (fun _ _ h => h)) <| Af rfl (AE Aa Aa rfl (by omega) (by omega)) <| Ao (Ae 2) <| Am <| Az <| Ab <| Al fun ds => Af rfl (AE Aa Aa rfl (by omega) (by omega)) <| Ao (Ae 1) <| Am ?_
    refine Ab ⟨_, m - 1, Off.eq (BT rfl <| Ci rfl <| BY rfl <| A2), by omega, ?_⟩
    exact ⟨k + 1, by omega, Bb, Bb, rfl⟩
   refine AI (Ae 1) <| Ac <| Ad Aa (by first | rfl | exact dF (by omega)) ?_
   obtain rfl : k = s.places.length := by omega
   refine AC ?_
   refine A0 <| A0 <| A4 <| Ab <| Ac <| Bn (.inl rfl) (fun _ _ h => h) (kK <| kK <| .refl _) [6] (by kernel_rfl) fun ds => Ai 0 rfl (by kernel_rfl) (by kernel_rfl) (by kernel_rfl) (by kernel_rfl) rfl rfl (fun _ h => h.drop (kK <| kK <| .refl _)) (fun _ _ _ h => h) (A9 Aa) <| Ai 1 rfl (by kernel_rfl) (by kernel_rfl) (by kernel_rfl) (by kernel_rfl) rfl rfl (fun _ h => h.drop (kK <| kK <| .refl _)) (fun _ _ _ h => h) (AH Aa) <| Ai 2 rfl (by kernel_rfl) (by kernel_rfl) (by kernel_rfl) (by kernel_rfl) rfl rfl (fun _ h => h.drop (kK <| kK <| .refl _)) (fun _ _ _ h => h) (AD LK Aa) <| Ai 3 rfl (by kernel_rfl) (by kernel_rfl) (by kernel_rfl) (by kernel_rfl) rfl rfl (fun _ h => h.drop (kK <| kK <| .refl _)) (fun _ _ _ h => h) (Ah HQ Aa (AM hX.blk rfl)) <| Ai 4 rfl (by kernel_rfl) (by kernel_rfl) (by kernel_rfl) (by kernel_rfl) rfl rfl (fun _ h => h.drop (kK <| kK <| .refl _)) (fun _ _ _ h => h) (AO B8 Aa rfl rfl (Bg 0 rfl)) <| Ai 5 rfl (by kernel_rfl) (by kernel_rfl) (by kernel_rfl) (by kernel_rfl) rfl rfl (fun _ h => h.drop (kK <| kK <| .refl _)) (fun _ _ _ h => h) (A9 Aa) ?_
   refine BG 6 rfl (by kernel_rfl) (MC mapT Aa Aa Aa (i := 1) rfl (TV ht.in_ hl5) hK.keys hno (.next <| .here) ⟨(fun h => nomatch h), ?_⟩)
   refine Bo (by kernel_rfl) ?_ _
   refine Ab <| AI (Ae 2) <| At <| Er rfl Bf (.cons (.next <| .here) <| .nil) rfl ?_
   exact ⟨_, rfl, rfl, hK.snoc (TV ht.in_ hl5) hno hll hl5⟩
  replace hfit : fitsE s (treeE l) = false := by simpa using hfit
  refine Aj <| Ab <| Ac <| Aw (Ae 2) fun ds => AS rfl (Ay Qy Aa AY (HY hX ht hll hv) (fun _ _ h => h)) <| As (Ae 1) <| Ag Aa (by rw [hfit]; rfl) <| Al fun ds => As (Ae 1) <| Ac <| Aw (Ae 1) fun ds => Af rfl (AH Aa) <| Ao (Ae 2) <| Af rfl (Ah Ef Aa (AM hX.blk rfl)) <| Af rfl (A6 BO Aa hX.r.places.plain) <| As (Ae 1) <| Ak ?_
  refine AJ [4, 7, 29, 30, 31, 32, 33, 34, 35, 36, 37, 38, 39] (fun m e σ => ∃ k : Nat, m + k = s.places.length ∧ Fct e 29 (.int .i64 (k : Int)) ∧ Fct e 4 (.int .i64 (chTo s l k)) ∧ σ = ⟨F, [(b1, bx 128 (treeC l)), (kb, mapO es)]⟩) (s.places.length) ?_ ?_
  · exact ⟨0, by omega, Bb, BN (by unfold chTo; rw [if_neg (by rw [hfit]; simp)]; first | done | rfl), rfl⟩
  rintro m e _ ⟨k, hm, hs29, hs4, rfl⟩
  by_cases hlt : k < s.places.length
  ·refine AI (Ae 1) <| Ac <| Ag Aa (by first | rfl | exact dT (by omega)) ?_
   have hcb := EC (s := s) (l := l) k
   have hpb := CZ (s := s) (l := l) (p := k)
   unfold never at hcb hpb
   refine Aj <| Ab <| Ac <| Ak <| AI (Ae 2) <| Al fun ds => Ao (Ae 4) <| AS rfl (Ay Jj Aa AY (CY hX ht hll hv hlt) (fun _ _ h => h)) <| Af rfl (AE Aa Aa rfl (by omega) (by omega)) <| Ao (Ae 2) <| Am <| Az <| Ab <| Al fun ds => Af rfl (AE Aa Aa rfl (by omega) (by omega)) <| Ao (Ae 1) <| Am ?_
   refine Ab ⟨_, m - 1, Off.eq (BT rfl <| Ci rfl <| BY rfl <| A2), by omega, ?_⟩
   exact ⟨k + 1, by omega, Bb, Bb, rfl⟩
  refine AI (Ae 1) <| Ac <| Ad Aa (by first | rfl | exact dF (by omega)) ?_
  obtain rfl : k = s.places.length := by omega
  refine AC ?_
  refine A0 <| A0 <| A4 <| Ab <| Ac <| Bn (.inl rfl) (fun _ _ h => h) (kK <| kK <| .refl _) [6] (by kernel_rfl) fun ds => Ai 0 rfl (by kernel_rfl) (by kernel_rfl) (by kernel_rfl) (by kernel_rfl) rfl rfl (fun _ h => h.drop (kK <| kK <| .refl _)) (fun _ _ _ h => h) (A9 Aa) <| Ai 1 rfl (by kernel_rfl) (by kernel_rfl) (by kernel_rfl) (by kernel_rfl) rfl rfl (fun _ h => h.drop (kK <| kK <| .refl _)) (fun _ _ _ h => h) (AH Aa) <| Ai 2 rfl (by kernel_rfl) (by kernel_rfl) (by kernel_rfl) (by kernel_rfl) rfl rfl (fun _ h => h.drop (kK <| kK <| .refl _)) (fun _ _ _ h => h) (AD LK Aa) <| Ai 3 rfl (by kernel_rfl) (by kernel_rfl) (by kernel_rfl) (by kernel_rfl) rfl rfl (fun _ h => h.drop (kK <| kK <| .refl _)) (fun _ _ _ h => h) (Ah HQ Aa (AM hX.blk rfl)) <| Ai 4 rfl (by kernel_rfl) (by kernel_rfl) (by kernel_rfl) (by kernel_rfl) rfl rfl (fun _ h => h.drop (kK <| kK <| .refl _)) (fun _ _ _ h => h) (AO B8 Aa rfl rfl (Bg 0 rfl)) <| Ai 5 rfl (by kernel_rfl) (by kernel_rfl) (by kernel_rfl) (by kernel_rfl) rfl rfl (fun _ h => h.drop (kK <| kK <| .refl _)) (fun _ _ _ h => h) (A9 Aa) ?_
  refine BG 6 rfl (by kernel_rfl) (MC mapT Aa Aa Aa (i := 1) rfl (TV ht.in_ hl5) hK.keys hno (.next <| .here) ⟨(fun h => nomatch h), ?_⟩)
  refine Bo (by kernel_rfl) ?_ _
  refine Ab <| AI (Ae 2) <| At <| Er rfl Bf (.cons (.next <| .here) <| .nil) rfl ?_
  exact ⟨_, rfl, rfl, hK.snoc (TV ht.in_ hl5) hno hll hl5⟩
 obtain rfl := hK.vals _ _ _ hj hll
 refine Ac <| Al fun ds => A3 rfl <| Bc Aa rfl fun b4 hb4 nb4 => As (Ae 1) <| Ac <| Ac <| Bx (.inl rfl) (fun _ _ h => h) (by kernel_rfl) (by kernel_rfl) fun ds => Ba (Ae 1) <| AX rfl (AH Aa) <| Ba (Ae 1) <| AX rfl (Ah HQ Aa (AM hX.blk rfl)) <| Ba (Ae 1) <| AX rfl (QQ mapT Aa Aa (i := 1) rfl (TV ht.in_ hl5) hK.keys hK.nodup hj) <| Ba (Ae 5) <| B9 <| Ab <| AI (Ae 1) <| Ag Aa rfl <| AI (Ae 2) <| At <| A1 <| Er rfl Bf (.cons (.next <| .here) <| .nil) rfl ?_
 exact ⟨es, rfl, rfl, hK⟩
def changesE (s : Stm) (l : List Int) : Int × Int := if treeErr s l ≠ 0 then (0, treeErr s l) else if costL s l = 1000 then (0, 9) else (costL s l, 0)
def changesEV (s : Stm) (l : List Int) : Value := .tuple #[.int .i64 (changesE s l).1, .int .i64 (changesE s l).2]
theorem Ox {s : Stm} {l : List Int} (h : treeErr s l ≠ 0) : changesE s l = (0, treeErr s l) := if_pos h
theorem M8 {s : Stm} {l : List Int} (h : treeErr s l = 0) (h2 : costL s l = 1000) : changesE s l = (0, 9) := by unfold changesE; rw [if_neg (fun k => k h), if_pos h2]
theorem Gv {s : Stm} {l : List Int} (h : treeErr s l = 0) (h2 : costL s l ≠ 1000) : changesE s l = (costL s l, 0) := by unfold changesE; rw [if_neg (fun k => k h), if_neg h2]
theorem Kw {s : Stm} {l : List Int} (h : treeErr s l = 0) : ValidT s ∧ l.length = s.editions.length ∧ IsTree l := by
 obtain ⟨h1, h2, h3, h4⟩ := KU h
 exact ⟨Cj h1, h2, Eu h3 h4⟩
def yearsE (s : Stm) (l : List Int) : List (Int × Int) × Int := if treeErr s l ≠ 0 then ([], treeErr s l) else if fitsE s (treeE l) = true then (spL (firstY s (treeE l)) (lastY s (treeE l)) s.editions.length, 0) else ([], 9)
theorem Q9 {s : Stm} {l : List Int} (h : treeErr s l ≠ 0) : yearsE s l = ([], treeErr s l) := if_pos h
theorem O5 {s : Stm} {l : List Int} (h : treeErr s l = 0) (h2 : fitsE s (treeE l) = false) : yearsE s l = ([], 9) := by unfold yearsE; rw [if_neg (fun k => k h), if_neg (by rw [h2]; simp)]
theorem MB {s : Stm} {l : List Int} (h : treeErr s l = 0) (h2 : fitsE s (treeE l) = true) : yearsE s l = (spL (firstY s (treeE l)) (lastY s (treeE l)) s.editions.length, 0) := by unfold yearsE; rw [if_neg (fun k => k h), if_pos h2]
def SpnsR (F : Heap) (u : Value) (p : List (Int × Int) × Int) : Prop := ∃ v, u = .tuple #[v, .int .i64 p.2] ∧ Sl F v 2 spanE p.1
theorem SpnsR.mono {F F' : Heap} {u : Value} {p : List (Int × Int) × Int} (h : SpnsR F u p) (hF : F.le F') : SpnsR F' u p := by obtain ⟨v, h1, h2⟩ := h; exact ⟨v, h1, h2.mono hF⟩
theorem D6 {F : Heap} {vp ve : Value} {ps : List (Value × Edn)} {s : Stm} (hr : StmR F vp ve ps s) {v : Value} {l : List Int} (hl : Ints F v l) : Ok Tryz.prog 13 [.agg #[vp, ve], v].toArray F fun u _ => u = changesEV s l := by
 refine Ok.intro Tryz.func13 rfl Tryz.ntmps13 rfl fun w0 => ?_
 have hL := hl.plain.lt
 by_cases hok : treeErr s l = 0
 ·obtain ⟨hv, hll, ht⟩ := Kw hok
  have hne := hv.ne
  have hcv := ES (s := s) ht hv hll
  have hcb := Gp (s := s) (l := l)
  refine Ac <| Al fun ds => A3 rfl <| Bc Aa rfl fun b1 hb1 nb1 => As (Ae 2) <| Aw (Ae 2) fun ds => A3 rfl <| CH Kr Aa AY (Jd hr hl hok) fun v2 F3 R6 hr4 hF5 => ?_
  obtain ⟨ba, kb, rfl, hX, rfl⟩ := hr4
  refine Ao (Ae 4) <| A3 rfl <| AN Db rfl fun b7 hb7 nb7 => Ao (Ae 1) <| AV <| AQ Dk Aa Aa (i := 0) rfl rfl rfl rfl Cn (.here) <| As (Ae 1) <| Ac <| AI (Ae 2) <| Ad Aa (by decide) ?_
  by_cases h1 : costL s l = 1000
  ·refine Aj <| Ab <| Ac <| Aw (Ae 2) fun ds => D8 (.cons (.next <| .next <| .here) <| .cons (.next <| .here) <| .cons (.here) <| .nil) <| A3 rfl <| Dz Qz Aa AY rfl (EB hX ht hll hv KnownT.nil) fun v12 F13 H16 hr14 hF15 => ?_
   obtain ⟨es2, rfl, rfl, hK2⟩ := hr14
   refine As (Ae 1) <| AI (Ae 2) <| Ad Aa (by rw [hcv]; unfold costV; rw [if_pos h1]; decide) <| Aj <| Ab <| AI (Ae 2) <| At <| Aq rfl Bf ?_
   show _ = _
   unfold changesEV; rw [M8 hok h1]; rfl
  refine Aj <| Ab <| Ac <| Aw (Ae 2) fun ds => D8 (.cons (.next <| .next <| .here) <| .cons (.next <| .here) <| .cons (.here) <| .nil) <| A3 rfl <| Dz Qz Aa AY rfl (EB hX ht hll hv KnownT.nil) fun v21 F22 H25 hr23 hF24 => ?_
  obtain ⟨es2, rfl, rfl, hK2⟩ := hr23
  refine As (Ae 1) <| AI (Ae 2) <| Ag Aa (by rw [hcv]; unfold costV; rw [if_neg h1]; exact dT (by omega)) <| AI (Ae 3) <| At <| A1 <| Aq rfl Bf ?_
  show _ = _
  unfold changesEV; rw [Gv hok h1, hcv]; unfold costV; rw [if_neg h1]; rfl
 refine Ac <| Al fun ds => A3 rfl <| Bc Aa rfl fun b26 hb26 nb26 => As (Ae 2) <| Aw (Ae 2) fun ds => A3 rfl <| Be Kr Aa AY (GJ hr hl hok) fun v27 F28 hr29 hF30 => ?_
 obtain ⟨l2, rfl⟩ := hr29
 refine Ao (Ae 4) <| A3 rfl <| AN Db rfl fun b31 hb31 nb31 => Ao (Ae 1) <| AV <| AQ Dk Aa Aa (i := 0) rfl rfl rfl rfl Cn (.here) <| As (Ae 1) <| Ac <| AI (Ae 2) <| Ag Aa (dT hok) <| AI (Ae 3) <| At <| A1 <| Aq rfl Bf ?_
 show _ = _
 unfold changesEV; rw [Ox hok]; rfl
theorem Hx {F : Heap} {vp ve : Value} {ps : List (Value × Edn)} {s : Stm} (hr : StmR F vp ve ps s) {v : Value} {l : List Int} (hl : Ints F v l) : Ok Tryz.prog 14 [.agg #[vp, ve], v].toArray F fun u F' => SpnsR F' u (yearsE s l) := by
 refine Ok.intro Tryz.func14 rfl Tryz.ntmps14 rfl fun w0 => ?_
 have hL := hl.plain.lt
 by_cases hok : treeErr s l = 0
 ·obtain ⟨hv, hll, ht⟩ := Kw hok
  have hne := hv.ne
  have hl5 : l.length ≤ 5 := by omega
  refine Ac <| Al fun ds => A3 rfl <| Bc Aa rfl fun b1 hb1 nb1 => As (Ae 2) <| Aw (Ae 2) fun ds => A3 rfl <| CH Kr Aa AY (Jd hr hl hok) fun v2 F3 R6 hr4 hF5 => ?_
  obtain ⟨ba, kb, rfl, hX, rfl⟩ := hr4
  refine Ao (Ae 4) <| A3 rfl <| AN Db rfl fun b7 hb7 nb7 => Ao (Ae 1) <| AV <| AQ Dk Aa Aa (i := 0) rfl rfl rfl rfl Cn (.here) <| As (Ae 1) <| Ac <| AI (Ae 2) <| Ad Aa (by decide) ?_
  by_cases hfit : fitsE s (treeE l) = true
  ·refine Aj <| Ab <| Aw (Ae 2) fun ds => Af rfl (DT AY .nil) <| A3 rfl <| Be SN Aa AY (HC hX hv (fs := [treeV l]) (cs := []) N3 (bef := srcN l) (fun G hG i hi => Fu ht.in_ (by omega) hl5) (E := treeE l) (fun k i => by rw [La ht.in_, hll]) (by rw [← hll]; exact ht.dag)) fun v8 F9 hr10 hF11 => ?_
   obtain ⟨vsp, rfl, hsp⟩ := hr10
   refine As (Ae 5) <| Ac <| AI (Ae 2) <| Ad Aa (by rw [hfit]; rfl) <| Aj <| Ab <| AI (Ae 3) <| At <| Aq rfl Bf ?_
   rw [MB hok hfit]
   exact ⟨_, rfl, hsp⟩
  replace hfit : fitsE s (treeE l) = false := by simpa using hfit
  refine Aj <| Ab <| Aw (Ae 2) fun ds => Af rfl (DT AY .nil) <| A3 rfl <| Be SN Aa AY (HC hX hv (fs := [treeV l]) (cs := []) N3 (bef := srcN l) (fun G hG i hi => Fu ht.in_ (by omega) hl5) (E := treeE l) (fun k i => by rw [La ht.in_, hll]) (by rw [← hll]; exact ht.dag)) fun v12 F13 hr14 hF15 => ?_
  obtain ⟨vsp, rfl, hsp⟩ := hr14
  refine As (Ae 5) <| Ac <| AI (Ae 2) <| Ag Aa (by rw [hfit]; rfl) <| AI (Ae 2) <| At <| A1 <| Aq rfl Bf ?_
  rw [O5 hok hfit]
  exact ⟨_, rfl, Sl.nil⟩
 refine Ac <| Al fun ds => A3 rfl <| Bc Aa rfl fun b16 hb16 nb16 => As (Ae 2) <| Aw (Ae 2) fun ds => A3 rfl <| Be Kr Aa AY (GJ hr hl hok) fun v17 F18 hr19 hF20 => ?_
 obtain ⟨l2, rfl⟩ := hr19
 refine Ao (Ae 4) <| A3 rfl <| AN Db rfl fun b21 hb21 nb21 => Ao (Ae 1) <| AV <| AQ Dk Aa Aa (i := 0) rfl rfl rfl rfl Cn (.here) <| As (Ae 1) <| Ac <| AI (Ae 2) <| Ag Aa (dT hok) <| AI (Ae 3) <| At <| A1 <| Aq rfl Bf ?_
 rw [Q9 hok]
 exact ⟨_, rfl, Sl.nil⟩
end
section
def fitsT (s : Stm) (l : List Int) : Bool := fitsE s (treeE l)
def treesF (n : Nat) : Nat → List Int → List (List Int)
 | 0, b => if isT b = true then [b] else []
 | d + 1, b => (List.range (n + 1)).flatMap fun j : Nat => treesF n d (b ++ [(j : Int) - 1])
def allTrees (s : Stm) : List (List Int) := (treesF s.editions.length s.editions.length []).filter (fitsT s)
def skipT (s : Stm) (b : List Int) (v : Int) : Bool :=
 decide (v = b.length) || ((decide (v = -1) && decide (firstsN b b.length = 1)) || (decide (v ≠ -1) && decide ((s.ed b.length).hi ≤ (s.ed v.toNat).lo)))
def fillT (s : Stm) : Nat → List Int → List (List Int)
 | 0, b => if firstsN b b.length = 1 ∧ isT b = true ∧ fitsT s b = true then [b] else []
 | d + 1, b => (List.range (s.editions.length + 1)).flatMap fun j : Nat => if skipT s b ((j : Int) - 1) = true then [] else fillT s d (b ++ [(j : Int) - 1])
theorem H6 {b t : List Int} {i : Nat} (h : i < b.length) : upN (b ++ t) i = upN b i := by unfold upN; rw [List.getElem?_append_left h]
theorem H5 {b t : List Int} {v : Int} : upN (b ++ [v] ++ t) b.length = v := by simp [upN]
theorem SZ {b t : List Int} {i : Nat} : upN (b ++ t) (b.length + i) = upN t i := by unfold upN; rw [List.getElem?_append_right (by omega), Nat.add_sub_cancel_left]
theorem EW {n : Nat} : ∀ {d : Nat} {b l : List Int}, l ∈ treesF n d b ↔ ∃ t, l = b ++ t ∧ t.length = d ∧ (∀ j, j < d → -1 ≤ upN t j ∧ upN t j < n) ∧ isT l = true
 | 0, b, l => by
   unfold treesF
   constructor
   · intro h
     split at h
     · rename_i hT
       simp at h; subst h
       exact ⟨[], by simp, rfl, fun j h => absurd h (by omega), hT⟩
     cases h
   rintro ⟨t, rfl, ht, -, hT⟩
   obtain rfl := List.eq_nil_of_length_eq_zero ht
   rw [List.append_nil] at hT ⊢
   rw [if_pos hT]; simp
 | d + 1, b, l => by
   unfold treesF
   rw [List.mem_flatMap]
   constructor
   · rintro ⟨j, hj, hl⟩
     have hj2 := List.mem_range.1 hj
     obtain ⟨t, rfl, ht, h, hT⟩ := EW.1 hl
     refine ⟨((j : Int) - 1) :: t, by simp, by simp [ht], fun i hi => ?_, hT⟩
     cases i with
     | zero => show -1 ≤ (j : Int) - 1 ∧ (j : Int) - 1 < n; omega
     | succ i => exact h i (by omega)
   rintro ⟨t, rfl, ht, h, hT⟩
   cases t with
   | nil => cases ht
   | cons v t =>
     have h0 : -1 ≤ v ∧ v < n := h 0 (by omega)
     refine ⟨(v + 1).toNat, List.mem_range.2 (show (v + 1).toNat < n + 1 by omega), EW.2 ⟨t, ?_, by simpa using ht, fun j hj => h (j + 1) (by omega), hT⟩⟩
     rw [show (((v + 1).toNat : Nat) : Int) - 1 = v by omega]; simp
theorem Cf {s : Stm} {l : List Int} : l ∈ allTrees s ↔ l.length = s.editions.length ∧ IsTree l ∧ fitsT s l = true := by
 unfold allTrees
 rw [List.mem_filter, EW]
 constructor
 · rintro ⟨⟨t, rfl, ht, h, hT⟩, hf⟩
   exact ⟨ht, Eu (fun i hi => by rw [ht]; exact h i (by omega)) hT, hf⟩
 rintro ⟨h1, h2, h3⟩
 exact ⟨⟨l, rfl, h1, fun j hj => by have := h2.in_ j (by omega); rw [h1] at this; exact this, h2.isT⟩, h3⟩
theorem Lm {l : List Int} {i : Nat} (h : upN l i = (i : Int)) : ∀ f, reach l f i = false
 | 0 => Fz (by omega)
 | f + 1 => by rw [DD h]; exact Lm h f
theorem ER {b t : List Int} : ∀ {k : Nat}, k ≤ b.length → firstsN (b ++ t) k = firstsN b k
 | 0, _ => rfl
 | k + 1, h => by unfold firstsN; rw [H6 (by omega), ER (by omega)]
theorem Tp {s : Stm} {b t : List Int} {v : Int} (hl : (b ++ [v] ++ t).length = s.editions.length) (ht : IsTree (b ++ [v] ++ t)) (hf : fitsT s (b ++ [v] ++ t) = true) : skipT s b v = false := by
 have hbl : b.length < (b ++ [v] ++ t).length := by simp
 have hm : upN (b ++ [v] ++ t) b.length = v := H5
 cases hs : skipT s b v with
 | false => rfl
 | true =>
   exfalso
   unfold skipT at hs
   simp only [Bool.or_eq_true, Bool.and_eq_true, decide_eq_true_eq] at hs
   rcases hs with h | ⟨h, h2⟩ | ⟨h, h2⟩
   · have := ht.reach b.length hbl
     rw [Lm (by rw [hm]; exact h)] at this
     cases this
   · have h3 : firstsN (b ++ [v] ++ t) b.length = 1 := by rw [List.append_assoc, ER (Nat.le_refl _)]; exact h2
     obtain ⟨r, hr, hr2⟩ := LG (l := b ++ [v] ++ t) (n := b.length) (by omega)
     have := En (l := b ++ [v] ++ t) r b.length (by omega) hbl hr2 (by rw [hm]; exact h) (by rw [ht.one]; exact Int.le_refl _)
     omega
   obtain ⟨k, hk, hkl⟩ := ht.in_.nat hbl (by rw [hm]; exact h)
   have he := KV hbl hk
   have h3 := Dr.1 hf b.length (by omega)
   rw [hm] at hk
   rw [hk, Int.toNat_natCast] at h2
   unfold firstY at h3
   obtain ⟨m, hm2⟩ : ∃ m, s.editions.length = m + 1 := ⟨s.editions.length - 1, by omega⟩
   rw [hm2] at h3
   have h4 := DI (f := m) (base := fun i => (s.ed i).lo) he
   have h5 := BX (E := treeE (b ++ [v] ++ t)) (base := fun i => (s.ed i).lo) (f := m) (i := k)
   simp only at h4 h5
   omega
theorem LH {s : Stm} : ∀ {d : Nat} {b : List Int}, b.length + d = s.editions.length → (∀ i, i < b.length → -1 ≤ upN b i ∧ upN b i < s.editions.length) → fillT s d b = (treesF s.editions.length d b).filter (fitsT s)
 | 0, b, hb, hin => by
   unfold fillT treesF
   by_cases hT : isT b = true
   · have hone : firstsN b b.length = 1 := (Eu (fun i hi => by have := hin i hi; omega) hT).one
     rw [if_pos hT]
     by_cases hf : fitsT s b = true
     · rw [if_pos ⟨hone, hT, hf⟩]; simp [hf]
     rw [if_neg (fun h => hf h.2.2)]; simp [hf]
   rw [if_neg hT, if_neg (fun h => hT h.2.1)]; rfl
 | d + 1, b, hb, hin => by
   unfold fillT treesF
   rw [List.filter_flatMap]
   have hcong : ∀ {L : List Nat}, (∀ j ∈ L, j < s.editions.length + 1) → L.flatMap (fun j : Nat => if skipT s b ((j : Int) - 1) = true then [] else fillT s d (b ++ [(j : Int) - 1])) = L.flatMap (fun j : Nat => (treesF s.editions.length d (b ++ [(j : Int) - 1])).filter (fitsT s)) := by
     intro L
     induction L with
     | nil => intro _; rfl
     | cons j L ih =>
       intro hL
       rw [List.flatMap_cons, List.flatMap_cons, ih (fun k hk => hL k (List.mem_cons_of_mem _ hk))]
       congr 1
       have hj := hL j List.mem_cons_self
       split
       · rename_i hs
         symm
         rw [List.filter_eq_nil_iff]
         intro l hl hf
         obtain ⟨t, rfl, ht, h, hT⟩ := EW.1 hl
         have hlen : (b ++ [(j : Int) - 1] ++ t).length = s.editions.length := by simp [ht]; omega
         have hin2 : TreeIn (b ++ [(j : Int) - 1] ++ t) := fun i hi => by
           rw [hlen]
           by_cases h1 : i < b.length
           · rw [List.append_assoc, H6 h1]; exact hin i h1
           by_cases h2 : i = b.length
           · subst h2; rw [H5]; omega
           obtain ⟨q, rfl⟩ : ∃ q, i = (b ++ [(j : Int) - 1]).length + q := ⟨i - (b.length + 1), by simp; omega⟩
           rw [SZ]
           exact h q (by simp at hi; omega)
         rw [Tp hlen (Eu hin2 hT) hf] at hs
         cases hs
       refine LH (by simp; omega) fun i hi => ?_
       by_cases h1 : i < b.length
       · rw [H6 h1]; exact hin i h1
       obtain rfl : i = b.length := by simp at hi; omega
       have := H5 (b := b) (t := []) (v := (j : Int) - 1)
       rw [List.append_nil] at this
       rw [this]; omega
   exact hcong fun j hj => List.mem_range.1 hj
theorem PK {s : Stm} : fillT s s.editions.length [] = allTrees s := LH (by simp) (fun i h => absurd h (by simp))
def fillTo (s : Stm) (d : Nat) (b : List Int) (j : Nat) : List (List Int) := (List.range j).flatMap fun j : Nat => if skipT s b ((j : Int) - 1) = true then [] else fillT s d (b ++ [(j : Int) - 1])
theorem Du {s : Stm} {d : Nat} {b : List Int} {j : Nat} : fillTo s d b (j + 1) = fillTo s d b j ++ if skipT s b ((j : Int) - 1) = true then [] else fillT s d (b ++ [(j : Int) - 1]) := by
 unfold fillTo; rw [List.range_succ, List.flatMap_append]; simp
theorem LJ {s : Stm} {d : Nat} {b : List Int} : fillTo s d b (s.editions.length + 1) = fillT s (d + 1) b := rfl
theorem Jb {s : Stm} {d : Nat} {b : List Int} {j : Nat} (hj : j < s.editions.length + 1) : ∃ rest, fillT s (d + 1) b = fillTo s d b j ++ (if skipT s b ((j : Int) - 1) = true then [] else fillT s d (b ++ [(j : Int) - 1])) ++ rest := by
 rw [← LJ, ← Du]
 unfold fillTo
 rw [show s.editions.length + 1 = (j + 1) + (s.editions.length - j) by omega, List.range_eq_range', ← List.range'_append_1, List.flatMap_append, ← List.range_eq_range']
 exact ⟨_, rfl⟩
def bestStep (top : Int) (c : List Int → Int) (st : List (List Int) × Int) (t : List Int) : List (List Int) × Int :=
 if c t < st.2 then ([t], c t) else if c t = st.2 ∧ c t < top then (st.1 ++ [t], st.2) else st
def bestR (top : Int) (c : List Int → Int) (xs : List (List Int)) : List (List Int) × Int := xs.foldl (bestStep top c) ([], top)
theorem CW {top : Int} {c : List Int → Int} {xs : List (List Int)} {t : List Int} : bestR top c (xs ++ [t]) = bestStep top c (bestR top c xs) t := by unfold bestR; rw [List.foldl_append]; rfl
def minR (top : Int) (c : List Int → Int) (xs : List (List Int)) : Int := xs.foldl (fun m t => min m (c t)) top
theorem TM {top : Int} {c : List Int → Int} {xs : List (List Int)} {t : List Int} : minR top c (xs ++ [t]) = min (minR top c xs) (c t) := by unfold minR; rw [List.foldl_append]; rfl
theorem HD {α : Type} {p : List α → Prop} (h0 : p []) (h1 : ∀ l a, p l → p (l ++ [a])) (l : List α) : p l := by
 have key : ∀ m : List α, p m.reverse := by
   intro m
   induction m with
   | nil => exact h0
   | cons a m ih => rw [List.reverse_cons]; exact h1 _ _ ih
 have := key l.reverse
 rwa [List.reverse_reverse] at this
theorem GQ {top : Int} {c : List Int → Int} (xs : List (List Int)) : bestR top c xs = (xs.filter (fun t => decide (c t = minR top c xs ∧ c t < top)), minR top c xs) := by
 induction xs using HD with
 | h0 => rfl
 | h1 xs t ih =>
   rw [CW, TM, ih]
   have hle : ∀ x ∈ xs, minR top c xs ≤ c x := fun x hx => EG hx
   have hst : minR top c xs ≤ top := DN
   unfold bestStep
   simp only
   by_cases h1 : c t < minR top c xs
   · rw [if_pos h1, show min (minR top c xs) (c t) = c t by omega, List.filter_append]
     have e : xs.filter (fun x => decide (c x = c t ∧ c x < top)) = [] := by
       rw [List.filter_eq_nil_iff]; intro x hx h
       have := hle x hx
       have := (of_decide_eq_true h).1
       omega
     have e2 : [t].filter (fun x => decide (c x = c t ∧ c x < top)) = [t] := by
       rw [List.filter_cons, if_pos (dT ⟨rfl, by omega⟩)]; rfl
     rw [e, e2]; rfl
   rw [if_neg h1, show min (minR top c xs) (c t) = minR top c xs by omega, List.filter_append]
   by_cases h2 : c t = minR top c xs ∧ c t < top
   · have e2 : [t].filter (fun x => decide (c x = minR top c xs ∧ c x < top)) = [t] := by
       rw [List.filter_cons, if_pos (dT h2)]; rfl
     rw [if_pos h2, e2]
   rw [if_neg h2]
   have e : [t].filter (fun x => decide (c x = minR top c xs ∧ c x < top)) = [] := by
     rw [List.filter_eq_nil_iff]; intro x hx h
     simp at hx; subst hx
     exact h2 (of_decide_eq_true h)
   rw [e, List.append_nil]
theorem Mk {top : Int} {c : List Int → Int} {xs : List (List Int)} : (bestR top c xs).2 ≤ top := by rw [GQ]; exact DN
def upV (z : Int) : Int := if z = 1000 then never else z
theorem best_up {c1 c2 : List Int → Int} : ∀ {xs : List (List Int)}, (∀ t ∈ xs, c1 t = upV (c2 t) ∧ c2 t ≤ 1000) → bestR never c1 xs = ((bestR 1000 c2 xs).1, upV (bestR 1000 c2 xs).2) := by
 intro xs
 induction xs using HD with
 | h0 => intro _; rfl
 | h1 xs t ih =>
   intro h
   have ih := ih fun x hx => h x (by simp [hx])
   have ht := h t (by simp)
   have hb : (bestR 1000 c2 xs).2 ≤ 1000 := Mk
   rw [CW, CW, ih]
   unfold bestStep
   simp only
   rw [ht.1]
   unfold upV never
   by_cases h1 : c2 t < (bestR 1000 c2 xs).2
   · have k1 : ¬ c2 t = 1000 := by omega
     rw [if_pos h1, if_neg k1, if_pos (by split <;> omega)]
   rw [if_neg h1, if_neg (by split <;> split <;> omega)]
   by_cases h2 : c2 t = (bestR 1000 c2 xs).2 ∧ c2 t < 1000
   · rw [if_pos h2, if_pos (by rw [h2.1]; refine ⟨rfl, ?_⟩; split <;> omega)]
   rw [if_neg h2, if_neg]
   rintro ⟨h3, h4⟩
   apply h2
   split at h3
   · rename_i h5; simp [h5] at h4
   split at h3 <;> omega
def bestsL (s : Stm) : List (List Int) := (bestR 1000 (costL s) (allTrees s)).1
def bestsM (s : Stm) : Int := (bestR 1000 (costL s) (allTrees s)).2
theorem Mh {s : Stm} (hv : ValidT s) : bestR never (changesN s) (allTrees s) = (bestsL s, upV (bestsM s)) :=
 best_up fun t ht => by
   obtain ⟨h1, h2, -⟩ := Cf.1 ht
   exact ⟨ES h2 hv h1, Gp.2⟩
theorem FN {s : Stm} {l : List Int} : l ∈ bestsL s ↔ l ∈ allTrees s ∧ costL s l = bestsM s ∧ costL s l < 1000 := by
 unfold bestsL bestsM
 rw [GQ]
 simp [List.mem_filter]
theorem Hm {α : Type} {f : α → Int} : ∀ {l : List α} {m : Int}, l.foldl (fun m x => min m (f x)) m = m ∨ ∃ x ∈ l, l.foldl (fun m x => min m (f x)) m = f x
 | [], m => .inl rfl
 | a :: l, m => by
   rw [List.foldl_cons]
   rcases Hm (l := l) (m := min m (f a)) (f := f) with h | ⟨x, hx, h⟩
   · by_cases h1 : m ≤ f a
     · left; rw [h]; omega
     right; exact ⟨a, by simp, by rw [h]; omega⟩
   right; exact ⟨x, by simp [hx], h⟩
theorem Mi {s : Stm} : bestsL s = [] ↔ bestsM s = 1000 := by
 have hle : bestsM s ≤ 1000 := Mk
 constructor
 · intro h
   have e : bestsM s = minR 1000 (costL s) (allTrees s) := by unfold bestsM; rw [GQ]
   rcases Hm (f := costL s) (l := allTrees s) (m := 1000) with h1 | ⟨x, hx, h1⟩
   · rw [e]; exact h1
   have h2 : bestsM s = costL s x := by rw [e]; exact h1
   by_cases h3 : costL s x < 1000
   · have : x ∈ bestsL s := FN.2 ⟨hx, h2.symm, h3⟩
     rw [h] at this; cases this
   omega
 intro h
 rw [List.eq_nil_iff_forall_not_mem]
 intro x hx
 obtain ⟨h1, h2, h3⟩ := FN.1 hx
 omega
end
section
open Go.RowKit
section
variable {P : Program} {n : Nat} {B : Base} {e : Env} {σ : St} {ty : TypeId} {pos : String} {af : Array Edge}
theorem OA {d : Option Nat} {g : FuncId} {f : Operand} {fs cs vs : List Value} {xs : List Operand} {at_ : Array TypeId} {Hc Hr : List (Nat × Obj)}
   {R : Value → Heap → List (Nat × Obj) → Prop} {K : Value → St → Prop} (hg : Body P g) (hf : ev e f = .func (.func g) fs.toArray cs.toArray) (hx : Av e xs vs) (hH : σ.H = Hc ++ Hr)
   (hok : OkM P g (fs ++ vs ++ cs).toArray σ.F Hc R) (hn : ∀ v F' H', R v F' H' → σ.F.le F' → K v ⟨F', H' ++ Hr⟩) :
   OpX P n B ⟨d, .call ⟨.value f, xs.toArray, at_⟩, ty, pos, af, none⟩ e σ K := by
 intro a w ha hw next Qx hnext
 unfold Oper.wp
 rw [ha.ev, Hi hg hf hx, Oper.upon_enter]
 refine (hok w hw.sub (fun p hp => ?_) ?_).mono fun r w' hq => ?_
 · obtain ⟨h1, h2, -⟩ := hw.own p (by rw [hH]; exact List.mem_append_left _ hp)
   exact ⟨h1, h2⟩
 · have := hw.nodup
   rw [hH, List.map_append] at this
   exact (List.nodup_append.1 this).1
 obtain ⟨v, F', H', rfl, hg', hk, hH', hR⟩ := hq
 exact hnext v _ w' (hn v F' H' hR hg'.le) (hw.grow hH hg' hk hH')
variable {ops : Array Oper}
end
end
section
open Go.RowKit
def HeldG (w : World) (H : List (Nat × Obj)) (w' : World) (F' : Heap) (H' : List (Nat × Obj)) : Prop := (∀ p ∈ H', w'.heap[p.1]? = some p.2 ∧ F' p.1 = none ∧ (p.1 ∈ keys H ∨ w.heap.size ≤ p.1)) ∧ (keys H').Nodup
def OkG (P : Program) (f : FuncId) (args : Array Value) (F : Heap) (H : List (Nat × Obj)) (R : Value → Heap → List (Nat × Obj) → Prop) : Prop :=
 ∀ w, Sub F w → (∀ p ∈ H, w.heap[p.1]? = some p.2 ∧ F p.1 = none) → (keys H).Nodup →
   Calls P f args w fun r w' => ∃ v F' H', r = .returned v ∧ Grow w F (keys H) w' F' ∧ HeldG w H w' F' H' ∧ R v F' H'
theorem OkG.mono {P : Program} {f : FuncId} {args : Array Value} {F : Heap} {H : List (Nat × Obj)} {R R' : Value → Heap → List (Nat × Obj) → Prop} (h : OkG P f args F H R)
   (hr : ∀ v F' H', F.le F' → R v F' H' → R' v F' H') : OkG P f args F H R' := by
 intro w h1 h2 h3
 refine (h w h1 h2 h3).mono fun r w' hq => ?_
 obtain ⟨v, F', H', q1, q2, q3, q4⟩ := hq
 exact ⟨v, F', H', q1, q2, q3, hr v F' H' q2.le q4⟩
def OkYG (P : Program) (l : Nat) (args : List Value) (F : Heap) (H : List (Nat × Obj)) (R : Value → Heap → List (Nat × Obj) → Prop) : Prop :=
 ∀ w, Sub F w → (∀ p ∈ H, w.heap[p.1]? = some p.2 ∧ F p.1 = none) → (keys H).Nodup →
   ∃ fn tmps assign body, (Instr.yield l args.toArray).run P w = .ok (.round l fn tmps assign body) w ∧
     RoundIn Fence.wide 0 P l fn tmps assign body w fun r w' => ∃ v F' H', r = .returned v ∧ Grow w F (keys H) w' F' ∧ HeldG w H w' F' H' ∧ R v F' H'
theorem OkYG.mono {P : Program} {l : Nat} {args : List Value} {F : Heap} {H : List (Nat × Obj)} {R R' : Value → Heap → List (Nat × Obj) → Prop} (h : OkYG P l args F H R) (hr : ∀ v F' H', F.le F' → R v F' H' → R' v F' H') : OkYG P l args F H R' := by
 intro w h1 h2 h3
 obtain ⟨fn, tm, as1, bo, hy, hR⟩ := h w h1 h2 h3
 refine ⟨fn, tm, as1, bo, hy, hR.mono fun r w' hq => ?_⟩
 obtain ⟨v, F', H', q1, q2, q3, q4⟩ := hq
 exact ⟨v, F', H', q1, q2, q3, hr v F' H' q2.le q4⟩
section
variable {P : Program} {n : Nat} {B : Base} {e : Env} {σ : St} {ty : TypeId} {pos : String} {af : Array Edge}
theorem Holds.growG {w : World} (h : Holds B σ w) {Hc rest : List (Nat × Obj)} {w' : World} {F' : Heap} {H' : List (Nat × Obj)} (hH : σ.H = Hc ++ rest)
   (hg : Grow w σ.F (keys Hc) w' F') (hh : HeldG w Hc w' F' H') : Holds B ⟨F', H' ++ rest⟩ w' := by
 obtain ⟨hh1, hh2⟩ := hh
 have hin : ∀ p ∈ H', (∃ q ∈ Hc, q.1 = p.1) ∨ w.heap.size ≤ p.1 := fun p hp => (hh1 p hp).2.2.imp (fun hk => by
   obtain ⟨q, hq, he⟩ := List.mem_map.1 hk
   exact ⟨q, hq, he⟩) id
 have hnd := h.nodup
 rw [hH, List.map_append, List.nodup_append] at hnd
 refine ⟨hg.os.trans h.os, hg.tape.trans h.tape, hg.output.trans h.output, Nat.le_trans h.size hg.size, ?_, hg.sub, ?_, ?_, ?_, Heap.le_trans h.le hg.le, fun D hD => ?_, h.dnodup⟩
 · intro b hb hM
   have hnot : b ∉ keys Hc := by
     intro hm
     obtain ⟨p, hp, rfl⟩ := List.mem_map.1 hm
     rcases (h.own p (by rw [hH]; exact List.mem_append_left _ hp)).2.2 with h1 | h1
     · omega
     exact hM h1
   rw [hg.old b (by have := h.size; omega) hnot]; exact h.old b hb hM
 · intro p hp
   rcases List.mem_append.1 hp with hp | hp
   · obtain ⟨h1, h2, -⟩ := hh1 p hp
     refine ⟨h1, h2, ?_⟩
     rcases hin p hp with ⟨q, hq, he⟩ | hnew
     · have := (h.own q (by rw [hH]; exact List.mem_append_left _ hq)).2.2
       rw [he] at this; exact this
     exact .inl (Nat.le_trans h.size hnew)
   have hp' : p ∈ σ.H := by rw [hH]; exact List.mem_append_right _ hp
   obtain ⟨h1, h2, h3⟩ := h.own p hp'
   have hlt := h.lt hp'
   have hnot : p.1 ∉ keys Hc := fun hm => hnd.2.2 _ hm _ (List.mem_map_of_mem hp) rfl
   exact ⟨by rw [hg.old _ hlt hnot]; exact h1, (hg.ext _ hlt).trans h2, h3⟩
 · rw [List.map_append, List.nodup_append]
   refine ⟨hh2, hnd.2.1, fun a ha b hb he => ?_⟩
   obtain ⟨p, hp, rfl⟩ := List.mem_map.1 ha
   obtain ⟨q, hq, rfl⟩ := List.mem_map.1 hb
   rcases hin p hp with ⟨r, hr, hre⟩ | hnew
   · exact hnd.2.2 _ (List.mem_map_of_mem hr) _ (List.mem_map_of_mem hq) (hre.trans he)
   have := h.lt (p := q) (by rw [hH]; exact List.mem_append_right _ hq)
   omega
 · intro b hb
   exact (hg.ext b (by have := h.size; omega)).trans (h.ext b hb)
 obtain ⟨h1, h2, h3, h4⟩ := h.marks D hD
 have hlt := (Array.getElem?_eq_some_iff.1 h1).1
 have hnot : D ∉ keys Hc := fun hm => h4 (by rw [hH, List.map_append]; exact List.mem_append_left _ hm)
 refine ⟨by rw [hg.old _ hlt hnot]; exact h1, (hg.ext _ hlt).trans h2, h3, fun hm => ?_⟩
 rw [List.map_append] at hm
 rcases List.mem_append.1 hm with hm | hm
 · obtain ⟨p, hp, he⟩ := List.mem_map.1 hm
   rcases hin p hp with ⟨r, hr, hre⟩ | hnew
   · exact hnot (by rw [← he, ← hre]; exact List.mem_map_of_mem hr)
   omega
 exact h4 (by rw [hH, List.map_append]; exact List.mem_append_right _ hm)
theorem Hz {d : Option Nat} {g : FuncId} {f : Operand} {cs vs : List Value} {xs : List Operand} {at_ : Array TypeId} {Hc : List (Nat × Obj)}
   {R : Value → Heap → List (Nat × Obj) → Prop} {K : Value → St → Prop} (hg : Body P g) (hf : ev e f = .func (.func g) #[] cs.toArray) (hx : Av e xs vs) (hH : σ.H = Hc)
   (hok : OkG P g (vs ++ cs).toArray σ.F Hc R) (hn : ∀ v F' H', R v F' H' → σ.F.le F' → K v ⟨F', H'⟩) :
   OpX P n B ⟨d, .call ⟨.value f, xs.toArray, at_⟩, ty, pos, af, none⟩ e σ K := by
 intro a w ha hw next Qx hnext
 unfold Oper.wp
 rw [ha.ev, Fa hg hf hx, Oper.upon_enter]
 refine (hok w hw.sub (fun p hp => ?_) ?_).mono fun r w' hq => ?_
 · obtain ⟨h1, h2, -⟩ := hw.own p (by rw [hH]; exact hp)
   exact ⟨h1, h2⟩
 · have := hw.nodup
   rw [hH] at this
   exact this
 obtain ⟨v, F', H', rfl, hg', hh, hR⟩ := hq
 have := hw.growG (Hc := Hc) (rest := []) (by simp [hH]) hg' hh
 rw [List.append_nil] at this
 exact hnext v _ w' (hn v F' H' hR hg'.le) this
theorem WI_yG {ops : Array Oper} {Q : Exit → Env → St → Prop} {rest : List Oper} {d : Nat} {f : Operand} {l : Nat} {xs : List Operand} {vs : List Value} {at_ : Array TypeId} {Hc : List (Nat × Obj)} {R : Value → Heap → List (Nat × Obj) → Prop}
   (hd : Nat.blt d n = true) (hf : ev e f = .func (.yield l) #[] #[]) (hx : Av e xs vs) (hH : σ.H = Hc) (hok : OkYG P l vs σ.F Hc R)
   (hn : ∀ v F' H', R v F' H' → σ.F.le F' → WI P n B ops Q rest (upd e d v) ⟨F', H'⟩) : WI P n B ops Q (⟨some d, .call ⟨.value f, xs.toArray, at_⟩, ty, pos, af, none⟩ :: rest) e σ := by
 intro a w ha hw
 have hnd := hw.nodup
 rw [hH] at hnd
 obtain ⟨fn, tm, as1, bo, hy, hR⟩ := hok w hw.sub (fun p hp => ⟨(hw.own p (by rw [hH]; exact hp)).1, (hw.own p (by rw [hH]; exact hp)).2.1⟩) hnd
 unfold wpListIn
 rw [if_pos (by simp [Region.wanted])]
 refine ⟨fun _ _ => trivial, ?_⟩
 have hrun : (execOp (ev e) ⟨some d, .call ⟨.value f, xs.toArray, at_⟩, ty, pos, af, none⟩).run P w = .ok (.round l fn tm as1 bo) w := by
   have hm := hx.map
   simp [execOp, resolve, invoke, Deferred.ofValue, hf, hm, hy]
 rw [show (fence B.ro).round = B.ro from rfl, semAt_eq (.inr rfl), ha.ev, hrun]
 refine ⟨fun h => by simp [fence] at h, RoundIn.mono (F := fence B.ro) (show RoundIn (fence B.ro) 0 P l fn tm as1 bo w _ from hR) fun r w' hq => ?_⟩
 obtain ⟨v, F', H', rfl, q2, q3, q5⟩ := hq
 have h3 := hw.growG (Hc := Hc) (rest := []) (by simp [hH]) q2 q3
 rw [List.append_nil] at h3
 exact hn v F' H' q5 q2.le _ _ (ha.put (by simpa using hd) v) h3
def PostG (P : Program) (fn : Func) (B : Base) (R : Value → Heap → List (Nat × Obj) → Prop) : Exit → Env → St → Prop
 | .normal, e, σ | .ret, e, σ => ∃ rs vs F' H', fn.results = List.toArray rs ∧ Rv P e σ rs vs ∧ (∀ ds w, Holds (B.at ds) σ w → Holds (B.at ds) ⟨F', H'⟩ w) ∧ R (outOf vs) F' H'
 | _, _, _ => False
theorem OkG.intro {f : FuncId} {fn : Func} {c : Code} {args : List Value} {F : Heap} {H : List (Nat × Obj)} {R : Value → Heap → List (Nat × Obj) → Prop} (hf : P.funcs[f]? = some fn) (hb : fn.body = some c) (hn : fn.ntmps = n) (hsz : Nat.ble args.length n = true)
   (h : ∀ w, WC P n ⟨w, keys H, F, [], none⟩ c (PostG P fn ⟨w, keys H, F, [], none⟩ R) (fun t => args.getD t undef) ⟨F, H⟩) : OkG P f args.toArray F H R := by
 intro w hs hH hnd
 refine (callsIn_wide (n := 0)).1 (callsIn_of_wp_marks (F := fence none) hf hb trivial (wpIn_mono (h w [] _ _ ?_ ?_) fun x a' w' hq => ?_))
 · refine ⟨?_, rfl, fun t => ?_⟩
   · have : args.length ≤ n := by simpa using hsz
     simp [hn]; omega
   have hl : args.length ≤ n := by simpa using hsz
   by_cases ht : t < args.length
   · simp [Array.getElem?_append_left, ht]
   simp only [Array.getD_eq_getD_getElem?, List.getD_eq_getElem?_getD]
   rw [Array.getElem?_append_right (by simp; omega), List.getElem?_eq_none (by omega)]
   simp only [List.size_toArray, Array.getElem?_replicate]
   split <;> rfl
 · exact ⟨rfl, rfl, rfl, Nat.le_refl _, fun _ _ _ => rfl, hs, fun p hp => ⟨(hH p hp).1, (hH p hp).2, .inr (List.mem_map_of_mem hp)⟩, hnd, fun _ _ => rfl, Heap.le_refl _, (fun D hD => nomatch hD), List.nodup_nil⟩
 obtain ⟨ds, e', σ', h1, h2, h3⟩ := hq
 have fin : ∀ rs vs F' H', fn.results = List.toArray rs → Rv P e' σ' rs vs → (∀ ds w2, Holds (Base.at ⟨w, keys H, F, [], none⟩ ds) σ' w2 → Holds (Base.at ⟨w, keys H, F, [], none⟩ ds) ⟨F', H'⟩ w2) → R (outOf vs) F' H' →
     LeavesInM (fence none) 0 P fn a'.tmps (fun r w' => ∃ v F' H', r = .returned v ∧ Grow w F (keys H) w' F' ∧ HeldG w H w' F' H' ∧ R v F' H') a'.defers .returning w' := by
   intro rs vs F' H' q1 q2 q3 q5
   rw [h1.defers]
   refine GE (B := ⟨w, keys H, F, [], none⟩) ds w' h2 fun w2 hw2 => ?_
   have h2' := q3 [] w2 hw2
   exact ⟨_, FY q1 q2 h1 hw2, _, F', H', rfl, ⟨h2'.os, h2'.tape, h2'.output, h2'.size, h2'.old, h2'.le, h2'.sub, h2'.ext⟩, ⟨fun p hp => ⟨(h2'.own p hp).1, (h2'.own p hp).2.1, (h2'.own p hp).2.2.symm⟩, h2'.nodup⟩, q5⟩
 cases x with
 | normal => obtain ⟨rs, vs, F', H', q1, q2, q3, q5⟩ := h3; exact fin rs vs F' H' q1 q2 q3 q5
 | ret => obtain ⟨rs, vs, F', H', q1, q2, q3, q5⟩ := h3; exact fin rs vs F' H' q1 q2 q3 q5
 | exit id => exact h3.elim
 | goto l => exact h3.elim
 | panic ch => exact h3.elim
 | outgrown => exact h3.elim
theorem C6 {fn : Func} {R : Value → Heap → List (Nat × Obj) → Prop} {rs : List ResultVar} {vs : List Value} {H' : List (Nat × Obj)} (hr : fn.results = rs.toArray) (hv : Rv P e σ rs vs) (hp : Pick σ.H H') (hR : R (outOf vs) σ.F H') :
   PostG P fn B R .ret e σ := ⟨rs, vs, σ.F, H', hr, hv, fun _ _ h => h.pick hp, hR⟩
theorem MX {fn : Func} {R : Value → Heap → List (Nat × Obj) → Prop} {rs : List ResultVar} {vs : List Value} {H' : List (Nat × Obj)} (hr : fn.results = rs.toArray) (hv : Rv P e σ rs vs) (hp : Pick σ.H H') (hR : R (outOf vs) σ.F H') :
   PostG P fn B R .normal e σ := ⟨rs, vs, σ.F, H', hr, hv, fun _ _ h => h.pick hp, hR⟩
theorem GY {Q : Exit → Env → St → Prop} {g : Operand} {ps : Array Tmp} {assign body : Code} {gf : FuncId} {cs : List Value} (hro : B.ro = none) (hg : ev e g = .func (.func gf) #[] cs.toArray) (hb : Body P gf)
   (J : Heap → List (Nat × Obj) → Prop) (Jx : Code → Heap → List (Nat × Obj) → Prop)
   (h : ∀ L D fn tm, tm.size = n → (∀ t, tm.getD t undef = e t) → OkG P gf (.func (.yield L) #[] #[] :: cs).toArray σ.F ((L, loopO fn tm ps assign body D .ready none) :: (D, openO) :: σ.H) fun _ F' H' =>
     ∃ H1, H' = (L, loopO fn tm ps assign body D .ready none) :: (D, openO) :: H1 ∧ J F' H1 ∨ ∃ c, H' = (L, loopO fn tm ps assign body D .done (some c)) :: (D, openO) :: H1 ∧ Jx c F' H1)
   (hx : ∀ c F' H1, σ.F.le F' → Jx c F' H1 → WC P n B c Q e ⟨F', H1⟩)
   (hn : ∀ F' H1, σ.F.le F' → J F' H1 → Q .normal e ⟨F', H1⟩) : WC P n B (.rangeFunc g ps assign body) Q e σ := by
 intro ds a w ha hw
 rw [hro]
 refine wpIn_rangeFunc fun fn _ => ?_
 let W1 := (w.alloc openO).alloc (loopO fn a.tmps ps assign body w.heap.size .ready none)
 have hsz1 : (w.alloc openO).heap.size = w.heap.size + 1 := by simp
 have hW1 : Holds (B.at ds) ⟨σ.F, (w.heap.size + 1, loopO fn a.tmps ps assign body w.heap.size .ready none) :: (w.heap.size, openO) :: σ.H⟩ W1 := by
   have := (hw.alloc openO).alloc (loopO fn a.tmps ps assign body w.heap.size .ready none)
   rw [hsz1] at this
   exact this
 refine ⟨w.heap.size + 1, [mark w.heap.size], W1, { target := .fn (.func gf) cs.toArray, args := #[.func (.yield (w.heap.size + 1)) #[] #[]] }, W1, gf, (.func (.yield (w.heap.size + 1)) #[] #[] :: cs).toArray, W1, ?_, ?_, fun _ _ => trivial, ?_, fun h => by simp [fence] at h, trivial, ?_⟩
 · exact run_enterLoop_outer fn a.tmps ps assign body
 · simp only [resolve, ha.ev, hg]
   simp [go_sem]
   rfl
 · simp only [invoke]
   have := Ej hb (#[.func (.yield (w.heap.size + 1)) #[] #[]] ++ cs.toArray) W1
   simpa using this
 refine ((ET (ro := none) (k := 0 - 1)).2 (((h (w.heap.size + 1) w.heap.size fn a.tmps ha.size ha.get) W1 hW1.sub (fun p hp => ⟨(hW1.own p hp).1, (hW1.own p hp).2.1⟩) hW1.nodup).mono ?_)).2
 rintro r W2 ⟨v, F', H', rfl, hg', hh, hR⟩
 have hw2 := hW1.growG (Hc := (w.heap.size + 1, loopO fn a.tmps ps assign body w.heap.size .ready none) :: (w.heap.size, openO) :: σ.H) (rest := []) (by simp) hg' hh
 rw [List.append_nil] at hw2
 have hD : (B.at ds).w0.heap.size ≤ w.heap.size := hw.size
 have hfit : Fits n (B.at (w.heap.size :: ds)) { a with defers := [mark w.heap.size] ++ a.defers } e := ⟨ha.size, by show [mark w.heap.size] ++ a.defers = _; rw [ha.defers]; rfl, ha.get⟩
 have fin : ∀ st pe H1, H' = (w.heap.size + 1, loopO fn a.tmps ps assign body w.heap.size st pe) :: (w.heap.size, openO) :: H1 → st ≠ .busy →
     ∃ W4, (Instr.endLoop (w.heap.size + 1)).run P W2 = .ok pe W4 ∧ Holds (B.at (w.heap.size :: ds)) ⟨F', H1⟩ W4 := by
   intro st pe H1 he hst
   subst he
   have hl := (hw2.own (w.heap.size + 1, loopO fn a.tmps ps assign body w.heap.size st pe) (by simp)).1
   refine ⟨_, run_endLoop hl hst, ?_⟩
   have h4 := hw2.setObj (i := 0) (o' := loopO fn a.tmps ps assign body w.heap.size .exhausted pe) rfl
   have h5 : Holds (B.at ds) ⟨F', (w.heap.size, openO) :: H1⟩ (W2.putObj (w.heap.size + 1) (loopO fn a.tmps ps assign body w.heap.size .exhausted pe)) := Holds.drop (σ := ⟨F', _⟩) h4 (by simp)
   exact h5.toMark hD
 obtain ⟨H1, hR | ⟨c, hR⟩⟩ := hR
 · obtain ⟨he, hJ⟩ := hR
   obtain ⟨W4, h1, h2⟩ := fin _ _ _ he (by simp)
   exact ⟨none, W4, h1, w.heap.size :: ds, e, ⟨F', H1⟩, hfit, h2, hn F' H1 hg'.le hJ⟩
 obtain ⟨he, hJ⟩ := hR
 obtain ⟨W4, h1, h2⟩ := fin _ _ _ he (by simp)
 have := hx c F' H1 hg'.le hJ (w.heap.size :: ds) _ W4 hfit h2
 rw [hro] at this
 exact ⟨some c, W4, h1, this⟩
def RoundEG (B : Base) (L : Nat) (lo : LoopState → Option Code → Obj) (R : Value → Heap → List (Nat × Obj) → Prop) : Exit → Env → St → Prop := fun x _ σ =>
 let fin (v : Value) (st : LoopState) (pe : Option Code) := ∃ F' H2, (∀ ds w, Holds (B.at ds) σ w → Holds (B.at ds) ⟨F', (L, lo .busy none) :: H2⟩ w) ∧ R v F' ((L, lo st pe) :: H2)
 match x with
 | .normal => fin (.bool true) .ready none
 | .ret => fin (.bool false) .done (some .ret)
 | .exit id => fin (.bool false) .done (some (.exit id))
 | _ => False
theorem Hl {L D : Nat} {fn : FuncId} {tm : Array Value} {ps : List Tmp} {assign body : Code} {args : List Value} {F : Heap} {H : List (Nat × Obj)} {R : Value → Heap → List (Nat × Obj) → Prop}
   (hsz : tm.size = n) (htm : ∀ t, tm.getD t undef = e t) (hlen : args.length = ps.length) (hps : (ps.zip args).all (fun p => Nat.blt p.1 n) = true)
   (h : ∀ w0, WC P n ⟨w0, L :: keys H, F, [], some L⟩ assign (thenE (fun e' σ' => ∃ H2, σ'.H = (L, loopO fn tm ps.toArray assign body D .ready none) :: H2 ∧
       WC P n ⟨w0, L :: keys H, F, [], some L⟩ body (RoundEG ⟨w0, L :: keys H, F, [], some L⟩ L (loopO fn tm ps.toArray assign body D) R) e' ⟨σ'.F, (L, loopO fn tm ps.toArray assign body D .busy none) :: H2⟩) (fun _ _ _ => False))
     (updL e (ps.zip args)) ⟨F, (L, loopO fn tm ps.toArray assign body D .ready none) :: H⟩) :
   OkYG P L args F ((L, loopO fn tm ps.toArray assign body D .ready none) :: H) R := by
 intro w hs hH hnd
 have hl := (hH (L, loopO fn tm ps.toArray assign body D .ready none) (by simp)).1
 refine ⟨fn, _, assign, body, run_yield hl (by simpa using hlen), roundIn_of_wpIn trivial ?_⟩
 have hfit := Nj (n := n) (B := ⟨w, L :: keys H, F, [], some L⟩) (ps.zip args) tm e hsz htm hps
 have hkeys : keys ((L, loopO fn tm ps.toArray assign body D .ready none) :: H) = L :: keys H := rfl
 have hw0 : Holds (Base.at ⟨w, L :: keys H, F, [], some L⟩ []) ⟨F, (L, loopO fn tm ps.toArray assign body D .ready none) :: H⟩ w :=
   ⟨rfl, rfl, rfl, Nat.le_refl _, fun _ _ _ => rfl, hs, fun p hp => ⟨(hH p hp).1, (hH p hp).2, .inr (List.mem_map_of_mem (f := Prod.fst) hp)⟩, hnd, fun _ _ => rfl, Heap.le_refl _, (fun D hD => nomatch hD), List.nodup_nil⟩
 have hzip : ((ps.toArray.zip args.toArray).foldl (fun tmps (t, a) => tmps.setIfInBounds t a) tm) = (ps.zip args).foldl (fun tm p => tm.setIfInBounds p.1 p.2) tm := by
   rw [show ps.toArray.zip args.toArray = (ps.zip args).toArray by simp, List.foldl_toArray]
 refine wpIn_mono (h w [] _ w ⟨?_, rfl, ?_⟩ hw0) ?_
 · show ((ps.toArray.zip args.toArray).foldl (fun tmps (t, a) => tmps.setIfInBounds t a) tm).size = n
   rw [hzip]; exact hfit.1
 · intro t
   show ((ps.toArray.zip args.toArray).foldl (fun tmps (t, a) => tmps.setIfInBounds t a) tm).getD t undef = _
   rw [hzip]; exact hfit.2 t
 rintro x a1 w1 ⟨ds1, e1, σ1, hf1, hh1, hq⟩
 cases x with
 | normal =>
   obtain ⟨H2, hσ, hbody⟩ := hq
   have hh1' : Holds (Base.at ⟨w, L :: keys H, F, [], some L⟩ ds1) ⟨σ1.F, (L, loopO fn tm ps.toArray assign body D .ready none) :: H2⟩ w1 := by rw [← hσ]; exact hh1
   have hl1 := (hh1'.own (L, loopO fn tm ps.toArray assign body D .ready none) (by simp)).1
   refine ⟨_, run_beginRound hl1 rfl, ?_⟩
   have hset := hh1'.setObj (i := 0) (o' := loopO fn tm ps.toArray assign body D .busy none) rfl
   refine wpIn_mono (hbody ds1 a1 _ hf1 hset) ?_
   rintro x a2 w2 ⟨ds2, e2, σ2, hf2, hh2, hq2⟩
   have fin : ∀ (v : Value) (st : LoopState) (pe : Option Code), (v = .bool pe.isNone ∧ st = if pe.isNone then .ready else .done) → (∃ F' H2, (∀ ds w', Holds (Base.at ⟨w, L :: keys H, F, [], some L⟩ ds) σ2 w' → Holds (Base.at ⟨w, L :: keys H, F, [], some L⟩ ds) ⟨F', (L, loopO fn tm ps.toArray assign body D .busy none) :: H2⟩ w') ∧ R v F' ((L, loopO fn tm ps.toArray assign body D st pe) :: H2)) →
       ∃ v' w', (Instr.endRound L pe).run P w2 = .ok v' w' ∧ ∃ v F' H', Ending.returned v' = .returned v ∧ Grow w F (L :: keys H) w' F' ∧ HeldG w ((L, loopO fn tm ps.toArray assign body D .ready none) :: H) w' F' H' ∧ R v F' H' := by
     rintro v st pe ⟨rfl, rfl⟩ ⟨F', H3, q1, q3⟩
     have h3 := q1 ds2 w2 hh2
     have hl3 := (h3.own (L, loopO fn tm ps.toArray assign body D .busy none) (by simp)).1
     have h4 := h3.setObj (i := 0) (o' := loopO fn tm ps.toArray assign body D (if pe.isNone then .ready else .done) pe) rfl
     exact ⟨_, _, run_endRound pe hl3, _, F', (L, loopO fn tm ps.toArray assign body D (if pe.isNone then .ready else .done) pe) :: H3, rfl, ⟨h4.os, h4.tape, h4.output, h4.size, h4.old, h4.le, h4.sub, h4.ext⟩, ⟨fun p hp => ⟨(h4.own p hp).1, (h4.own p hp).2.1, (h4.own p hp).2.2.symm⟩, h4.nodup⟩, q3⟩
   cases x with
   | normal => exact fin (.bool true) .ready none ⟨rfl, rfl⟩ hq2
   | ret => exact fin (.bool false) .done (some .ret) ⟨rfl, rfl⟩ hq2
   | exit id => exact fin (.bool false) .done (some (.exit id)) ⟨rfl, rfl⟩ hq2
   | goto l => exact hq2.elim
   | panic ch => exact hq2.elim
   | outgrown => exact hq2.elim
 | exit id => exact hq.elim
 | goto l => exact hq.elim
 | ret => exact hq.elim
 | panic ch => exact hq.elim
 | outgrown => exact hq.elim
def IterG {α : Type} (P : Program) (gf : FuncId) (cs : List Value) (F0 : Heap) (A : α → Heap → List Value → Prop) (xs : List α) : Prop :=
 ∀ (L : Nat) (J : List α → Heap → List (Nat × Obj) → Prop) (Jx : Heap → List (Nat × Obj) → Prop) (F : Heap) (H : List (Nat × Obj)), F0.le F →
   (∀ pre F F' H, F.le F' → J pre F H → J pre F' H) → (∀ F F' H, F.le F' → Jx F H → Jx F' H) →
   (∀ pre x rest F H vs, xs = pre ++ x :: rest → F0.le F → J pre F H → A x F vs → OkYG P L vs F H fun v F' H' => v = .bool true ∧ J (pre ++ [x]) F' H' ∨ v = .bool false ∧ Jx F' H') →
   J [] F H → OkG P gf (.func (.yield L) #[] #[] :: cs).toArray F H fun _ F' H' => J xs F' H' ∨ Jx F' H'
theorem GR {α : Type} {Q : Exit → Env → St → Prop} {g : Operand} {ps : List Tmp} {assign body : Code} {gf : FuncId} {cs : List Value} {F0 : Heap} {A : α → Heap → List Value → Prop} {xs : List α}
   (hro : B.ro = none) (hg : ev e g = .func (.func gf) #[] cs.toArray) (hb : Body P gf) (hit : IterG P gf cs F0 A xs) (hF : F0.le σ.F)
   (J : List α → Heap → List (Nat × Obj) → Prop) (Jx : Code → Heap → List (Nat × Obj) → Prop) (hm : ∀ pre F F' H, F.le F' → J pre F H → J pre F' H) (hmx : ∀ c F F' H, F.le F' → Jx c F H → Jx c F' H)
   (h0 : J [] σ.F σ.H)
   (hround : ∀ L D fn tm pre x rest G H1 vs, xs = pre ++ x :: rest → σ.F.le G → J pre G H1 → A x G vs → vs.length = ps.length ∧ (ps.zip vs).all (fun p => Nat.blt p.1 n) = true ∧
     ∀ w0, WC P n ⟨w0, L :: D :: keys H1, G, [], some L⟩ assign (thenE (fun e' σ' => ∃ H2, σ'.H = (L, loopO fn tm ps.toArray assign body D .ready none) :: H2 ∧
       WC P n ⟨w0, L :: D :: keys H1, G, [], some L⟩ body (RoundEG ⟨w0, L :: D :: keys H1, G, [], some L⟩ L (loopO fn tm ps.toArray assign body D) (RoundR σ.F L D (loopO fn tm ps.toArray assign body D) J Jx (pre ++ [x]))) e' ⟨σ'.F, (L, loopO fn tm ps.toArray assign body D .busy none) :: H2⟩) (fun _ _ _ => False))
     (updL e (ps.zip vs)) ⟨G, (L, loopO fn tm ps.toArray assign body D .ready none) :: (D, openO) :: H1⟩)
   (hx : ∀ c F' H1, σ.F.le F' → Jx c F' H1 → WC P n B c Q e ⟨F', H1⟩)
   (hn : ∀ F' H1, σ.F.le F' → J xs F' H1 → Q .normal e ⟨F', H1⟩) : WC P n B (.rangeFunc g ps.toArray assign body) Q e σ := by
 refine GY hro hg hb (J xs) Jx (fun L D fn tm hsz htm => ?_) hx hn
 refine OkG.mono (hit L (fun pre F H => σ.F.le F ∧ ∃ H1, H = (L, loopO fn tm ps.toArray assign body D .ready none) :: (D, openO) :: H1 ∧ J pre F H1)
   (fun F H => σ.F.le F ∧ ∃ c H1, H = (L, loopO fn tm ps.toArray assign body D .done (some c)) :: (D, openO) :: H1 ∧ Jx c F H1) σ.F _ hF ?_ ?_ ?_ ⟨Heap.le_refl _, _, rfl, h0⟩) ?_
 · rintro pre F F' H hFF ⟨h1, H1, h2, h3⟩
   exact ⟨Heap.le_trans h1 hFF, H1, h2, hm _ _ _ _ hFF h3⟩
 · rintro F F' H hFF ⟨h1, c, H1, h2, h3⟩
   exact ⟨Heap.le_trans h1 hFF, c, H1, h2, hmx _ _ _ _ hFF h3⟩
 · rintro pre x rest G H vs hxs hG ⟨h1, H1, rfl, h3⟩ hA
   obtain ⟨q1, q2, q3⟩ := hround L D fn tm pre x rest G H1 vs hxs h1 h3 hA
   refine (Hl (R := RoundR σ.F L D (loopO fn tm ps.toArray assign body D) J Jx (pre ++ [x])) hsz htm q1 q2 q3).mono fun v F' H' _ hR => ?_
   rcases hR with ⟨rfl, H2, k1, k2, k3⟩ | ⟨rfl, c, H2, k1, k2, k3⟩
   · exact .inl ⟨rfl, k2, H2, k1, k3⟩
   exact .inr ⟨rfl, k2, c, H2, k1, k3⟩
 rintro v F' H' _ (⟨h1, H1, rfl, h3⟩ | ⟨h1, c, H1, rfl, h3⟩)
 · exact ⟨H1, .inl ⟨rfl, h3⟩⟩
 exact ⟨H1, .inr ⟨c, rfl, h3⟩⟩
theorem BS {L D : Nat} {lo : LoopState → Option Code → Obj} {R : Value → Heap → List (Nat × Obj) → Prop} {H2 : List (Nat × Obj)} (hp : PickB σ.H ((L, lo .busy none) :: (D, openO) :: H2)) (hR : R (.bool true) σ.F ((L, lo .ready none) :: (D, openO) :: H2)) : RoundEG B L lo R .normal e σ :=
 ⟨σ.F, _, fun _ _ h => h.pickB hp, hR⟩
theorem Va {L D : Nat} {lo : LoopState → Option Code → Obj} {R : Value → Heap → List (Nat × Obj) → Prop} {H2 : List (Nat × Obj)} (hp : PickB σ.H ((L, lo .busy none) :: (D, openO) :: H2)) (hR : R (.bool false) σ.F ((L, lo .done (some .ret)) :: (D, openO) :: H2)) : RoundEG B L lo R .ret e σ :=
 ⟨σ.F, _, fun _ _ h => h.pickB hp, hR⟩
theorem Pf {L D i : Nat} {lo : LoopState → Option Code → Obj} {R : Value → Heap → List (Nat × Obj) → Prop} {H2 : List (Nat × Obj)} (hp : PickB σ.H ((L, lo .busy none) :: (D, openO) :: H2)) (hR : R (.bool false) σ.F ((L, lo .done (some (.exit i))) :: (D, openO) :: H2)) : RoundEG B L lo R (.exit i) e σ :=
 ⟨σ.F, _, fun _ _ h => h.pickB hp, hR⟩
theorem BP {ops : Array Oper} {Q : Exit → Env → St → Prop} {l : List Oper} {H' : List (Nat × Obj)} (hp : PickB σ.H H') (h : WL P n B ops Q l e ⟨σ.F, H'⟩) : WL P n B ops Q l e σ := WR (fun _ hw => hw.pickB hp) h
theorem Jr {c : Code} {Q : Exit → Env → St → Prop} {i b : Nat} {o : Obj} {Hf : Obj → List (Nat × Obj)} (hi : σ.H[i]? = some (b, o)) (hH : ∀ oL, SetL σ.H i (b, oL) (Hf oL))
   (h : ∀ oL, oL = o → WC P n B c Q e ⟨σ.F, Hf oL⟩) : WC P n B c Q e σ := by
 have h1 := h o rfl
 have h2 : Hf o = σ.H := by
   rw [(hH o).eq.1]
   apply List.ext_getElem?
   intro j
   rw [List.getElem?_set]
   split
   · rename_i hj; subst hj
     split
     · exact hi.symm
     rename_i hn; exact absurd (List.getElem?_eq_some_iff.1 hi).1 hn
   rfl
 rw [h2] at h1
 exact h1
theorem Cell.joined {w : World} (hw : Holds B σ w) {a : Addr} {v : Value} (h : Cell σ a v) : Cell ⟨Go.Proofs.YtkjfmibiinfhfabGreat.joined σ, []⟩ a v := by
 obtain ⟨hs, c, T, fr, hc, hv⟩ := h
 refine ⟨hs, c, T, fr, ?_, hv⟩
 rcases hc with hc | hc
 · exact .inl (Nh hw _ _ hc)
 exact .inl (LA hw hc)
theorem Src.joined {w : World} (hw : Holds B σ w) {v : Value} {k s : Nat} {cs : List Value} (h : Src σ v k cs s) : Src ⟨Go.Proofs.YtkjfmibiinfhfabGreat.joined σ, []⟩ v k cs s := by
 obtain ⟨h1, h2, a, c, h3, h4, h5⟩ := h
 exact ⟨h1, h2, a, c, h3, h4, fun x hx => ⟨(h5 x hx).1, fun j u hj => ((h5 x hx).2 j u hj).joined hw⟩⟩
end
end
section
open Go.RowKit
section
variable {P : Program} {n : Nat} {B : Base} {e : Env} {σ : St} {ty : TypeId} {pos : String} {af : Array Edge}
theorem RM {ops : Array Oper} {Q : Exit → Env → St → Prop} {rest : List Oper} {d : Nat} {f : Operand} {l : Nat} {xs : List Operand} {vs : List Value} {at_ : Array TypeId} {p : Nat × Obj} {Hc : List (Nat × Obj)} {R : Value → Heap → List (Nat × Obj) → Prop}
   (hd : Nat.blt d n = true) (hf : ev e f = .func (.yield l) #[] #[]) (hx : Av e xs vs) (hH : σ.H = p :: Hc) (hok : OkYG P l vs σ.F Hc R)
   (hn : ∀ v F' H', R v F' H' → σ.F.le F' → WI P n B ops Q rest (upd e d v) ⟨F', p :: H'⟩) : WI P n B ops Q (⟨some d, .call ⟨.value f, xs.toArray, at_⟩, ty, pos, af, none⟩ :: rest) e σ := by
 intro a w ha hw0
 have hw : Holds B ⟨σ.F, Hc ++ [p]⟩ w := by
   have h1 : Holds B ⟨σ.F, [p] ++ Hc⟩ w := by
     have : σ = ⟨σ.F, [p] ++ Hc⟩ := by cases σ with | mk F H => simp only at hH; rw [hH]; rfl
     rw [← this]; exact hw0
   exact h1.rot
 have hnd := hw.nodup
 rw [List.map_append, List.nodup_append] at hnd
 obtain ⟨fn, tm, as1, bo, hy, hR⟩ := hok w hw.sub (fun q hq => ⟨(hw.own q (List.mem_append_left _ hq)).1, (hw.own q (List.mem_append_left _ hq)).2.1⟩) hnd.1
 unfold wpListIn
 rw [if_pos (by simp [Region.wanted])]
 refine ⟨fun _ _ => trivial, ?_⟩
 have hrun : (execOp (ev e) ⟨some d, .call ⟨.value f, xs.toArray, at_⟩, ty, pos, af, none⟩).run P w = .ok (.round l fn tm as1 bo) w := by
   have hm := hx.map
   simp [execOp, resolve, invoke, Deferred.ofValue, hf, hm, hy]
 rw [show (fence B.ro).round = B.ro from rfl, semAt_eq (.inr rfl), ha.ev, hrun]
 refine ⟨fun h => by simp [fence] at h, RoundIn.mono (F := fence B.ro) (show RoundIn (fence B.ro) 0 P l fn tm as1 bo w _ from hR) fun r w' hq => ?_⟩
 obtain ⟨v, F', H', rfl, q2, q3, q5⟩ := hq
 have h3 := hw.growG (Hc := Hc) (rest := [p]) rfl q2 q3
 exact hn v F' H' q5 q2.le _ _ (ha.put (by simpa using hd) v) h3.rot
theorem T6 {fn : Func} {R : Value → Heap → List (Nat × Obj) → Prop} {rs : List ResultVar} {vs : List Value} {H' : List (Nat × Obj)} (hr : fn.results = rs.toArray) (hv : Rv P e σ rs vs) (hp : H'.Sublist σ.H) (hR : R (outOf vs) σ.F H') :
   PostG P fn B R .ret e σ := ⟨rs, vs, σ.F, H', hr, hv, fun _ _ h => h.drop hp, hR⟩
theorem MW {fn : Func} {R : Value → Heap → List (Nat × Obj) → Prop} {rs : List ResultVar} {vs : List Value} {H' : List (Nat × Obj)} (hr : fn.results = rs.toArray) (hv : Rv P e σ rs vs) (hp : H'.Sublist σ.H) (hR : R (outOf vs) σ.F H') :
   PostG P fn B R .normal e σ := ⟨rs, vs, σ.F, H', hr, hv, fun _ _ h => h.drop hp, hR⟩
end
end
section
set_option maxRecDepth 100000
open Go.RowKit
theorem RG : Body Tryz.prog 109 := AF (by kernel_rfl)
theorem HR : OneT Tryz.prog 155 := BI (by kernel_rfl)
instance : OneI Tryz.prog 155 := ⟨HR⟩
theorem K3 : OneT Tryz.prog 148 := BI (by kernel_rfl)
instance : OneI Tryz.prog 148 := ⟨K3⟩
theorem DM : OneT Tryz.prog 127 := BI (by kernel_rfl)
instance : OneI Tryz.prog 127 := ⟨DM⟩
theorem Ti {l : List Int} : (treeC l).length = 5 := by simp [treeC]
theorem Th {l : List Int} {i : Nat} {v : Int} (h : i < l.length) : (treeC l).set (0 + i * 1) (.int .i64 v) = treeC (l.set i v) := by
 rw [show 0 + i * 1 = i by omega]
 apply List.ext_getElem
 · simp [treeC]
 intro j h1 h2
 rw [List.getElem_set]
 simp only [treeC, List.getElem_map, List.getElem_range]
 by_cases hij : i = j
 · subst hij; simp [upN, h]
 rw [if_neg hij]; simp [upN, hij]
theorem QG {n : Nat} : treeC (List.replicate n 0) = [.int .i64 0, .int .i64 0, .int .i64 0, .int .i64 0, .int .i64 0] := by
 have h : ∀ i, upN (List.replicate n 0) i = 0 := fun i => by
   unfold upN
   rw [List.getElem?_replicate]
   split <;> rfl
 simp [treeC, List.range_succ, h]
theorem M1 {b' b : List Int} {v : Int} (h : b'.take b.length = b) (hl : b.length < b'.length) : (b'.set b.length v).take (b ++ [v]).length = b ++ [v] := by
 rw [List.length_append, List.length_singleton, List.take_succ_eq_append_getElem (by simpa using hl), List.take_set_of_le (Nat.le_refl _), h]
 simp
theorem Dj {c b : List Int} {v : Int} (h : c.take (b ++ [v]).length = b ++ [v]) : c.take b.length = b := by
 have := congrArg (List.take b.length) h
 rw [List.take_take, List.take_left] at this
 have e : min b.length (b ++ [v]).length = b.length := by simp
 rw [e] at this; exact this
structure FillC (L : Nat) (F : Heap) (b tb d2 d4 d5 : Nat) : Prop where
 me : F d2 = some (bx 127 [.pointer (some ⟨b, 0, none⟩)])
 yield : F d4 = some (bx 155 [.func (.yield L) #[] #[]])
 fill : F d5 = some (bx 148 [.func (.func 109) #[] #[.pointer (some ⟨d2, 0, none⟩), .pointer (some ⟨tb, 0, none⟩), .pointer (some ⟨d4, 0, none⟩), .pointer (some ⟨d5, 0, none⟩)]])
theorem FillC.mono {L : Nat} {F F' : Heap} {b tb d2 d4 d5 : Nat} (h : FillC L F b tb d2 d4 d5) (hF : F.le F') : FillC L F' b tb d2 d4 d5 := ⟨hF _ _ h.me, hF _ _ h.yield, hF _ _ h.fill⟩
abbrev TreeA (l : List Int) (_G : Heap) (vs : List Value) : Prop := vs = [treeV l]
def YieldT (P : Program) (L : Nat) (F0 : Heap) (xs : List (List Int)) (J : List (List Int) → Heap → List (Nat × Obj) → Prop) (Jx : Heap → List (Nat × Obj) → Prop) : Prop :=
 ∀ pre x rest F H vs, xs = pre ++ x :: rest → F0.le F → J pre F H → TreeA x F vs → OkYG P L vs F H fun v F' H' => v = .bool true ∧ J (pre ++ [x]) F' H' ∨ v = .bool false ∧ Jx F' H'
def FillOk (s : Stm) (ps : List (Value × Edn)) (L : Nat) (F0 : Heap) (xs : List (List Int)) (J : List (List Int) → Heap → List (Nat × Obj) → Prop) (Jx : Heap → List (Nat × Obj) → Prop) (vp ve vm : Value) (b tb d2 d4 d5 d : Nat) : Prop :=
 ∀ {F : Heap} {RH : List (Nat × Obj)} {b1 b' : List Int} {zi zf : Int} {pre rest : List (List Int)}, F0.le F → StmX F b vp ve vm ps s → FillC L F b tb d2 d4 d5 → zi = (b1.length : Int) → zf = firstsN b1 b1.length → b1.length + d = s.editions.length → b'.length = s.editions.length → b'.take b1.length = b1 →
   (∀ i, i < b1.length → -1 ≤ upN b1 i ∧ upN b1 i < s.editions.length) → xs = pre ++ fillT s d b1 ++ rest → J pre F RH →
   OkG Tryz.prog 109 [.int .i64 zi, .int .i64 zf, .pointer (some ⟨d2, 0, none⟩), .pointer (some ⟨tb, 0, none⟩), .pointer (some ⟨d4, 0, none⟩), .pointer (some ⟨d5, 0, none⟩)].toArray F ((tb, bx 128 (treeC b')) :: RH) fun v F' H' => ∃ b9 RH', H' = (tb, bx 128 (treeC b9)) :: RH' ∧ b9.length = s.editions.length ∧ b9.take b1.length = b1 ∧ (v = .bool true ∧ J (pre ++ fillT s d b1) F' RH' ∨ v = .bool false ∧ Jx F' RH')
theorem VE {s : Stm} (hv : ValidT s) {ps : List (Value × Edn)} {L : Nat} {F0 : Heap} {xs : List (List Int)} {J : List (List Int) → Heap → List (Nat × Obj) → Prop} {Jx : Heap → List (Nat × Obj) → Prop} {vp ve vm : Value} {b tb d2 d4 d5 : Nat}
   (_hm : ∀ pre F F' H, F.le F' → J pre F H → J pre F' H) (_hmx : ∀ F F' H, F.le F' → Jx F H → Jx F' H) (hy : YieldT Tryz.prog L F0 xs J Jx) : FillOk s ps L F0 xs J Jx vp ve vm b tb d2 d4 d5 0 := by
 intro F RH b1 b' zi zf pre rest hF hX hC hzi hzf hlen hl' htk hin hxs hJ
 refine OkG.intro Tryz.func109 rfl Tryz.ntmps109 rfl fun w0 => ?_
 have hne := hv.ne
 have hlen2 := hX.r.len
 have hL1 := hX.r.eds.plain.lt
 obtain rfl : b' = b1 := by rw [← htk]; exact (List.take_of_length_le (by omega)).symm
 have hbl : b'.length = s.editions.length := hl'
 have hin2 : TreeIn b' := fun i hi => by have := hin i hi; omega
 refine AI (Ae 1) <| Mx <| Ac <| Aw (Ae 1) fun ds => Af rfl (Ah DM Aa (AM hC.me rfl)) <| Af rfl (AH Aa) <| Ao (Ae 2) <| Af rfl (Ah B4 Aa (AM hX.blk rfl)) <| Af rfl (A6 Bl Aa hX.r.eds.plain) <| As (Ae 1) <| Ag Aa (dT (by omega)) ?_
 by_cases hf1 : firstsN b' b'.length = 1
 ·refine Ac <| DK fun ds => BK rfl rfl (A9 Aa) <| BK rfl rfl (Vf Aa Aa) <| BK rfl rfl (A9 Aa) <| C1 rfl rfl Aa (dF (fun h => h (by omega))) <| BK rfl rfl (Ah DM Aa (AM hC.me rfl)) <| C1 rfl rfl Aa (dF (fun h => h (by omega))) <| BK rfl rfl (AO B8 Aa rfl rfl (Bg 0 rfl)) <| C1 rfl rfl Aa (dF (fun h => h (by omega))) <| WI_c rfl rfl (Ay Wl Aa AY (KK hX hin2 hbl hv) (fun _ _ h => h)) <| C1 rfl rfl Aa (dF (fun h => h (by omega))) <| BK rfl rfl (MU Aa) <| BK rfl rfl (A5 Aa (dF (fun h => h (by omega))) Aa) <| BK rfl rfl (A9 Aa) ?_
  by_cases hT : isT b' = true
  ·have htr := Eu hin2 hT
   refine C1 rfl rfl Aa (by rw [hT]; rfl) <| BK rfl rfl (Ah DM Aa (AM hC.me rfl)) <| C1 rfl rfl Aa (by rw [hT]; rfl) <| BK rfl rfl (AO B8 Aa rfl rfl (Bg 0 rfl)) <| C1 rfl rfl Aa (by rw [hT]; rfl) <| WI_c rfl rfl (Ay Qy Aa AY (HY hX htr hbl hv) (fun _ _ h => h)) <| C1 rfl rfl Aa (by rw [hT]; rfl) <| BK rfl rfl (MU Aa) <| BK rfl rfl (A5 Aa (by rw [hT]; rfl) Aa) <| BK rfl rfl (A9 Aa) ?_
   by_cases hft : fitsT s b' = true
   ·have h0 : fillT s 0 b' = [b'] := by unfold fillT; rw [if_pos ⟨hf1, hT, hft⟩]
    refine C1 rfl rfl Aa (by unfold fitsT at hft; rw [hft]; first | done | rfl) <| BK rfl rfl (Ah HR Aa (AM hC.yield rfl)) <| C1 rfl rfl Aa (by unfold fitsT at hft; rw [hft]; first | done | rfl) <| BK rfl rfl (AO B8 Aa rfl rfl (Bg 0 rfl)) <| C1 rfl rfl Aa (by unfold fitsT at hft; rw [hft]; first | done | rfl) <| RM rfl Aa AY rfl (hy pre b' rest _ _ _ (by rw [hxs, h0]; simp) hF hJ rfl) fun v5 F6 RH9 hr7 hF8 => ?_
    have hyb := hr7
    refine BK rfl rfl (A5 Aa (by unfold fitsT at hft; rw [hft]; first | done | rfl) Aa) <| BK rfl rfl (Bz Aa) <| G9 <| Ab <| At <| A1 <| EF <| C6 rfl Bf .all ?_
    rw [h0]
    exact ⟨_, _, rfl, hl', htk, hyb⟩
   replace hft : fitsT s b' = false := by simpa using hft
   refine BM rfl rfl Aa (.inl (congrArg Value.bool (by unfold fitsT at hft; rw [hft]; first | done | rfl))) rfl <| BM rfl rfl Aa (.inl (congrArg Value.bool (by unfold fitsT at hft; rw [hft]; first | done | rfl))) rfl <| BM rfl rfl Aa (.inl (congrArg Value.bool (by unfold fitsT at hft; rw [hft]; first | done | rfl))) rfl <| BK rfl rfl (Au Aa (by unfold fitsT at hft; rw [hft]; first | done | rfl) Aa) <| BK rfl rfl (Bz Aa) <| G9 <| Ab <| At <| A1 <| EF <| C6 rfl Bf .all ?_
   have h0 : fillT s 0 b' = [] := by unfold fillT; rw [if_neg (fun h => by rw [hft] at h; exact absurd h.2.2 (by decide))]
   rw [h0, List.append_nil]
   exact ⟨_, _, rfl, hl', htk, .inl ⟨rfl, hJ⟩⟩
  replace hT : isT b' = false := by simpa using hT
  refine BM rfl rfl Aa (.inl (congrArg Value.bool (by rw [hT]; first | done | rfl))) rfl <| BM rfl rfl Aa (.inl (congrArg Value.bool (by rw [hT]; first | done | rfl))) rfl <| BM rfl rfl Aa (.inl (congrArg Value.bool (by rw [hT]; first | done | rfl))) rfl <| BM rfl rfl Aa (.inl (congrArg Value.bool (by rw [hT]; first | done | rfl))) rfl <| BK rfl rfl (Au Aa (by rw [hT]; first | done | rfl) Aa) <| BK rfl rfl (A9 Aa) <| BM rfl rfl Aa (.inl (congrArg Value.bool rfl)) rfl <| BM rfl rfl Aa (.inl (congrArg Value.bool rfl)) rfl <| BM rfl rfl Aa (.inl (congrArg Value.bool rfl)) rfl <| BK rfl rfl (Au Aa rfl BF) <| BK rfl rfl (Bz Aa) <| G9 <| Ab <| At <| A1 <| EF <| C6 rfl Bf .all ?_
  have h0 : fillT s 0 b' = [] := by unfold fillT; rw [if_neg (fun h => by rw [hT] at h; exact absurd h.2.1 (by decide))]
  rw [h0, List.append_nil]
  exact ⟨_, _, rfl, hl', htk, .inl ⟨rfl, hJ⟩⟩
 refine Ac <| DK fun ds => BK rfl rfl (A9 Aa) <| BK rfl rfl (Vf Aa Aa) <| BK rfl rfl (A9 Aa) <| BM rfl rfl Aa (.inl (congrArg Value.bool (dT (by omega)))) rfl <| BM rfl rfl Aa (.inl (congrArg Value.bool (dT (by omega)))) rfl <| BM rfl rfl Aa (.inl (congrArg Value.bool (dT (by omega)))) rfl <| BM rfl rfl Aa (.inl (congrArg Value.bool (dT (by omega)))) rfl <| BK rfl rfl (Au Aa (dT (by omega)) Aa) <| BK rfl rfl (A9 Aa) <| BM rfl rfl Aa (.inl (congrArg Value.bool rfl)) rfl <| BM rfl rfl Aa (.inl (congrArg Value.bool rfl)) rfl <| BM rfl rfl Aa (.inl (congrArg Value.bool rfl)) rfl <| BM rfl rfl Aa (.inl (congrArg Value.bool rfl)) rfl <| BK rfl rfl (Au Aa rfl BF) <| BK rfl rfl (A9 Aa) <| BM rfl rfl Aa (.inl (congrArg Value.bool rfl)) rfl <| BM rfl rfl Aa (.inl (congrArg Value.bool rfl)) rfl <| BM rfl rfl Aa (.inl (congrArg Value.bool rfl)) rfl <| BK rfl rfl (Au Aa rfl BF) <| BK rfl rfl (Bz Aa) <| G9 <| Ab <| At <| A1 <| EF <| C6 rfl Bf .all ?_
 have h0 : fillT s 0 b' = [] := by unfold fillT; rw [if_neg (fun h => hf1 h.1)]
 rw [h0, List.append_nil]
 exact ⟨_, _, rfl, hl', htk, .inl ⟨rfl, hJ⟩⟩
theorem Kj {b : List Int} {v : Int} : firstsN (b ++ [v]) (b ++ [v]).length = if v = -1 then firstsN b b.length + 1 else firstsN b b.length := by
 rw [List.length_append, List.length_singleton]
 show (if upN (b ++ [v]) b.length = -1 then firstsN (b ++ [v]) b.length + 1 else firstsN (b ++ [v]) b.length) = _
 have h := H5 (b := b) (t := []) (v := v)
 rw [List.append_nil] at h
 rw [h, ER (Nat.le_refl _)]
theorem S0 {b : List Int} {v : Int} {n : Nat} (h : ∀ i, i < b.length → -1 ≤ upN b i ∧ upN b i < n) (hv : -1 ≤ v ∧ v < n) : ∀ i, i < (b ++ [v]).length → -1 ≤ upN (b ++ [v]) i ∧ upN (b ++ [v]) i < n := fun i hi => by
 by_cases h1 : i < b.length
 · rw [H6 h1]; exact h i h1
 obtain rfl : i = b.length := by simp at hi; omega
 have h9 := H5 (b := b) (t := []) (v := v)
 rw [List.append_nil] at h9
 rw [h9]; exact hv
theorem TZ {s : Stm} (hv : ValidT s) {ps : List (Value × Edn)} {L : Nat} {F0 : Heap} {xs : List (List Int)} {J : List (List Int) → Heap → List (Nat × Obj) → Prop} {Jx : Heap → List (Nat × Obj) → Prop} {vp ve vm : Value} {b tb d2 d4 d5 : Nat}
   (hm : ∀ pre F F' H, F.le F' → J pre F H → J pre F' H) (_hmx : ∀ F F' H, F.le F' → Jx F H → Jx F' H) (_hy : YieldT Tryz.prog L F0 xs J Jx) {d : Nat} (ih : FillOk s ps L F0 xs J Jx vp ve vm b tb d2 d4 d5 d) : FillOk s ps L F0 xs J Jx vp ve vm b tb d2 d4 d5 (d + 1) := by
 intro F RH b1 b' zi zf pre rest hF hX hC hzi hzf hlen hl' htk hin hxs hJ
 refine OkG.intro Tryz.func109 rfl Tryz.ntmps109 rfl fun w0 => ?_
 have hne := hv.ne
 have hlen2 := hX.r.len
 have hL1 := hX.r.eds.plain.lt
 have hfb := Em (l := b1) b1.length
 refine AI (Ae 1) <| Mx <| Ac <| Aw (Ae 1) fun ds => Af rfl (Ah DM Aa (AM hC.me rfl)) <| Af rfl (AH Aa) <| Ao (Ae 2) <| Af rfl (Ah B4 Aa (AM hX.blk rfl)) <| Af rfl (A6 Bl Aa hX.r.eds.plain) <| As (Ae 1) <| Ad Aa (dF (by omega)) <| Aj <| Ab <| Ac <| Q4 <| Ab <| Ac <| Ac <| Al fun ds => Af rfl (Ah DM Aa (AM hC.me rfl)) <| Af rfl (AH Aa) <| Ao (Ae 2) <| Af rfl (Ah B4 Aa (AM hX.blk rfl)) <| Af rfl (A6 Bl Aa hX.r.eds.plain) <| Af rfl (AE Aa Aa rfl (by omega) (by omega)) <| As (Ae 1) <| Ak ?_
 refine AJ [8, 9, 10, 45, 46, 47, 48, 49, 50, 51, 52, 53, 54, 55, 56, 57, 58, 59, 60, 61, 62, 63, 64, 65, 66, 67, 68, 69, 70, 71, 72, 73, 74, 75, 76, 77, 78, 79, 80, 81, 82, 83, 84, 85, 86, 87, 88, 89, 90, 91, 92, 93, 94, 95, 96, 97, 98, 99, 100, 101, 102, 103, 104, 105, 106, 107, 108, 109, 110, 111] (fun m e σ => ∃ G RH' b', F0.le G ∧ F.le G ∧ ∃ j : Nat, m + j = s.editions.length + 1 ∧ Fct e 45 (.int .i64 (j : Int)) ∧ b'.length = s.editions.length ∧ b'.take b1.length = b1 ∧ J (pre ++ fillTo s d b1 j) G RH' ∧ σ = ⟨G, (tb, bx 128 (treeC b')) :: RH'⟩) (s.editions.length + 1) ?_ ?_
 · exact ⟨_, _, _, hF, Heap.le_refl _, 0, by omega, Bb, hl', htk, by simpa [fillTo] using hJ, rfl⟩
 rintro m e _ ⟨G, RH', b', hG, hFG, j, hm1, hs45, hl', htk, hJ, rfl⟩; replace hX := hX.mono hFG; replace hC := hC.mono hFG
 by_cases hlt : j < s.editions.length + 1
 ·refine AI (Ae 1) <| Ac <| Ag Aa (by first | rfl | exact dT (by omega)) ?_
  have hi5 : b1.length < 5 := by omega
  have hj2 : -1 ≤ (j : Int) - 1 ∧ (j : Int) - 1 < s.editions.length := by omega
  refine Aj <| Ab <| Ac <| Ak <| AI (Ae 2) <| Aw (Ae 2) fun ds => Af rfl (BZ Aa Aa rfl (by omega) (by omega)) <| Af rfl (AR (k := b1.length) BL Aa Aa hzi hi5) <| AV <| Ct Cc Aa rfl Aa (i := 0) rfl (by rw [Ti]; omega) rfl (.here) <| Am <| Ab <| Ac <| Ak <| Ac ?_
  rw [Th (by omega)]
  have hcell : (treeC (b'.set b1.length ((j : Int) - 1)))[0 + b1.length * 1]? = some (.int .i64 ((j : Int) - 1)) := by rw [B5 hi5]; simp [upN, show b1.length < b'.length by omega]
  have hb2l : (b'.set b1.length ((j : Int) - 1)).length = s.editions.length := by simp [hl']
  have hb2t := M1 (v := (j : Int) - 1) htk (by omega)
  clear hl' htk
  generalize b'.set b1.length ((j : Int) - 1) = b2 at *
  by_cases hvi : (j : Int) - 1 = (b1.length : Int)
  ·refine Al fun ds => Ao (Ae 1) <| Af rfl (AR (k := b1.length) BL Aa Aa hzi hi5) <| Af rfl (Ah AA Aa (Cell.own 0 rfl hcell)) <| Ao (Ae 3) <| Ar rfl rfl Aa (.inl (congrArg Value.bool (dT (by omega)))) rfl <| Ar rfl rfl Aa (.inl (congrArg Value.bool (dT (by omega)))) rfl <| Ar rfl rfl Aa (.inl (congrArg Value.bool (dT (by omega)))) rfl <| Ar rfl rfl Aa (.inl (congrArg Value.bool (dT (by omega)))) rfl <| Ar rfl rfl Aa (.inl (congrArg Value.bool (dT (by omega)))) rfl <| Ar rfl rfl Aa (.inr rfl) rfl <| Ar rfl rfl Aa (.inr rfl) rfl <| Ar rfl rfl Aa (.inl (congrArg Value.bool (dT (by omega)))) rfl <| Af rfl (Au Aa (dT (by omega)) Aa) <| As (Ae 1) <| Ag Aa rfl <| AC ?_
   refine Dv rfl (A0 (A4 ?_))
   refine Ab <| Al fun ds => Af rfl (AE Aa Aa rfl (by omega) (by omega)) <| Ao (Ae 1) <| Am ?_
   refine Ab ⟨_, m - 1, Off.eq (B3 rfl <| BT rfl <| BY rfl <| A2), by omega, ?_⟩
   refine ⟨_, _, _, hG, hFG, j + 1, by omega, Bb, hb2l, Dj hb2t, ?_, rfl⟩
   rw [Du, if_pos (show skipT s b1 ((j : Int) - 1) = true by unfold skipT; rw [dT hvi]; rfl), List.append_nil]; exact hJ
  refine Al fun ds => Ao (Ae 1) <| Af rfl (AR (k := b1.length) BL Aa Aa hzi hi5) <| Af rfl (Ah AA Aa (Cell.own 0 rfl hcell)) <| Ao (Ae 3) <| Ap rfl rfl Aa (dF (by omega)) <| Ao (Ae 1) <| Ap rfl rfl Aa (dF (by omega)) <| Af rfl (AR (k := b1.length) BL Aa Aa hzi hi5) <| Ap rfl rfl Aa (dF (by omega)) <| Af rfl (Ah AA Aa (Cell.own 0 rfl hcell)) <| Ap rfl rfl Aa (dF (by omega)) <| Ao (Ae 1) <| Ap rfl rfl Aa (dF (by omega)) <| Ao (Ae 1) ?_
  by_cases hv1 : (j : Int) - 1 = -1
  ·refine Ap rfl rfl Aa (dT hv1) <| Ao (Ae 1) <| Ap rfl rfl Aa (dT hv1) <| Ao (Ae 1) <| Ap rfl rfl Aa (dF (by omega)) <| Af rfl (Au Aa (dT hv1) Aa) <| Af rfl (A5 Aa (dF (by omega)) Aa) <| As (Ae 1) ?_
   by_cases hf1 : firstsN b1 b1.length = 1
   ·refine Ag Aa (dT (by omega)) <| AC ?_
    refine Dv rfl (A0 (A4 ?_))
    refine Ab <| Al fun ds => Af rfl (AE Aa Aa rfl (by omega) (by omega)) <| Ao (Ae 1) <| Am ?_
    refine Ab ⟨_, m - 1, Off.eq (B3 rfl <| BT rfl <| BY rfl <| A2), by omega, ?_⟩
    refine ⟨_, _, _, hG, hFG, j + 1, by omega, Bb, hb2l, Dj hb2t, ?_, rfl⟩
    rw [Du, if_pos (show skipT s b1 ((j : Int) - 1) = true by unfold skipT; rw [dT hv1, dT hf1]; simp), List.append_nil]; exact hJ
   refine Ad Aa (dF (by omega)) <| Ac <| Bx (.inl rfl) (fun _ _ h => h) (by kernel_rfl) (by kernel_rfl) fun ds => Ba (Ae 1) <| AX rfl (AR (k := b1.length) BL Aa Aa hzi hi5) <| AX rfl (Ah AA Aa (Cell.own 0 rfl hcell)) <| Ba (Ae 2) <| AG rfl rfl Aa (.inl (congrArg Value.bool (dF (fun h => h hv1)))) rfl <| AG rfl rfl Aa (.inl (congrArg Value.bool (dF (fun h => h hv1)))) rfl <| AG rfl rfl Aa (.inl (congrArg Value.bool (dF (fun h => h hv1)))) rfl <| AG rfl rfl Aa (.inl (congrArg Value.bool (dF (fun h => h hv1)))) rfl <| AG rfl rfl Aa (.inl (congrArg Value.bool (dF (fun h => h hv1)))) rfl <| AG rfl rfl Aa (.inl (congrArg Value.bool (dF (fun h => h hv1)))) rfl <| AG rfl rfl Aa (.inl (congrArg Value.bool (dF (fun h => h hv1)))) rfl <| AG rfl rfl Aa (.inl (congrArg Value.bool (dF (fun h => h hv1)))) rfl <| AG rfl rfl Aa (.inl (congrArg Value.bool (dF (fun h => h hv1)))) rfl <| AG rfl rfl Aa (.inl (congrArg Value.bool (dF (fun h => h hv1)))) rfl <| AG rfl rfl Aa (.inl (congrArg Value.bool (dF (fun h => h hv1)))) rfl <| AG rfl rfl Aa (.inl (congrArg Value.bool (dF (fun h => h hv1)))) rfl <| AG rfl rfl Aa (.inl (congrArg Value.bool (dF (fun h => h hv1)))) rfl <| AG rfl rfl Aa (.inl (congrArg Value.bool (dF (fun h => h hv1)))) rfl ?_
   refine AG rfl rfl Aa (.inl (congrArg Value.bool (dF (fun h => h hv1)))) rfl <| AG rfl rfl Aa (.inl (congrArg Value.bool (dF (fun h => h hv1)))) rfl <| AG rfl rfl Aa (.inl (congrArg Value.bool (dF (fun h => h hv1)))) rfl <| AG rfl rfl Aa (.inl (congrArg Value.bool (dF (fun h => h hv1)))) rfl <| AG rfl rfl Aa (.inl (congrArg Value.bool (dF (fun h => h hv1)))) rfl <| AG rfl rfl Aa (.inl (congrArg Value.bool (dF (fun h => h hv1)))) rfl <| AG rfl rfl Aa (.inl (congrArg Value.bool (dF (fun h => h hv1)))) rfl <| AG rfl rfl Aa (.inl (congrArg Value.bool (dF (fun h => h hv1)))) rfl <| AG rfl rfl Aa (.inl (congrArg Value.bool (dF (fun h => h hv1)))) rfl <| AX rfl (A5 Aa (dF (fun h => h hv1)) Aa) <| Ba (Ae 1) <| B9 <| Ab <| Ad Aa rfl ?_
   have hsk : skipT s b1 ((j : Int) - 1) = false := by unfold skipT; rw [dF hvi, dF hf1, dF (fun h : (j : Int) - 1 ≠ -1 => h hv1)]; simp
   have hfs : zf + 1 = firstsN (b1 ++ [(j : Int) - 1]) (b1 ++ [(j : Int) - 1]).length := by rw [hzf]; exact (Kj.trans (if_pos hv1)).symm
   obtain ⟨rest1, hsp⟩ := Jb (s := s) (d := d) (b := b1) (j := j) hlt
   rw [if_neg (by rw [hsk]; simp)] at hsp
   refine Aj <| Az <| Ab <| AI (Ae 2) <| Ac <| Aw (Ae 1) fun ds => Af rfl (AR (k := b1.length) BL Aa Aa hzi hi5) <| Af rfl (Ah AA Aa (Cell.own 0 rfl hcell)) <| As (Ae 1) <| Ag Aa (dT hv1) <| Al fun ds => Ao (Ae 1) <| Af rfl (AE Aa Aa rfl (by omega) (by omega)) <| As (Ae 1) <| Ac <| Al fun ds => Af rfl (Ah K3 Aa (AM hC.fill rfl)) <| Ao (Ae 1) <| Af rfl (AE Aa Aa rfl (by omega) (by omega)) <| Ao (Ae 1) <| A3 rfl <| Hz RG Aa AY rfl (ih (pre := pre ++ fillTo s d b1 j) (rest := rest1 ++ rest) hG hX hC (by simp [hzi]) hfs (by simp; omega) hb2l hb2t (S0 hin hj2) (by rw [hxs, hsp]; simp) hJ) fun v6 F7 H10 hr8 hF9 => ?_
   replace hG := Heap.le_trans hG hF9
   replace hFG := Heap.le_trans hFG hF9
   replace hJ := hm _ _ _ _ hF9 hJ
   obtain ⟨b9, RH9, rfl, hb9, ht9, hyb0⟩ := hr8
   obtain ⟨yb, rfl, hyb⟩ := GZ hyb0
   refine As (Ae 1) ?_
   rcases hyb with ⟨rfl, hJ2⟩ | ⟨rfl, hJx⟩
   ·refine Ad Aa rfl <| Aj <| Az <| Ab <| Al fun ds => Af rfl (AE Aa Aa rfl (by omega) (by omega)) <| Ao (Ae 1) <| Am ?_
    refine Ab ⟨_, m - 1, Off.eq (Cv rfl <| Cv rfl <| Ci rfl <| Cw rfl <| A2), by omega, ?_⟩
    refine ⟨_, _, _, hG, hFG, j + 1, by omega, Bb, hb9, Dj ht9, ?_, rfl⟩
    rw [Du, if_neg (by rw [hsk]; simp), ← List.append_assoc]; exact hJ2
   refine Ag Aa rfl <| AI (Ae 1) <| At ?_
   refine A8 (A1 (A1 (A8 (A1 (EF ?_)))))
   refine C6 rfl Bf .all ?_
   exact ⟨_, _, rfl, hb9, Dj ht9, .inr ⟨rfl, hJx⟩⟩
  obtain ⟨k, hk⟩ := Int.eq_ofNat_of_zero_le (show 0 ≤ (j : Int) - 1 by omega)
  have hkp : k < ps.length := by omega
  have hip : b1.length < ps.length := by omega
  have e1 := hX.r.at hkp
  have e2 := hX.r.at hip
  refine Ar rfl rfl Aa (.inl (congrArg Value.bool (dF hv1))) rfl <| Ar rfl rfl Aa (.inl (congrArg Value.bool (dF hv1))) rfl <| Ap rfl rfl Aa (dF (by omega)) <| Af rfl (A5 Aa (dF hv1) Aa) <| Af rfl (A5 Aa (dF (by omega)) Aa) <| As (Ae 1) <| Ad Aa rfl <| Ac <| Bx (.inl rfl) (fun _ _ h => h) (by kernel_rfl) (by kernel_rfl) fun ds => Ba (Ae 1) <| AX rfl (AR (k := b1.length) BL Aa Aa hzi hi5) <| AX rfl (Ah AA Aa (Cell.own 0 rfl hcell)) <| Ba (Ae 2) <| AK rfl rfl Aa (dT hv1) <| AX rfl (Ah DM Aa (AM hC.me rfl)) <| AK rfl rfl Aa (dT hv1) <| AX rfl (AH Aa) <| AK rfl rfl Aa (dT hv1) <| Ba (Ae 1) <| AK rfl rfl Aa (dT hv1) <| Ba (Ae 1) <| AK rfl rfl Aa (dT hv1) <| AX rfl (Ah B4 Aa (AM hX.blk rfl)) <| AK rfl rfl Aa (dT hv1) <| Ba (Ae 1) <| AK rfl rfl Aa (dT hv1) <| AX rfl (AR (k := b1.length) BL Aa Aa hzi hi5) <| AK rfl rfl Aa (dT hv1) <| AX rfl (Ah AA Aa (Cell.own 0 rfl hcell)) <| AK rfl rfl Aa (dT hv1) <| AX rfl (Ax (k := k) Bl Aa hX.r.eds.plain Aa hk hkp) <| AK rfl rfl Aa (dT hv1) <| Ba (Ae 1) <| AK rfl rfl Aa (dT hv1) <| Ba (Ae 1) <| AK rfl rfl Aa (dT hv1) ?_
  refine AX rfl (Ah AA Aa (hX.r.eds.cell hkp rfl)) <| AK rfl rfl Aa (dT hv1) <| AX rfl (Ah DM Aa (AM hC.me rfl)) <| AK rfl rfl Aa (dT hv1) <| AX rfl (AH Aa) <| AK rfl rfl Aa (dT hv1) <| Ba (Ae 1) <| AK rfl rfl Aa (dT hv1) <| Ba (Ae 1) <| AK rfl rfl Aa (dT hv1) <| AX rfl (Ah B4 Aa (AM hX.blk rfl)) <| AK rfl rfl Aa (dT hv1) <| Ba (Ae 1) <| AK rfl rfl Aa (dT hv1) <| AX rfl (Ax (k := b1.length) Bl Aa hX.r.eds.plain Aa hzi hip) <| AK rfl rfl Aa (dT hv1) <| Ba (Ae 1) <| AK rfl rfl Aa (dT hv1) <| Ba (Ae 1) <| AK rfl rfl Aa (dT hv1) <| AX rfl (Ah AA Aa (hX.r.eds.cell (j := 1 + 1) hip rfl)) <| AK rfl rfl Aa (dT hv1) <| Ba (Ae 1) <| AX rfl (Au Aa (dT hv1) Aa) <| Ba (Ae 1) <| B9 <| Ab ?_
  by_cases hyr : (s.ed b1.length).hi ≤ (s.ed k).lo
  ·refine Ag Aa (by rw [e1, e2]; exact dT hyr) <| AC ?_
   refine Dv rfl (A0 (A4 ?_))
   refine Ab <| Al fun ds => Af rfl (AE Aa Aa rfl (by omega) (by omega)) <| Ao (Ae 1) <| Am ?_
   refine Ab ⟨_, m - 1, Off.eq (Cv rfl <| B3 rfl <| Ci rfl <| Cw rfl <| BY rfl <| A2), by omega, ?_⟩
   refine ⟨_, _, _, hG, hFG, j + 1, by omega, Bb, hb2l, Dj hb2t, ?_, rfl⟩
   rw [Du, if_pos (show skipT s b1 ((j : Int) - 1) = true by unfold skipT; rw [hk, Int.toNat_natCast, dT hyr, dT (show (k : Int) ≠ -1 by omega)]; simp), List.append_nil]; exact hJ
  refine Ad Aa (by rw [e1, e2]; exact dF hyr) ?_
  have hsk : skipT s b1 ((j : Int) - 1) = false := by unfold skipT; rw [dF hvi, dF hv1]; rw [hk, Int.toNat_natCast, dF hyr]; simp
  have hfs : zf = firstsN (b1 ++ [(j : Int) - 1]) (b1 ++ [(j : Int) - 1]).length := by rw [hzf]; exact (Kj.trans (if_neg hv1)).symm
  obtain ⟨rest1, hsp⟩ := Jb (s := s) (d := d) (b := b1) (j := j) hlt
  rw [if_neg (by rw [hsk]; simp)] at hsp
  refine Aj <| Az <| Ab <| AI (Ae 2) <| Ac <| Aw (Ae 1) fun ds => Af rfl (AR (k := b1.length) BL Aa Aa hzi hi5) <| Af rfl (Ah AA Aa (Cell.own 0 rfl hcell)) <| As (Ae 1) <| Ad Aa (dF hv1) <| Aj <| Ab <| Ac <| Al fun ds => Af rfl (Ah K3 Aa (AM hC.fill rfl)) <| Ao (Ae 1) <| Af rfl (AE Aa Aa rfl (by omega) (by omega)) <| Ao (Ae 1) <| A3 rfl <| Hz RG Aa AY rfl (ih (pre := pre ++ fillTo s d b1 j) (rest := rest1 ++ rest) hG hX hC (by simp [hzi]) hfs (by simp; omega) hb2l hb2t (S0 hin hj2) (by rw [hxs, hsp]; simp) hJ) fun v16 F17 H20 hr18 hF19 => ?_
  replace hG := Heap.le_trans hG hF19
  replace hFG := Heap.le_trans hFG hF19
  replace hJ := hm _ _ _ _ hF19 hJ
  obtain ⟨b9, RH9, rfl, hb9, ht9, hyb0⟩ := hr18
  obtain ⟨yb, rfl, hyb⟩ := GZ hyb0
  refine As (Ae 1) ?_
  rcases hyb with ⟨rfl, hJ2⟩ | ⟨rfl, hJx⟩
  ·refine Ad Aa rfl <| Aj <| Az <| Ab <| Al fun ds => Af rfl (AE Aa Aa rfl (by omega) (by omega)) <| Ao (Ae 1) <| Am ?_
   refine Ab ⟨_, m - 1, Off.eq (Cv rfl <| Cv rfl <| Cw rfl <| BY rfl <| A2), by omega, ?_⟩
   refine ⟨_, _, _, hG, hFG, j + 1, by omega, Bb, hb9, Dj ht9, ?_, rfl⟩
   rw [Du, if_neg (by rw [hsk]; simp), ← List.append_assoc]; exact hJ2
  refine Ag Aa rfl <| AI (Ae 1) <| At ?_
  refine A8 (A1 (A1 (A8 (A1 (EF ?_)))))
  refine C6 rfl Bf .all ?_
  exact ⟨_, _, rfl, hb9, Dj ht9, .inr ⟨rfl, hJx⟩⟩
 refine AI (Ae 1) <| Ac <| Ad Aa (by first | rfl | exact dF (by omega)) ?_
 obtain rfl : j = s.editions.length + 1 := by omega
 rw [LJ] at hJ
 refine AC ?_
 refine A0 <| A0 <| A4 <| Ab <| AI (Ae 1) <| At <| EF <| C6 rfl Bf .all ?_
 exact ⟨_, _, rfl, hl', htk, .inl ⟨rfl, hJ⟩⟩
end
section
set_option maxRecDepth 100000
open Go.RowKit
theorem zr_148 : ZeroT Tryz.prog 148 (.nilFunc) := Bv (by kernel_rfl)
theorem sz_148 : SizeT Tryz.prog 148 1 := Bq (by kernel_rfl)
theorem S5 {s : Stm} (hv : ValidT s) {ps : List (Value × Edn)} {L : Nat} {F0 : Heap} {xs : List (List Int)} {J : List (List Int) → Heap → List (Nat × Obj) → Prop} {Jx : Heap → List (Nat × Obj) → Prop} {vp ve vm : Value} {b tb d2 d4 d5 : Nat}
   (hm : ∀ pre F F' H, F.le F' → J pre F H → J pre F' H) (hmx : ∀ F F' H, F.le F' → Jx F H → Jx F' H) (hy : YieldT Tryz.prog L F0 xs J Jx) : ∀ d, FillOk s ps L F0 xs J Jx vp ve vm b tb d2 d4 d5 d
 | 0 => VE hv hm hmx hy
 | d + 1 => TZ hv hm hmx hy (S5 hv hm hmx hy d)
theorem JX {F0 : Heap} {b : Nat} {vp ve vm : Value} {ps : List (Value × Edn)} {s : Stm} (hX0 : StmX F0 b vp ve vm ps s) (hv : ValidT s) {d1 : Nat} (z1 : F0 d1 = some (bx 127 [.pointer (some ⟨b, 0, none⟩)])) : IterG Tryz.prog 108 [.pointer (some ⟨d1, 0, none⟩)] F0 TreeA (allTrees s) := by
 intro L J Jx F RH hF hm hmx hy h0
 have hX := hX0.mono hF
 replace z1 := hF _ _ z1
 refine OkG.intro Tryz.func108 rfl Tryz.ntmps108 rfl fun w0 => Ac <| Al fun ds => A3 rfl <| Bc Aa rfl fun b1 hb1 nb1 => Am <| Ab <| Ac <| AL (i := 0) rfl hb1 (.here) fun F2 hF3 hz2 => ?_
 replace hX := hX.mono hF3
 replace h0 := hm _ _ _ _ hF3 h0
 replace hF := Heap.le_trans hF hF3
 replace z1 := hF3 _ _ z1
 refine Al fun ds => A3 rfl <| AN Db rfl fun b4 hb4 nb4 => Am <| Ab <| Ac <| Al fun ds => A3 rfl <| AN zr_148 rfl fun b5 hb5 nb5 => Am <| Ab <| Ac <| Al fun ds => Af rfl (Bu AY) <| AV <| AT sz_148 Aa Aa (i := 0) rfl (.here) rfl (.here) <| Am <| Ab <| AL (i := 0) rfl hb5 (.here) fun F6 hF7 hz4 => ?_
 replace hX := hX.mono hF7
 replace h0 := hm _ _ _ _ hF7 h0
 replace hF := Heap.le_trans hF hF7
 replace z1 := hF7 _ _ z1
 replace hz2 := hF7 _ _ hz2
 refine Al fun ds => Af rfl (Ah K3 Aa (AM hz4 rfl)) <| A3 rfl <| Hz RG Aa AY rfl (by have h9 := S5 hv hm hmx hy (tb := b4) s.editions.length (b1 := []) (b' := List.replicate s.editions.length 0) (zi := 0) (zf := 0) (pre := []) (rest := []) hF hX ⟨z1, hz2, hz4⟩ rfl rfl (by simp) (by simp) rfl (fun i h => absurd h (by simp)) (by rw [PK]; simp) h0; rw [QG] at h9; exact h9) fun v12 F13 H16 hr14 hF15 => ?_
 replace h0 := hm _ _ _ _ hF15 h0
 obtain ⟨b9, RH9, rfl, -, -, hyb0⟩ := hr14
 obtain ⟨yb, rfl, hyb⟩ := GZ hyb0
 refine Am <| MW rfl .nil (.cons _ (.refl _)) ?_
 rw [PK] at hyb
 rcases hyb with ⟨-, h⟩ | ⟨-, h⟩
 · exact .inl h
 exact .inr h
theorem OJ {F : Heap} {b : Nat} {vp ve vm : Value} {ps : List (Value × Edn)} {s : Stm} (hX : StmX F b vp ve vm ps s) : Ok Tryz.prog 79 [.pointer (some ⟨b, 0, none⟩)].toArray F fun u F' => ∃ d, u = .func (.func 108) #[] #[.pointer (some ⟨d, 0, none⟩)] ∧ F' d = some (bx 127 [.pointer (some ⟨b, 0, none⟩)]) := by
 refine Ok.intro Tryz.func79 rfl Tryz.ntmps79 rfl fun w0 => Ac <| Al fun ds => A3 rfl <| Bc Aa rfl fun b1 hb1 nb1 => As (Ae 1) <| Ac <| AL (i := 0) rfl hb1 (.here) fun F2 hF3 hz => ?_
 refine Al fun ds => Af rfl (Bu AY) <| As (Ae 1) <| At <| Aq rfl Bf ?_
 exact ⟨_, rfl, hz⟩
end
section
theorem Gh {α β : Type} {f : α → List β} {k : Nat} (h : ∀ a, (f a).length ≤ k) : ∀ l : List α, (l.flatMap f).length ≤ l.length * k
 | [] => by simp
 | a :: l => by
   have h1 := Gh h l
   have h2 := h a
   rw [List.flatMap_cons, List.length_append, List.length_cons, Nat.add_mul, Nat.one_mul]; omega
theorem MH {n : Nat} : ∀ {d : Nat} {b : List Int}, (treesF n d b).length ≤ (n + 1) ^ d
 | 0, b => by unfold treesF; split <;> simp
 | d + 1, b => by
   unfold treesF
   have h1 := Gh (f := fun j : Nat => treesF n d (b ++ [(j : Int) - 1])) (k := (n + 1) ^ d) (fun j => MH) (List.range (n + 1))
   rw [List.length_range] at h1
   rw [Nat.pow_succ, Nat.mul_comm]; exact h1
theorem Jm {s : Stm} (hv : ValidT s) : (allTrees s).length ≤ 7776 := by
 have h1 : (allTrees s).length ≤ (treesF s.editions.length s.editions.length []).length := List.length_filter_le _ _
 have h2 := MH (n := s.editions.length) (d := s.editions.length) (b := [])
 have h3 : (s.editions.length + 1) ^ s.editions.length ≤ 7776 := by
   have h4 := hv.ne.2
   generalize s.editions.length = n at *
   have : n = 0 ∨ n = 1 ∨ n = 2 ∨ n = 3 ∨ n = 4 ∨ n = 5 := by omega
   rcases this with rfl | rfl | rfl | rfl | rfl | rfl <;> decide
 omega
section
variable {top : Int} {c : List Int → Int} {xs : List (List Int)} {t : List Int}
theorem Nz : (bestR top c xs).1.length ≤ xs.length := by rw [GQ]; exact List.length_filter_le _ _
theorem Wg (h : c t < (bestR top c xs).2) : bestR top c (xs ++ [t]) = ([t], c t) := by rw [CW]; unfold bestStep; rw [if_pos h]
theorem Wh (h : c t = (bestR top c xs).2) (h2 : c t < top) : bestR top c (xs ++ [t]) = ((bestR top c xs).1 ++ [t], (bestR top c xs).2) := by rw [CW]; unfold bestStep; rw [if_neg (by omega), if_pos ⟨h, h2⟩]
theorem Qt (h : ¬ c t < (bestR top c xs).2) (h2 : ¬ (c t = (bestR top c xs).2 ∧ c t < top)) : bestR top c (xs ++ [t]) = bestR top c xs := by rw [CW]; unfold bestStep; rw [if_neg h, if_neg h2]
end
theorem Us {s : Stm} (hv : ValidT s) : (bestR never (changesN s) (allTrees s)).1 = bestsL s := by rw [Mh hv]
theorem Ur {s : Stm} (hv : ValidT s) : (bestR never (changesN s) (allTrees s)).2 = upV (bestsM s) := by rw [Mh hv]
theorem Mj {s : Stm} (hv : ValidT s) : (bestsL s).length ≤ 7776 := Nat.le_trans Nz (Jm hv)
theorem Ut {s : Stm} {l : List Int} (h : l ∈ bestsL s) : l.length = s.editions.length ∧ IsTree l ∧ fitsT s l = true ∧ costL s l = bestsM s ∧ bestsM s < 1000 := by
 obtain ⟨h1, h2, h3⟩ := FN.1 h
 obtain ⟨h4, h5, h6⟩ := Cf.1 h1
 exact ⟨h4, h5, h6, h2, by omega⟩
def askedT (s : Stm) : Int := if (checkT s).2.2 ≠ 0 then (checkT s).2.2 else if bestsL s = [] then 9 else 0
theorem Mq {s : Stm} (h : (checkT s).2.2 ≠ 0) : askedT s = (checkT s).2.2 := if_pos h
theorem Mp {s : Stm} (h : (checkT s).2.2 = 0) (h2 : bestsL s = []) : askedT s = 9 := by unfold askedT; rw [if_neg (fun k => k h), if_pos h2]
theorem G0 {s : Stm} (h : (checkT s).2.2 = 0) (h2 : bestsL s ≠ []) : askedT s = 0 := by unfold askedT; rw [if_neg (fun k => k h), if_neg h2]
theorem N6 {s : Stm} (h : askedT s = 0) : (checkT s).2.2 = 0 ∧ bestsL s ≠ [] := by
 unfold askedT at h
 split at h
 · rename_i h1; exact absurd h h1
 rename_i h1
 split at h
 · cases h
 rename_i h2; exact ⟨Classical.not_not.1 h1, h2⟩
def askedE (s : Stm) : List (List Int) × Int × Int := if askedT s = 0 then (bestsL s, bestsM s, 0) else ([], 0, askedT s)
theorem N7 {s : Stm} (h : askedT s = 0) : askedE s = (bestsL s, bestsM s, 0) := if_pos h
theorem Hs {s : Stm} (h : askedT s ≠ 0) : askedE s = ([], 0, askedT s) := if_neg h
def bestTE (s : Stm) : List Int × Int × Int × Int := if askedT s = 0 then ((bestsL s)[0]?.getD [], bestsM s, (bestsL s).length, 0) else ([], 0, 0, askedT s)
theorem JP {s : Stm} (h : askedT s = 0) : bestTE s = ((bestsL s)[0]?.getD [], bestsM s, ((bestsL s).length : Int), 0) := if_pos h
theorem RE {s : Stm} (h : askedT s ≠ 0) : bestTE s = ([], 0, 0, askedT s) := if_neg h
def firstB (s : Stm) (i : Nat) : Bool := (bestsL s).any fun t => decide (upN t i = -1)
def firstTE (s : Stm) : List Nat × Int := if askedT s = 0 then (selN (firstB s) s.editions.length, 0) else ([], askedT s)
theorem Ro {s : Stm} (h : askedT s = 0) : firstTE s = (selN (firstB s) s.editions.length, 0) := if_pos h
theorem PH {s : Stm} (h : askedT s ≠ 0) : firstTE s = ([], askedT s) := if_neg h
def fromB (a b : Nat) (t : List Int) : Bool := decide (upN t b = (a : Int))
def fromE (s : Stm) (a b : Int) : Int × Int := if edsErr s a b ≠ 0 then (0, edsErr s a b) else if askedT s ≠ 0 then (0, askedT s) else
 if (bestsL s).any (fromB a.toNat b.toNat) = false then (2, 0) else if (bestsL s).any (fun t => !(fromB a.toNat b.toNat t)) = false then (1, 0) else (0, 0)
end
section
set_option maxRecDepth 100000
open Go.RowKit
theorem zr_134 : ZeroT Tryz.prog 134 (.slice none 0 0) := Bv (by kernel_rfl)
theorem WF : Body Tryz.prog 108 := AF (by kernel_rfl)
theorem bd_79 : Body Tryz.prog 79 := AF (by kernel_rfl)
theorem VO : ElemT Tryz.prog 128 5 40 (.agg #[.int .i64 0, .int .i64 0, .int .i64 0, .int .i64 0, .int .i64 0]) := EA (by kernel_rfl) rfl (by decide)
theorem NY : OneT Tryz.prog 134 := BI (by kernel_rfl)
instance : OneI Tryz.prog 134 := ⟨NY⟩
theorem EP : SliceT Tryz.prog 134 128 5 := Co (by kernel_rfl)
instance : SliceI Tryz.prog 134 := ⟨_, _, EP⟩
theorem NF : SizeT Tryz.prog 134 1 := Bq (by kernel_rfl)
theorem best_ok {F : Heap} {b : Nat} {vp ve : Value} {kb : Nat} {ps : List (Value × Edn)} {s : Stm} (hX : StmX F b vp ve (.map (some kb)) ps s) (hv : ValidT s) {es : List (Value × Value)} (hK : KnownT Tryz.prog 128 es s) : OkM Tryz.prog 96 [.pointer (some ⟨b, 0, none⟩)].toArray F [(kb, mapO es)] fun u F' H' => ∃ es', H' = [(kb, mapO es')] ∧ KnownT Tryz.prog 128 es' s ∧ ∃ v, u = .tuple #[v, .int .i64 (upV (bestsM s))] ∧ Sl F' v 5 treeC (bestsL s) ∧ (bestsL s = [] → v = .slice none 0 0) := by
 refine OkM.intro Tryz.func96 rfl Tryz.ntmps96 rfl fun w0 => ?_
 have hne := hv.ne
 refine Ac <| Al fun ds => A3 rfl <| Bc Aa rfl fun b1 hb1 nb1 => A3 rfl <| AN zr_134 rfl fun b2 hb2 nb2 => A3 rfl <| AN B1 rfl fun b3 hb3 nb3 => Am <| Ab <| Ac <| Al fun ds => AV <| AT Cc Aa Aa (i := 0) rfl (.here) rfl (.here) <| Am <| Ab <| Ac <| Ac <| AL (i := 2) rfl hb1 (.next <| .next <| .here) fun F4 hF5 hz1 => ?_
 replace hX := hX.mono hF5
 refine Al fun ds => Af rfl (Ah DM Aa (AM hz1 rfl)) <| A3 rfl <| Be bd_79 Aa AY (OJ hX) fun v6 F7 hr8 hF9 => ?_
 replace hX := hX.mono hF9
 replace hz1 := hF9 _ _ hz1
 obtain ⟨dz, rfl, hzd⟩ := hr8
 refine Am <| Ab <| Ak ?_
 refine GR rfl Aa (WF) (JX hX hv hzd) (Heap.le_refl _) (fun pre G H => ∃ es2 v4 R4, KnownT Tryz.prog 128 es2 s ∧ Own 128 5 v4 (bestR never (changesN s) pre).1.length ((bestR never (changesN s) pre).1.flatMap treeC) R4 ∧ ((bestR never (changesN s) pre).1 = [] → v4 = .slice none 0 0) ∧ H = (b3, bx 3 [.int .i64 (bestR never (changesN s) pre).2]) :: (b2, bx 134 [v4]) :: (kb, mapO es2) :: R4) (fun _ _ _ => False) (fun _ _ _ _ _ h => h) (fun _ _ _ _ _ h => h) ⟨es, _, [], hK, Ce, fun _ => rfl, rfl⟩ (fun L D fn tm pre x rest G H1 vs hxs hle hJ hA => ?_) (fun _ _ _ _ h => h.elim) (fun F2 H1 hF2 hJ => ?_)
 ·replace hX := hX.mono hle
  replace hz1 := hle _ _ hz1
  obtain ⟨es2, v4, R4, hK2, ho, hnl, rfl⟩ := hJ
  obtain rfl : vs = [treeV x] := hA
  have hxm : x ∈ allTrees s := by rw [hxs]; simp
  obtain ⟨hll, ht, -⟩ := Cf.1 hxm
  have hbl : (bestR never (changesN s) pre).1.length ≤ 7776 := Nat.le_trans Nz (Nat.le_trans (by rw [hxs]; simp) (Jm hv))
  refine ⟨rfl, rfl, fun w1 => ?_⟩
  refine GA (e' := (upd _ 8 (treeV x))) rfl rfl <| AB (.inr (by kernel_rfl)) (fun _ _ h => h) fun ds => A3 rfl <| AN Db rfl fun b10 hb10 nb10 => BP (.one (.next <| .here) <| .one (.next <| .here) <| .one (.here) <| .one (.here) <| .one (.here) <| .one (.here) <| .lastb (.last)) <| AV <| AQ Dk Aa Aa (i := 2) rfl rfl rfl rfl Cn (.next <| .next <| .here) <| Am ?_
  refine Ab ⟨_, rfl, ?_⟩
  refine Ak <| Ac <| AB (.inr (by kernel_rfl)) (fun _ _ h => h) fun ds => Af rfl (Ah DM Aa (AM hz1 rfl)) <| Ao (Ae 1) <| BP (.one (.next <| .next <| .next <| .next <| .next <| .here) <| .one (.here) <| .one (.here) <| .one (.here) <| .one (.here) <| .one (.here) <| .lastb (.last)) <| A3 rfl <| OA Qz Aa AY rfl (EB hX ht hll hv hK2) fun v15 F16 H19 hr17 hF18 => ?_
  replace hle := hle.mono hF18
  obtain ⟨es3, rfl, rfl, hK3⟩ := hr17
  refine As (Ae 1) <| Ac <| Ac ?_
  by_cases h1 : changesN s x < (bestR never (changesN s) pre).2
  ·have hb := Wg h1
   refine AB (.inr (by kernel_rfl)) (fun _ _ h => h) fun ds => As (Ae 3) <| Ag Aa (dT h1) <| AB (.inr (by kernel_rfl)) (fun _ _ h => h) fun ds => Ao (Ae 1) <| AV <| AT NF Aa Aa (i := 5) rfl (.here) rfl (.next <| .next <| .next <| .next <| .next <| .here) <| AV <| AT Cc Aa Aa (i := 4) rfl (.here) rfl (.next <| .next <| .next <| .next <| .here) <| Am <| Ab <| Ac <| AB (.inr (by kernel_rfl)) (fun _ _ h => h) fun ds => Ao (Ae 4) <| Ap rfl rfl Aa (dT rfl) <| Ao (Ae 1) <| Ap rfl rfl Aa (dT rfl) <| Ao (Ae 1) <| Af rfl (Au Aa (dT rfl) Aa) <| Am <| Ab <| Ag Aa (dT (show changesN s x < 1048576 by have := Mk (top := never) (c := changesN s) (xs := pre); unfold never at *; omega)) <| AB (.inr (by kernel_rfl)) (fun _ _ h => h) fun ds => Ao (Ae 2) <| A3 rfl <| C2 (offs := [(0, 5)]) (zl := [.int .i64 0, .int .i64 0, .int .i64 0, .int .i64 0, .int .i64 0]) EP Db rfl (.cons Aa rfl .nil) (by intro i p h; rcases i with _ | i <;> simp at h <;> subst h <;> rfl) (.cons rfl rfl (Nat.le_of_ble_eq_true rfl) (.cons (.here) (.cons (.next <| .here) (.cons (.next <| .next <| .here) (.cons (.next <| .next <| .next <| .here) (.cons (.next <| .next <| .next <| .next <| .here) .nil))))) .nil) (by decide) (by decide) fun b21 hb21 nb21 => A3 rfl <| Bi EP VO Aa Ce Aa (BA (s := 5) 0 rfl rfl (by simp [Value.oneCell'])) (by decide) (by decide) (.z) .nil fun v22 R23 ho24 => ?_
   have ho2 : Own 128 5 v22 (bestR never (changesN s) (pre ++ [x])).1.length ((bestR never (changesN s) (pre ++ [x])).1.flatMap treeC) R23 := by rw [hb]; exact ho24
   refine BP (.one (.skip <| .next <| .here) <| .one (.skip <| .next <| .here) <| .one (.skip <| .next <| .here) <| .one (.skip <| .next <| .here) <| .one (.skip <| .next <| .here) <| .one (.skip <| .next <| .here) <| .lastb (.here)) <| AV <| AT NF Aa Aa (i := 5) rfl (.here) (Own.one ho2) (.next <| .next <| .next <| .next <| .next <| .here) <| Am <| Az <| BS (.one (.next <| .here) <| .one (.next <| .here) <| .one (.next <| .next <| .here) <| .one (.next <| .next <| .here) <| .one (.here) <| .lastb (.next <| .last)) ?_
   refine .inl ⟨rfl, _, rfl, hle, ?_⟩
   refine ⟨_, _, _, hK3, ho2, fun h => ?_, by rw [hb]⟩
   rw [hb] at h; simp at h
  refine AB (.inr (by kernel_rfl)) (fun _ _ h => h) fun ds => As (Ae 3) <| Ad Aa (dF h1) ?_
  by_cases h2 : changesN s x = (bestR never (changesN s) pre).2
  ·refine Aj <| Ab <| Ac <| AB (.inr (by kernel_rfl)) (fun _ _ h => h) fun ds => Ao (Ae 4) <| Ap rfl rfl Aa (dT h2) <| Ao (Ae 1) <| Ap rfl rfl Aa (dT h2) <| Ao (Ae 1) <| Af rfl (Au Aa (dT h2) Aa) <| Am <| Ab ?_
   by_cases h3 : changesN s x < never
   ·have hb := Wh h2 h3
    refine Ag Aa (dT h3) <| AB (.inr (by kernel_rfl)) (fun _ _ h => h) fun ds => Ao (Ae 2) <| A3 rfl <| C2 (offs := [(0, 5)]) (zl := [.int .i64 0, .int .i64 0, .int .i64 0, .int .i64 0, .int .i64 0]) EP Db rfl (.cons Aa rfl .nil) (by intro i p h; rcases i with _ | i <;> simp at h <;> subst h <;> rfl) (.cons rfl rfl (Nat.le_of_ble_eq_true rfl) (.cons (.here) (.cons (.next <| .here) (.cons (.next <| .next <| .here) (.cons (.next <| .next <| .next <| .here) (.cons (.next <| .next <| .next <| .next <| .here) .nil))))) .nil) (by decide) (by decide) fun b25 hb25 nb25 => A3 rfl <| Bi EP VO Aa ho Aa (BA (s := 5) 0 rfl rfl (by simp [Value.oneCell'])) (by omega) (by omega) (.s <| .s <| .s <| .s <| .s <| .s <| .s <| .z) .last fun v26 R27 ho28 => ?_
    have ho2 : Own 128 5 v26 (bestR never (changesN s) (pre ++ [x])).1.length ((bestR never (changesN s) (pre ++ [x])).1.flatMap treeC) R27 := by rw [hb]; exact ho28.snoc (x := x) rfl rfl
    refine AV <| AT NF Aa Aa (i := 6) rfl (.here) (Own.one ho2) (.next <| .next <| .next <| .next <| .next <| .next <| .here) <| Am <| Az <| BS (.one (.next <| .next <| .here) <| .one (.next <| .next <| .here) <| .one (.next <| .next <| .next <| .here) <| .one (.next <| .next <| .next <| .here) <| .one (.next <| .here) <| .lastb (.next <| .next <| .last)) ?_
    refine .inl ⟨rfl, _, rfl, hle, ?_⟩
    refine ⟨_, _, _, hK3, ho2, fun h => ?_, by rw [hb]⟩
    rw [hb] at h; simp at h
   have hb := Qt h1 (fun h => h3 h.2)
   refine Ad Aa (dF h3) <| Aj <| Az <| BS (.one (.next <| .here) <| .one (.next <| .here) <| .one (.next <| .next <| .here) <| .one (.next <| .next <| .here) <| .one (.here) <| .lastb (.next <| .last)) ?_
   refine .inl ⟨rfl, _, rfl, hle, ?_⟩
   exact ⟨_, _, _, hK3, by rw [hb]; exact ho, fun h => hnl (by rw [hb] at h; exact h), by rw [hb]⟩
  have hb := Qt h1 (fun h => h2 h.1)
  refine Aj <| Ab <| Ac <| AB (.inr (by kernel_rfl)) (fun _ _ h => h) fun ds => Ao (Ae 4) <| Ar rfl rfl Aa (.inl (congrArg Value.bool (dF h2))) rfl <| Ar rfl rfl Aa (.inl (congrArg Value.bool (dF h2))) rfl <| Af rfl (A5 Aa (dF h2) Aa) <| Am <| Ab <| Ad Aa rfl <| Aj <| Az <| BS (.one (.next <| .here) <| .one (.next <| .here) <| .one (.next <| .next <| .here) <| .one (.next <| .next <| .here) <| .one (.here) <| .lastb (.next <| .last)) ?_
  refine .inl ⟨rfl, _, rfl, hle, ?_⟩
  exact ⟨_, _, _, hK3, by rw [hb]; exact ho, fun h => hnl (by rw [hb] at h; exact h), by rw [hb]⟩
 obtain ⟨es2, v4, R4, hK2, ho, hnl, rfl⟩ := hJ
 rw [Us hv] at ho hnl
 rw [Ur hv]
 have hbl := Mj hv
 refine Az <| Ab <| Kt (σ := ⟨_, _⟩) (by intro m hm; exact .tail _ (.tail _ hm)) ho (.s <| .s <| .s <| .z) .last fun F29 hF30 hz31 => ?_
 have hsp := ho.sl (fun _ => rfl) hz31 (by omega)
 refine Ac <| Bn (.inl rfl) (fun _ _ h => h) (kK <| kK <| kK <| .refl _) [3] (by kernel_rfl) fun ds => Ai 0 rfl (by kernel_rfl) (by kernel_rfl) (by kernel_rfl) (by kernel_rfl) rfl rfl (fun _ h => h.drop (kK <| kK <| kK <| .refl _)) (fun _ _ _ h => h) (Ah NY Aa (Cell.own 1 rfl rfl)) <| Ai 1 rfl (by kernel_rfl) (by kernel_rfl) (by kernel_rfl) (by kernel_rfl) rfl rfl (fun _ h => h.drop (kK <| kK <| kK <| .refl _)) (fun _ _ _ h => h) (Ah AA Aa (Cell.own 0 rfl rfl)) ?_
 refine BG 2 rfl (by kernel_rfl) (AT NF Aa Aa (i := 1) rfl (.here) (by first | rfl | exact hsp.plain.one) (.next <| .here) ⟨fun _ _ => (fun _ h => h.drop (kK <| kK <| kK <| .refl _)), ?_⟩)
 refine BG 3 rfl (by kernel_rfl) (AT Cc Aa Aa (i := 0) rfl (.here) (by first | rfl | exact hsp.plain.one) (.here) ⟨(fun h => nomatch h), ?_⟩)
 refine Bo (by kernel_rfl) ?_ _
 refine Ab <| At <| Er rfl (.one NY Aa (Cell.own 1 rfl rfl) (.one AA Aa (Cell.own 0 rfl rfl) .nil)) (.cons (.next <| .next <| .here) <| .nil) rfl ?_
 exact ⟨es2, rfl, hK2, _, rfl, hsp, hnl⟩
end
section
open Go.RowKit
section
variable {P : Program} {n : Nat} {B : Base} {e : Env} {σ : St} {d : Option Nat} {ty : TypeId} {pos : String} {af : Array Edge} {gd : Option (Nat × Bool)}
theorem NN {T E s m k j : Nat} {a : Addr} {x y : Operand} {kd : IntKind} {i : Int} (hT : P.underlying T = some (.array m E)) (hE : SizeT P E s) (hx : ev e x = .pointer (some (addc a j))) (hy : ev e y = .int kd i) (hi : i = (k : Int)) (hle : k ≤ m) (hm : 0 < m) :
   OpR P B ⟨d, .slice T x none (some y) none, ty, pos, af, gd⟩ e σ (subslice (.slice (some (addc a j)) m m) 0 k s) := fun w _ => by
 subst hi
 have hs := B6 (P := P) (T := E) (s := s) hE
 have h0 : ¬ m = 0 := by omega
 simp [execOp, hx, hy, Instr.sliceAt, Instr.sureAddr, Instr.sliceBounds, Instr.sliceBound, asIntOf, Bj hT, hs, Addr.add, subslice, hle, h0, addc]
end
theorem QF {F : Heap} {v : Value} {xs : List (List Int)} (h : Sl F v 5 treeC xs) {i : Nat} (hi : i < xs.length) : Ints F (.slice (some (addc (base v) (i * 5))) 5 5) ((List.range 5).map (upN xs[i])) := by
 refine ⟨⟨_, _, rfl, fun _ x hx => by cases hx; rfl, by simp, by simp, by simp⟩, fun k hk j u hu => ?_⟩
 have hk5 : k < 5 := by simpa using hk
 have hu2 : j = 0 ∧ u = .int .i64 (upN xs[i] k) := by
   cases j with
   | zero => simp [intE] at hu; exact ⟨rfl, hu.symm⟩
   | succ j => simp [intE] at hu
 obtain ⟨rfl, rfl⟩ := hu2
 have h2 := h.cells i hi k (.int .i64 (upN xs[i] k)) (by have := B5 (l := xs[i]) hk5; rwa [show 0 + k * 1 = k by omega] at this)
 have e : addc (base (.slice (some (addc (base v) (i * 5))) 5 5)) (k * 1 + 0) = addc (base v) (i * 5 + k) := by simp [base, addc]; omega
 rw [e]; exact h2
theorem UD {F : Heap} {v : Value} {xs : List (List Int)} (h : Sl F v 5 treeC xs) {i k : Nat} (hi : i < xs.length) (hk : xs[i].length = k) (h5 : k ≤ 5) : Ints F (subslice (.slice (some (addc (base v) (i * 5))) 5 5) 0 k 1) xs[i] := by
 have h1 := (QF h hi).to (k := k) (by simpa using h5)
 have e : ((List.range 5).map (upN xs[i])).take k = xs[i] := by
   apply List.ext_getElem
   · simp; omega
   intro j h1 h2
   simp [BR h2]
 rw [e] at h1
 exact h1
end
end Go.Proofs.YtkjfmibiinfhfabGreat
