/-
  TopReturned returns true of any copy, any sale, any lot and any ring, and leaves what it is handed as it was. No conditions.
-/
import Derived.Test.YtkjfmibiinfhfacGreatPaf
import Derived.KernelRfl
namespace Go.Proofs.YtkjfmibiinfhfacGreat
set_option synthInstance.maxSize 4000
set_option synthInstance.maxHeartbeats 1000000
section
set_option maxHeartbeats 4000000
set_option maxRecDepth 100000
open Go.RowKit
theorem Tr : ZeroT Tryz.prog 27 (.agg #[.int .i64 0, .slice none 0 0, .slice none 0 0]) := Br (by kernel_rfl)
theorem zr_35 : ZeroT Tryz.prog 35 (.int .i64 0) := Br (by kernel_rfl)
theorem bd_62 : Body Tryz.prog 62 := AE (by kernel_rfl)
theorem bd_63 : Body Tryz.prog 63 := AE (by kernel_rfl)
theorem bd_96 : Body Tryz.prog 96 := AE (by kernel_rfl)
theorem Rr : BuildT Tryz.prog 27 [.int .i64 0, .slice none 0 0, .slice none 0 0] [(0, 2), (2, 1)] := BD Tr (by kernel_rfl) (by decide)
theorem PR : OneT Tryz.prog 35 := BE (by kernel_rfl)
instance : OneI Tryz.prog 35 := ⟨PR⟩
theorem QG : SizeT Tryz.prog 35 1 := Bx (by kernel_rfl)
theorem Qh {F : Heap} {v : Value} {xs : List (Value × List Int)} (h : Sl F v 1 itE xs) (p : _ → Bool) {g : FuncId} {cs : List Value} (hg : Body Tryz.prog g) (hp : ∀ k (hk : k < xs.length), Ok Tryz.prog g ([Value.agg (itE xs[k]).toArray] ++ cs).toArray F fun r _ => r = .bool (p xs[k])) : Ok Tryz.prog 96 [v, .func (.func g) #[] cs.toArray].toArray F fun r _ => r = .int .i64 (findI p xs) := by
 refine Ok.intro Tryz.func96 rfl Tryz.ntmps96 rfl fun w0 => ?_
 have hlen := h.plain.lt
 refine AD (Af 1) <| Ac <| Az (Af 1) fun ds => Ag rfl (A4 Cj Aa h.plain) <| Aw (Af 1) <| Aq ?_
 refine AL [4, 5, 8, 9, 10, 11, 12, 13, 14, 15, 16, 17, 18] (fun m e σ => ∃ k : Nat, m + k = xs.length ∧ Fct e 8 (.int .i64 k) ∧ σ = ⟨F, []⟩ ∧ ∀ j (hj : j < xs.length), j < k → p xs[j] = false) (xs.length) ?_ ?_
 · exact ⟨0, by omega, AX, rfl, fun j hj h => absurd h (by omega)⟩
 rintro m e _ ⟨k, hm, hs8, rfl, hno⟩
 by_cases hlt : k < xs.length
 ·refine AD (Af 1) <| Ac <| Ai Aa (by first | rfl | exact dT (by omega)) ?_
  by_cases hpk : p xs[k] = true
  ·refine Al <| Ab <| Ac <| Aq <| AD (Af 2) <| Az (Af 3) fun ds => Ag rfl (A1  Cj Aa h.plain Aa rfl (by omega)) <| Ag rfl (AC HE Aa rfl rfl (h.whole (by omega))) <| AN rfl (Ay hg Aa AW (hp k hlt) (fun _ _ h => h)) <| Ao <| Ab <| Ai Aa hpk <| AD (Af 2) <| At ?_
   refine A7 (Ax (Ax (A7 (Ax ?_))))
   refine Ap rfl Bd ?_
   show _ = _
   rw [Co hlt hpk hno]; rfl
  replace hpk : p xs[k] = false := by simpa using hpk
  refine Al <| Ab <| Ac <| Aq <| AD (Af 2) <| Az (Af 3) fun ds => Ag rfl (A1  Cj Aa h.plain Aa rfl (by omega)) <| Ag rfl (AC HE Aa rfl rfl (h.whole (by omega))) <| AN rfl (Ay hg Aa AW (hp k hlt) (fun _ _ h => h)) <| Ao <| Ab <| Ad Aa hpk <| Al <| A0 <| Ab <| Am fun ds => Ag rfl (AG Aa Aa rfl (by omega) (by omega)) <| Aj (Af 1) <| Ao ?_
  refine Ab ⟨_, m - 1, Off.eq (BR rfl <| BM rfl <| BX rfl <| A2), by omega, ?_⟩
  refine ⟨k + 1, by omega, AX, rfl, fun j hj hjk => ?_⟩
  rcases Nat.lt_succ_iff_lt_or_eq.1 hjk with hjk | rfl
  · exact hno j hj hjk
  exact hpk
 refine AD (Af 1) <| Ac <| Ad Aa (by first | rfl | exact dF (by omega)) <| AH ?_
 refine A8 <| A8 <| AB <| Ab <| AD (Af 1) <| At <| Ap rfl Bd ?_
 show _ = _
 rw [Cy fun j hj => hno j hj (by omega)]; rfl
theorem GX {F : Heap} {v : Value} {xs : List (Value × List Int)} (h : Sl F v 1 itE xs) (p : _ → Bool) {g : FuncId} {cs : List Value} (hg : Body Tryz.prog g) (hp : ∀ k (hk : k < xs.length), Ok Tryz.prog g ([Value.agg (itE xs[k]).toArray] ++ cs).toArray F fun r _ => r = .bool (p xs[k])) : Ok Tryz.prog 63 [v, .func (.func g) #[] cs.toArray].toArray F fun r _ => r = .bool (xs.any p) := by
 refine Ok.intro Tryz.func63 rfl Tryz.ntmps63 rfl fun w0 => AD (Af 1) <| Az (Af 2) fun ds => AN rfl (Ay bd_96 Aa AW (Qh h p hg hp) (fun _ _ h => h)) <| Aw (Af 2) <| At <| Ap rfl Bd ?_
 show _ = _
 rw [← CM]; rfl
theorem Ky {F : Heap} {x : Value × List Int} (h : Ints F x.1 x.2) : Ok Tryz.prog 62 [.agg (itE x).toArray].toArray F fun r _ => r = .bool (dubB x) := by
 refine Ok.intro Tryz.func62 rfl Tryz.ntmps62 rfl fun w0 => Ac <| Am fun ds => A5 rfl <| Bg Aa rfl fun b1 hb1 nb1 => Aw (Af 1) <| Az (Af 2) fun ds => Ag rfl (A4 A9 Aa h.plain) <| Aw (Af 2) <| At <| Ap rfl Bd <| congrArg Value.bool ?_
 rw [dubB, decide_eq_decide]
 omega
theorem LJ {F : Heap} {vg vi vj : Value} {qs : List (Value × Gth)} {is js : List (Value × List Int)} {c : Cpc} {ys : List (List Int)} {t u : List Int} (hc : CpcR F vg qs vi is c) (hd : CpcR F vg qs vj js ⟨c.book, ys⟩) (hv : ValidC c) (hvd : ValidC ⟨c.book, ys⟩) (h1 : ∀ x ∈ is, x.2.length ≤ 1) (h2 : ∀ x ∈ js, x.2.length ≤ 1) (hct : truC c = [t]) (hcu : truC ⟨c.book, ys⟩ = [u]) : Ok Tryz.prog 27 [.agg #[.int .i64 c.book.signed, vg], vi, vj].toArray F fun r F' => ∃ v, r = .tuple #[v, .int .i64 (divE c.book t u)] ∧ Ints F' v (divL c.book t u) := by
 have hvl := hv.leaves
 have hvm := hv.many
 have hML := Ce (b := c.book)
 have hBt0 := Ey hv (show t ∈ truC c by rw [hct]; simp)
 have hBu0 := Ey hvd (show u ∈ truC ⟨c.book, ys⟩ by rw [hcu]; simp)
 have hBt : TrB 1000 t := ⟨hBt0.len, fun i hi => by have := hBt0.at_ i hi; omega⟩
 have hBu : TrB 1000 u := ⟨hBu0.len, fun i hi => by have := hBu0.at_ i hi; simp only at this; omega⟩
 have htl := hBt.len
 have hul := hBu.len
 refine Ok.intro Tryz.func27 rfl Tryz.ntmps27 rfl fun w0 => Ac <| Am fun ds => A5 rfl <| Bg Aa rfl fun b1 hb1 nb1 => A5 rfl <| AO JX rfl fun b2 hb2 nb2 => A5 rfl <| AO zr_35 rfl fun b3 hb3 nb3 => Ao <| Ab <| Ac <| AK (i := 2) rfl hb1 (.next <| .next <| .here) fun F4 hF5 hz3 => ?_
 replace hc := hc.mono hF5
 refine Am fun ds => Ag rfl (AC (vs := [.int .i64 c.book.signed, vg]) CY Aa rfl rfl (Ba hz3)) <| Aj (Af 1) <| Ag rfl (Bm Rr (.cons Aa rfl (.cons Aa (B9 hc.items.plain.one) .nil)) (.cons rfl rfl (Nat.le_of_ble_eq_true rfl) (.cons (.here) (.cons (.next <| .here) .nil)) (.cons rfl rfl (Nat.le_of_ble_eq_true rfl) (.cons (.next <| .next <| .here) .nil) .nil))) <| A5 rfl <| Bi Nh Aa AW (Fh hc hv) fun v6 F7 hr8 hF9 => ?_
 obtain ⟨p, vl, vm, rfl, hX⟩ := hr8
 refine Aj (Af 5) <| A5 rfl <| AO Nm rfl fun b10 hb10 nb10 => AS <| Bf Nu Aa Aa (i := 0) rfl (.here) rfl (.here) <| Aj (Af 2) <| AS <| Bf QG Aa Aa (i := 1) rfl (.here) rfl (.next <| .here) <| Ao <| Ab <| Ac <| Ac <| Oh (.cons (.here) <| .cons (.next <| .here) <| .cons (.here) <| .nil) <| AK (i := 0) rfl hb10 (.here) fun F11 hF12 hz8 => ?_
 replace hd := hd.mono (Heap.le_trans hF5 (Heap.le_trans hF9 hF12))
 replace hz3 := (Heap.le_trans hF9 hF12) _ _ hz3
 refine Am fun ds => Aw (Af 2) <| Ad Aa (dF (fun h => h rfl)) <| Al <| Ab <| Ac <| Am fun ds => Ag rfl (AC (vs := [.int .i64 c.book.signed, vg]) CY Aa rfl rfl (Ba hz3)) <| Aj (Af 1) <| Ag rfl (Bm Rr (.cons Aa rfl (.cons Aa (B9 hd.items.plain.one) .nil)) (.cons rfl rfl (Nat.le_of_ble_eq_true rfl) (.cons (.here) (.cons (.next <| .here) .nil)) (.cons rfl rfl (Nat.le_of_ble_eq_true rfl) (.cons (.next <| .next <| .here) .nil) .nil))) <| A5 rfl <| Bi Nh Aa AW (Fh (c := ⟨c.book, ys⟩) hd hvd) fun v13 F14 hr15 hF16 => ?_
 obtain ⟨p2, wl, wm, rfl, hY⟩ := hr15
 refine Aj (Af 5) <| A5 rfl <| AO Nm rfl fun b17 hb17 nb17 => AS <| Bf Nu Aa Aa (i := 0) rfl (.here) rfl (.here) <| Aj (Af 2) <| AS <| Bf QG Aa Aa (i := 2) rfl (.here) rfl (.next <| .next <| .here) <| Ao <| Ab <| Ac <| Ac <| Oh (.cons (.here) <| .cons (.here) <| .cons (.here) <| .nil) <| AK (i := 0) rfl hb17 (.here) fun F18 hF19 hz11 => ?_
 replace hc := hc.mono (Heap.le_trans hF9 (Heap.le_trans hF12 (Heap.le_trans hF16 hF19)))
 have hU97 := Heap.le_trans hF16 hF19
 replace hd := hd.mono hU97
 replace hX := hX.mono (Heap.le_trans hF12 (Heap.le_trans hF16 hF19))
 replace hz8 := hU97 _ _ hz8
 refine Am fun ds => Aw (Af 2) <| Ad Aa (dF (fun h => h rfl)) <| Al <| Ab <| AD (Af 1) <| Ac <| Az (Af 2) fun ds => AN rfl (Ay bd_63 Aa AW (GX hc.items dubB bd_62 (fun k hk => Ky (hc.could _ (List.getElem_mem hk)))) (fun _ _ h => h)) <| Aj (Af 1) <| Ae rfl rfl Aa (Jw h1) <| Aj (Af 1) <| Ae rfl rfl Aa (Jw h1) <| Aj (Af 1) <| Ae rfl rfl Aa (Jw h1) <| AN rfl (Ay bd_63 Aa AW (GX hd.items dubB bd_62 (fun k hk => Ky (hd.could _ (List.getElem_mem hk)))) (fun _ _ h => h)) <| Ag rfl (As Aa (Jw h1) Aa) <| Ao <| Ab <| Ad Aa (Jw h2) <| Al <| Ab <| Ac <| Ac <| Am fun ds => Ag rfl (Ak Cm Aa (AA hz8 rfl)) <| A5 rfl <| Bi Pw Aa AW (Fc hX) fun v20 F21 hr22 hF23 => ?_
 replace hX := hX.mono hF23
 replace hY := hY.mono (Heap.le_trans hF19 hF23)
 replace hz3 := (Heap.le_trans hF16 (Heap.le_trans hF19 hF23)) _ _ hz3
 replace hz8 := hF23 _ _ hz8
 replace hz11 := hF23 _ _ hz11
 obtain ⟨dt, rfl, hzt⟩ := hr22
 refine Ao <| Ab <| Aq ?_
 refine FK rfl Aa (Pu) (Dw hX hv hzt) (Heap.le_refl _) (fun pre _ H => ∃ (v6 : Value) (R6 : List (Nat × Obj)), H = (b2, bx 44 [v6]) :: (b3, bx 35 [.int .i64 0]) :: R6 ∧ Own 3 1 v6 (divS pre (cutL c.book t u)).length ((divS pre (cutL c.book t u)).flatMap intE) R6 ∧ (pre ≠ [] → twAny c.book t u = false)) (fun cd _ H => cd = .ret ∧ twAny c.book t u = true ∧ ∃ R6, H = (b2, bx 44 [.slice none 0 0]) :: (b3, bx 35 [.int .i64 5]) :: R6) (fun _ _ _ _ _ h => h) (fun _ _ _ _ _ h => h) ⟨_, [], rfl, BZ, fun h => absurd rfl h⟩ (fun L D fn tm pre x rest G1 H1 v R1 hxs hle1 hJ hO => ?_) (fun c F2 H1 hF2 hJ => ?_) (fun F2 H1 hF2 hJ => ?_)
 ·replace hY := hY.mono hle1
  replace hz8 := hle1 _ _ hz8
  replace hz11 := hle1 _ _ hz11
  obtain ⟨v6, R6, rfl, ho6, -⟩ := hJ
  obtain ⟨rfl, rfl, rfl⟩ : pre = [] ∧ t = x ∧ rest = [] := M2 (hct ▸ hxs)
  replace hO : Own 3 1 v t.length (t.flatMap intE) R1 := hO
  refine ⟨rfl, rfl, fun w1 => ?_⟩
  refine Jz (e' := (upd _ 55 v)) rfl rfl <| AQ (.inr (by kernel_rfl)) (fun _ _ h => h) fun ds => A5 rfl <| AO JX rfl fun b24 hb24 nb24 => AS <| Bf Dg Aa Aa (i := 0) rfl (.here) hO.one (.here) <| Fr (.one (.next <| .here) <| .one (.next <| .here) <| .one (.here) <| .one (.skip <| .here) <| .one (.skip <| .here) <| .blk (.here) <| .lastb (.last)) <| Ao ?_
  refine Ab ⟨_, rfl, ?_⟩
  refine Jy (i := 0) rfl (fun _ => .here) fun oL hoL => Aq <| Ac ?_
  obtain ⟨r0, hr0, hd0⟩ : ∃ r : Loop, oL = Obj.loop r ∧ r.defers = D := ⟨_, hoL, rfl⟩
  subst hr0
  refine AQ (.inr (by kernel_rfl)) (fun _ _ h => h) fun ds => Ag rfl (Ak Cm Aa (AA hz11 rfl)) <| A5 rfl <| Bi Pw Aa AW (Fc hY) fun v25 F26 hr27 hF28 => ?_
  have hU131 := Heap.le_trans hle1 hF28
  replace hX := hX.mono hU131
  replace hY := hY.mono hF28
  replace hle1 := hle1.mono hF28
  replace hz8 := hF28 _ _ hz8
  replace hz11 := hF28 _ _ hz11
  obtain ⟨du, rfl, hzu⟩ := hr27
  refine Ao <| Ab <| Aq ?_
  refine P2 rfl (.head _) Aa (Pu) (Dw hY hvd hzu) (Heap.le_refl _) (fun pre2 _ H => ∃ (v6 : Value) (R6 : List (Nat × Obj)), H = (L, Obj.loop r0) :: (D, openO) :: (b24, bx 44 [v]) :: (b2, bx 44 [v6]) :: (b3, bx 35 [.int .i64 0]) :: (R1 ++ R6) ∧ Own 3 1 v6 (divS pre2 (cutL c.book t u)).length ((divS pre2 (cutL c.book t u)).flatMap intE) R6 ∧ (pre2 ≠ [] → twAny c.book t u = false)) (fun cd _ H => cd = .ret ∧ twAny c.book t u = true ∧ ∃ R6, H = (L, Obj.loop r0) :: (D, openO) :: (b24, bx 44 [v]) :: (b2, bx 44 [.slice none 0 0]) :: (b3, bx 35 [.int .i64 5]) :: (R1 ++ R6)) (fun _ _ _ _ _ h => h) (fun _ _ _ _ _ h => h) ⟨_, _, rfl, ho6, fun h => absurd rfl h⟩ (fun L2 fn2 tm2 pre2 x2 rest2 G2 RHi v2 R2 hxs2 hle2 hJ2 hO2 => ?_) (fun c2 F2 H1 hF2 hJ => ?_) (fun F2 H1 hF2 hJ => ?_)
  ·replace hX := hX.mono hle2
   replace hz8 := hle2 _ _ hz8
   replace hz11 := hle2 _ _ hz11
   obtain ⟨v6, R6, rfl, ho6, -⟩ := hJ2
   obtain ⟨rfl, rfl, rfl⟩ : pre2 = [] ∧ u = x2 ∧ rest2 = [] := M2 (hcu ▸ hxs2)
   replace hO2 : Own 3 1 v2 u.length (u.flatMap intE) R2 := hO2
   refine ⟨rfl, rfl, fun w2 => ?_⟩
   refine Jz (e' := (upd _ 58 v2)) rfl rfl <| AQ (.inr (by kernel_rfl)) (fun _ _ h => h) fun ds => Aj (Af 1) <| Ao ?_
   refine Ab ⟨_, rfl, ?_⟩
   refine Jy (i := 0) rfl (fun _ => .here) fun oL2 hoL2 => Aq <| Ac <| BO (.inr (by kernel_rfl)) (fun _ _ h => h) (kK <| .refl _) [] (by kernel_rfl) fun ds => Au 0 rfl (kK <| .refl _) (Ak Cm Aa (AA hz8 rfl)) <| Au 1 rfl (kK <| .refl _) (Ak Bq Aa (Cell.ownM (.tail _ <| List.mem_append_right _ <| .tail _ <| .tail _ <| .head _) rfl)) <| Au 3 rfl (kK <| .refl _) (Ak Cm Aa (AA hz11 rfl)) <| Au 4 rfl (kK <| .refl _) (AI Aa) ?_
   refine BU 2 rfl (by kernel_rfl) rfl (Ew Ry Aa AW (fun G hG hGo => HM (hO.sl (fun _ => rfl) (fun p hp => hGo p (by simp [hp])) (by omega)) hBt) fun v29 R31 hr30 => ⟨fun _ _ => (fun _ h => h.drop (List.sublist_append_of_sublist_right <| kK <| .refl _)), ?_⟩)
   obtain ⟨bm1, es1, rfl, rfl, hZ1⟩ := hr30
   refine BU 5 rfl (by kernel_rfl) rfl (Ew Ry Aa AW (fun G hG hGo => HM (hO2.sl (fun _ => rfl) (fun p hp => hGo p (by simp [hp])) (by omega)) hBu) fun v32 R34 hr33 => ⟨fun _ _ => (fun _ h => h.drop (List.sublist_append_of_sublist_right <| kD <| kK <| .refl _)), ?_⟩)
   obtain ⟨bm2, es2, rfl, rfl, hZ2⟩ := hr33
   refine Au 6 rfl (kD <| kD <| kK <| .refl _) (Bk Aa) <| Au 7 rfl (kD <| kD <| kK <| .refl _) (Bk Aa) ?_
   refine BC (by kernel_rfl) ?_ _
   refine Ab <| Ac <| Cs (.one (.here) <| .one (.here) <| .one (.here) <| .one (.skip <| .here) <| .one (.skip <| .here) <| .one (.skip <| .here) <| .one (.skip <| .here) <| .one (.skip <| .here) <| .blk (.here) <| .blk (.here) <| .lastb (.last)) <| AQ (.inr (by kernel_rfl)) (fun _ _ h => h) fun ds => Ag rfl (Ak Cm Aa (AA hz8 rfl)) <| Ag rfl (Bb Aa) <| Aj (Af 1) <| Ag rfl (Ak Bq Aa (AA hX.blk rfl)) <| Ag rfl (A4 A9 Aa hX.mates.plain) <| Aw (Af 1) <| Aq ?_
   refine AL [19, 20, 70, 71, 72, 73, 74, 75, 76, 77, 78, 79, 80, 81, 82, 83, 84, 85, 86, 87, 88, 89, 90, 91, 92, 93, 94, 95, 96, 97, 98, 99, 100, 101, 102, 103, 104, 105] (fun m e σ => ∃ (k : Nat) (v6 : Value) (R6 : List (Nat × Obj)), m + k = (allQ c.book).length ∧ Fct e 70 (.int .i64 (k : Int)) ∧ Own 3 1 v6 (pickTo (cutB c.book t u) k).length ((pickTo (cutB c.book t u) k).flatMap intE) R6 ∧ (∀ j, j < k → twB t u j = false) ∧ σ = ⟨G2, (bm2, mapO es2) :: (bm1, mapO es1) :: (L2, oL2) :: (L, Obj.loop r0) :: (D, openO) :: (b24, bx 44 [v]) :: (b2, bx 44 [v6]) :: (b3, bx 35 [.int .i64 0]) :: (R2 ++ (R1 ++ R6))⟩) ((allQ c.book).length) ?_ ?_
   · exact ⟨0, _, _, by omega, AX, ho6, (fun j hj => absurd hj (by omega)), rfl⟩
   rintro m e _ ⟨k, v6, R6, hm, hs70, ho, hno, rfl⟩
   by_cases hk : k < (allQ c.book).length
   ·refine Ac <| AQ (.inr (by kernel_rfl)) (fun _ _ h => h) fun ds => Aw (Af 1) <| Ac <| Ai Aa (by first | rfl | exact dT (by omega)) ?_
    have hma : (matesL c.book)[k]'(by rw [Ce]; exact hk) = mateZ c.book k := JF _
    have hmr := EM (b := c.book) (n := k)
    have hpl := DF (p := cutB c.book t u) (n := k)
    refine Al <| Ab <| Ac <| Aq <| Ac <| AQ (.inr (by kernel_rfl)) (fun _ _ h => h) fun ds => Aj (Af 1) <| Ag rfl (A1 (k := k) A9 Aa hX.mates.plain Aa rfl (by rw [Ce]; exact hk)) <| Ag rfl (Ak AF Aa (hX.mates.cell1 (by rw [Ce]; exact hk) rfl)) <| Aw (Af 2) <| Aq <| Ac ?_
    rw [hma]
    by_cases h1 : 0 < cnt t (k : Int)
    ·by_cases h2 : 0 < cnt u (k : Int)
     ·refine AQ (.inr (by kernel_rfl)) (fun _ _ h => h) fun ds => Aj (Af 2) <| Ag rfl (BG E7 Aa Aa (i := 1) rfl (E8 (by omega) (by omega)) hZ1) <| Aj (Af 2) <| Ae rfl rfl Aa (dT h1) <| Aj (Af 1) <| Ae rfl rfl Aa (dT h1) <| Aj (Af 1) <| Ae rfl rfl Aa (dT h1) <| Ag rfl (BG E7 Aa Aa (i := 0) rfl (E8 (by omega) (by omega)) hZ2) <| Ae rfl rfl Aa (dT h1) <| Aj (Af 1) <| Ag rfl (Ar Aa (dT h1) Aa) <| Aw (Af 1) <| Ai Aa (dT h2) ?_
      subst hoL2
      refine Ac <| AQ (.inr (by kernel_rfl)) (fun _ _ h => h) fun ds => AS <| Bf Dg Aa Aa (i := 6) rfl (.here) rfl (.next <| .next <| .next <| .next <| .next <| .next <| .here) <| AS <| Bf QG Aa Aa (i := 7) rfl (.here) rfl (.next <| .next <| .next <| .next <| .next <| .next <| .next <| .here) <| Ao <| Ab <| At ?_
      refine A7 (A7 (Ax (Ax (A7 (A7 ?_)))))
      refine Sb (.one (.next <| .next <| .here) <| .blk (.next <| .next <| .next <| .next <| .next <| .next <| .next <| .here) <| .one (.next <| .next <| .here) <| .one (.next <| .next <| .here) <| .one (.next <| .next <| .here) <| .one (.next <| .next <| .here) <| .one (.next <| .next <| .here) <| .blk (.next <| .next <| .here) <| .lastb (.next <| .next <| .last)) ?_
      refine .inr ⟨rfl, _, _, rfl, hle2, ⟨_, rfl, ?_⟩⟩
      exact ⟨rfl, tw_yes hk (by unfold twB; simp [h1, h2]), _, rfl⟩
     have htk : twB t u k = false := by unfold twB; simp [h2]
     refine AQ (.inr (by kernel_rfl)) (fun _ _ h => h) fun ds => Aj (Af 2) <| Ag rfl (BG E7 Aa Aa (i := 1) rfl (E8 (by omega) (by omega)) hZ1) <| Aj (Af 2) <| Ae rfl rfl Aa (dT h1) <| Aj (Af 1) <| Ae rfl rfl Aa (dT h1) <| Aj (Af 1) <| Ae rfl rfl Aa (dT h1) <| Ag rfl (BG E7 Aa Aa (i := 0) rfl (E8 (by omega) (by omega)) hZ2) <| Ae rfl rfl Aa (dT h1) <| Aj (Af 1) <| Ag rfl (Ar Aa (dT h1) Aa) <| Aw (Af 1) <| Ad Aa (dF h2) <| Ac <| AQ (.inr (by kernel_rfl)) (fun _ _ h => h) fun ds => Aj (Af 2) <| Ag rfl (BG E7 Aa Aa (i := 1) rfl (E8 (by omega) (by omega)) hZ1) <| Aj (Af 2) <| Ae rfl rfl Aa (dT h1) <| Aj (Af 1) <| Ae rfl rfl Aa (dT h1) <| Aj (Af 1) <| Ag rfl (Ar Aa (dT h1) Aa) <| Aj (Af 1) ?_
     by_cases h3 : 0 ≤ mateZ c.book k
     ·refine Ae rfl rfl Aa (dT h3) <| Aj (Af 1) <| Ae rfl rfl Aa (dT h3) <| Aj (Af 1) <| Ae rfl rfl Aa (dT h3) <| Ag rfl (BG E7 Aa Aa (i := 0) rfl (E8 (by omega) (by omega)) hZ2) <| Ae rfl rfl Aa (dT h3) <| Aj (Af 1) <| Ag rfl (Ar Aa (dT h3) Aa) <| Aw (Af 1) ?_
      by_cases h4 : 0 < cnt u (mateZ c.book k)
      ·have hck : cutB c.book t u k = true := by unfold cutB; simp [h1, h3, h4]
       refine Ai Aa (dT h4) <| AQ (.inr (by kernel_rfl)) (fun _ _ h => h) fun ds => Aj (Af 2) <| A5 rfl <| AM A9 B2 rfl (.cons Aa .nil) rfl rfl (by decide) (by simp [Value.oneCell']) fun b36 hb36 nb36 => A5 rfl <| Bp A9 Di Aa ho Aa (B1 (s := 1) 0 rfl rfl (by simp [Value.oneCell'])) (by omega) (by omega) (.s <| .s <| .s <| .s <| .s <| .s <| .s <| .s <| .s <| .k <| .k <| .z) .last fun v37 R38 ho39 => ?_
       have ho2 : Own 3 1 v37 (pickTo (cutB c.book t u) (k + 1)).length ((pickTo (cutB c.book t u) (k + 1)).flatMap intE) R38 := by rw [E5 hck]; exact Own.snoc ho39 rfl rfl
       refine AS <| Bf Dg Aa Aa (i := 7) rfl (.here) ho2.one (.next <| .next <| .next <| .next <| .next <| .next <| .next <| .here) <| Ao ?_
       refine A0 (A0 (Ab ?_))
       refine Bn (fun _ _ h => h.drop (kD <| kK <| kK <| kK <| kK <| kK <| kK <| kK <| kK <| .refl _)) <| AQ (.inr (by kernel_rfl)) (fun _ _ h => h) fun ds => Ag rfl (AG Aa Aa rfl (by omega) (by omega)) <| Aj (Af 1) <| Ao ?_
       refine Ab ⟨_, m - 1, Off.eq (DT rfl <| Ca rfl <| BM rfl <| A2), by omega, ?_⟩
       exact ⟨k + 1, _, _, by omega, AX, ho2, (fun j hj => by rcases Nat.lt_succ_iff_lt_or_eq.1 hj with hj | rfl; exact hno j hj; exact htk), rfl⟩
      refine Ad Aa (dF h4) ?_
      have hck : cutB c.book t u k = false := by unfold cutB; simp [h4]
      refine Al <| A0 (A0 (Ab ?_))
      refine AQ (.inr (by kernel_rfl)) (fun _ _ h => h) fun ds => Ag rfl (AG Aa Aa rfl (by omega) (by omega)) <| Aj (Af 1) <| Ao ?_
      refine Ab ⟨_, m - 1, Off.eq (DT rfl <| BM rfl <| A2), by omega, ?_⟩
      exact ⟨k + 1, _, _, by omega, AX, by rw [DE hck]; exact ho, (fun j hj => by rcases Nat.lt_succ_iff_lt_or_eq.1 hj with hj | rfl; exact hno j hj; exact htk), rfl⟩
     refine Ah rfl rfl Aa (.inl (congrArg Value.bool (dF h3))) rfl <| Ah rfl rfl Aa (.inl (congrArg Value.bool (dF h3))) rfl <| Ah rfl rfl Aa (.inl (congrArg Value.bool (dF h3))) rfl <| Ah rfl rfl Aa (.inl (congrArg Value.bool (dF h3))) rfl <| Ag rfl (As Aa (dF h3) Aa) <| Aw (Af 1) <| Ad Aa rfl ?_
     have hck : cutB c.book t u k = false := by unfold cutB; simp [h3]
     refine Al <| A0 (A0 (Ab ?_))
     refine AQ (.inr (by kernel_rfl)) (fun _ _ h => h) fun ds => Ag rfl (AG Aa Aa rfl (by omega) (by omega)) <| Aj (Af 1) <| Ao ?_
     refine Ab ⟨_, m - 1, Off.eq (DT rfl <| BM rfl <| A2), by omega, ?_⟩
     exact ⟨k + 1, _, _, by omega, AX, by rw [DE hck]; exact ho, (fun j hj => by rcases Nat.lt_succ_iff_lt_or_eq.1 hj with hj | rfl; exact hno j hj; exact htk), rfl⟩
    have htk : twB t u k = false := by unfold twB; simp [h1]
    refine AQ (.inr (by kernel_rfl)) (fun _ _ h => h) fun ds => Aj (Af 2) <| Ag rfl (BG E7 Aa Aa (i := 1) rfl (E8 (by omega) (by omega)) hZ1) <| Aj (Af 2) <| Ah rfl rfl Aa (.inl (congrArg Value.bool (dF h1))) rfl <| Ah rfl rfl Aa (.inl (congrArg Value.bool (dF h1))) rfl <| Ah rfl rfl Aa (.inl (congrArg Value.bool (dF h1))) rfl <| Ah rfl rfl Aa (.inl (congrArg Value.bool (dF h1))) rfl <| Ag rfl (As Aa (dF h1) Aa) <| Aw (Af 1) <| Ad Aa rfl <| Ac <| AQ (.inr (by kernel_rfl)) (fun _ _ h => h) fun ds => Aj (Af 2) <| Ag rfl (BG E7 Aa Aa (i := 1) rfl (E8 (by omega) (by omega)) hZ1) <| Aj (Af 2) <| Ah rfl rfl Aa (.inl (congrArg Value.bool (dF h1))) rfl <| Ah rfl rfl Aa (.inl (congrArg Value.bool (dF h1))) rfl <| Ag rfl (As Aa (dF h1) Aa) <| Aj (Af 1) <| Ah rfl rfl Aa (.inl (congrArg Value.bool rfl)) rfl <| Ah rfl rfl Aa (.inl (congrArg Value.bool rfl)) rfl <| Ah rfl rfl Aa (.inl (congrArg Value.bool rfl)) rfl <| Ah rfl rfl Aa (.inl (congrArg Value.bool rfl)) rfl <| Ag rfl (As Aa rfl C4) <| Aw (Af 1) <| Ad Aa rfl ?_
    have hck : cutB c.book t u k = false := by unfold cutB; simp [h1]
    refine Al <| A0 (A0 (Ab ?_))
    refine AQ (.inr (by kernel_rfl)) (fun _ _ h => h) fun ds => Ag rfl (AG Aa Aa rfl (by omega) (by omega)) <| Aj (Af 1) <| Ao ?_
    refine Ab ⟨_, m - 1, Off.eq (DT rfl <| BM rfl <| A2), by omega, ?_⟩
    exact ⟨k + 1, _, _, by omega, AX, by rw [DE hck]; exact ho, (fun j hj => by rcases Nat.lt_succ_iff_lt_or_eq.1 hj with hj | rfl; exact hno j hj; exact htk), rfl⟩
   refine Ac <| AQ (.inr (by kernel_rfl)) (fun _ _ h => h) fun ds => Aw (Af 1) <| Ac <| Ad Aa (by first | rfl | exact dF (by omega)) ?_
   obtain rfl : k = (allQ c.book).length := by omega
   subst hoL2
   refine AH ?_
   refine A8 <| A8 <| AB <| A0 <| Sc (.one (.next <| .next <| .here) <| .blk (.next <| .next <| .next <| .next <| .next <| .next <| .next <| .here) <| .one (.next <| .next <| .here) <| .one (.next <| .next <| .here) <| .one (.next <| .next <| .here) <| .one (.next <| .next <| .here) <| .one (.next <| .next <| .here) <| .blk (.next <| .next <| .here) <| .lastb (.next <| .next <| .last)) ?_
   refine .inl ⟨rfl, _, rfl, hle2, ⟨_, rfl, ?_⟩⟩
   exact ⟨_, _, rfl, ho, fun _ => tw_no hno⟩
  ·replace hle1 := hle1.mono hF2
   obtain ⟨rfl, htw, R6, rfl⟩ := hJ
   obtain rfl := Obj.loop.inj hoL
   refine At <| A7 <| A7 <| TU (.one (.here) <| .one (.here) <| .blk (.next <| .next <| .next <| .here) <| .one (.next <| .here) <| .one (.next <| .here) <| .lastb (.next <| .last)) ?_
   refine .inr ⟨rfl, _, _, rfl, hle1, ⟨_, rfl, ?_⟩⟩
   exact ⟨rfl, htw, _, rfl⟩
  replace hle1 := hle1.mono hF2
  obtain ⟨v6, R6, rfl, ho6, hnt⟩ := hJ
  rw [hcu] at ho6 hnt
  obtain rfl := Obj.loop.inj hoL
  refine A0 <| A0 <| C3 (.one (.here) <| .one (.here) <| .blk (.next <| .next <| .next <| .here) <| .one (.next <| .here) <| .one (.next <| .here) <| .lastb (.next <| .last)) ?_
  refine .inl ⟨rfl, _, rfl, hle1, ⟨_, rfl, ?_⟩⟩
  exact ⟨_, _, rfl, ho6, fun _ => hnt (by simp)⟩
 ·obtain ⟨rfl, htw, R6, rfl⟩ := hJ
  refine At <| A7 <| Ax <| Ap rfl (.one Bq Aa (Cell.own 0 rfl rfl) (.one PR Aa (Cell.own 1 rfl rfl) .nil)) ?_
  unfold divE divL
  rw [if_pos htw, if_pos htw]
  exact ⟨_, rfl, Sl.nil⟩
 obtain ⟨v6, R6, rfl, ho6, hnt⟩ := hJ
 rw [hct] at ho6 hnt
 have htw := hnt (by simp)
 refine A0 <| Ab <| Ac <| BJ (σ := ⟨_, _⟩) (by rfl) ho6 (.s <| .s <| .z) .last fun F40 hF41 hz42 => ?_
 have hU290 := Heap.le_trans hF2 hF41
 have g6 := ho6.sl (fun _ => rfl) hz42 (by have := DF (p := cutB c.book t u) (n := (allQ c.book).length); exact Nat.lt_of_le_of_lt this (by omega))
 refine Am fun ds => Aj (Af 1) <| AS <| Bf Dg Aa Aa (i := 0) rfl (.here) (by first | rfl | exact g6.plain.one) (.here) <| AS <| Bf QG Aa Aa (i := 1) rfl (.here) (by first | rfl | exact g6.plain.one) (.next <| .here) <| Ao <| Ab <| At <| Ap rfl (.one Bq Aa (Cell.own 0 rfl rfl) (.one PR Aa (Cell.own 1 rfl rfl) .nil)) ?_
 unfold divE divL
 rw [if_neg (by rw [htw]; simp), if_neg (by rw [htw]; simp)]
 exact ⟨_, rfl, g6⟩
end
section
open Go.RowKit
def itemsL (l : List Int) : List (List Int) := l.map fun z => if 0 ≤ z then [z] else []
theorem Qf {l : List Int} {k : Nat} (hk : k < l.length) (h : 0 ≤ l[k]) : itemsL (l.take (k + 1)) = itemsL (l.take k) ++ [[l[k]]] := by
 rw [List.take_succ_eq_append_getElem hk]; unfold itemsL; rw [List.map_append]; simp [h]
theorem SC {l : List Int} {k : Nat} (hk : k < l.length) (h : ¬ 0 ≤ l[k]) : itemsL (l.take (k + 1)) = itemsL (l.take k) ++ [[]] := by
 rw [List.take_succ_eq_append_getElem hk]; unfold itemsL; rw [List.map_append]; simp [h]
theorem JT {F : Heap} {is : List (Go.Value × List Int)} {x : Go.Value × List Int} (h : ∀ y ∈ is, Ints F y.1 y.2) (hx : Ints F x.1 x.2) : ∀ y ∈ is ++ [x], Ints F y.1 y.2 := fun y hy => by
 rcases List.mem_append.1 hy with h1 | h1
 · exact h y h1
 rw [List.mem_singleton] at h1; subst h1; exact hx
def bookX : Qbk := ⟨0, [⟨⟨1, 0⟩, 4, []⟩, ⟨⟨1, 1⟩, 4, []⟩]⟩
def qsX : List (Go.Value × Gth) := [(.slice none 0 0, ⟨⟨1, 0⟩, 4, []⟩), (.slice none 0 0, ⟨⟨1, 1⟩, 4, []⟩)]
theorem Mv {F : Heap} {v : Go.Value} (h : Sl F v 4 gE qsX) : QbkR F v qsX bookX := ⟨h, fun x hx => by
 simp only [qsX, List.mem_cons, List.not_mem_nil, or_false] at hx
 rcases hx with rfl | rfl <;> exact Sl.nil, rfl⟩
def itemB (n : Int) (x : List Int) : Bool := decide (x.length ≤ 4) && ((x.all fun z => decide (0 ≤ z) && decide (z ≤ n - 1)) && ((List.range x.length).all fun j => decide (j = 0) || decide (zAt x (j - 1) < zAt x j)))
theorem UE {n : Int} {x : List Int} (h : itemB n x = true) : ItemOk n x := by
 unfold itemB at h
 rw [Bool.and_eq_true, Bool.and_eq_true] at h
 obtain ⟨h1, h2, h3⟩ := h
 refine ⟨of_decide_eq_true h1, fun j hj => ?_, fun j hj h0 => ?_⟩
 · have := List.all_eq_true.1 h2 x[j] (List.getElem_mem hj)
   rw [Bool.and_eq_true] at this
   exact ⟨of_decide_eq_true this.1, of_decide_eq_true this.2⟩
 have := List.all_eq_true.1 h3 j (List.mem_range.2 hj)
 rw [Bool.or_eq_true] at this
 have h4 := of_decide_eq_true (this.resolve_left (by simp; omega))
 rw [Md hj, Md (show j - 1 < x.length by omega)]
 exact h4
def validB (c : Cpc) : Bool := decide ((checkR1 c.book).2.2 = 0) && (decide ((allQ c.book).length ≤ 120) && (decide (c.items.length ≤ 120) && ((c.items.all (itemB c.n)) && decide (doubts c.items ≤ 3))))
theorem Fb {c : Cpc} (h : validB c = true) : ValidC c := by
 unfold validB at h
 rw [Bool.and_eq_true, Bool.and_eq_true, Bool.and_eq_true, Bool.and_eq_true] at h
 obtain ⟨h1, h2, h3, h4, h5⟩ := h
 exact ⟨Mo (of_decide_eq_true h1), of_decide_eq_true h2, of_decide_eq_true h3, fun x hx => UE (List.all_eq_true.1 h4 x hx), of_decide_eq_true h5⟩
def copX : Cpc := ⟨bookX, itemsL [4, 5, -1, 0, 1, 3, 1] ++ [[6, 7]]⟩
def copA : Cpc := ⟨bookX, itemsL [0, 1]⟩
def copB : Cpc := ⟨bookX, itemsL [2, 3, 4]⟩
def copO : Cpc := ⟨bookX, itemsL [0]⟩
def copL : Cpc := ⟨bookX, itemsL [0, 3, 4, 5, 6, 7]⟩
theorem vX : ValidC copX := Fb (by kernel_rfl)
theorem vA : ValidC copA := Fb (by kernel_rfl)
theorem vB : ValidC copB := Fb (by kernel_rfl)
theorem vO : ValidC copO := Fb (by kernel_rfl)
theorem vL : ValidC copL := Fb (by kernel_rfl)
def tX : List Int := [4, 5, -1, 0, 1, 3, 1, 6]
theorem T0 : bestT copX (truC copX) = some tX := by kernel_rfl
theorem x_lost : lostL copX tX = [2, 7] := by kernel_rfl
theorem Tx : piecesC copX tX = 2 := by kernel_rfl
theorem RG : strangeL copX tX = [2] := by kernel_rfl
theorem x_twice : twiceL copX tX = [6] := by kernel_rfl
theorem x_moved : movedC copX tX = [3] := by kernel_rfl
theorem x_all : allZ copX tX = 5 := by kernel_rfl
theorem x_wide : wideC copX = (5, 5) := by kernel_rfl
theorem x_sureL : sureT (lostL copX) (truC copX) (allQ copX.book).length = [2] := by kernel_rfl
theorem x_mayL : mayT (lostL copX) (truC copX) (allQ copX.book).length = [2, 6, 7] := by kernel_rfl
theorem x_sureO : sureT (looseL copX) (truC copX) (allQ copX.book).length = [1] := by kernel_rfl
theorem x_mayO : mayT (looseL copX) (truC copX) (allQ copX.book).length = [1, 4, 5] := by kernel_rfl
theorem x_bound : boundL copX tX = [3, 4, 5, 0, 1, 7] := by kernel_rfl
theorem x_ask : askC copX = (7, 0) := by kernel_rfl
theorem x_truA : truC copA = [[0, 1]] := by kernel_rfl
theorem x_truB : truC copB = [[2, 3, 4]] := by kernel_rfl
theorem Tv : truC copO = [[0]] := by kernel_rfl
theorem x_divL : divL bookX [0, 1] [2, 3, 4] = [0, 1] := by kernel_rfl
theorem x_divE : divE bookX [0, 1] [2, 3, 4] = 0 := by kernel_rfl
theorem x_divO : divE bookX [0] [0] = 5 := by kernel_rfl
def tL : List Int := [0, 3, 4, 5, 6, 7]
theorem l_best : bestT copL (truC copL) = some tL := by kernel_rfl
theorem UC : piecesC copL tL = 1 := by kernel_rfl
theorem l_all : allZ copL tL = 1 := by kernel_rfl
theorem GJ {is : List (Go.Value × List Int)} {l : List Int} (h : is.map (·.2) = itemsL l) : ∀ x ∈ is, x.2.length ≤ 1 := fun x hx => by
 have h1 : x.2 ∈ itemsL l := by rw [← h]; exact List.mem_map_of_mem hx
 unfold itemsL at h1
 obtain ⟨z, -, h2⟩ := List.mem_map.1 h1
 rw [← h2]
 split <;> simp
end
section
set_option maxRecDepth 100000
open Go.RowKit
theorem zr_24 : ZeroT Tryz.prog 24 (.agg #[.int .i64 0, .slice none 0 0]) := Br (by kernel_rfl)
theorem Vt : BuildT Tryz.prog 114 [.int .i64 0, .int .i64 0] [(0, 1), (1, 1)] := BD Tt (by kernel_rfl) (by decide)
theorem Vs : BuildT Tryz.prog 117 [.int .i64 0, .int .i64 0, .int .i64 0, .slice none 0 0] [(0, 2), (2, 1), (3, 1)] := BD J2 (by kernel_rfl) (by decide)
theorem bt_24 : BuildT Tryz.prog 24 [.int .i64 0, .slice none 0 0] [(0, 1), (1, 1)] := BD zr_24 (by kernel_rfl) (by decide)
theorem Vq : BuildT Tryz.prog 66 [.slice none 0 0] [(0, 1)] := BD HH (by kernel_rfl) (by decide)
theorem sz_24 : SizeT Tryz.prog 24 2 := Bx (by kernel_rfl)
theorem Vw {F : Heap} {b T : Nat} (h : F b = some (bx T ((qsX : List (Value × Gth)).flatMap gE))) : Sl F (.slice (some ⟨b, 0, none⟩) 2 2) 4 gE qsX := Cw h rfl rfl (fun _ => rfl) (by decide)
theorem TJ {F : Heap} (a b : Int) : Ok Tryz.prog 31 [.int .i64 a, .int .i64 b].toArray F fun u _ => u = .agg #[.int .i64 a, .int .i64 b] := by
 refine Ok.intro Tryz.func31 rfl Tryz.ntmps31 rfl fun w0 => Ac <| Am fun ds => A5 rfl <| AO JY rfl fun b1 hb1 nb1 => Ao <| Ab <| Az (Af 2) fun ds => Ag rfl (Bm Ps (.cons Aa rfl (.cons Aa rfl .nil)) (.cons rfl rfl (Nat.le_of_ble_eq_true rfl) (.cons (.here) .nil) (.cons rfl rfl (Nat.le_of_ble_eq_true rfl) (.cons (.next <| .here) .nil) .nil))) <| AS <| AP Kd Aa Aa (i := 0) rfl rfl rfl rfl (by simp [Value.oneCell']) (.here) <| Ao <| Ab <| At <| Ap rfl (.agg Gy Aa rfl rfl (Bz 0 rfl) .nil) ?_
 rfl
theorem Jt {F : Heap} : Ok Tryz.prog 28 [].toArray F fun u F' => ∃ vg, u = .agg #[.int .i64 0, vg] ∧ Sl F' vg 4 gE qsX := by
 refine Ok.intro Tryz.func28 rfl Tryz.ntmps28 rfl fun w0 => Ac <| Am fun ds => A5 rfl <| AO zr_24 rfl fun b1 hb1 nb1 => Ao <| Ab <| Ac <| Am fun ds => Ag rfl (Bm Vt (.cons Aa rfl .nil) (.cons rfl rfl (Nat.le_of_ble_eq_true rfl) (.cons (.here) .nil) .nil)) <| Ag rfl (Bm Vs (.cons Aa rfl (.cons Aa rfl .nil)) (.cons rfl rfl (Nat.le_of_ble_eq_true rfl) (.cons (.here) (.cons (.next <| .here) .nil)) (.cons rfl rfl (Nat.le_of_ble_eq_true rfl) (.cons (.next <| .next <| .here) .nil) .nil))) <| Ag rfl (Bm Vt (.cons Aa rfl (.cons Aa rfl .nil)) (.cons rfl rfl (Nat.le_of_ble_eq_true rfl) (.cons (.here) .nil) (.cons rfl rfl (Nat.le_of_ble_eq_true rfl) (.cons (.next <| .here) .nil) .nil))) <| Ag rfl (Bm Vs (.cons Aa rfl (.cons Aa rfl .nil)) (.cons rfl rfl (Nat.le_of_ble_eq_true rfl) (.cons (.here) (.cons (.next <| .here) .nil)) (.cons rfl rfl (Nat.le_of_ble_eq_true rfl) (.cons (.next <| .next <| .here) .nil) .nil))) <| A5 rfl <| B5 (offs := [(0, 4), (4, 4)]) (zl := [.int .i64 0, .int .i64 0, .int .i64 0, .slice none 0 0, .int .i64 0, .int .i64 0, .int .i64 0, .slice none 0 0]) Dy J2 rfl (.cons Aa rfl (.cons Aa rfl .nil)) (by intro i p h; rcases i with _ | _ | i <;> simp at h <;> subst h <;> rfl) (.cons rfl rfl (Nat.le_of_ble_eq_true rfl) (.cons (.here) (.cons (.next <| .here) (.cons (.next <| .next <| .here) (.cons (.next <| .next <| .next <| .here) .nil)))) (.cons rfl rfl (Nat.le_of_ble_eq_true rfl) (.cons (.next <| .next <| .next <| .next <| .here) (.cons (.next <| .next <| .next <| .next <| .next <| .here) (.cons (.next <| .next <| .next <| .next <| .next <| .next <| .here) (.cons (.next <| .next <| .next <| .next <| .next <| .next <| .next <| .here) .nil)))) .nil)) (by decide) (by decide) fun b2 hb2 nb2 => ?_
 refine AJ (i := 0) rfl hb2 .here fun F3 hF4 hz5 => ?_
 have hsl6 := Vw hz5
 refine Ag rfl (Bm bt_24 (.cons Aa rfl .nil) (.cons rfl rfl (Nat.le_of_ble_eq_true rfl) (.cons (.next <| .here) .nil) .nil)) <| AS <| AP sz_24 Aa Aa (i := 0) rfl rfl rfl rfl (by simp [Value.oneCell']) (.here) <| Ao <| Ab <| At <| Ap rfl (.agg CY Aa rfl rfl (Bz 0 rfl) .nil) ?_
 exact ⟨_, rfl, hsl6⟩
theorem DI {F : Heap} {vl : Value} {l : List Int} (h : Ints F vl l) (hl : l.length ≤ 20) : OkN Tryz.prog 29 [vl].toArray F fun u F' Hn => ∃ is : List (Value × List Int), Own 66 1 u (is).length ((is).flatMap itE) Hn ∧ (∀ x ∈ is, Ints F' x.1 x.2) ∧ is.map (·.2) = itemsL l := by
 have hL1 := h.plain.lt
 refine OkN.intro Tryz.func29 rfl Tryz.ntmps29 rfl fun w0 => AD (Af 1) <| AD (Af 1) <| Ac <| AD (Af 1) <| Aq ?_
 refine AL [3, 4, 5, 6, 7, 8, 9, 10, 11, 12, 13, 14, 15, 16, 17, 18, 19, 20, 21, 22, 23, 24, 25, 26, 27] (fun m e σ => ∃ (G : Heap) (k : Nat) (v : Value) (R : List (Nat × Obj)) (is : List (Value × List Int)), F.le G ∧ m + k = l.length ∧ Fct e 4 (.int .i64 (k : Int)) ∧ Fct e 3 v ∧ Own 66 1 v (is).length ((is).flatMap itE) R ∧ (∀ x ∈ is, Ints G x.1 x.2) ∧ is.map (·.2) = itemsL (l.take k) ∧ is.length = k ∧ σ = ⟨G, R⟩) (l.length) ?_ ?_
 · exact ⟨_, 0, _, [], [], Heap.le_refl _, by omega, AX, AX, BZ, (fun x hx => nomatch hx), by rw [List.take_zero]; rfl, rfl, rfl⟩
 rintro m e _ ⟨G, k, v3, R3, is, hG, hm, hs4, hs3, ho, hall, hmp, hil, rfl⟩; replace h := h.mono hG
 by_cases hk : k < l.length
 ·refine Ac <| Az (Af 2) fun ds => Ag rfl (A4 A9 Aa h.plain) <| Aw (Af 1) <| Ai Aa (by first | rfl | exact dT (by omega)) ?_
  by_cases h0 : 0 ≤ l[k]
  ·refine Al <| Ab <| Ac <| Aq <| Ac <| Am fun ds => Ag rfl (Bm Vq .nil .nil) <| A5 rfl <| AO HH rfl fun b2 hb2 nb2 => AS <| AP Oo Aa Aa (i := 0) rfl rfl rfl rfl (by simp [Value.oneCell']) (.here) <| Ao <| Ab <| Ac <| Az (Af 2) fun ds => Ag rfl (A1 (k := k) A9 Aa h.plain Aa rfl hk) <| Ag rfl (Ak AF Aa (h.cell1 hk rfl)) <| Aw (Af 1) <| Ai Aa (dT h0) <| Am fun ds => Aj (Af 2) <| Ag rfl (A1 (k := k) A9 Aa h.plain Aa rfl hk) <| Ag rfl (Ak AF Aa (h.cell1 hk rfl)) <| A5 rfl <| AM A9 B2 rfl (.cons Aa .nil) rfl rfl (by decide) (by simp [Value.oneCell']) fun b3 hb3 nb3 => AJ (i := 0) rfl hb3 .here fun F4 hF5 hz6 => ?_
   replace h := h.mono hF5
   replace hG := Heap.le_trans hG hF5
   replace hall := fun x hx => (hall x hx).mono hF5
   have hsl7 := Bh hz6
   refine Aj (Af 1) <| AS <| Bf Dg Aa Aa (i := 0) rfl (.here) rfl (.here) <| Ao <| Ab ?_
   have hal2 := JT (x := (_, [l[k]])) hall hsl7
   have hmp2 : (is ++ [(((.slice (some ⟨b3, 0, none⟩) 1 1 : Value), [l[k]]) : Value × List Int)]).map (·.2) = itemsL (l.take (k + 1)) := by rw [Qf hk h0, List.map_append, hmp]; rfl
   refine Am fun ds => Aj (Af 2) <| A5 rfl <| B5 (offs := [(0, 1)]) (zl := [.slice none 0 0]) Cj HH rfl (.cons Aa rfl .nil) (by intro i p h; rcases i with _ | i <;> simp at h <;> subst h <;> rfl) (.cons rfl rfl (Nat.le_of_ble_eq_true rfl) (.cons (.here) .nil) .nil) (by decide) (by decide) fun b8 hb8 nb8 => A5 rfl <| Bp Cj Rj Aa ho Aa (B1 (s := 1) 0 rfl rfl (by simp [Value.oneCell'])) (by omega) (by omega) (.s <| .s <| .z) .last fun v9 R10 ho11 => ?_
   have ho2 : Own 66 1 v9 (is ++ [(((.slice (some ⟨b3, 0, none⟩) 1 1 : Value) : Value), ([l[k]] : List Int))]).length ((is ++ [(((.slice (some ⟨b3, 0, none⟩) 1 1 : Value) : Value), ([l[k]] : List Int))]).flatMap itE) R10 := Own.snoc (x := (((.slice (some ⟨b3, 0, none⟩) 1 1 : Value) : Value), ([l[k]] : List Int))) ho11 rfl rfl
   refine Aj (Af 1) <| Ao <| A0 <| Ab <| Bn (fun _ _ h => h.drop (kD <| kD <| .refl _)) <| Am fun ds => Aj (Af 1) <| Ag rfl (AG Aa Aa rfl (by omega) (by omega)) <| Aj (Af 1) <| Ao ?_
   refine Ab ⟨_, m - 1, Off.eq (B3 rfl <| BR rfl <| BX rfl <| A2), by omega, ?_⟩
   exact ⟨_, k + 1, _, _, _, hG, by omega, AX, AX, ho2, hal2, hmp2, by simp [hil], rfl⟩
  refine Al <| Ab <| Ac <| Aq <| Ac <| Am fun ds => Ag rfl (Bm Vq .nil .nil) <| A5 rfl <| AO HH rfl fun b12 hb12 nb12 => AS <| AP Oo Aa Aa (i := 0) rfl rfl rfl rfl (by simp [Value.oneCell']) (.here) <| Ao <| Ab <| Ac <| Az (Af 2) fun ds => Ag rfl (A1 (k := k) A9 Aa h.plain Aa rfl hk) <| Ag rfl (Ak AF Aa (h.cell1 hk rfl)) <| Aw (Af 1) <| Ad Aa (dF h0) <| Al <| Ab ?_
  have hal2 := JT (x := ((.slice none 0 0 : Value), ([] : List Int))) hall Sl.nil
  have hmp2 : (is ++ [((.slice none 0 0, []) : Value × List Int)]).map (·.2) = itemsL (l.take (k + 1)) := by rw [SC hk h0, List.map_append, hmp]; rfl
  refine Am fun ds => Aj (Af 2) <| A5 rfl <| B5 (offs := [(0, 1)]) (zl := [.slice none 0 0]) Cj HH rfl (.cons Aa rfl .nil) (by intro i p h; rcases i with _ | i <;> simp at h <;> subst h <;> rfl) (.cons rfl rfl (Nat.le_of_ble_eq_true rfl) (.cons (.here) .nil) .nil) (by decide) (by decide) fun b13 hb13 nb13 => A5 rfl <| Bp Cj Rj Aa ho Aa (B1 (s := 1) 0 rfl rfl (by simp [Value.oneCell'])) (by omega) (by omega) (.s <| .s <| .z) .last fun v14 R15 ho16 => ?_
  have ho2 : Own 66 1 v14 (is ++ [((.slice none 0 0 : Value), ([] : List Int))]).length ((is ++ [((.slice none 0 0 : Value), ([] : List Int))]).flatMap itE) R15 := Own.snoc (x := ((.slice none 0 0 : Value), ([] : List Int))) ho16 rfl rfl
  refine Aj (Af 1) <| Ao <| A0 <| Ab <| Bn (fun _ _ h => h.drop (kD <| kD <| .refl _)) <| Am fun ds => Aj (Af 1) <| Ag rfl (AG Aa Aa rfl (by omega) (by omega)) <| Aj (Af 1) <| Ao ?_
  refine Ab ⟨_, m - 1, Off.eq (B3 rfl <| BM rfl <| BX rfl <| A2), by omega, ?_⟩
  exact ⟨_, k + 1, _, _, _, hG, by omega, AX, AX, ho2, hal2, hmp2, by simp [hil], rfl⟩
 refine Ac <| Az (Af 2) fun ds => Ag rfl (A4 A9 Aa h.plain) <| Aw (Af 1) <| Ad Aa (by first | rfl | exact dF (by omega)) ?_
 obtain rfl : k = l.length := by omega
 rw [List.take_length] at hmp
 refine AH ?_
 refine A8 <| A8 <| AB <| Ab <| AD (Af 2) <| At <| BK rfl Bd (.refl _) ?_
 exact ⟨is, ho, hall, hmp⟩
theorem TR {F : Heap} {v0 v1 v3 v4 v5 u0 u1 u3 u4 u5 : Value} {l0 l1 l3 l4 l5 : List Int} {p a : Int} (h0 : Ints F v0 l0) (g0 : Ints F u0 l0) (h1 : Ints F v1 l1) (g1 : Ints F u1 l1) (h3 : Ints F v3 l3) (g3 : Ints F u3 l3) (h4 : Ints F v4 l4) (g4 : Ints F u4 l4) (h5 : Ints F v5 l5) (g5 : Ints F u5 l5) : Ok Tryz.prog 30 [.agg #[v0, v1, .int .i64 p, v3, v4, v5, .int .i64 a], .agg #[u0, u1, .int .i64 p, u3, u4, u5, .int .i64 a]].toArray F fun r _ => r = .bool true := by
 refine Ok.intro Tryz.func30 rfl Tryz.ntmps30 rfl fun w0 => Ac <| Am fun ds => A5 rfl <| Bg Aa rfl fun b1 hb1 nb1 => A5 rfl <| Bg Aa rfl fun b2 hb2 nb2 => Aw (Af 1) <| Ac <| AK (i := 1) rfl hb1 (.next <| .here) fun F3 hF4 hz2 => ?_
 refine AK (i := 0) rfl hb2 (.here) fun F5 hF6 hz3 => ?_
 have hU86 := Heap.le_trans hF4 hF6
 replace h0 := h0.mono hU86
 replace h1 := h1.mono hU86
 replace h3 := h3.mono hU86
 replace h4 := h4.mono hU86
 replace h5 := h5.mono hU86
 replace g0 := g0.mono hU86
 replace g1 := g1.mono hU86
 replace g3 := g3.mono hU86
 replace g4 := g4.mono hU86
 replace g5 := g5.mono hU86
 replace hz2 := hF6 _ _ hz2
 refine Am fun ds => Aj (Af 1) <| Ag rfl (Ak Bq Aa (AA hz2 rfl)) <| Aj (Af 1) <| Ag rfl (Ak Bq Aa (AA hz3 rfl)) <| AN rfl (Ay Dj Aa AW (BH h0 g0) (fun _ _ h => h)) <| Aj (Af 1) <| Ae rfl rfl Aa (dT rfl) <| Aj (Af 1) <| Ae rfl rfl Aa (dT rfl) <| Ag rfl (Ak Bq Aa (AA hz2 rfl)) <| Ae rfl rfl Aa (dT rfl) <| Aj (Af 1) <| Ae rfl rfl Aa (dT rfl) <| Ag rfl (Ak Bq Aa (AA hz3 rfl)) <| Ae rfl rfl Aa (dT rfl) <| AN rfl (Ay Dj Aa AW (BH h1 g1) (fun _ _ h => h)) <| Ag rfl (Ar Aa (dT rfl) Aa) <| Aj (Af 1) <| Ae rfl rfl Aa (dT rfl) <| Aj (Af 1) <| Ae rfl rfl Aa (dT rfl) <| Ag rfl (Ak AF Aa (AA hz2 rfl)) <| Ae rfl rfl Aa (dT rfl) <| Aj (Af 1) <| Ae rfl rfl Aa (dT rfl) <| Ag rfl (Ak AF Aa (AA hz3 rfl)) <| Ae rfl rfl Aa (dT rfl) <| Aj (Af 1) <| Ag rfl (Ar Aa (dT rfl) Aa) <| Aj (Af 1) <| Ae rfl rfl Aa (dT rfl) <| Aj (Af 1) <| Ae rfl rfl Aa (dT rfl) <| Ag rfl (Ak Bq Aa (AA hz2 rfl)) <| Ae rfl rfl Aa (dT rfl) <| Aj (Af 1) <| Ae rfl rfl Aa (dT rfl) <| Ag rfl (Ak Bq Aa (AA hz3 rfl)) <| Ae rfl rfl Aa (dT rfl) ?_
 refine AN rfl (Ay Dj Aa AW (BH h3 g3) (fun _ _ h => h)) <| Ag rfl (Ar Aa (dT rfl) Aa) <| Aj (Af 1) <| Ae rfl rfl Aa (dT rfl) <| Aj (Af 1) <| Ae rfl rfl Aa (dT rfl) <| Ag rfl (Ak Bq Aa (AA hz2 rfl)) <| Ae rfl rfl Aa (dT rfl) <| Aj (Af 1) <| Ae rfl rfl Aa (dT rfl) <| Ag rfl (Ak Bq Aa (AA hz3 rfl)) <| Ae rfl rfl Aa (dT rfl) <| AN rfl (Ay Dj Aa AW (BH h4 g4) (fun _ _ h => h)) <| Ag rfl (Ar Aa (dT rfl) Aa) <| Aj (Af 1) <| Ae rfl rfl Aa (dT rfl) <| Aj (Af 1) <| Ae rfl rfl Aa (dT rfl) <| Ag rfl (Ak Bq Aa (AA hz2 rfl)) <| Ae rfl rfl Aa (dT rfl) <| Aj (Af 1) <| Ae rfl rfl Aa (dT rfl) <| Ag rfl (Ak Bq Aa (AA hz3 rfl)) <| Ae rfl rfl Aa (dT rfl) <| AN rfl (Ay Dj Aa AW (BH h5 g5) (fun _ _ h => h)) <| Ag rfl (Ar Aa (dT rfl) Aa) <| Aj (Af 1) <| Ae rfl rfl Aa (dT rfl) <| Aj (Af 1) <| Ae rfl rfl Aa (dT rfl) <| Ag rfl (Ak AF Aa (AA hz2 rfl)) <| Ae rfl rfl Aa (dT rfl) <| Aj (Af 1) <| Ae rfl rfl Aa (dT rfl) <| Ag rfl (Ak AF Aa (AA hz3 rfl)) <| Ae rfl rfl Aa (dT rfl) <| Aj (Af 1) <| Ag rfl (Ar Aa (dT rfl) Aa) ?_
 refine Aw (Af 1) <| At <| Ap rfl Bd ?_
 exact congrArg Value.bool (dT rfl)
end
section
set_option maxRecDepth 100000
open Go.RowKit
theorem RC : Body Tryz.prog 28 := AE (by kernel_rfl)
theorem Nj : Body Tryz.prog 29 := AE (by kernel_rfl)
theorem sz_27 : SizeT Tryz.prog 27 3 := Bx (by kernel_rfl)
theorem MD {F : Heap} {b T : Nat} {a0 a1 a2 a3 a4 a5 : Int} (h : F b = some (bx T [.int .i64 a0, .int .i64 a1, .int .i64 a2, .int .i64 a3, .int .i64 a4, .int .i64 a5])) : Ints F (.slice (some ⟨b, 0, none⟩) 6 6) [a0, a1, a2, a3, a4, a5] := Gi (xs := [a0, a1, a2, a3, a4, a5]) h rfl (by decide) (by decide)
theorem SF {F : Heap} {b T : Nat} {a0 a1 a2 a3 a4 a5 a6 : Int} (h : F b = some (bx T [.int .i64 a0, .int .i64 a1, .int .i64 a2, .int .i64 a3, .int .i64 a4, .int .i64 a5, .int .i64 a6])) : Ints F (.slice (some ⟨b, 0, none⟩) 7 7) [a0, a1, a2, a3, a4, a5, a6] := Gi (xs := [a0, a1, a2, a3, a4, a5, a6]) h rfl (by decide) (by decide)
theorem SE {F : Heap} {b T : Nat} {a0 a1 a2 a3 a4 a5 a6 a7 : Int} (h : F b = some (bx T [.int .i64 a0, .int .i64 a1, .int .i64 a2, .int .i64 a3, .int .i64 a4, .int .i64 a5, .int .i64 a6, .int .i64 a7])) : Ints F (.slice (some ⟨b, 0, none⟩) 8 8) [a0, a1, a2, a3, a4, a5, a6, a7] := Gi (xs := [a0, a1, a2, a3, a4, a5, a6, a7]) h rfl (by decide) (by decide)
theorem Vp {F : Heap} : Ok Tryz.prog 21 [].toArray F fun u F' => ∃ (vg vi : Value) (is : List (Value × List Int)), u = .agg #[.int .i64 0, vg, vi] ∧ CpcR F' vg qsX vi is copX := by
 refine Ok.intro Tryz.func21 rfl Tryz.ntmps21 rfl fun w0 => Ac <| Am fun ds => A5 rfl <| AO Tr rfl fun b1 hb1 nb1 => Ao <| Ab <| Ac <| Am fun ds => A5 rfl <| Bi RC Aa .nil Jt fun v2 F3 hr4 hF5 => ?_
 obtain ⟨vg, rfl, hbk⟩ := hr4
 refine A5 rfl <| AM A9 B2 rfl (.cons Aa (.cons Aa (.cons Aa (.cons Aa (.cons Aa (.cons Aa (.cons Aa .nil))))))) rfl rfl (by decide) (by simp [Value.oneCell']) fun b6 hb6 nb6 => AJ (i := 0) rfl hb6 .here fun F7 hF8 hz9 => ?_
 have hsl10 := SF hz9
 refine A5 rfl <| BY Nj Aa AW (DI hsl10 (by decide)) fun v11 F12 R15 hr13 hF14 => ?_
 obtain ⟨is, ho3, hall, hmp⟩ := hr13
 have hil : is.length = 7 := by rw [← List.length_map (f := fun x : Value × List Int => x.2), hmp]; rfl
 refine A5 rfl <| AM A9 B2 rfl (.cons Aa (.cons Aa .nil)) rfl rfl (by decide) (by simp [Value.oneCell']) fun b16 hb16 nb16 => AJ (i := 0) rfl hb16 .here fun F17 hF18 hz19 => ?_
 replace hbk := hbk.mono (Heap.le_trans hF8 (Heap.le_trans hF14 hF18))
 replace hall := fun x hx => (hall x hx).mono hF18
 have hsl20 := BW hz19
 refine Ag rfl (Bm Vq (.cons Aa rfl .nil) (.cons rfl rfl (Nat.le_of_ble_eq_true rfl) (.cons (.here) .nil) .nil)) <| A5 rfl <| B5 (offs := [(0, 1)]) (zl := [.slice none 0 0]) Cj HH rfl (.cons Aa rfl .nil) (by intro i p h; rcases i with _ | i <;> simp at h <;> subst h <;> rfl) (.cons rfl rfl (Nat.le_of_ble_eq_true rfl) (.cons (.here) .nil) .nil) (by decide) (by decide) fun b21 hb21 nb21 => A5 rfl <| Bp Cj Rj Aa ho3 Aa (B1 (s := 1) 0 rfl rfl (by simp [Value.oneCell'])) (by omega) (by omega) (.s <| .s <| .z) .last fun v22 R23 ho24 => ?_
 have ho2 : Own 66 1 v22 (is ++ [(((.slice (some ⟨b16, 0, none⟩) 2 2 : Value) : Value), ([6, 7] : List Int))]).length ((is ++ [(((.slice (some ⟨b16, 0, none⟩) 2 2 : Value) : Value), ([6, 7] : List Int))]).flatMap itE) R23 := Own.snoc (x := (((.slice (some ⟨b16, 0, none⟩) 2 2 : Value) : Value), ([6, 7] : List Int))) ho24 rfl rfl
 refine Ag rfl (Bm Rr (.cons Aa rfl (.cons Aa (B9 ho2.one) .nil)) (.cons rfl rfl (Nat.le_of_ble_eq_true rfl) (.cons (.here) (.cons (.next <| .here) .nil)) (.cons rfl rfl (Nat.le_of_ble_eq_true rfl) (.cons (.next <| .next <| .here) .nil) .nil))) <| AS <| AP sz_27 Aa Aa (i := 1) rfl rfl rfl rfl (by simp [Value.oneCell']; exact ⟨hbk.plain.one, ho2.one⟩) (.next <| .here) <| Ao <| Ab <| BJ (σ := ⟨_, _⟩) (by rfl) ho2 (.s <| .s <| .z) .last fun F25 hF26 hz27 => ?_
 replace hbk := hbk.mono hF26
 replace hsl10 := hsl10.mono (Heap.le_trans hF14 (Heap.le_trans hF18 hF26))
 replace hall := fun x hx => (hall x hx).mono hF26
 replace hsl20 := hsl20.mono hF26
 have g7 := ho2.sl (fun _ => rfl) hz27 (by simp; omega)
 refine At <| Ap rfl (.agg CP Aa rfl rfl (Bz 1 rfl) .nil) ?_
 exact ⟨vg, _, _, rfl, ⟨Mv hbk, g7, JT (x := (_, [6, 7])) hall hsl20, by rw [List.map_append, hmp]; rfl⟩⟩
end
section
set_option maxHeartbeats 4000000
set_option maxRecDepth 100000
open Go.RowKit
theorem bd_21 : Body Tryz.prog 21 := AE (by kernel_rfl)
theorem bd_23 : Body Tryz.prog 23 := AE (by kernel_rfl)
theorem bd_24 : Body Tryz.prog 24 := AE (by kernel_rfl)
theorem bd_25 : Body Tryz.prog 25 := AE (by kernel_rfl)
theorem bd_26 : Body Tryz.prog 26 := AE (by kernel_rfl)
theorem bd_27 : Body Tryz.prog 27 := AE (by kernel_rfl)
theorem bd_30 : Body Tryz.prog 30 := AE (by kernel_rfl)
theorem bd_31 : Body Tryz.prog 31 := AE (by kernel_rfl)
theorem bd_8 : Body Tryz.prog 8 := AE (by kernel_rfl)
theorem bt_75 : BuildT Tryz.prog 75 [.slice none 0 0, .slice none 0 0, .int .i64 0, .slice none 0 0, .slice none 0 0, .slice none 0 0, .int .i64 0] [(0, 1), (1, 1), (2, 1), (3, 1), (4, 1), (5, 1), (6, 1)] := BD JW (by kernel_rfl) (by decide)
theorem Ed {e : Env} {v : Value} : ev e (.const v) = v := rfl
theorem stood41 : Tryz.prog.stoodInHeld 41 = false := by kernel_rfl
theorem guard41 : Tryz.prog.eqGuardType Tryz.prog.depth 41 = false := by kernel_rfl
theorem flt_x {u : Value} {F : Heap} (h : ∃ (v0 v1 v3 v4 v5 : Value) (t : List Int), u = .tuple #[.agg (fltV v0 v1 v3 v4 v5 copX t).toArray, .int .i64 0] ∧ bestT copX (truC copX) = some t ∧ FltF F v0 v1 v3 v4 v5 copX t) :
   ∃ v0 v1 v3 v4 v5, u = .tuple #[.agg #[v0, v1, .int .i64 2, v3, v4, v5, .int .i64 5], .int .i64 0] ∧ Ints F v0 [4, 5, -1, 0, 1, 3, 1, 6] ∧ Ints F v1 [2, 7] ∧ Ints F v3 [2] ∧ Ints F v4 [6] ∧ Ints F v5 [3] := by
 obtain ⟨v0, v1, v3, v4, v5, t, rfl, hb, h⟩ := h
 obtain rfl : t = tX := Option.some.inj (hb.symm.trans T0)
 have h1 := h.lost
 have h3 := h.strange
 have h4 := h.twice
 have h5 := h.moved
 rw [x_lost] at h1
 rw [RG] at h3
 rw [x_twice] at h4
 rw [x_moved] at h5
 exact ⟨v0, v1, v3, v4, v5, by unfold fltV; rw [Tx, x_all], h.leaves, h1, h3, h4, h5⟩
theorem flt_l {u : Value} {F : Heap} (h : ∃ (v0 v1 v3 v4 v5 : Value) (t : List Int), u = .tuple #[.agg (fltV v0 v1 v3 v4 v5 copL t).toArray, .int .i64 0] ∧ bestT copL (truC copL) = some t ∧ FltF F v0 v1 v3 v4 v5 copL t) :
   ∃ v0 v1 v3 v4 v5, u = .tuple #[.agg #[v0, v1, .int .i64 1, v3, v4, v5, .int .i64 1], .int .i64 0] ∧ ∀ x ∈ [v0, v1, v3, v4, v5], x.oneCell' = true := by
 obtain ⟨v0, v1, v3, v4, v5, t, rfl, hb, h⟩ := h
 obtain rfl : t = tL := Option.some.inj (hb.symm.trans l_best)
 exact ⟨v0, v1, v3, v4, v5, by unfold fltV; rw [UC, l_all], fun x hx => by
   simp only [List.mem_cons, List.not_mem_nil, or_false] at hx
   rcases hx with rfl | rfl | rfl | rfl | rfl
   · exact h.leaves.plain.one
   · exact h.lost.plain.one
   · exact h.strange.plain.one
   · exact h.twice.plain.one
   exact h.moved.plain.one⟩
theorem two_x {u : Value} {F : Heap} {a b a2 b2 : List Int} (h : ∃ v1 v2, u = .tuple #[v1, v2, .int .i64 0] ∧ Ints F v1 a ∧ Ints F v2 b) (ha : a = a2) (hb : b = b2) : ∃ v1 v2, u = .tuple #[v1, v2, .int .i64 0] ∧ Ints F v1 a2 ∧ Ints F v2 b2 := by subst ha; subst hb; exact h
theorem bnd_x {u : Value} {F : Heap} (h : ∃ (v : Value) (t : List Int), u = .tuple #[v, .int .i64 0] ∧ bestT copX (truC copX) = some t ∧ Ints F v (boundL copX t)) : ∃ v, u = .tuple #[v, .int .i64 0] ∧ Ints F v [3, 4, 5, 0, 1, 7] := by
 obtain ⟨v, t, rfl, hb, h⟩ := h
 obtain rfl : t = tX := Option.some.inj (hb.symm.trans T0)
 rw [x_bound] at h
 exact ⟨v, rfl, h⟩
def CaseR (F : Heap) (vg vi : Value) : Prop := ∃ is, CpcR F vg qsX vi is copX
theorem CaseR.mono {F F' : Heap} {vg vi : Value} (h : CaseR F vg vi) (hF : F.le F') : CaseR F' vg vi := by obtain ⟨is, h⟩ := h; exact ⟨is, h.mono hF⟩
theorem CaseR.ones {F : Heap} {vg vi : Value} (h : CaseR F vg vi) : ∀ u ∈ [Value.int .i64 0, vg, vi], u.oneCell' = true := by obtain ⟨is, h⟩ := h; exact h.cones
section
variable {F : Heap} {vg vi vj : Value}
theorem Ta : Ok Tryz.prog 21 [].toArray F fun u F' => ∃ vg vi, u = .agg #[.int .i64 0, vg, vi] ∧ CaseR F' vg vi := Vp.mono fun u F2 _ h => by obtain ⟨vg, vi, is, h1, h2⟩ := h; exact ⟨vg, vi, h1, is, h2⟩
theorem Vm (h : CaseR F vg vi) : Ok Tryz.prog 22 [.agg #[.int .i64 0, vg, vi]].toArray F fun u F' => ∃ v0 v1 v3 v4 v5, u = .tuple #[.agg #[v0, v1, .int .i64 2, v3, v4, v5, .int .i64 5], .int .i64 0] ∧ Ints F' v0 [4, 5, -1, 0, 1, 3, 1, 6] ∧ Ints F' v1 [2, 7] ∧ Ints F' v3 [2] ∧ Ints F' v4 [6] ∧ Ints F' v5 [3] := by obtain ⟨is, h⟩ := h; exact (H4 h vX).mono fun u F2 _ h => flt_x h
theorem Vl (h : CaseR F vg vi) : Ok Tryz.prog 8 [.agg #[.int .i64 0, vg, vi]].toArray F fun u _ => u = .tuple #[.agg #[.int .i64 5, .int .i64 5], .int .i64 0] := by obtain ⟨is, h⟩ := h; exact (Mu h vX).mono fun u F2 _ h => h.trans (by rw [x_wide])
theorem SX (h : CaseR F vg vi) : Ok Tryz.prog 23 [.agg #[.int .i64 0, vg, vi]].toArray F fun u F' => ∃ v1 v2, u = .tuple #[v1, v2, .int .i64 0] ∧ Ints F' v1 [2] ∧ Ints F' v2 [2, 6, 7] := by obtain ⟨is, h⟩ := h; exact (U6 h vX).mono fun u F2 _ h => two_x h x_sureL x_mayL
theorem Qz (h : CaseR F vg vi) : Ok Tryz.prog 24 [.agg #[.int .i64 0, vg, vi]].toArray F fun u F' => ∃ v1 v2, u = .tuple #[v1, v2, .int .i64 0] ∧ Ints F' v1 [1] ∧ Ints F' v2 [1, 4, 5] := by obtain ⟨is, h⟩ := h; exact (S7 h vX).mono fun u F2 _ h => two_x h x_sureO x_mayO
theorem Q0 (h : CaseR F vg vi) : Ok Tryz.prog 25 [.agg #[.int .i64 0, vg, vi]].toArray F fun u F' => ∃ v, u = .tuple #[v, .int .i64 0] ∧ Ints F' v [3, 4, 5, 0, 1, 7] := by obtain ⟨is, h⟩ := h; exact (Vu h vX (by decide)).mono fun u F2 _ h => bnd_x h
theorem Vo (h : CaseR F vg vi) : Ok Tryz.prog 26 [.agg #[.int .i64 0, vg, vi]].toArray F fun u _ => u = .tuple #[.int .i64 7, .int .i64 0] := by obtain ⟨is, h⟩ := h; exact (ask_ok h vX).mono fun u F2 _ h => h.trans (by rw [x_ask])
theorem Vn {is js : List (Value × List Int)} (hb : Sl F vg 4 gE qsX) (h1 : Sl F vi 1 itE is) (h2 : ∀ x ∈ is, Ints F x.1 x.2) (h3 : is.map (·.2) = itemsL [0, 1]) (k1 : Sl F vj 1 itE js) (k2 : ∀ x ∈ js, Ints F x.1 x.2) (k3 : js.map (·.2) = itemsL [2, 3, 4]) :
   Ok Tryz.prog 27 [.agg #[.int .i64 0, vg], vi, vj].toArray F fun u F' => ∃ v, u = .tuple #[v, .int .i64 0] ∧ Ints F' v [0, 1] := by
 have h9 := LJ (c := copA) (ys := itemsL [2, 3, 4]) ⟨Mv hb, h1, h2, h3⟩ ⟨Mv hb, k1, k2, k3⟩ vA vB (GJ h3) (GJ k3) x_truA x_truB
 have e1 : divE copA.book [0, 1] [2, 3, 4] = 0 := x_divE
 have e2 : divL copA.book [0, 1] [2, 3, 4] = [0, 1] := x_divL
 rw [e1, e2] at h9
 exact h9
theorem SZ {is js : List (Value × List Int)} (hb : Sl F vg 4 gE qsX) (h1 : Sl F vi 1 itE is) (h2 : ∀ x ∈ is, Ints F x.1 x.2) (h3 : is.map (·.2) = itemsL [0]) (k1 : Sl F vj 1 itE js) (k2 : ∀ x ∈ js, Ints F x.1 x.2) (k3 : js.map (·.2) = itemsL [0]) :
   Ok Tryz.prog 27 [.agg #[.int .i64 0, vg], vi, vj].toArray F fun u _ => ∃ v, u = .tuple #[v, .int .i64 5] := by
 have h9 := LJ (c := copO) (ys := itemsL [0]) ⟨Mv hb, h1, h2, h3⟩ ⟨Mv hb, k1, k2, k3⟩ vO vO (GJ h3) (GJ k3) Tv Tv
 have e1 : divE copO.book [0] [0] = 5 := x_divO
 rw [e1] at h9
 exact h9.mono fun u F2 _ h => by obtain ⟨v, h, -⟩ := h; exact ⟨v, h⟩
theorem SY {is : List (Value × List Int)} (hb : Sl F vg 4 gE qsX) (h1 : Sl F vi 1 itE is) (h2 : ∀ x ∈ is, Ints F x.1 x.2) (h3 : is.map (·.2) = itemsL [0, 3, 4, 5, 6, 7]) :
   Ok Tryz.prog 22 [.agg #[.int .i64 0, vg, vi]].toArray F fun u _ => ∃ v0 v1 v3 v4 v5, u = .tuple #[.agg #[v0, v1, .int .i64 1, v3, v4, v5, .int .i64 1], .int .i64 0] ∧ ∀ x ∈ [v0, v1, v3, v4, v5], x.oneCell' = true := (H4 (c := copL) ⟨Mv hb, h1, h2, h3⟩ vL).mono fun u F2 _ h => flt_l h
end
theorem Et {F : Heap} : Ok Tryz.prog 6 [].toArray F fun u _ => u = .bool true := by
 refine Ok.intro Tryz.func6 rfl Tryz.ntmps6 rfl fun w0 => AD (Af 1) <| Ac <| Am fun ds => A5 rfl <| Bi bd_21 Aa .nil Ta fun v1 F2 hr3 hF4 => ?_
 obtain ⟨vg, vi, rfl, hc⟩ := hr3
 refine A5 rfl <| AO Tr rfl fun b5 hb5 nb5 => AS <| AP sz_27 Aa Aa (i := 0) rfl rfl rfl rfl hc.ones (.here) <| Ao <| Ab <| AK (i := 0) rfl hb5 (.here) fun F6 hF7 hz1 => ?_
 replace hc := hc.mono hF7
 refine Ac <| Am fun ds => Ag rfl (AC (vs := [.int .i64 0, vg, vi]) CP Aa rfl rfl (Ba hz1)) <| A5 rfl <| Bi V3 Aa AW (Vm hc) fun v8 F9 hr10 hF11 => ?_
 obtain ⟨w0, w1, w3, w4, w5, rfl, f0, f1, f3, f4, f5⟩ := hr10
 refine Aj (Af 3) <| A5 rfl <| AO JW rfl fun b12 hb12 nb12 => AS <| AP HN Aa Aa (i := 0) rfl rfl rfl rfl (by intro u hu; simp only [List.mem_cons, List.not_mem_nil, or_false] at hu; rcases hu with rfl | rfl | rfl | rfl | rfl | rfl | rfl <;> first | rfl | exact f0.plain.one | exact f1.plain.one | exact f3.plain.one | exact f4.plain.one | exact f5.plain.one) (.here) <| Aw (Af 1) <| AK (i := 0) rfl hb12 (.here) fun F13 hF14 hz2 => ?_
 have hU92 := Heap.le_trans hF11 hF14
 replace hc := hc.mono hU92
 replace hz1 := hU92 _ _ hz1
 refine Ac <| Am fun ds => Ag rfl (AC (vs := [.int .i64 0, vg, vi]) CP Aa rfl rfl (Ba hz1)) <| AN rfl (Ay bd_8 Aa AW (Vl hc) (fun _ _ h => h)) <| Aj (Af 3) <| A5 rfl <| AO JY rfl fun b15 hb15 nb15 => AS <| AP Kd Aa Aa (i := 0) rfl rfl rfl rfl (by simp [Value.oneCell']) (.here) <| Aw (Af 1) <| AK (i := 0) rfl hb15 (.here) fun F16 hF17 hz4 => ?_
 replace hc := hc.mono hF17
 replace hz1 := hF17 _ _ hz1
 refine Ac <| Am fun ds => Ag rfl (AC (vs := [.int .i64 0, vg, vi]) CP Aa rfl rfl (Ba hz1)) <| A5 rfl <| Bi bd_23 Aa AW (SX hc) fun v18 F19 hr20 hF21 => ?_
 replace hc := hc.mono hF21
 replace hz1 := hF21 _ _ hz1
 obtain ⟨va, vb, rfl, ha, hb⟩ := hr20
 refine Aw (Af 7) <| Ac <| Am fun ds => Ag rfl (AC (vs := [.int .i64 0, vg, vi]) CP Aa rfl rfl (Ba hz1)) <| A5 rfl <| Bi bd_24 Aa AW (Qz hc) fun v22 F23 hr24 hF25 => ?_
 replace hc := hc.mono hF25
 replace hz1 := hF25 _ _ hz1
 obtain ⟨vc, vd, rfl, hc1, hd1⟩ := hr24
 refine Aw (Af 7) <| Ac <| Am fun ds => Ag rfl (AC (vs := [.int .i64 0, vg, vi]) CP Aa rfl rfl (Ba hz1)) <| A5 rfl <| Bi bd_25 Aa AW (Q0 hc) fun v26 F27 hr28 hF29 => ?_
 replace hc := hc.mono hF29
 replace hz1 := hF29 _ _ hz1
 obtain ⟨vo, rfl, ho⟩ := hr28
 refine Aw (Af 5) <| Ac <| Am fun ds => Ag rfl (AC (vs := [.int .i64 0, vg, vi]) CP Aa rfl rfl (Ba hz1)) <| AN rfl (Ay bd_26 Aa AW (Vo hc) (fun _ _ h => h)) <| Aw (Af 5) <| Ac <| Am fun ds => A5 rfl <| Bi RC Aa .nil Jt fun v30 F31 hr32 hF33 => ?_
 obtain ⟨vg1, rfl, hbk1⟩ := hr32
 refine A5 rfl <| AM A9 B2 rfl (.cons Aa (.cons Aa .nil)) rfl rfl (by decide) (by simp [Value.oneCell']) fun b34 hb34 nb34 => AJ (i := 0) rfl hb34 .here fun F35 hF36 hz37 => ?_
 have hsl38 := BW hz37
 refine A5 rfl <| BY Nj Aa AW (DI hsl38 (by decide)) fun v39 F40 R43 hr41 hF42 => ?_
 obtain ⟨isA, hoA, hallA, hmpA⟩ := hr41
 have hilA : isA.length = 2 := by rw [← List.length_map (f := fun x : Value × List Int => x.2), hmpA]; rfl
 refine EH (σ := ⟨_, _⟩) (by rfl) hoA (.z) .last fun F44 hF45 hz46 => ?_
 replace hallA := fun x hx => (hallA x hx).mono hF45
 have gA := hoA.sl (fun _ => rfl) hz46 (by omega)
 refine A5 rfl <| AM A9 B2 rfl (.cons Aa (.cons Aa (.cons Aa .nil))) rfl rfl (by decide) (by simp [Value.oneCell']) fun b47 hb47 nb47 => AJ (i := 0) rfl hb47 .here fun F48 hF49 hz50 => ?_
 replace hallA := fun x hx => (hallA x hx).mono hF49
 have hsl51 := Es hz50
 refine A5 rfl <| BY Nj Aa AW (DI hsl51 (by decide)) fun v52 F53 R56 hr54 hF55 => ?_
 replace hallA := fun x hx => (hallA x hx).mono hF55
 obtain ⟨isB, hoB, hallB, hmpB⟩ := hr54
 have hilB : isB.length = 3 := by rw [← List.length_map (f := fun x : Value × List Int => x.2), hmpB]; rfl
 refine EH (σ := ⟨_, _⟩) (by rfl) hoB (.z) .last fun F57 hF58 hz59 => ?_
 replace hbk1 := hbk1.mono (Heap.le_trans hF36 (Heap.le_trans hF42 (Heap.le_trans hF45 (Heap.le_trans hF49 (Heap.le_trans hF55 hF58)))))
 replace hallA := fun x hx => (hallA x hx).mono hF58
 replace gA := gA.mono (Heap.le_trans hF49 (Heap.le_trans hF55 hF58))
 replace hallB := fun x hx => (hallB x hx).mono hF58
 have gB := hoB.sl (fun _ => rfl) hz59 (by omega)
 refine A5 rfl <| Bi bd_27 Aa AW (Vn hbk1 gA hallA hmpA gB hallB hmpB) fun v60 F61 hr62 hF63 => ?_
 replace hallA := fun x hx => (hallA x hx).mono hF63
 replace hallB := fun x hx => (hallB x hx).mono hF63
 obtain ⟨vz, rfl, hz_⟩ := hr62
 refine Aw (Af 5) <| Ac <| Am fun ds => A5 rfl <| Bi RC Aa .nil Jt fun v64 F65 hr66 hF67 => ?_
 replace hallA := fun x hx => (hallA x hx).mono hF67
 replace hallB := fun x hx => (hallB x hx).mono hF67
 obtain ⟨vg2, rfl, hbk2⟩ := hr66
 refine A5 rfl <| AM A9 B2 rfl (.cons Aa .nil) rfl rfl (by decide) (by simp [Value.oneCell']) fun b68 hb68 nb68 => AJ (i := 0) rfl hb68 .here fun F69 hF70 hz71 => ?_
 replace hallA := fun x hx => (hallA x hx).mono hF70
 replace hallB := fun x hx => (hallB x hx).mono hF70
 have hsl72 := Bh hz71
 refine A5 rfl <| BY Nj Aa AW (DI hsl72 (by decide)) fun v73 F74 R77 hr75 hF76 => ?_
 replace hallA := fun x hx => (hallA x hx).mono hF76
 replace hallB := fun x hx => (hallB x hx).mono hF76
 obtain ⟨isC, hoC, hallC, hmpC⟩ := hr75
 have hilC : isC.length = 1 := by rw [← List.length_map (f := fun x : Value × List Int => x.2), hmpC]; rfl
 refine EH (σ := ⟨_, _⟩) (by rfl) hoC (.z) .last fun F78 hF79 hz80 => ?_
 replace hallA := fun x hx => (hallA x hx).mono hF79
 replace hallB := fun x hx => (hallB x hx).mono hF79
 replace hallC := fun x hx => (hallC x hx).mono hF79
 have gC := hoC.sl (fun _ => rfl) hz80 (by omega)
 refine A5 rfl <| AM A9 B2 rfl (.cons Aa .nil) rfl rfl (by decide) (by simp [Value.oneCell']) fun b81 hb81 nb81 => AJ (i := 0) rfl hb81 .here fun F82 hF83 hz84 => ?_
 replace hallA := fun x hx => (hallA x hx).mono hF83
 replace hallB := fun x hx => (hallB x hx).mono hF83
 replace hallC := fun x hx => (hallC x hx).mono hF83
 have hsl85 := Bh hz84
 refine A5 rfl <| BY Nj Aa AW (DI hsl85 (by decide)) fun v86 F87 R90 hr88 hF89 => ?_
 replace hallA := fun x hx => (hallA x hx).mono hF89
 replace hallB := fun x hx => (hallB x hx).mono hF89
 replace hallC := fun x hx => (hallC x hx).mono hF89
 obtain ⟨isE, hoE, hallE, hmpE⟩ := hr88
 have hilE : isE.length = 1 := by rw [← List.length_map (f := fun x : Value × List Int => x.2), hmpE]; rfl
 refine EH (σ := ⟨_, _⟩) (by rfl) hoE (.z) .last fun F91 hF92 hz93 => ?_
 replace hallA := fun x hx => (hallA x hx).mono hF92
 replace hallB := fun x hx => (hallB x hx).mono hF92
 replace hbk2 := hbk2.mono (Heap.le_trans hF70 (Heap.le_trans hF76 (Heap.le_trans hF79 (Heap.le_trans hF83 (Heap.le_trans hF89 hF92)))))
 replace hallC := fun x hx => (hallC x hx).mono hF92
 replace gC := gC.mono (Heap.le_trans hF83 (Heap.le_trans hF89 hF92))
 replace hallE := fun x hx => (hallE x hx).mono hF92
 have gE_ := hoE.sl (fun _ => rfl) hz93 (by omega)
 refine A5 rfl <| Bi bd_27 Aa AW (SZ hbk2 gC hallC hmpC gE_ hallE hmpE) fun v94 F95 hr96 hF97 => ?_
 replace hallA := fun x hx => (hallA x hx).mono hF97
 replace hallB := fun x hx => (hallB x hx).mono hF97
 replace hallC := fun x hx => (hallC x hx).mono hF97
 replace hallE := fun x hx => (hallE x hx).mono hF97
 obtain ⟨vy, rfl⟩ := hr96
 refine Aw (Af 5) <| Ac <| Am fun ds => A5 rfl <| Bi RC Aa .nil Jt fun v98 F99 hr100 hF101 => ?_
 replace hallA := fun x hx => (hallA x hx).mono hF101
 replace hallB := fun x hx => (hallB x hx).mono hF101
 replace hallC := fun x hx => (hallC x hx).mono hF101
 replace hallE := fun x hx => (hallE x hx).mono hF101
 obtain ⟨vg3, rfl, hbk3⟩ := hr100
 refine A5 rfl <| AM A9 B2 rfl (.cons Aa (.cons Aa (.cons Aa (.cons Aa (.cons Aa (.cons Aa .nil)))))) rfl rfl (by decide) (by simp [Value.oneCell']) fun b102 hb102 nb102 => AJ (i := 0) rfl hb102 .here fun F103 hF104 hz105 => ?_
 replace hallA := fun x hx => (hallA x hx).mono hF104
 replace hallB := fun x hx => (hallB x hx).mono hF104
 replace hallC := fun x hx => (hallC x hx).mono hF104
 replace hallE := fun x hx => (hallE x hx).mono hF104
 have hsl106 := MD hz105
 refine A5 rfl <| BY Nj Aa AW (DI hsl106 (by decide)) fun v107 F108 R111 hr109 hF110 => ?_
 replace hallA := fun x hx => (hallA x hx).mono hF110
 replace hallB := fun x hx => (hallB x hx).mono hF110
 replace hallC := fun x hx => (hallC x hx).mono hF110
 replace hallE := fun x hx => (hallE x hx).mono hF110
 obtain ⟨isL, hoL, hallL, hmpL⟩ := hr109
 have hilL : isL.length = 6 := by rw [← List.length_map (f := fun x : Value × List Int => x.2), hmpL]; rfl
 refine EH (σ := ⟨_, _⟩) (by rfl) hoL (.z) .last fun F112 hF113 hz114 => ?_
 replace hallA := fun x hx => (hallA x hx).mono hF113
 replace hallB := fun x hx => (hallB x hx).mono hF113
 replace hallC := fun x hx => (hallC x hx).mono hF113
 replace hallE := fun x hx => (hallE x hx).mono hF113
 replace hbk3 := hbk3.mono (Heap.le_trans hF104 (Heap.le_trans hF110 hF113))
 replace hallL := fun x hx => (hallL x hx).mono hF113
 have gL := hoL.sl (fun _ => rfl) hz114 (by omega)
 refine Ag rfl (Bm Rr (.cons Aa rfl (.cons Aa (B9 gL.plain.one) .nil)) (.cons rfl rfl (Nat.le_of_ble_eq_true rfl) (.cons (.here) (.cons (.next <| .here) .nil)) (.cons rfl rfl (Nat.le_of_ble_eq_true rfl) (.cons (.next <| .next <| .here) .nil) .nil))) <| A5 rfl <| Bi V3 Aa AW (SY hbk3 gL hallL hmpL) fun v115 F116 hr117 hF118 => ?_
 replace hallA := fun x hx => (hallA x hx).mono hF118
 replace hallB := fun x hx => (hallB x hx).mono hF118
 replace hallC := fun x hx => (hallC x hx).mono hF118
 replace hallE := fun x hx => (hallE x hx).mono hF118
 replace hallL := fun x hx => (hallL x hx).mono hF118
 obtain ⟨y0, y1, y3, y4, y5, rfl, hy⟩ := hr117
 refine Aj (Af 3) <| A5 rfl <| AO JW rfl fun b119 hb119 nb119 => AS <| AP HN Aa Aa (i := 0) rfl rfl rfl rfl (by intro u hu; simp only [List.mem_cons, List.not_mem_nil, or_false] at hu; rcases hu with rfl | rfl | rfl | rfl | rfl | rfl | rfl <;> first | rfl | exact hy _ (by simp)) (.here) <| Aw (Af 1) <| AK (i := 0) rfl hb119 (.here) fun F120 hF121 hz20 => ?_
 have hU694 := Heap.le_trans hF33 (Heap.le_trans hF36 (Heap.le_trans hF42 (Heap.le_trans hF45 (Heap.le_trans hF49 (Heap.le_trans hF55 (Heap.le_trans hF58 (Heap.le_trans hF63 (Heap.le_trans hF67 (Heap.le_trans hF70 (Heap.le_trans hF76 (Heap.le_trans hF79 (Heap.le_trans hF83 (Heap.le_trans hF89 (Heap.le_trans hF92 (Heap.le_trans hF97 (Heap.le_trans hF101 (Heap.le_trans hF104 (Heap.le_trans hF110 (Heap.le_trans hF113 (Heap.le_trans hF118 hF121))))))))))))))))))))
 have hU695 := Heap.le_trans hF14 (Heap.le_trans hF17 (Heap.le_trans hF21 (Heap.le_trans hF25 (Heap.le_trans hF29 (Heap.le_trans hF33 (Heap.le_trans hF36 (Heap.le_trans hF42 (Heap.le_trans hF45 (Heap.le_trans hF49 (Heap.le_trans hF55 (Heap.le_trans hF58 (Heap.le_trans hF63 (Heap.le_trans hF67 (Heap.le_trans hF70 (Heap.le_trans hF76 (Heap.le_trans hF79 (Heap.le_trans hF83 (Heap.le_trans hF89 (Heap.le_trans hF92 (Heap.le_trans hF97 (Heap.le_trans hF101 (Heap.le_trans hF104 (Heap.le_trans hF110 (Heap.le_trans hF113 (Heap.le_trans hF118 hF121)))))))))))))))))))))))))
 replace f0 := f0.mono hU695
 replace f1 := f1.mono hU695
 replace f3 := f3.mono hU695
 replace f4 := f4.mono hU695
 replace f5 := f5.mono hU695
 have hU700 := Heap.le_trans hF25 (Heap.le_trans hF29 (Heap.le_trans hF33 (Heap.le_trans hF36 (Heap.le_trans hF42 (Heap.le_trans hF45 (Heap.le_trans hF49 (Heap.le_trans hF55 (Heap.le_trans hF58 (Heap.le_trans hF63 (Heap.le_trans hF67 (Heap.le_trans hF70 (Heap.le_trans hF76 (Heap.le_trans hF79 (Heap.le_trans hF83 (Heap.le_trans hF89 (Heap.le_trans hF92 (Heap.le_trans hF97 (Heap.le_trans hF101 (Heap.le_trans hF104 (Heap.le_trans hF110 (Heap.le_trans hF113 (Heap.le_trans hF118 hF121))))))))))))))))))))))
 replace ha := ha.mono hU700
 replace hb := hb.mono hU700
 have hU702 := Heap.le_trans hF29 (Heap.le_trans hF33 (Heap.le_trans hF36 (Heap.le_trans hF42 (Heap.le_trans hF45 (Heap.le_trans hF49 (Heap.le_trans hF55 (Heap.le_trans hF58 (Heap.le_trans hF63 (Heap.le_trans hF67 (Heap.le_trans hF70 (Heap.le_trans hF76 (Heap.le_trans hF79 (Heap.le_trans hF83 (Heap.le_trans hF89 (Heap.le_trans hF92 (Heap.le_trans hF97 (Heap.le_trans hF101 (Heap.le_trans hF104 (Heap.le_trans hF110 (Heap.le_trans hF113 (Heap.le_trans hF118 hF121)))))))))))))))))))))
 replace hc1 := hc1.mono hU702
 replace hd1 := hd1.mono hU702
 replace ho := ho.mono hU694
 have hU705 := Heap.le_trans hF63 (Heap.le_trans hF67 (Heap.le_trans hF70 (Heap.le_trans hF76 (Heap.le_trans hF79 (Heap.le_trans hF83 (Heap.le_trans hF89 (Heap.le_trans hF92 (Heap.le_trans hF97 (Heap.le_trans hF101 (Heap.le_trans hF104 (Heap.le_trans hF110 (Heap.le_trans hF113 (Heap.le_trans hF118 hF121)))))))))))))
 replace hsl38 := hsl38.mono (Heap.le_trans hF42 (Heap.le_trans hF45 (Heap.le_trans hF49 (Heap.le_trans hF55 (Heap.le_trans hF58 (Heap.le_trans hF63 (Heap.le_trans hF67 (Heap.le_trans hF70 (Heap.le_trans hF76 (Heap.le_trans hF79 (Heap.le_trans hF83 (Heap.le_trans hF89 (Heap.le_trans hF92 (Heap.le_trans hF97 (Heap.le_trans hF101 (Heap.le_trans hF104 (Heap.le_trans hF110 (Heap.le_trans hF113 (Heap.le_trans hF118 hF121)))))))))))))))))))
 replace hallA := fun x hx => (hallA x hx).mono hF121
 replace hsl51 := hsl51.mono (Heap.le_trans hF55 (Heap.le_trans hF58 (Heap.le_trans hF63 (Heap.le_trans hF67 (Heap.le_trans hF70 (Heap.le_trans hF76 (Heap.le_trans hF79 (Heap.le_trans hF83 (Heap.le_trans hF89 (Heap.le_trans hF92 (Heap.le_trans hF97 (Heap.le_trans hF101 (Heap.le_trans hF104 (Heap.le_trans hF110 (Heap.le_trans hF113 (Heap.le_trans hF118 hF121))))))))))))))))
 replace hallB := fun x hx => (hallB x hx).mono hF121
 replace hz_ := hz_.mono (Heap.le_trans hF67 (Heap.le_trans hF70 (Heap.le_trans hF76 (Heap.le_trans hF79 (Heap.le_trans hF83 (Heap.le_trans hF89 (Heap.le_trans hF92 (Heap.le_trans hF97 (Heap.le_trans hF101 (Heap.le_trans hF104 (Heap.le_trans hF110 (Heap.le_trans hF113 (Heap.le_trans hF118 hF121)))))))))))))
 have hU713 := Heap.le_trans hF97 (Heap.le_trans hF101 (Heap.le_trans hF104 (Heap.le_trans hF110 (Heap.le_trans hF113 (Heap.le_trans hF118 hF121)))))
 replace hsl72 := hsl72.mono (Heap.le_trans hF76 (Heap.le_trans hF79 (Heap.le_trans hF83 (Heap.le_trans hF89 (Heap.le_trans hF92 (Heap.le_trans hF97 (Heap.le_trans hF101 (Heap.le_trans hF104 (Heap.le_trans hF110 (Heap.le_trans hF113 (Heap.le_trans hF118 hF121)))))))))))
 replace hallC := fun x hx => (hallC x hx).mono hF121
 replace hsl85 := hsl85.mono (Heap.le_trans hF89 (Heap.le_trans hF92 (Heap.le_trans hF97 (Heap.le_trans hF101 (Heap.le_trans hF104 (Heap.le_trans hF110 (Heap.le_trans hF113 (Heap.le_trans hF118 hF121))))))))
 replace hallE := fun x hx => (hallE x hx).mono hF121
 have hU720 := Heap.le_trans hF118 hF121
 replace hsl106 := hsl106.mono (Heap.le_trans hF110 (Heap.le_trans hF113 (Heap.le_trans hF118 hF121)))
 replace hallL := fun x hx => (hallL x hx).mono hF121
 replace hz2 := (Heap.le_trans hF17 (Heap.le_trans hF21 (Heap.le_trans hF25 (Heap.le_trans hF29 (Heap.le_trans hF33 (Heap.le_trans hF36 (Heap.le_trans hF42 (Heap.le_trans hF45 (Heap.le_trans hF49 (Heap.le_trans hF55 (Heap.le_trans hF58 (Heap.le_trans hF63 (Heap.le_trans hF67 (Heap.le_trans hF70 (Heap.le_trans hF76 (Heap.le_trans hF79 (Heap.le_trans hF83 (Heap.le_trans hF89 (Heap.le_trans hF92 (Heap.le_trans hF97 (Heap.le_trans hF101 (Heap.le_trans hF104 (Heap.le_trans hF110 (Heap.le_trans hF113 (Heap.le_trans hF118 hF121))))))))))))))))))))))))) _ _ hz2
 replace hz4 := (Heap.le_trans hF21 (Heap.le_trans hF25 (Heap.le_trans hF29 (Heap.le_trans hF33 (Heap.le_trans hF36 (Heap.le_trans hF42 (Heap.le_trans hF45 (Heap.le_trans hF49 (Heap.le_trans hF55 (Heap.le_trans hF58 (Heap.le_trans hF63 (Heap.le_trans hF67 (Heap.le_trans hF70 (Heap.le_trans hF76 (Heap.le_trans hF79 (Heap.le_trans hF83 (Heap.le_trans hF89 (Heap.le_trans hF92 (Heap.le_trans hF97 (Heap.le_trans hF101 (Heap.le_trans hF104 (Heap.le_trans hF110 (Heap.le_trans hF113 (Heap.le_trans hF118 hF121)))))))))))))))))))))))) _ _ hz4
 refine Ac <| Wf 94 rfl (.inl rfl) (fun _ _ h => h) (by kernel_rfl) (by kernel_rfl) ([fun F v => v = Value.int .i64 0, fun F v => v = Value.bool true, fun F v => v = Value.bool true, fun F v => v = Value.int .i64 0, fun F v => v = Value.bool true, fun F v => v = Value.bool true, fun F v => v = Value.bool true, fun F v => v = Value.int .i64 0, fun F v => v = Value.bool true, fun F v => v = Value.bool true, fun F v => v = Value.bool true, fun F v => v = Value.int .i64 0, fun F v => v = Value.bool true, fun F v => v = Value.bool true, fun F v => v = Value.bool true, fun F v => v = Value.int .i64 0, fun F v => v = Value.bool true, fun F v => v = Value.bool true, fun F v => v = Value.bool true, fun F v => v = Value.int .i64 0, fun F v => v = Value.bool true, fun F v => v = Value.bool true, fun F v => v = Value.bool true, fun F v => v = Value.int .i64 0, fun F v => v = Value.bool true, fun F v => v = Value.bool true, fun F v => v = Value.bool true, fun F v => v = Value.int .i64 0, fun F v => v = Value.bool true, fun F v => v = Value.bool true, fun F v => v = Value.bool true, fun F v => v = Value.int .i64 5, fun F v => v = Value.bool true, fun F v => v = Value.bool true, fun F v => v = Value.bool true, fun F v => v = Value.agg #[w0, w1, .int .i64 2, w3, w4, w5, .int .i64 5], fun F v => Ints F v [4, 5, -1, 0, 1, 3, 1, 6], fun F v => Ints F v [2, 7], fun F v => Ints F v [2], fun F v => Ints F v [6], fun F v => Ints F v [3], fun F v => ∃ u0 u1 u3 u4 u5, v = Value.agg #[u0, u1, .int .i64 2, u3, u4, u5, .int .i64 5] ∧ Ints F u0 [4, 5, -1, 0, 1, 3, 1, 6] ∧ Ints F u1 [2, 7] ∧ Ints F u3 [2] ∧ Ints F u4 [6] ∧ Ints F u5 [3], fun F v => v = Value.bool true, fun F v => v = Value.bool true, fun F v => v = Value.bool true, fun F v => v = Value.agg #[.int .i64 5, .int .i64 5], fun F v => v = Value.agg #[.int .i64 5, .int .i64 5], fun F v => v = Value.bool true, fun F v => v = Value.bool true, fun F v => v = Value.bool true, fun F v => v = va, fun F v => Ints F v [2], fun F v => v = Value.bool true, fun F v => v = Value.bool true, fun F v => v = Value.bool true, fun F v => v = vb, fun F v => Ints F v [2, 6, 7], fun F v => v = Value.bool true, fun F v => v = Value.bool true, fun F v => v = Value.bool true, fun F v => v = vc, fun F v => Ints F v [1], fun F v => v = Value.bool true, fun F v => v = Value.bool true, fun F v => v = Value.bool true, fun F v => v = vd, fun F v => Ints F v [1, 4, 5], fun F v => v = Value.bool true, fun F v => v = Value.bool true, fun F v => v = Value.bool true, fun F v => v = vo, fun F v => Ints F v [3, 4, 5, 0, 1, 7], fun F v => v = Value.bool true, fun F v => v = Value.bool true, fun F v => v = Value.bool true, fun F v => v = Value.int .i64 7, fun F v => v = Value.bool true, fun F v => v = Value.bool true, fun F v => v = Value.bool true, fun F v => v = vz, fun F v => Ints F v [0, 1], fun F v => v = Value.bool true, fun F v => v = Value.bool true, fun F v => v = Value.bool true, fun F v => v = Value.pointer (some ⟨b119, 2, none⟩), fun F v => v = Value.int .i64 1, fun F v => v = Value.bool true, fun F v => v = Value.bool true, fun F v => v = Value.bool true, fun F v => v = Value.pointer (some ⟨b119, 6, none⟩), fun F v => v = Value.int .i64 1, fun F v => v = Value.bool true, fun F v => v = Value.bool true, fun F v => v = Value.bool true]) (⟨fun F F2 v hF h => h, fun F F2 v hF h => h, fun F F2 v hF h => h, fun F F2 v hF h => h, fun F F2 v hF h => h, fun F F2 v hF h => h, fun F F2 v hF h => h, fun F F2 v hF h => h, fun F F2 v hF h => h, fun F F2 v hF h => h, fun F F2 v hF h => h, fun F F2 v hF h => h, fun F F2 v hF h => h, fun F F2 v hF h => h, fun F F2 v hF h => h, fun F F2 v hF h => h, fun F F2 v hF h => h, fun F F2 v hF h => h, fun F F2 v hF h => h, fun F F2 v hF h => h, fun F F2 v hF h => h, fun F F2 v hF h => h, fun F F2 v hF h => h, fun F F2 v hF h => h, fun F F2 v hF h => h, fun F F2 v hF h => h, fun F F2 v hF h => h, fun F F2 v hF h => h, fun F F2 v hF h => h, fun F F2 v hF h => h, fun F F2 v hF h => h, fun F F2 v hF h => h, fun F F2 v hF h => h, fun F F2 v hF h => h, fun F F2 v hF h => h, fun F F2 v hF h => h, fun F F2 v hF h => h.mono hF, fun F F2 v hF h => h.mono hF, fun F F2 v hF h => h.mono hF, fun F F2 v hF h => h.mono hF, fun F F2 v hF h => h.mono hF, fun F F2 v hF h => (by obtain ⟨u0, u1, u3, u4, u5, h0, h1, h2, h3, h4, h5⟩ := h; exact ⟨u0, u1, u3, u4, u5, h0, h1.mono hF, h2.mono hF, h3.mono hF, h4.mono hF, h5.mono hF⟩), fun F F2 v hF h => h, fun F F2 v hF h => h, fun F F2 v hF h => h, fun F F2 v hF h => h, fun F F2 v hF h => h, fun F F2 v hF h => h, fun F F2 v hF h => h, fun F F2 v hF h => h, fun F F2 v hF h => h, fun F F2 v hF h => h.mono hF, fun F F2 v hF h => h, fun F F2 v hF h => h, fun F F2 v hF h => h, fun F F2 v hF h => h, fun F F2 v hF h => h.mono hF, fun F F2 v hF h => h, fun F F2 v hF h => h, fun F F2 v hF h => h, fun F F2 v hF h => h, fun F F2 v hF h => h.mono hF, fun F F2 v hF h => h, fun F F2 v hF h => h, fun F F2 v hF h => h, fun F F2 v hF h => h, fun F F2 v hF h => h.mono hF, fun F F2 v hF h => h, fun F F2 v hF h => h, fun F F2 v hF h => h, fun F F2 v hF h => h, fun F F2 v hF h => h.mono hF, fun F F2 v hF h => h, fun F F2 v hF h => h, fun F F2 v hF h => h, fun F F2 v hF h => h, fun F F2 v hF h => h, fun F F2 v hF h => h, fun F F2 v hF h => h, fun F F2 v hF h => h, fun F F2 v hF h => h.mono hF, fun F F2 v hF h => h, fun F F2 v hF h => h, fun F F2 v hF h => h, fun F F2 v hF h => h, fun F F2 v hF h => h, fun F F2 v hF h => h, fun F F2 v hF h => h, fun F F2 v hF h => h, fun F F2 v hF h => h, fun F F2 v hF h => h, fun F F2 v hF h => h, fun F F2 v hF h => h, fun F F2 v hF h => h, trivial⟩) (fun ds => ?_) ?_
 ·refine ⟨⟨⟨⟨⟨⟨⟨⟨⟨⟨⟨⟨⟨⟨⟨⟨⟨⟨⟨⟨⟨⟨⟨⟨⟨⟨⟨⟨⟨⟨⟨⟨⟨⟨⟨⟨⟨⟨⟨⟨⟨⟨⟨⟨⟨⟨⟨⟨⟨⟨⟨⟨⟨⟨⟨⟨⟨⟨⟨⟨⟨⟨⟨⟨⟨⟨⟨⟨⟨⟨⟨⟨⟨⟨⟨⟨⟨⟨⟨⟨⟨⟨⟨⟨⟨⟨⟨⟨⟨⟨⟨⟨⟨⟨trivial, ?_⟩, ?_⟩, ?_⟩, ?_⟩, ?_⟩, ?_⟩, ?_⟩, ?_⟩, ?_⟩, ?_⟩, ?_⟩, ?_⟩, ?_⟩, ?_⟩, ?_⟩, ?_⟩, ?_⟩, ?_⟩, ?_⟩, ?_⟩, ?_⟩, ?_⟩, ?_⟩, ?_⟩, ?_⟩, ?_⟩, ?_⟩, ?_⟩, ?_⟩, ?_⟩, ?_⟩, ?_⟩, ?_⟩, ?_⟩, ?_⟩, ?_⟩, ?_⟩, ?_⟩, ?_⟩, ?_⟩, ?_⟩, ?_⟩, ?_⟩, ?_⟩, ?_⟩, ?_⟩, ?_⟩, ?_⟩, ?_⟩, ?_⟩, ?_⟩, ?_⟩, ?_⟩, ?_⟩, ?_⟩, ?_⟩, ?_⟩, ?_⟩, ?_⟩, ?_⟩, ?_⟩, ?_⟩, ?_⟩, ?_⟩, ?_⟩, ?_⟩, ?_⟩, ?_⟩, ?_⟩, ?_⟩, ?_⟩, ?_⟩, ?_⟩, ?_⟩, ?_⟩, ?_⟩, ?_⟩, ?_⟩, ?_⟩, ?_⟩, ?_⟩, ?_⟩, ?_⟩, ?_⟩, ?_⟩, ?_⟩, ?_⟩, ?_⟩, ?_⟩, ?_⟩, ?_⟩, ?_⟩, ?_⟩, ?_⟩
  ·intro e1 F1 hF1 he hj
   refine CD rfl (AI (Bc (Bl he (by kernel_rfl)) <| Cv rfl <| Cv rfl <| KG rfl <| GS rfl <| GD rfl <| FP)) rfl
  ·intro e1 F1 hF1 he hj
   have g81 : (e1 81) = .int .i64 0 := B7 hj 0
   refine CD rfl (CH (AY g81) Ed) rfl
  ·intro e1 F1 hF1 he hj
   have g82 : (e1 82) = .bool true := B7 hj 1
   refine CD rfl (AI (AY g82)) rfl
  ·intro e1 F1 hF1 he hj
   have g83 : (e1 83) = .bool true := B7 hj 2
   refine Da rfl g83 (AI (Bc (Bl he (by kernel_rfl)) <| Cv rfl <| Cv rfl <| FP)) rfl
  ·intro e1 F1 hF1 he hj
   have g83 : (e1 83) = .bool true := B7 hj 2
   have g84 : (e1 84) = .int .i64 0 := B7 hj 3
   refine Da rfl g83 (CH (AY g84) Ed) rfl
  ·intro e1 F1 hF1 he hj
   have g83 : (e1 83) = .bool true := B7 hj 2
   have g85 : (e1 85) = .bool true := B7 hj 4
   refine CD rfl (Ar (AY g83) rfl (AY g85)) rfl
  ·intro e1 F1 hF1 he hj
   have g86 : (e1 86) = .bool true := B7 hj 5
   refine CD rfl (AI (AY g86)) rfl
  ·intro e1 F1 hF1 he hj
   have g87 : (e1 87) = .bool true := B7 hj 6
   refine Da rfl g87 (AI (Bc (Bl he (by kernel_rfl)) <| Cv rfl <| DU rfl <| KG rfl <| GS rfl <| GD rfl <| FP)) rfl
  ·intro e1 F1 hF1 he hj
   have g87 : (e1 87) = .bool true := B7 hj 6
   have g88 : (e1 88) = .int .i64 0 := B7 hj 7
   refine Da rfl g87 (CH (AY g88) Ed) rfl
  ·intro e1 F1 hF1 he hj
   have g87 : (e1 87) = .bool true := B7 hj 6
   have g89 : (e1 89) = .bool true := B7 hj 8
   refine CD rfl (Ar (AY g87) rfl (AY g89)) rfl
  ·intro e1 F1 hF1 he hj
   have g90 : (e1 90) = .bool true := B7 hj 9
   refine CD rfl (AI (AY g90)) rfl
  ·intro e1 F1 hF1 he hj
   have g91 : (e1 91) = .bool true := B7 hj 10
   refine Da rfl g91 (AI (Bc (Bl he (by kernel_rfl)) <| Cv rfl <| JH rfl <| KG rfl <| GS rfl <| FP)) rfl
  ·intro e1 F1 hF1 he hj
   have g91 : (e1 91) = .bool true := B7 hj 10
   have g92 : (e1 92) = .int .i64 0 := B7 hj 11
   refine Da rfl g91 (CH (AY g92) Ed) rfl
  ·intro e1 F1 hF1 he hj
   have g91 : (e1 91) = .bool true := B7 hj 10
   have g93 : (e1 93) = .bool true := B7 hj 12
   refine CD rfl (Ar (AY g91) rfl (AY g93)) rfl
  ·intro e1 F1 hF1 he hj
   have g94 : (e1 94) = .bool true := B7 hj 13
   refine CD rfl (AI (AY g94)) rfl
  ·intro e1 F1 hF1 he hj
   have g95 : (e1 95) = .bool true := B7 hj 14
   refine Da rfl g95 (AI (Bc (Bl he (by kernel_rfl)) <| Cv rfl <| KG rfl <| GS rfl <| GD rfl <| FP)) rfl
  ·intro e1 F1 hF1 he hj
   have g95 : (e1 95) = .bool true := B7 hj 14
   have g96 : (e1 96) = .int .i64 0 := B7 hj 15
   refine Da rfl g95 (CH (AY g96) Ed) rfl
  ·intro e1 F1 hF1 he hj
   have g95 : (e1 95) = .bool true := B7 hj 14
   have g97 : (e1 97) = .bool true := B7 hj 16
   refine CD rfl (Ar (AY g95) rfl (AY g97)) rfl
  ·intro e1 F1 hF1 he hj
   have g98 : (e1 98) = .bool true := B7 hj 17
   refine CD rfl (AI (AY g98)) rfl
  ·intro e1 F1 hF1 he hj
   have g99 : (e1 99) = .bool true := B7 hj 18
   refine Da rfl g99 (AI (Bc (Bl he (by kernel_rfl)) <| Cv rfl <| FP)) rfl
  ·intro e1 F1 hF1 he hj
   have g99 : (e1 99) = .bool true := B7 hj 18
   have g100 : (e1 100) = .int .i64 0 := B7 hj 19
   refine Da rfl g99 (CH (AY g100) Ed) rfl
  ·intro e1 F1 hF1 he hj
   have g99 : (e1 99) = .bool true := B7 hj 18
   have g101 : (e1 101) = .bool true := B7 hj 20
   refine CD rfl (Ar (AY g99) rfl (AY g101)) rfl
  ·intro e1 F1 hF1 he hj
   have g102 : (e1 102) = .bool true := B7 hj 21
   refine CD rfl (AI (AY g102)) rfl
  ·intro e1 F1 hF1 he hj
   have g103 : (e1 103) = .bool true := B7 hj 22
   refine Da rfl g103 (AI (Bc (Bl he (by kernel_rfl)) <| DU rfl <| KG rfl <| GD rfl <| FP)) rfl
  ·intro e1 F1 hF1 he hj
   have g103 : (e1 103) = .bool true := B7 hj 22
   have g104 : (e1 104) = .int .i64 0 := B7 hj 23
   refine Da rfl g103 (CH (AY g104) Ed) rfl
  ·intro e1 F1 hF1 he hj
   have g103 : (e1 103) = .bool true := B7 hj 22
   have g105 : (e1 105) = .bool true := B7 hj 24
   refine CD rfl (Ar (AY g103) rfl (AY g105)) rfl
  ·intro e1 F1 hF1 he hj
   have g106 : (e1 106) = .bool true := B7 hj 25
   refine CD rfl (AI (AY g106)) rfl
  ·intro e1 F1 hF1 he hj
   have g107 : (e1 107) = .bool true := B7 hj 26
   refine Da rfl g107 (AI (Bc (Bl he (by kernel_rfl)) <| FP)) rfl
  ·intro e1 F1 hF1 he hj
   have g107 : (e1 107) = .bool true := B7 hj 26
   have g108 : (e1 108) = .int .i64 0 := B7 hj 27
   refine Da rfl g107 (CH (AY g108) Ed) rfl
  ·intro e1 F1 hF1 he hj
   have g107 : (e1 107) = .bool true := B7 hj 26
   have g109 : (e1 109) = .bool true := B7 hj 28
   refine CD rfl (Ar (AY g107) rfl (AY g109)) rfl
  ·intro e1 F1 hF1 he hj
   have g110 : (e1 110) = .bool true := B7 hj 29
   refine CD rfl (AI (AY g110)) rfl
  ·intro e1 F1 hF1 he hj
   have g111 : (e1 111) = .bool true := B7 hj 30
   refine Da rfl g111 (AI (Bc (Bl he (by kernel_rfl)) <| JH rfl <| GS rfl <| FP)) rfl
  ·intro e1 F1 hF1 he hj
   have g111 : (e1 111) = .bool true := B7 hj 30
   have g112 : (e1 112) = .int .i64 5 := B7 hj 31
   refine Da rfl g111 (CH (AY g112) Ed) rfl
  ·intro e1 F1 hF1 he hj
   have g111 : (e1 111) = .bool true := B7 hj 30
   have g113 : (e1 113) = .bool true := B7 hj 32
   refine CD rfl (Ar (AY g111) rfl (AY g113)) rfl
  ·intro e1 F1 hF1 he hj
   have g114 : (e1 114) = .bool true := B7 hj 33
   refine CD rfl (AI (AY g114)) rfl
  ·intro e1 F1 hF1 he hj
   have g115 : (e1 115) = .bool true := B7 hj 34
   replace hz2 := hF1 _ _ hz2
   refine Da rfl g115 (AC (vs := [w0, w1, .int .i64 2, w3, w4, w5, .int .i64 5]) HD (Bc (Bl he (by kernel_rfl)) <| Cv rfl <| Cv rfl <| JH rfl <| FP) rfl rfl (Ba hz2)) rfl
  ·intro e1 F1 hF1 he hj
   have g115 : (e1 115) = .bool true := B7 hj 34
   replace hb := hb.mono hF1
   refine ⟨_, _, _, _, _, _, rfl, (fun _ _ h => by cases h; exact g115), ?_⟩
   refine BP (AM A9 B2 rfl (.cons Aa (.cons Aa (.cons Aa (.cons Aa (.cons Aa (.cons Aa (.cons Aa (.cons Aa .nil)))))))) rfl rfl (by decide) (by simp [Value.oneCell']) fun b hb nb => ⟨b, _, hb, rfl, fun F2 hF2 hz => ⟨F2, rfl, hF2, SE hz⟩⟩)
  ·intro e1 F1 hF1 he hj
   have g115 : (e1 115) = .bool true := B7 hj 34
   replace hb := hb.mono hF1
   refine ⟨_, _, _, _, _, _, rfl, (fun _ _ h => by cases h; exact g115), ?_⟩
   refine BP (AM A9 B2 rfl (.cons Aa (.cons Aa .nil)) rfl rfl (by decide) (by simp [Value.oneCell']) fun b hb nb => ⟨b, _, hb, rfl, fun F2 hF2 hz => ⟨F2, rfl, hF2, BW hz⟩⟩)
  ·intro e1 F1 hF1 he hj
   have g115 : (e1 115) = .bool true := B7 hj 34
   replace hb := hb.mono hF1
   refine ⟨_, _, _, _, _, _, rfl, (fun _ _ h => by cases h; exact g115), ?_⟩
   refine BP (AM A9 B2 rfl (.cons Aa .nil) rfl rfl (by decide) (by simp [Value.oneCell']) fun b hb nb => ⟨b, _, hb, rfl, fun F2 hF2 hz => ⟨F2, rfl, hF2, Bh hz⟩⟩)
  ·intro e1 F1 hF1 he hj
   have g115 : (e1 115) = .bool true := B7 hj 34
   replace hb := hb.mono hF1
   refine ⟨_, _, _, _, _, _, rfl, (fun _ _ h => by cases h; exact g115), ?_⟩
   refine BP (AM A9 B2 rfl (.cons Aa .nil) rfl rfl (by decide) (by simp [Value.oneCell']) fun b hb nb => ⟨b, _, hb, rfl, fun F2 hF2 hz => ⟨F2, rfl, hF2, Bh hz⟩⟩)
  ·intro e1 F1 hF1 he hj
   have g115 : (e1 115) = .bool true := B7 hj 34
   replace hb := hb.mono hF1
   refine ⟨_, _, _, _, _, _, rfl, (fun _ _ h => by cases h; exact g115), ?_⟩
   refine BP (AM A9 B2 rfl (.cons Aa .nil) rfl rfl (by decide) (by simp [Value.oneCell']) fun b hb nb => ⟨b, _, hb, rfl, fun F2 hF2 hz => ⟨F2, rfl, hF2, Bh hz⟩⟩)
  ·intro e1 F1 hF1 he hj
   have g115 : (e1 115) = .bool true := B7 hj 34
   have g117 : Ints F1 (e1 117) [4, 5, -1, 0, 1, 3, 1, 6] := B7 hj 36
   have g118 : Ints F1 (e1 118) [2, 7] := B7 hj 37
   have g119 : Ints F1 (e1 119) [2] := B7 hj 38
   have g120 : Ints F1 (e1 120) [6] := B7 hj 39
   have g121 : Ints F1 (e1 121) [3] := B7 hj 40
   refine Da rfl g115 (Bm bt_75 (.cons (AY rfl) (B9 g117.plain.one) (.cons (AY rfl) (B9 g118.plain.one) (.cons Aa rfl (.cons (AY rfl) (B9 g119.plain.one) (.cons (AY rfl) (B9 g120.plain.one) (.cons (AY rfl) (B9 g121.plain.one) (.cons Aa rfl .nil))))))) (.cons rfl rfl (Nat.le_of_ble_eq_true rfl) (.cons (.here) .nil) (.cons rfl rfl (Nat.le_of_ble_eq_true rfl) (.cons (.next <| .here) .nil) (.cons rfl rfl (Nat.le_of_ble_eq_true rfl) (.cons (.next <| .next <| .here) .nil) (.cons rfl rfl (Nat.le_of_ble_eq_true rfl) (.cons (.next <| .next <| .next <| .here) .nil) (.cons rfl rfl (Nat.le_of_ble_eq_true rfl) (.cons (.next <| .next <| .next <| .next <| .here) .nil) (.cons rfl rfl (Nat.le_of_ble_eq_true rfl) (.cons (.next <| .next <| .next <| .next <| .next <| .here) .nil) (.cons rfl rfl (Nat.le_of_ble_eq_true rfl) (.cons (.next <| .next <| .next <| .next <| .next <| .next <| .here) .nil) .nil)))))))) ⟨_, _, _, _, _, rfl, g117, g118, g119, g120, g121⟩
  ·intro e1 F1 hF1 he hj
   have g115 : (e1 115) = .bool true := B7 hj 34
   have g116 : (e1 116) = .agg #[w0, w1, .int .i64 2, w3, w4, w5, .int .i64 5] := B7 hj 35
   have g122 : ∃ u0 u1 u3 u4 u5, (e1 122) = .agg #[u0, u1, .int .i64 2, u3, u4, u5, .int .i64 5] ∧ Ints F1 u0 [4, 5, -1, 0, 1, 3, 1, 6] ∧ Ints F1 u1 [2, 7] ∧ Ints F1 u3 [2] ∧ Ints F1 u4 [6] ∧ Ints F1 u5 [3] := B7 hj 41
   replace f0 := f0.mono hF1
   replace f1 := f1.mono hF1
   replace f3 := f3.mono hF1
   replace f4 := f4.mono hF1
   replace f5 := f5.mono hF1
   obtain ⟨u0, u1, u3, u4, u5, hq, k0, k1, k3, k4, k5⟩ := g122
   refine ⟨_, _, _, _, _, _, rfl, (fun _ _ h => by cases h; exact g115), ?_⟩
   refine Bi bd_30 Aa (.cons (AY g116) (.cons (AY hq) .nil)) (TR f0 k0 f1 k1 f3 k3 f4 k4 f5 k5) fun v2 F2 hr hF2 => ⟨F2, rfl, hF2, hr⟩
  ·intro e1 F1 hF1 he hj
   have g115 : (e1 115) = .bool true := B7 hj 34
   have g123 : (e1 123) = .bool true := B7 hj 42
   refine CD rfl (Ar (AY g115) rfl (AY g123)) rfl
  ·intro e1 F1 hF1 he hj
   have g124 : (e1 124) = .bool true := B7 hj 43
   refine CD rfl (AI (AY g124)) rfl
  ·intro e1 F1 hF1 he hj
   have g125 : (e1 125) = .bool true := B7 hj 44
   replace hz4 := hF1 _ _ hz4
   refine Da rfl g125 (AC Gy (Bc (Bl he (by kernel_rfl)) <| Cv rfl <| Cv rfl <| GD rfl <| FP) rfl rfl (Ba hz4)) rfl
  ·intro e1 F1 hF1 he hj
   have g125 : (e1 125) = .bool true := B7 hj 44
   refine ⟨_, _, _, _, _, _, rfl, (fun _ _ h => by cases h; exact g125), ?_⟩
   refine Bi bd_31 Aa AW (TJ 5 5) fun v2 F2 hr hF2 => ⟨F2, rfl, hF2, hr⟩
  ·intro e1 F1 hF1 he hj
   have g125 : (e1 125) = .bool true := B7 hj 44
   have g126 : (e1 126) = .agg #[.int .i64 5, .int .i64 5] := B7 hj 45
   have g127 : (e1 127) = .agg #[.int .i64 5, .int .i64 5] := B7 hj 46
   refine Da rfl g125 (QL Tryz.underlying41 stood41 guard41 (by decide) (by decide) rfl rfl Tryz.underlying3 Tryz.underlying3 AF AF (AY g126) (AY g127)) rfl
  ·intro e1 F1 hF1 he hj
   have g125 : (e1 125) = .bool true := B7 hj 44
   have g128 : (e1 128) = .bool true := B7 hj 47
   refine CD rfl (Ar (AY g125) rfl (AY g128)) rfl
  ·intro e1 F1 hF1 he hj
   have g129 : (e1 129) = .bool true := B7 hj 48
   refine CD rfl (AI (AY g129)) rfl
  ·intro e1 F1 hF1 he hj
   have g130 : (e1 130) = .bool true := B7 hj 49
   refine Da rfl g130 (AI (Bc (Bl he (by kernel_rfl)) <| Cv rfl <| DU rfl <| JH rfl <| GD rfl <| FP)) rfl
  ·intro e1 F1 hF1 he hj
   have g130 : (e1 130) = .bool true := B7 hj 49
   replace hb := hb.mono hF1
   refine ⟨_, _, _, _, _, _, rfl, (fun _ _ h => by cases h; exact g130), ?_⟩
   refine BP (AM A9 B2 rfl (.cons Aa .nil) rfl rfl (by decide) (by simp [Value.oneCell']) fun b hb nb => ⟨b, _, hb, rfl, fun F2 hF2 hz => ⟨F2, rfl, hF2, Bh hz⟩⟩)
  ·intro e1 F1 hF1 he hj
   have g130 : (e1 130) = .bool true := B7 hj 49
   have g131 : (e1 131) = va := B7 hj 50
   have g132 : Ints F1 (e1 132) [2] := B7 hj 51
   replace ha := ha.mono hF1
   refine ⟨_, _, _, _, _, _, rfl, (fun _ _ h => by cases h; exact g130), ?_⟩
   refine Bi Dj Aa (.cons (AY g131) (.cons (AY rfl) .nil)) (BH ha g132) fun v2 F2 hr hF2 => ⟨F2, rfl, hF2, (hr.trans (congrArg Value.bool (dT rfl)))⟩
  ·intro e1 F1 hF1 he hj
   have g130 : (e1 130) = .bool true := B7 hj 49
   have g133 : (e1 133) = .bool true := B7 hj 52
   refine CD rfl (Ar (AY g130) rfl (AY g133)) rfl
  ·intro e1 F1 hF1 he hj
   have g134 : (e1 134) = .bool true := B7 hj 53
   refine CD rfl (AI (AY g134)) rfl
  ·intro e1 F1 hF1 he hj
   have g135 : (e1 135) = .bool true := B7 hj 54
   refine Da rfl g135 (AI (Bc (Bl he (by kernel_rfl)) <| Cv rfl <| DU rfl <| JH rfl <| FP)) rfl
  ·intro e1 F1 hF1 he hj
   have g135 : (e1 135) = .bool true := B7 hj 54
   replace hb := hb.mono hF1
   refine ⟨_, _, _, _, _, _, rfl, (fun _ _ h => by cases h; exact g135), ?_⟩
   refine BP (AM A9 B2 rfl (.cons Aa (.cons Aa (.cons Aa .nil))) rfl rfl (by decide) (by simp [Value.oneCell']) fun b hb nb => ⟨b, _, hb, rfl, fun F2 hF2 hz => ⟨F2, rfl, hF2, Es hz⟩⟩)
  ·intro e1 F1 hF1 he hj
   have g135 : (e1 135) = .bool true := B7 hj 54
   have g136 : (e1 136) = vb := B7 hj 55
   have g137 : Ints F1 (e1 137) [2, 6, 7] := B7 hj 56
   replace hb := hb.mono hF1
   refine ⟨_, _, _, _, _, _, rfl, (fun _ _ h => by cases h; exact g135), ?_⟩
   refine Bi Dj Aa (.cons (AY g136) (.cons (AY rfl) .nil)) (BH hb g137) fun v2 F2 hr hF2 => ⟨F2, rfl, hF2, (hr.trans (congrArg Value.bool (dT rfl)))⟩
  ·intro e1 F1 hF1 he hj
   have g135 : (e1 135) = .bool true := B7 hj 54
   have g138 : (e1 138) = .bool true := B7 hj 57
   refine CD rfl (Ar (AY g135) rfl (AY g138)) rfl
  ·intro e1 F1 hF1 he hj
   have g139 : (e1 139) = .bool true := B7 hj 58
   refine CD rfl (AI (AY g139)) rfl
  ·intro e1 F1 hF1 he hj
   have g140 : (e1 140) = .bool true := B7 hj 59
   refine Da rfl g140 (AI (Bc (Bl he (by kernel_rfl)) <| Cv rfl <| DU rfl <| FP)) rfl
  ·intro e1 F1 hF1 he hj
   have g140 : (e1 140) = .bool true := B7 hj 59
   replace hb := hb.mono hF1
   refine ⟨_, _, _, _, _, _, rfl, (fun _ _ h => by cases h; exact g140), ?_⟩
   refine BP (AM A9 B2 rfl (.cons Aa .nil) rfl rfl (by decide) (by simp [Value.oneCell']) fun b hb nb => ⟨b, _, hb, rfl, fun F2 hF2 hz => ⟨F2, rfl, hF2, Bh hz⟩⟩)
  ·intro e1 F1 hF1 he hj
   have g140 : (e1 140) = .bool true := B7 hj 59
   have g141 : (e1 141) = vc := B7 hj 60
   have g142 : Ints F1 (e1 142) [1] := B7 hj 61
   replace hc1 := hc1.mono hF1
   refine ⟨_, _, _, _, _, _, rfl, (fun _ _ h => by cases h; exact g140), ?_⟩
   refine Bi Dj Aa (.cons (AY g141) (.cons (AY rfl) .nil)) (BH hc1 g142) fun v2 F2 hr hF2 => ⟨F2, rfl, hF2, (hr.trans (congrArg Value.bool (dT rfl)))⟩
  ·intro e1 F1 hF1 he hj
   have g140 : (e1 140) = .bool true := B7 hj 59
   have g143 : (e1 143) = .bool true := B7 hj 62
   refine CD rfl (Ar (AY g140) rfl (AY g143)) rfl
  ·intro e1 F1 hF1 he hj
   have g144 : (e1 144) = .bool true := B7 hj 63
   refine CD rfl (AI (AY g144)) rfl
  ·intro e1 F1 hF1 he hj
   have g145 : (e1 145) = .bool true := B7 hj 64
   refine Da rfl g145 (AI (Bc (Bl he (by kernel_rfl)) <| Cv rfl <| JH rfl <| KG rfl <| GS rfl <| GD rfl <| FP)) rfl
  ·intro e1 F1 hF1 he hj
   have g145 : (e1 145) = .bool true := B7 hj 64
   replace hb := hb.mono hF1
   refine ⟨_, _, _, _, _, _, rfl, (fun _ _ h => by cases h; exact g145), ?_⟩
   refine BP (AM A9 B2 rfl (.cons Aa (.cons Aa (.cons Aa .nil))) rfl rfl (by decide) (by simp [Value.oneCell']) fun b hb nb => ⟨b, _, hb, rfl, fun F2 hF2 hz => ⟨F2, rfl, hF2, Es hz⟩⟩)
  ·intro e1 F1 hF1 he hj
   have g145 : (e1 145) = .bool true := B7 hj 64
   have g146 : (e1 146) = vd := B7 hj 65
   have g147 : Ints F1 (e1 147) [1, 4, 5] := B7 hj 66
   replace hd1 := hd1.mono hF1
   refine ⟨_, _, _, _, _, _, rfl, (fun _ _ h => by cases h; exact g145), ?_⟩
   refine Bi Dj Aa (.cons (AY g146) (.cons (AY rfl) .nil)) (BH hd1 g147) fun v2 F2 hr hF2 => ⟨F2, rfl, hF2, (hr.trans (congrArg Value.bool (dT rfl)))⟩
  ·intro e1 F1 hF1 he hj
   have g145 : (e1 145) = .bool true := B7 hj 64
   have g148 : (e1 148) = .bool true := B7 hj 67
   refine CD rfl (Ar (AY g145) rfl (AY g148)) rfl
  ·intro e1 F1 hF1 he hj
   have g149 : (e1 149) = .bool true := B7 hj 68
   refine CD rfl (AI (AY g149)) rfl
  ·intro e1 F1 hF1 he hj
   have g150 : (e1 150) = .bool true := B7 hj 69
   refine Da rfl g150 (AI (Bc (Bl he (by kernel_rfl)) <| Cv rfl <| JH rfl <| FP)) rfl
  ·intro e1 F1 hF1 he hj
   have g150 : (e1 150) = .bool true := B7 hj 69
   replace hb := hb.mono hF1
   refine ⟨_, _, _, _, _, _, rfl, (fun _ _ h => by cases h; exact g150), ?_⟩
   refine BP (AM A9 B2 rfl (.cons Aa (.cons Aa (.cons Aa (.cons Aa (.cons Aa (.cons Aa .nil)))))) rfl rfl (by decide) (by simp [Value.oneCell']) fun b hb nb => ⟨b, _, hb, rfl, fun F2 hF2 hz => ⟨F2, rfl, hF2, MD hz⟩⟩)
  ·intro e1 F1 hF1 he hj
   have g150 : (e1 150) = .bool true := B7 hj 69
   have g151 : (e1 151) = vo := B7 hj 70
   have g152 : Ints F1 (e1 152) [3, 4, 5, 0, 1, 7] := B7 hj 71
   replace ho := ho.mono hF1
   refine ⟨_, _, _, _, _, _, rfl, (fun _ _ h => by cases h; exact g150), ?_⟩
   refine Bi Dj Aa (.cons (AY g151) (.cons (AY rfl) .nil)) (BH ho g152) fun v2 F2 hr hF2 => ⟨F2, rfl, hF2, (hr.trans (congrArg Value.bool (dT rfl)))⟩
  ·intro e1 F1 hF1 he hj
   have g150 : (e1 150) = .bool true := B7 hj 69
   have g153 : (e1 153) = .bool true := B7 hj 72
   refine CD rfl (Ar (AY g150) rfl (AY g153)) rfl
  ·intro e1 F1 hF1 he hj
   have g154 : (e1 154) = .bool true := B7 hj 73
   refine CD rfl (AI (AY g154)) rfl
  ·intro e1 F1 hF1 he hj
   have g155 : (e1 155) = .bool true := B7 hj 74
   refine Da rfl g155 (AI (Bc (Bl he (by kernel_rfl)) <| Cv rfl <| GD rfl <| FP)) rfl
  ·intro e1 F1 hF1 he hj
   have g155 : (e1 155) = .bool true := B7 hj 74
   have g156 : (e1 156) = .int .i64 7 := B7 hj 75
   refine Da rfl g155 (CH (AY g156) Ed) rfl
  ·intro e1 F1 hF1 he hj
   have g155 : (e1 155) = .bool true := B7 hj 74
   have g157 : (e1 157) = .bool true := B7 hj 76
   refine CD rfl (Ar (AY g155) rfl (AY g157)) rfl
  ·intro e1 F1 hF1 he hj
   have g158 : (e1 158) = .bool true := B7 hj 77
   refine CD rfl (AI (AY g158)) rfl
  ·intro e1 F1 hF1 he hj
   have g159 : (e1 159) = .bool true := B7 hj 78
   refine Da rfl g159 (AI (Bc (Bl he (by kernel_rfl)) <| DU rfl <| KG rfl <| GS rfl <| FP)) rfl
  ·intro e1 F1 hF1 he hj
   have g159 : (e1 159) = .bool true := B7 hj 78
   replace hb := hb.mono hF1
   refine ⟨_, _, _, _, _, _, rfl, (fun _ _ h => by cases h; exact g159), ?_⟩
   refine BP (AM A9 B2 rfl (.cons Aa (.cons Aa .nil)) rfl rfl (by decide) (by simp [Value.oneCell']) fun b hb nb => ⟨b, _, hb, rfl, fun F2 hF2 hz => ⟨F2, rfl, hF2, BW hz⟩⟩)
  ·intro e1 F1 hF1 he hj
   have g159 : (e1 159) = .bool true := B7 hj 78
   have g160 : (e1 160) = vz := B7 hj 79
   have g161 : Ints F1 (e1 161) [0, 1] := B7 hj 80
   replace hz_ := hz_.mono hF1
   refine ⟨_, _, _, _, _, _, rfl, (fun _ _ h => by cases h; exact g159), ?_⟩
   refine Bi Dj Aa (.cons (AY g160) (.cons (AY rfl) .nil)) (BH hz_ g161) fun v2 F2 hr hF2 => ⟨F2, rfl, hF2, (hr.trans (congrArg Value.bool (dT rfl)))⟩
  ·intro e1 F1 hF1 he hj
   have g159 : (e1 159) = .bool true := B7 hj 78
   have g162 : (e1 162) = .bool true := B7 hj 81
   refine CD rfl (Ar (AY g159) rfl (AY g162)) rfl
  ·intro e1 F1 hF1 he hj
   have g163 : (e1 163) = .bool true := B7 hj 82
   refine CD rfl (AI (AY g163)) rfl
  ·intro e1 F1 hF1 he hj
   have g164 : (e1 164) = .bool true := B7 hj 83
   refine Da rfl g164 (AV Rf (Bc (Bl he (by kernel_rfl)) <| GD rfl <| FP)) rfl
  ·intro e1 F1 hF1 he hj
   have g164 : (e1 164) = .bool true := B7 hj 83
   have g165 : (e1 165) = .pointer (some ⟨b119, 2, none⟩) := B7 hj 84
   replace hz20 := hF1 _ _ hz20
   refine Da rfl g164 (Ak AF (AY g165) (AA hz20 rfl)) rfl
  ·intro e1 F1 hF1 he hj
   have g164 : (e1 164) = .bool true := B7 hj 83
   have g166 : (e1 166) = .int .i64 1 := B7 hj 85
   refine Da rfl g164 (CH (AY g166) Ed) rfl
  ·intro e1 F1 hF1 he hj
   have g164 : (e1 164) = .bool true := B7 hj 83
   have g167 : (e1 167) = .bool true := B7 hj 86
   refine CD rfl (Ar (AY g164) rfl (AY g167)) rfl
  ·intro e1 F1 hF1 he hj
   have g168 : (e1 168) = .bool true := B7 hj 87
   refine CD rfl (AI (AY g168)) rfl
  ·intro e1 F1 hF1 he hj
   have g169 : (e1 169) = .bool true := B7 hj 88
   refine Da rfl g169 (AV Re (Bc (Bl he (by kernel_rfl)) <| GD rfl <| FP)) rfl
  ·intro e1 F1 hF1 he hj
   have g169 : (e1 169) = .bool true := B7 hj 88
   have g170 : (e1 170) = .pointer (some ⟨b119, 6, none⟩) := B7 hj 89
   replace hz20 := hF1 _ _ hz20
   refine Da rfl g169 (Ak AF (AY g170) (AA hz20 rfl)) rfl
  ·intro e1 F1 hF1 he hj
   have g169 : (e1 169) = .bool true := B7 hj 88
   have g171 : (e1 171) = .int .i64 1 := B7 hj 90
   refine Da rfl g169 (CH (AY g171) Ed) rfl
  ·intro e1 F1 hF1 he hj
   have g169 : (e1 169) = .bool true := B7 hj 88
   have g172 : (e1 172) = .bool true := B7 hj 91
   refine CD rfl (Ar (AY g169) rfl (AY g172)) rfl
  intro e1 F1 hF1 he hj
  have g173 : (e1 173) = .bool true := B7 hj 92
  refine CD rfl (Bk (AY g173)) rfl
 intro e125 F122 hF123 he124 hj
 have g0 : (e125 0) = .bool true := hj 93 (by decide)
 refine Ab <| At <| Ap rfl (.tmp (AY g0) .nil) ?_
 rfl
end
section
def defL (x : Lot) (d : Bool) : Lot := ⟨x.name, x.seller, x.reserve, d⟩
def defS (s : Sale) (l : Nat) (d : Bool) : Sale := { s with lots := s.lots.set l (defL (s.lot l) d) }
theorem MK {s : Sale} {l : Nat} {d : Bool} (hl : l < s.lots.length) (i : Nat) (f : ByteArray → Bool) : (((defS s l d).lots.take i).any fun y => f y.name) = (s.lots.take i).any fun y => f y.name := by
 have h1 : ∀ m : List Lot, (m.any fun y => f y.name) = (m.map (·.name)).any f := fun m => by rw [List.any_map]; rfl
 rw [h1, h1, List.map_take, List.map_take]
 congr 2
 show (s.lots.set l (defL (s.lot l) d)).map (·.name) = _
 rw [List.map_set]
 apply List.ext_getElem
 · simp
 intro j h2 h3
 rw [List.getElem_set]
 split
 · rename_i he; subst he; simp only [List.getElem_map, Hw hl]; rfl
 rfl
theorem Qq {s : Sale} {l : Nat} {d : Bool} (hl : l < s.lots.length) (i : Nat) : lotErr (defS s l d) i = lotErr s i := by
 unfold lotErr
 have h2 : (defS s l d).lots[i]? = if l = i then some (defL (s.lot l) d) else s.lots[i]? := by
   show (s.lots.set l (defL (s.lot l) d))[i]? = _
   rw [List.getElem?_set]
   split
   · first | rfl | rw [if_pos (by omega)]
   rfl
 by_cases he : l = i
 · subst he
   rw [h2, if_pos rfl, List.getElem?_eq_getElem hl]
   simp only
   rw [MK hl l (fun n => sameS n (defL (s.lot l) d).name), Hw hl]
   rfl
 rw [h2, if_neg he]
 cases h : s.lots[i]? with
 | none => rfl
 | some x =>
   simp only
   rw [MK hl i (fun n => sameS n x.name)]
   rfl
theorem Jn {s : Sale} {l : Nat} {d : Bool} : (defS s l d).lots.length = s.lots.length := by simp [defS]
theorem SS {s : Sale} {l : Nat} {d : Bool} (hl : l < s.lots.length) : checkS (defS s l d) = checkS s := by
 have h1 : lotErr (defS s l d) = lotErr s := funext fun i => Qq hl i
 have h2 : bidErr (defS s l d) = bidErr s := by
   funext i
   unfold bidErr
   rw [Jn]
   rfl
 unfold checkS
 rw [h1, h2, Jn]
 rfl
theorem def_at {s : Sale} {l : Nat} {d : Bool} (hl : l < s.lots.length) : (defS s l d).lot l = defL (s.lot l) d := by simp [defS, Sale.lot, hl]
theorem S5 {ls : List Lot} {l : Nat} {d : Bool} (hl : l < ls.length) : (ls.flatMap Lot.enc).set (l * 4 + 3) (.bool d) = (ls.set l (defL ls[l] d)).flatMap Lot.enc := by
 induction ls generalizing l with
 | nil => simp at hl
 | cons r ls ih =>
   cases l with
   | zero => simp [Lot.enc, defL]
   | succ l =>
     have h1 : (l + 1) * 4 + 3 = (l * 4 + 3) + 4 := by omega
     rw [h1]
     have := ih (l := l) (by simpa using hl)
     simp only [List.flatMap_cons, List.set_cons_succ, List.getElem_cons_succ]
     rw [← this]
     simp [Lot.enc]
theorem U5 {ls : List Lot} : (ls.flatMap Lot.enc).length = ls.length * 4 := L6 (enc := Lot.enc) (s := 4) (fun _ => rfl) ls
def one9 (l : Nat) : List Back := [⟨(l : Int), 0⟩]
theorem Ur {s : Sale} {rg : List Int} {l : Nat} (hv : ValidS s) (hl : l < s.lots.length) : retErrAt s rg (one9 l) 0 = if (s.lot l).defect = false ∨ (soldS s l rg).bidder = -1 then 9 else 0 := by
 have hd := hv.days.1
 rw [CU (show 0 < (one9 l).length by simp [one9])]
 show (if inB 0 (s.lots.length - 1) (l : Int) = false then (4 : Int) else if (([] : List Back).any _) = true then 5 else if inB 0 s.days 0 = false then 7 else if (s.lot (l : Int).toNat).defect = false ∨ (soldS s (l : Int).toNat rg).bidder = -1 then 9 else 0) = _
 rw [if_neg (by unfold inB; simp; omega), if_neg (by simp), if_neg (by unfold inB; simp; omega)]
 rfl
theorem one_bad {s : Sale} {rg : List Int} {l : Nat} (hv : ValidS s) (hl : l < s.lots.length) (h : (s.lot l).defect = false ∨ (soldS s l rg).bidder = -1) : retErr s rg (one9 l) = 9 :=
 DD (k := 0) (by simp [one9]) (fun j hj => absurd hj (by omega)) (by rw [Ur hv hl, if_pos h]) (by decide)
theorem one_ok {s : Sale} {rg : List Int} {l : Nat} (hv : ValidS s) (hl : l < s.lots.length) (h : ¬ ((s.lot l).defect = false ∨ (soldS s l rg).bidder = -1)) : retErr s rg (one9 l) = 0 :=
 JA fun j hj => by
   obtain rfl : j = 0 := by simp [one9] at hj; exact hj
   rw [Ur hv hl, if_neg h]
theorem nil_ok {s : Sale} {rg : List Int} : retErr s rg [] = 0 := JA fun j hj => absurd hj (by simp)
theorem Jb {s : Sale} {rg : List Int} {k : Nat} : liveB s rg [] k = decide ((soldS s k rg).bidder ≠ -1) := by unfold liveB backB; simp
theorem Lt {s : Sale} {rg : List Int} {l k : Nat} : liveB s rg (one9 l) k = (liveB s rg [] k && decide (k ≠ l)) := by
 rw [Jb]
 unfold liveB backB one9
 congr 1
 rw [Bool.eq_iff_iff]
 simp
 omega
def paysP (s : Sale) (rg : List Int) (l : Nat) : Int := (soldS s l rg).price + partP (soldS s l rg).price s.premium
def gotP (s : Sale) (rg : List Int) (l : Nat) : Int := (soldS s l rg).price - partP (soldS s l rg).price s.fee
theorem N4 {s : Sale} {rg : List Int} {l b : Nat} (hb : (soldS s l rg).bidder ≠ -1) : ∀ k, payTo s rg (one9 l) b k = payTo s rg [] b k - if l < k ∧ (soldS s l rg).bidder = (b : Int) then paysP s rg l else 0
 | 0 => by simp [payTo]
 | k + 1 => by
   have ih := N4 (b := b) hb k
   unfold payTo
   rw [Lt, ih]
   by_cases hk : k = l
   · subst hk
     rw [if_neg (by simp), if_neg (by omega)]
     by_cases hc : (soldS s k rg).bidder = (b : Int)
     · rw [if_pos ⟨by rw [Jb]; simpa using hb, hc⟩, if_pos ⟨by omega, hc⟩]; unfold paysP; omega
     rw [if_neg (fun h => hc h.2), if_neg (fun h => hc h.2)]
   have h1 : (l < k + 1 ∧ (soldS s l rg).bidder = (b : Int)) ↔ (l < k ∧ (soldS s l rg).bidder = (b : Int)) := by constructor <;> (rintro ⟨h1, h2⟩; exact ⟨by omega, h2⟩)
   have h2 : (liveB s rg [] k && decide (k ≠ l)) = liveB s rg [] k := by simp [hk]
   rw [h2]
   simp only [h1]
   split <;> omega
theorem NH {s : Sale} {rg : List Int} {l c : Nat} (hb : (soldS s l rg).bidder ≠ -1) : ∀ k, getTo s rg (one9 l) c k = getTo s rg [] c k - if l < k ∧ (s.lot l).seller = (c : Int) then gotP s rg l else 0
 | 0 => by simp [getTo]
 | k + 1 => by
   have ih := NH (c := c) hb k
   unfold getTo
   rw [Lt, ih]
   by_cases hk : k = l
   · subst hk
     rw [if_neg (by simp), if_neg (by omega)]
     by_cases hc : (s.lot k).seller = (c : Int)
     · rw [if_pos ⟨by rw [Jb]; simpa using hb, hc⟩, if_pos ⟨by omega, hc⟩]; unfold gotP; omega
     rw [if_neg (fun h => hc h.2), if_neg (fun h => hc h.2)]
   have h1 : (l < k + 1 ∧ (s.lot l).seller = (c : Int)) ↔ (l < k ∧ (s.lot l).seller = (c : Int)) := by constructor <;> (rintro ⟨h1, h2⟩; exact ⟨by omega, h2⟩)
   have h2 : (liveB s rg [] k && decide (k ≠ l)) = liveB s rg [] k := by simp [hk]
   rw [h2]
   simp only [h1]
   split <;> omega
theorem MF {s : Sale} {rg : List Int} {l : Nat} (hb : (soldS s l rg).bidder ≠ -1) : ∀ k, houseTo s rg (one9 l) k = houseTo s rg [] k - if l < k then paysP s rg l - gotP s rg l else 0
 | 0 => by simp [houseTo]
 | k + 1 => by
   have ih := MF hb k
   unfold houseTo
   rw [Lt, ih]
   by_cases hk : k = l
   · subst hk
     rw [if_neg (by simp), if_neg (by omega), if_pos (by rw [Jb]; simpa using hb), if_pos (by omega)]
     unfold paysP gotP; omega
   have h1 : (l < k + 1) ↔ (l < k) := by omega
   have h2 : (liveB s rg [] k && decide (k ≠ l)) = liveB s rg [] k := by simp [hk]
   rw [h2]
   simp only [h1]
   split <;> omega
def allPay (s : Sale) (rg : List Int) (rs : List Back) : List Int := (List.range s.bidders.length).map fun b => payTo s rg rs b s.lots.length
def allGet (s : Sale) (rg : List Int) (rs : List Back) : List Int := (List.range s.sellers.length).map fun c => getTo s rg rs c s.lots.length
theorem Lq {f g : Nat → Int} {n b : Nat} {z : Int} (h1 : g b = z) (h2 : ∀ c, c ≠ b → g c = f c) : ((List.range n).map f).set b z = (List.range n).map g := by
 apply List.ext_getElem
 · simp
 intro i h3 h4
 rw [List.getElem_set]
 simp only [List.getElem_map, List.getElem_range]
 by_cases hi : b = i
 · subst hi; rw [if_pos rfl, h1]
 rw [if_neg hi, h2 _ (Ne.symm hi)]
theorem Ul {s : Sale} {rg : List Int} {l b : Nat} (hl : l < s.lots.length) (hb : (soldS s l rg).bidder = (b : Int)) : (allPay s rg []).set b (payTo s rg [] b s.lots.length - paysP s rg l) = allPay s rg (one9 l) :=
 Lq (by rw [N4 (by omega), if_pos ⟨hl, hb⟩]) fun c hc => by rw [N4 (by omega), if_neg (fun h => hc (by omega))]; omega
theorem UI {s : Sale} {rg : List Int} {l c : Nat} (hb : (soldS s l rg).bidder ≠ -1) (hl : l < s.lots.length) (hc : (s.lot l).seller = (c : Int)) : (allGet s rg []).set c (getTo s rg [] c s.lots.length - gotP s rg l) = allGet s rg (one9 l) :=
 Lq (by rw [NH hb, if_pos ⟨hl, hc⟩]) fun d hd => by rw [NH hb, if_neg (fun h => hd (by omega))]; omega
theorem Wa {s : Sale} {rg : List Int} (h : enterErr s rg = 0) : accE s rg [] = (allPay s rg [], allGet s rg [], houseTo s rg [] s.lots.length, 0) := Og h nil_ok
theorem To {s : Sale} {rg : List Int} {l : Nat} (hv : ValidS s) (hl : l < s.lots.length) (h : enterErr s rg = 0) (hd : (s.lot l).defect = false ∨ (soldS s l rg).bidder = -1) : accE s rg (one9 l) = ([], [], 0, 9) := Fq h (one_bad hv hl hd) (by decide)
theorem Tn {s : Sale} {rg : List Int} {l : Nat} (hv : ValidS s) (hl : l < s.lots.length) (h : enterErr s rg = 0) (hd : ¬ ((s.lot l).defect = false ∨ (soldS s l rg).bidder = -1)) : accE s rg (one9 l) = (allPay s rg (one9 l), allGet s rg (one9 l), houseTo s rg (one9 l) s.lots.length, 0) := Og h (one_ok hv hl hd)
theorem Bu {s : Sale} {rg : List Int} {rs : List Back} : (allPay s rg rs).length = s.bidders.length := by simp [allPay]
theorem DL {s : Sale} {rg : List Int} {rs : List Back} : (allGet s rg rs).length = s.sellers.length := by simp [allGet]
theorem Tl {s : Sale} {rg : List Int} {rs : List Back} {b : Nat} (h : b < (allPay s rg rs).length) : (allPay s rg rs)[b] = payTo s rg rs b s.lots.length := by simp [allPay]
theorem Tm {s : Sale} {rg : List Int} {rs : List Back} {b : Nat} (h : b < (allGet s rg rs).length) : (allGet s rg rs)[b] = getTo s rg rs b s.lots.length := by simp [allGet]
end
section
set_option maxHeartbeats 4000000
set_option maxRecDepth 100000
open Go.RowKit
theorem ar_34 : ArrT Tryz.prog 34 2 5 1 := KN (by kernel_rfl)
theorem bd_12 : Body Tryz.prog 12 := AE (by kernel_rfl)
theorem bd_4 : Body Tryz.prog 4 := AE (by kernel_rfl)
theorem bd_5 : Body Tryz.prog 5 := AE (by kernel_rfl)
theorem Tj : Body Tryz.prog 6 := AE (by kernel_rfl)
theorem Ti : Body Tryz.prog 7 := AE (by kernel_rfl)
theorem bd_9 : Body Tryz.prog 9 := AE (by kernel_rfl)
theorem el_47 : ElemT Tryz.prog 47 4 40 (.agg #[.string ⟨#[]⟩, .int .i64 0, .int .i64 0, .bool false]) := D6 (by kernel_rfl) rfl (by decide)
theorem Ut : OneT Tryz.prog 5 := BE (by kernel_rfl)
instance : OneI Tryz.prog 5 := ⟨Ut⟩
theorem sz_30 : SizeT Tryz.prog 30 1 := Bx (by kernel_rfl)
theorem LX {F : Heap} {b T : Nat} {l : Nat} (h : F b = some (bx T [.int .i64 (l : Int), .int .i64 0])) : Sl F (.slice (some ⟨b, 0, none⟩) 1 1) 2 Back.enc (one9 l) := Cw h rfl rfl (fun _ => rfl) (by decide)
theorem Lb {F : Heap} {vg vi : Value} {qs : List (Value × Gth)} {is : List (Value × List Int)} {c : Cpc} (hc : CpcR F vg qs vi is c) {vs vb vl vn vd : Value} {s : Sale} (hr : SaleR F vs vb vl vn vd s) {ka kb : Nat} (hka : ka < 256) (hkb : kb < 256) : Ok Tryz.prog 3 [.agg #[.int .i64 c.book.signed, vg, vi], .agg #[vs, .int .i64 s.premium, .int .i64 s.fee, .int .i64 s.days, vb, vl, vn, vd], .agg #[.int .u8 (ka : Int), .int .u8 (kb : Int)]].toArray F fun u _ => u = .bool true := by
 have hle0 : F.le F := Heap.le_refl _
 refine Ok.intro Tryz.func3 rfl Tryz.ntmps3 rfl fun w0 => Ac <| Am fun ds => A5 rfl <| Bg Aa rfl fun b1 hb1 nb1 => A5 rfl <| Bg Aa rfl fun b2 hb2 nb2 => A5 rfl <| Bg Aa rfl fun b3 hb3 nb3 => Aw (Af 1) <| Ac <| AK (i := 2) rfl hb1 (.next <| .next <| .here) fun F4 hF5 hz3 => ?_
 replace hle0 := Heap.le_trans hle0 hF5
 refine AK (i := 0) rfl hb3 (.here) fun F6 hF7 hz5 => ?_
 replace hc := hc.mono (Heap.le_trans hF5 hF7)
 replace hle0 := Heap.le_trans hle0 hF7
 replace hz3 := hF7 _ _ hz3
 refine Am fun ds => Ag rfl (AC (vs := [.int .i64 c.book.signed, vg, vi]) CP Aa rfl rfl (Ba hz3)) <| A5 rfl <| Bi bd_4 Aa AW (SW hc) fun v8 F9 hr10 hF11 => ?_
 replace hc := hc.mono hF11
 replace hr := hr.mono (Heap.le_trans hF5 (Heap.le_trans hF7 hF11))
 replace hle0 := Heap.le_trans hle0 hF11
 replace hz3 := hF11 _ _ hz3
 replace hz5 := hF11 _ _ hz5
 obtain ⟨p_, q_, z, rfl, hz⟩ := hr10
 refine Aw (Af 7) <| Az (Af 1) fun ds => AN rfl (Ay bd_5 Aa AW (N0 hr) (fun _ _ h => h)) <| Aw (Af 7) <| Ac <| Ac ?_
 by_cases hz0 : z = 0
 ·by_cases h0 : (checkS s).2.2 = 0
  ·by_cases hl0 : s.lots.length = 0
   ·refine Am fun ds => Aj (Af 3) <| Ae rfl rfl Aa (dF (fun h => h hz0)) <| Aj (Af 1) <| Ae rfl rfl Aa (dF (fun h => h hz0)) <| Aj (Af 1) <| Ag rfl (As Aa (dF (fun h => h hz0)) Aa) <| Aj (Af 1) <| Ae rfl rfl Aa (dF (fun h => h h0)) <| Aj (Af 1) <| Ae rfl rfl Aa (dF (fun h => h h0)) <| Aj (Af 1) <| Ae rfl rfl Aa (dF (fun h => h h0)) <| Ag rfl (A4 BN Aa hr.lots.plain) <| Ae rfl rfl Aa (dF (fun h => h h0)) <| Aj (Af 1) <| Ag rfl (As Aa (dF (fun h => h h0)) Aa) <| Ao <| Ab <| Ai Aa (dT (by omega)) <| Ac <| Am fun ds => AN rfl (Ay Tj Aa .nil Et (fun _ _ h => h)) <| Aj (Af 1) <| Ae rfl rfl Aa rfl <| AN rfl (Ay Ti Aa .nil Fm (fun _ _ h => h)) <| Ag rfl (Ar Aa rfl Aa) <| Aw (Af 1) <| At <| Ax <| Ap rfl Bd ?_
    rfl
   have hv := hz hz0
   have hvs := BV h0
   have hnl := hvs.nl
   have hn0 : 0 < s.lots.length := by omega
   have hwb := QB hv
   refine Am fun ds => Aj (Af 3) <| Ae rfl rfl Aa (dF (fun h => h hz0)) <| Aj (Af 1) <| Ae rfl rfl Aa (dF (fun h => h hz0)) <| Aj (Af 1) <| Ag rfl (As Aa (dF (fun h => h hz0)) Aa) <| Aj (Af 1) <| Ae rfl rfl Aa (dF (fun h => h h0)) <| Aj (Af 1) <| Ae rfl rfl Aa (dF (fun h => h h0)) <| Aj (Af 1) <| Ae rfl rfl Aa (dF (fun h => h h0)) <| Ag rfl (A4 BN Aa hr.lots.plain) <| Ae rfl rfl Aa (dF (fun h => h h0)) <| Aj (Af 1) <| Ag rfl (As Aa (dF (fun h => h h0)) Aa) <| Ao <| Ab <| Ad Aa (dF (by omega)) <| Al <| Ab <| Ac <| Am fun ds => Ag rfl (AC (vs := [.int .i64 c.book.signed, vg, vi]) CP Aa rfl rfl (Ba hz3)) <| AN rfl (Ay bd_8 Aa AW (Mu hc hv) (fun _ _ h => h)) <| Aj (Af 3) <| A5 rfl <| AO JY rfl fun b12 hb12 nb12 => AS <| AP Kd Aa Aa (i := 0) rfl rfl rfl rfl (by simp [Value.oneCell']) (.here) <| Aw (Af 1) <| AK (i := 0) rfl hb12 (.here) fun F13 hF14 hz13 => ?_
   replace hr := hr.mono hF14
   replace hle0 := Heap.le_trans hle0 hF14
   replace hz5 := hF14 _ _ hz5
   refine Ac <| AD (Af 2) <| Ad Aa (dF (fun h => h rfl)) <| Al <| Ab <| Ac ?_
   have hleS := hle0
   refine BO (.inl rfl) (fun _ _ h => h) (kK <| .refl _) [] (by kernel_rfl) fun ds => Au 0 rfl (kK <| .refl _) (AZ (k := 0) ar_34 Aa Aa rfl (by decide)) <| Au 1 rfl (kK <| .refl _) (Ak Ut Aa (AA hz5 rfl)) <| Au 2 rfl (kK <| .refl _) (Ff ⟨_, Tryz.underlying5⟩ Tryz.underlying3 Aa (IntWalk.i64_in _ ⟨by omega, by omega⟩)) <| Au 3 rfl (kK <| .refl _) (AV Jl Aa) <| Au 4 rfl (kK <| .refl _) (Ak Dm Aa (Cell.own 0 rfl rfl)) <| Au 5 rfl (kK <| .refl _) (A4 BN Aa hr.lots.plain) <| Au 6 rfl (kK <| .refl _) (HV Aa Aa (Int.natCast_nonneg _) (by omega)) ?_
   refine Au 7 rfl (kK <| .refl _) (AC EG Aa rfl rfl (Bz 0 rfl)) <| Au 8 rfl (kK <| .refl _) (AZ (k := 1) ar_34 Aa Aa rfl (by decide)) <| Au 9 rfl (kK <| .refl _) (Ak Ut Aa (AA hz5 rfl)) ?_
   refine BU 10 rfl (by kernel_rfl) rfl (Bi bd_9 Aa AW (ring_ok hr hvs) fun v15 F16 hr17 hF18 => ⟨fun _ _ _ h => (h.drop (kK <| .refl _)).weak hF18 hleS, ?_⟩)
   replace hr := hr.mono hF18
   replace hle0 := Heap.le_trans hle0 hF18
   replace hz13 := hF18 _ _ hz13
   have hn := hr17
   have hx := hn.ints
   change Ints _ _ (castL (ringN s kb)) at hx
   refine EU 11 rfl (by kernel_rfl) (by kernel_rfl) (by kernel_rfl) (by kernel_rfl) rfl rfl (fun _ h => (h.drop (kK <| .refl _)).weak hF18 hleS) (fun _ _ _ h => h) (Bk Aa) <| EU 12 rfl (by kernel_rfl) (by kernel_rfl) (by kernel_rfl) (by kernel_rfl) rfl rfl (fun _ h => (h.drop (kK <| .refl _)).weak hF18 hleS) (fun _ _ _ h => h) (Bk Aa) ?_
   refine BC (by kernel_rfl) ?_ _
   refine Ab <| Ac ?_
   obtain ⟨l, hl9⟩ := Int.eq_ofNat_of_zero_le (Int.emod_nonneg (ka : Int) (show (s.lots.length : Int) ≠ 0 by omega))
   have hln : l < s.lots.length := by have := Int.emod_lt_of_pos (ka : Int) (show 0 < (s.lots.length : Int) by omega); omega
   rw [hl9]
   obtain ⟨d, hd⟩ : ∃ d : Bool, d = decide ((wideC c).1 > 0) := ⟨_, rfl⟩
   refine Am fun ds => A5 rfl <| Oj BN fun b19 hb19 nb19 => Aj (Af 2) <| A5 rfl <| Bp BN el_47 Aa (GA rfl) Aa (hr.lots.src (fun _ => rfl) (fun _ => Lot.enc_one)) (by omega) (by omega) (.z) .box fun v20 R21 ho22 => ?_
   have ho76 : Own 47 4 v20 (s.lots).length ((s.lots).flatMap Lot.enc) R21 := by simpa using ho22
   obtain ⟨v76, hv76⟩ : ∃ y, y = v20 := ⟨_, rfl⟩
   subst hv76
   refine Aj (Af 1) <| Fr (.one (.lastS) <| .lastb (.last)) <| AS <| Bf sz_30 Aa Aa (i := 0) rfl (.next <| .next <| .next <| .next <| .next <| .next <| .here) ho76.one (.here) <| Ao <| Ab <| Az (Af 4) fun ds => Ag rfl (Ak AF Aa (AA hz13 rfl)) <| Aj (Af 1) <| Ag rfl (A1 (k := l) BN Aa (ho76.plain (by omega)) Aa rfl hln) <| Aj (Af 1) <| AS <| Dv (j := l * 4 + 3) Or Aa Aa ho76 (by rw [U5]; omega) rfl (.s <| .z) .last fun R10 ho10 => Ao <| Ab <| Ac ?_
   have ho11 : Own 47 4 v76 ((defS s l d).lots).length (((defS s l d).lots).flatMap Lot.enc) R10 := by rw [S5 hln, ← hd, Hw hln] at ho10; rw [Jn]; exact ho10
   refine BJ (σ := ⟨_, _⟩) (by rfl) ho11 (.s <| .z) .last fun F23 hF24 hz25 => ?_
   replace hle0 := Heap.le_trans hle0 hF24
   have hl2 := ho11.sl (fun _ => rfl) hz25 (by rw [Jn]; omega)
   refine AK (i := 0) rfl hb2 (.here) fun F26 hF27 hz4 => ?_
   have hU99 := Heap.le_trans hF24 hF27
   replace hr := hr.mono hU99
   replace hle0 := Heap.le_trans hle0 hF27
   replace hx := hx.mono hU99
   replace hl2 := hl2.mono hF27
   have hr2 : SaleR F26 vs vb vl v76 vd (defS s l d) := ⟨hr.steps, hr.bidders, hr.sellers, hl2, hr.bids⟩
   have h02 : (checkS (defS s l d)).2.2 = 0 := by rw [SS hln]; exact h0
   have hv2 := BV h02
   have hen : enterErr (defS s l d) (castL (ringN s kb)) = 0 := Pe (s := (defS s l d)) h02
   obtain ⟨rg, hrg⟩ : ∃ rg, rg = castL (ringN s kb) := ⟨_, rfl⟩
   rw [← hrg] at hx hen
   have hln2 : l < (defS s l d).lots.length := by rw [Jn]; exact hln
   have hal : l < (allS (defS s l d) rg).length := by rw [BF]; exact hln2
   have hsl : (allS (defS s l d) rg)[l] = (soldS (defS s l d) l rg) := ET hal
   have hlw := Mn (c := c)
   have hpl : (allPay (defS s l d) rg []).length = s.bidders.length := Bu
   have hgl : (allGet (defS s l d) rg []).length = s.sellers.length := DL
   have hnb := hvs.nb
   have hns := hvs.nse
   have hal6 : (allS (defS s l d) rg).length ≤ 6 := by rw [BF]; exact hv2.nl
   have hdf : ((defS s l d).lot l).defect = d := by rw [def_at hln]; rfl
   refine Am fun ds => Ag rfl (AC (vs := [vs, .int .i64 s.premium, .int .i64 s.fee, .int .i64 s.days, vb, vl, v76, vd]) EG Aa rfl rfl (Ba hz4)) <| Aj (Af 1) <| A5 rfl <| Bi VO Aa AW ((Hk hr2 hx).mono fun u F2 _ h => (by rw [Ov hen] at h; exact h : ∃ w, u = .tuple #[w, .int .i64 0] ∧ Sl F2 w 2 Res.enc (allS (defS s l d) rg))) fun v28 F29 hr30 hF31 => ?_
   replace hle0 := Heap.le_trans hle0 hF31
   replace hx := hx.mono hF31
   replace hr2 := hr2.mono hF31
   replace hz4 := hF31 _ _ hz4
   obtain ⟨vq, rfl, hq⟩ := hr30
   refine Aw (Af 5) <| Ac <| Am fun ds => Ag rfl (AC (vs := [vs, .int .i64 s.premium, .int .i64 s.fee, .int .i64 s.days, vb, vl, v76, vd]) EG Aa rfl rfl (Ba hz4)) <| Aj (Af 1) <| A5 rfl <| BY Px Aa AW (K4 hr2 hx Sl.nil) fun v32 F33 R36 hr34 hF35 => ?_
   have hU135 := Heap.le_trans hF14 (Heap.le_trans hF18 (Heap.le_trans hF24 (Heap.le_trans hF27 (Heap.le_trans hF31 hF35))))
   have hU136 := Heap.le_trans hF31 hF35
   replace hr := hr.mono hU136
   replace hle0 := Heap.le_trans hle0 hF35
   replace hx := hx.mono hF35
   replace hl2 := hl2.mono hU136
   replace hr2 := hr2.mono hF35
   replace hq := hq.mono hF35
   replace hz5 := (Heap.le_trans hF18 (Heap.le_trans hF24 (Heap.le_trans hF27 (Heap.le_trans hF31 hF35)))) _ _ hz5
   replace hz13 := (Heap.le_trans hF24 (Heap.le_trans hF27 (Heap.le_trans hF31 hF35))) _ _ hz13
   replace hz4 := hF35 _ _ hz4
   rw [Wa hen] at hr34
   obtain ⟨w1, w2, R1, R2, hu, ho1, ho2, rfl, -, -⟩ := hr34
   replace hu : v32 = .tuple #[w1, w2, .int .i64 (houseTo (defS s l d) rg [] (defS s l d).lots.length), .int .i64 0] := hu
   subst hu
   replace ho1 : Own 3 1 w1 ((allPay (defS s l d) rg [])).length (((allPay (defS s l d) rg [])).flatMap intE) R1 := ho1
   replace ho2 : Own 3 1 w2 ((allGet (defS s l d) rg [])).length (((allGet (defS s l d) rg [])).flatMap intE) R2 := ho2
   refine Aw (Af 9) <| Ac <| Jz (σ' := ⟨_, R1 ++ R2⟩) rfl rfl ?_
   by_cases hdd : ((defS s l d).lot l).defect = false ∨ (soldS (defS s l d) l rg).bidder = -1
   ·refine Am fun ds => Ag rfl (AC (vs := [vs, .int .i64 s.premium, .int .i64 s.fee, .int .i64 s.days, vb, vl, v76, vd]) EG Aa rfl rfl (Ba hz4)) <| Aj (Af 2) <| Ag rfl (Bm Rq (.cons Aa rfl .nil) (.cons rfl rfl (Nat.le_of_ble_eq_true rfl) (.cons (.here) .nil) .nil)) <| A5 rfl <| B5 (offs := [(0, 2)]) (zl := [.int .i64 0, .int .i64 0]) Kg KQ rfl (.cons Aa rfl .nil) (by intro i p h; rcases i with _ | i <;> simp at h <;> subst h <;> rfl) (.cons rfl rfl (Nat.le_of_ble_eq_true rfl) (.cons (.here) (.cons (.next <| .here) .nil)) .nil) (by decide) (by decide) fun b37 hb37 nb37 => AJ (i := 0) rfl hb37 .here fun F38 hF39 hz40 => ?_
    replace hx := hx.mono hF39
    replace hr2 := hr2.mono hF39
    have hsl41 := LX hz40
    refine A5 rfl <| Bi Px Aa AW ((FI hr2 hx hsl41).mono fun u F2 _ h => (by have h2 : AccR F2 u (accE (defS s l d) rg (one9 l)) := h; rw [To hv2 hln2 hen hdd] at h2; exact h2 : ∃ w w2, u = .tuple #[w, w2, .int .i64 0, .int .i64 9] ∧ Ints F2 w [] ∧ Ints F2 w2 [])) fun v42 F43 hr44 hF45 => ?_
    have hU169 := Heap.le_trans hF39 hF45
    replace hr := hr.mono hU169
    replace hl2 := hl2.mono hU169
    replace hq := hq.mono hU169
    replace hz13 := hU169 _ _ hz13
    replace hz4 := hU169 _ _ hz4
    obtain ⟨y1, y2, rfl, hy1, hy2⟩ := hr44
    refine Aw (Af 9) <| Ac <| Az (Af 3) fun ds => Ae rfl rfl Aa (dF (fun h => h rfl)) <| Aj (Af 1) <| Ae rfl rfl Aa (dF (fun h => h rfl)) <| Aj (Af 1) <| Ag rfl (As Aa (dF (fun h => h rfl)) Aa) <| Aj (Af 1) <| Ae rfl rfl Aa (dF (fun h => h rfl)) <| Aj (Af 1) <| Ae rfl rfl Aa (dF (fun h => h rfl)) <| Ag rfl (A4 BQ Aa hq.plain) <| Ae rfl rfl Aa (dF (fun h => h rfl)) <| Aj (Af 1) <| Ae rfl rfl Aa (dF (fun h => h rfl)) <| Ag rfl (Ak Dm Aa (AA hz4 rfl)) <| Ae rfl rfl Aa (dF (fun h => h rfl)) <| Ag rfl (A4 BN Aa hl2.plain) <| Ae rfl rfl Aa (dF (fun h => h rfl)) <| Aj (Af 1) <| Ag rfl (As Aa (dF (fun h => h rfl)) Aa) <| Aj (Af 1) <| Ae rfl rfl Aa (dF (fun h => h (congrArg (fun n : Nat => (n : Int)) BF))) <| Aj (Af 1) <| Ae rfl rfl Aa (dF (fun h => h (congrArg (fun n : Nat => (n : Int)) BF))) <| Ag rfl (A4 A9 Aa (ho1.plain (by omega))) <| Ae rfl rfl Aa (dF (fun h => h (congrArg (fun n : Nat => (n : Int)) BF))) <| Aj (Af 1) <| Ae rfl rfl Aa (dF (fun h => h (congrArg (fun n : Nat => (n : Int)) BF))) <| Ag rfl (Ak Cd Aa (AA hz4 rfl)) <| Ae rfl rfl Aa (dF (fun h => h (congrArg (fun n : Nat => (n : Int)) BF))) ?_
    refine Ag rfl (A4 BB Aa hr.bidders.plain) <| Ae rfl rfl Aa (dF (fun h => h (congrArg (fun n : Nat => (n : Int)) BF))) <| Aj (Af 1) <| Ag rfl (As Aa (dF (fun h => h (congrArg (fun n : Nat => (n : Int)) BF))) Aa) <| Aj (Af 1) <| Ae rfl rfl Aa (dF (fun h => h (congrArg (fun n : Nat => (n : Int)) Bu))) <| Aj (Af 1) <| Ae rfl rfl Aa (dF (fun h => h (congrArg (fun n : Nat => (n : Int)) Bu))) <| Ag rfl (A4 A9 Aa (ho2.plain (by omega))) <| Ae rfl rfl Aa (dF (fun h => h (congrArg (fun n : Nat => (n : Int)) Bu))) <| Aj (Af 1) <| Ae rfl rfl Aa (dF (fun h => h (congrArg (fun n : Nat => (n : Int)) Bu))) <| Ag rfl (Ak Cd Aa (AA hz4 rfl)) <| Ae rfl rfl Aa (dF (fun h => h (congrArg (fun n : Nat => (n : Int)) Bu))) <| Ag rfl (A4 BB Aa hr.sellers.plain) <| Ae rfl rfl Aa (dF (fun h => h (congrArg (fun n : Nat => (n : Int)) Bu))) <| Aj (Af 1) <| Ag rfl (As Aa (dF (fun h => h (congrArg (fun n : Nat => (n : Int)) Bu))) Aa) <| Ao <| Ab <| Ad Aa (dF (fun h => h (congrArg (fun n : Nat => (n : Int)) DL))) ?_
    by_cases hb : (soldS (defS s l d) l rg).bidder = -1
    ·refine Al <| Ab <| Ac <| Az (Af 2) fun ds => Ag rfl (A1 (k := l) BQ Aa hq.plain Aa rfl hal) <| Aj (Af 1) <| Ag rfl (Ak AF Aa (hq.cell hal rfl)) <| Aj (Af 2) <| Ah rfl rfl Aa (.inl (congrArg Value.bool (dT (by rw [hsl]; exact hb)))) rfl <| Ah rfl rfl Aa (.inl (congrArg Value.bool (dT (by rw [hsl]; exact hb)))) rfl <| Ah rfl rfl Aa (.inl (congrArg Value.bool (dT (by rw [hsl]; exact hb)))) rfl <| Ag rfl (Ar Aa (dT (by rw [hsl]; exact hb)) Aa) <| Ao <| Ab <| Ai Aa rfl <| Az (Af 3) fun ds => Ae rfl rfl Aa (by first | rfl | exact dT (by omega)) <| Aj (Af 1) <| Ae rfl rfl Aa (by first | rfl | exact dT (by omega)) <| Ag rfl (A4 A9 Aa hy1.plain) <| Ae rfl rfl Aa (by first | rfl | exact dT (by omega)) <| Aj (Af 1) <| Ae rfl rfl Aa (by first | rfl | exact dT (by omega)) <| Ag rfl (A4 A9 Aa hy2.plain) <| Ae rfl rfl Aa (by first | rfl | exact dT (by omega)) <| Ag rfl (AG Aa Aa rfl (by decide) (by decide)) <| Ae rfl rfl Aa (by first | rfl | exact dT (by omega)) <| Aj (Af 1) <| Ag rfl (Ar Aa (by first | rfl | exact dT (by omega)) Aa) <| Aj (Af 1) <| Ae rfl rfl Aa (by first | rfl | exact dT (by omega)) <| Aj (Af 1) <| Ae rfl rfl Aa (by first | rfl | exact dT (by omega)) ?_
     refine Aj (Af 1) <| Ag rfl (Ar Aa (by first | rfl | exact dT (by omega)) Aa) <| Aj (Af 1) <| Ae rfl rfl Aa (by first | rfl | exact dT (by omega)) <| AN rfl (Ay Tj Aa .nil Et (fun _ _ h => h)) <| Ag rfl (Ar Aa (by first | rfl | exact dT (by omega)) Aa) <| Aj (Af 1) <| Ae rfl rfl Aa (by first | rfl | exact dT (by omega)) <| AN rfl (Ay Ti Aa .nil Fm (fun _ _ h => h)) <| Ag rfl (Ar Aa (by first | rfl | exact dT (by omega)) Aa) <| Aw (Af 1) <| At <| Ax <| Ap rfl Bd ?_
     rfl
    have hlo : (wideC c).1 = 0 := by have h9 := hdd.resolve_right hb; rw [hdf, hd] at h9; have h8 := of_decide_eq_false h9; omega
    refine Al <| Ab <| Ac <| Az (Af 2) fun ds => Ag rfl (A1 (k := l) BQ Aa hq.plain Aa rfl hal) <| Aj (Af 1) <| Ag rfl (Ak AF Aa (hq.cell hal rfl)) <| Aj (Af 2) <| Ae rfl rfl Aa (dF (by rw [hsl]; exact hb)) <| Aj (Af 1) <| Ae rfl rfl Aa (dF (by rw [hsl]; exact hb)) <| Ag rfl (Ak AF Aa (AA hz13 rfl)) <| Ae rfl rfl Aa (dF (by rw [hsl]; exact hb)) <| Aj (Af 1) <| Ag rfl (As Aa (dF (by rw [hsl]; exact hb)) Aa) <| Ao <| Ab <| Ai Aa (dT hlo) <| Az (Af 3) fun ds => Ae rfl rfl Aa (by first | rfl | exact dT (by omega)) <| Aj (Af 1) <| Ae rfl rfl Aa (by first | rfl | exact dT (by omega)) <| Ag rfl (A4 A9 Aa hy1.plain) <| Ae rfl rfl Aa (by first | rfl | exact dT (by omega)) <| Aj (Af 1) <| Ae rfl rfl Aa (by first | rfl | exact dT (by omega)) <| Ag rfl (A4 A9 Aa hy2.plain) <| Ae rfl rfl Aa (by first | rfl | exact dT (by omega)) <| Ag rfl (AG Aa Aa rfl (by decide) (by decide)) <| Ae rfl rfl Aa (by first | rfl | exact dT (by omega)) <| Aj (Af 1) <| Ag rfl (Ar Aa (by first | rfl | exact dT (by omega)) Aa) <| Aj (Af 1) <| Ae rfl rfl Aa (by first | rfl | exact dT (by omega)) <| Aj (Af 1) <| Ae rfl rfl Aa (by first | rfl | exact dT (by omega)) ?_
    refine Aj (Af 1) <| Ag rfl (Ar Aa (by first | rfl | exact dT (by omega)) Aa) <| Aj (Af 1) <| Ae rfl rfl Aa (by first | rfl | exact dT (by omega)) <| AN rfl (Ay Tj Aa .nil Et (fun _ _ h => h)) <| Ag rfl (Ar Aa (by first | rfl | exact dT (by omega)) Aa) <| Aj (Af 1) <| Ae rfl rfl Aa (by first | rfl | exact dT (by omega)) <| AN rfl (Ay Ti Aa .nil Fm (fun _ _ h => h)) <| Ag rfl (Ar Aa (by first | rfl | exact dT (by omega)) Aa) <| Aw (Af 1) <| At <| Ax <| Ap rfl Bd ?_
    rfl
   have hb : (soldS (defS s l d) l rg).bidder ≠ -1 := fun h => hdd (.inr h)
   have hdt : d = true := by rw [← hdf]; cases h9 : ((defS s l d).lot l).defect with | true => rfl | false => exact absurd (.inl h9) hdd
   have hlo : 0 < (wideC c).1 := by rw [hdt] at hd; exact of_decide_eq_true hd.symm
   have hsb := Dl hv2 hln2 rg
   obtain ⟨b, hb9⟩ := Int.eq_ofNat_of_zero_le (show 0 ≤ (soldS (defS s l d) l rg).bidder by omega)
   have hbl : b < (allPay (defS s l d) rg []).length := by have h9 : (soldS (defS s l d) l rg).bidder < (s.bidders.length : Int) := hsb.2.1; rw [hpl]; omega
   obtain ⟨q, hq9⟩ := Int.eq_ofNat_of_zero_le (hv2.lo l hln2).1
   have hql : q < (allGet (defS s l d) rg []).length := by have h9 : ((defS s l d).lot l).seller < (s.sellers.length : Int) := (hv2.lo l hln2).2.1; rw [hgl]; omega
   have hpf : 0 ≤ (soldS (defS s l d) l rg).price ∧ (soldS (defS s l d) l rg).price ≤ 100000 ∧ 0 ≤ partP (soldS (defS s l d) l rg).price s.premium ∧ partP (soldS (defS s l d) l rg).price s.premium ≤ (soldS (defS s l d) l rg).price ∧ 0 ≤ partP (soldS (defS s l d) l rg).price s.fee ∧ partP (soldS (defS s l d) l rg).price s.fee ≤ (soldS (defS s l d) l rg).price := Hs hv2 rg hln2
   have hpp : paysP (defS s l d) rg l = (soldS (defS s l d) l rg).price + partP (soldS (defS s l d) l rg).price s.premium := rfl
   have hgp : gotP (defS s l d) rg l = (soldS (defS s l d) l rg).price - partP (soldS (defS s l d) l rg).price s.fee := rfl
   have hpb : (allPay (defS s l d) rg [])[b] = payTo (defS s l d) rg [] b (defS s l d).lots.length := Tl hbl
   have hgb : (allGet (defS s l d) rg [])[q] = getTo (defS s l d) rg [] q (defS s l d).lots.length := Tm hql
   have hab := Fo hv2 (ring := rg) (rs := []) (b := b) _ (Nat.le_refl _)
   have haq := Fo hv2 (ring := rg) (rs := []) (b := q) _ (Nat.le_refl _)
   have ha9 := Fo hv2 (ring := rg) (rs := one9 l) (b := b) _ (Nat.le_refl _)
   have hn6 := hv2.nl
   have hp9 : (allPay (defS s l d) rg (one9 l)).length = s.bidders.length := Bu
   have hg9 : (allGet (defS s l d) rg (one9 l)).length = s.sellers.length := DL
   have hho : (houseTo (defS s l d) rg [] (defS s l d).lots.length) - (houseTo (defS s l d) rg (one9 l) (defS s l d).lots.length) = paysP (defS s l d) rg l - gotP (defS s l d) rg l := by rw [MF hb, if_pos hln2]; omega
   refine Am fun ds => Ag rfl (AC (vs := [vs, .int .i64 s.premium, .int .i64 s.fee, .int .i64 s.days, vb, vl, v76, vd]) EG Aa rfl rfl (Ba hz4)) <| Aj (Af 2) <| Ag rfl (Bm Rq (.cons Aa rfl .nil) (.cons rfl rfl (Nat.le_of_ble_eq_true rfl) (.cons (.here) .nil) .nil)) <| A5 rfl <| B5 (offs := [(0, 2)]) (zl := [.int .i64 0, .int .i64 0]) Kg KQ rfl (.cons Aa rfl .nil) (by intro i p h; rcases i with _ | i <;> simp at h <;> subst h <;> rfl) (.cons rfl rfl (Nat.le_of_ble_eq_true rfl) (.cons (.here) (.cons (.next <| .here) .nil)) .nil) (by decide) (by decide) fun b46 hb46 nb46 => AJ (i := 0) rfl hb46 .here fun F47 hF48 hz49 => ?_
   replace hle0 := Heap.le_trans hle0 hF48
   replace hx := hx.mono hF48
   replace hr2 := hr2.mono hF48
   have hsl50 := LX hz49
   refine A5 rfl <| Bi Px Aa AW ((FI hr2 hx hsl50).mono fun u F2 _ h => (by have h2 : AccR F2 u (accE (defS s l d) rg (one9 l)) := h; rw [Tn hv2 hln2 hen hdd] at h2; exact h2 : ∃ w w2, u = .tuple #[w, w2, .int .i64 (houseTo (defS s l d) rg (one9 l) (defS s l d).lots.length), .int .i64 0] ∧ Ints F2 w (allPay (defS s l d) rg (one9 l)) ∧ Ints F2 w2 (allGet (defS s l d) rg (one9 l)))) fun v51 F52 hr53 hF54 => ?_
   have hU230 := Heap.le_trans hF48 hF54
   replace hr := hr.mono hU230
   replace hle0 := Heap.le_trans hle0 hF54
   replace hl2 := hl2.mono hU230
   replace hq := hq.mono hU230
   replace hz13 := hU230 _ _ hz13
   replace hz4 := hU230 _ _ hz4
   obtain ⟨y1, y2, rfl, hy1, hy2⟩ := hr53
   refine Aw (Af 9) <| Ac <| Az (Af 3) fun ds => Ae rfl rfl Aa (dF (fun h => h rfl)) <| Aj (Af 1) <| Ae rfl rfl Aa (dF (fun h => h rfl)) <| Aj (Af 1) <| Ag rfl (As Aa (dF (fun h => h rfl)) Aa) <| Aj (Af 1) <| Ae rfl rfl Aa (dF (fun h => h rfl)) <| Aj (Af 1) <| Ae rfl rfl Aa (dF (fun h => h rfl)) <| Ag rfl (A4 BQ Aa hq.plain) <| Ae rfl rfl Aa (dF (fun h => h rfl)) <| Aj (Af 1) <| Ae rfl rfl Aa (dF (fun h => h rfl)) <| Ag rfl (Ak Dm Aa (AA hz4 rfl)) <| Ae rfl rfl Aa (dF (fun h => h rfl)) <| Ag rfl (A4 BN Aa hl2.plain) <| Ae rfl rfl Aa (dF (fun h => h rfl)) <| Aj (Af 1) <| Ag rfl (As Aa (dF (fun h => h rfl)) Aa) <| Aj (Af 1) <| Ae rfl rfl Aa (dF (fun h => h (congrArg (fun n : Nat => (n : Int)) BF))) <| Aj (Af 1) <| Ae rfl rfl Aa (dF (fun h => h (congrArg (fun n : Nat => (n : Int)) BF))) <| Ag rfl (A4 A9 Aa (ho1.plain (by omega))) <| Ae rfl rfl Aa (dF (fun h => h (congrArg (fun n : Nat => (n : Int)) BF))) <| Aj (Af 1) <| Ae rfl rfl Aa (dF (fun h => h (congrArg (fun n : Nat => (n : Int)) BF))) <| Ag rfl (Ak Cd Aa (AA hz4 rfl)) <| Ae rfl rfl Aa (dF (fun h => h (congrArg (fun n : Nat => (n : Int)) BF))) ?_
   refine Ag rfl (A4 BB Aa hr.bidders.plain) <| Ae rfl rfl Aa (dF (fun h => h (congrArg (fun n : Nat => (n : Int)) BF))) <| Aj (Af 1) <| Ag rfl (As Aa (dF (fun h => h (congrArg (fun n : Nat => (n : Int)) BF))) Aa) <| Aj (Af 1) <| Ae rfl rfl Aa (dF (fun h => h (congrArg (fun n : Nat => (n : Int)) Bu))) <| Aj (Af 1) <| Ae rfl rfl Aa (dF (fun h => h (congrArg (fun n : Nat => (n : Int)) Bu))) <| Ag rfl (A4 A9 Aa (ho2.plain (by omega))) <| Ae rfl rfl Aa (dF (fun h => h (congrArg (fun n : Nat => (n : Int)) Bu))) <| Aj (Af 1) <| Ae rfl rfl Aa (dF (fun h => h (congrArg (fun n : Nat => (n : Int)) Bu))) <| Ag rfl (Ak Cd Aa (AA hz4 rfl)) <| Ae rfl rfl Aa (dF (fun h => h (congrArg (fun n : Nat => (n : Int)) Bu))) <| Ag rfl (A4 BB Aa hr.sellers.plain) <| Ae rfl rfl Aa (dF (fun h => h (congrArg (fun n : Nat => (n : Int)) Bu))) <| Aj (Af 1) <| Ag rfl (As Aa (dF (fun h => h (congrArg (fun n : Nat => (n : Int)) Bu))) Aa) <| Ao <| Ab <| Ad Aa (dF (fun h => h (congrArg (fun n : Nat => (n : Int)) DL))) <| Al <| Ab <| Ac <| Az (Af 2) fun ds => Ag rfl (A1 (k := l) BQ Aa hq.plain Aa rfl hal) <| Aj (Af 1) <| Ag rfl (Ak AF Aa (hq.cell hal rfl)) ?_
   refine Aj (Af 2) <| Ae rfl rfl Aa (dF (by rw [hsl]; exact hb)) <| Aj (Af 1) <| Ae rfl rfl Aa (dF (by rw [hsl]; exact hb)) <| Ag rfl (Ak AF Aa (AA hz13 rfl)) <| Ae rfl rfl Aa (dF (by rw [hsl]; exact hb)) <| Aj (Af 1) <| Ag rfl (As Aa (dF (by rw [hsl]; exact hb)) Aa) <| Ao <| Ab <| Ad Aa (dF (by omega)) <| Al <| Ab <| Ac <| Az (Af 3) fun ds => Ae rfl rfl Aa (dF (fun h => h rfl)) <| Aj (Af 1) <| Ae rfl rfl Aa (dF (fun h => h rfl)) <| Aj (Af 1) <| Ae rfl rfl Aa (dF (fun h => h rfl)) <| Ag rfl (A1 (k := l) BQ Aa hq.plain Aa rfl hal) <| Ae rfl rfl Aa (dF (fun h => h rfl)) <| Aj (Af 1) <| Ae rfl rfl Aa (dF (fun h => h rfl)) <| Ag rfl (Ak AF Aa (hq.cell hal rfl)) <| Ae rfl rfl Aa (dF (fun h => h rfl)) <| Aj (Af 1) <| Ag rfl (As Aa (dF (fun h => h rfl)) Aa) <| Aj (Af 1) <| Ae rfl rfl Aa (dF (by rw [hsl]; omega)) <| Aj (Af 1) <| Ae rfl rfl Aa (dF (by rw [hsl]; omega)) <| Aj (Af 1) <| Ae rfl rfl Aa (dF (by rw [hsl]; omega)) <| Ag rfl (A1 (k := l) BQ Aa hq.plain Aa rfl hal) <| Ae rfl rfl Aa (dF (by rw [hsl]; omega)) <| Aj (Af 1) <| Ae rfl rfl Aa (dF (by rw [hsl]; omega)) ?_
   refine Ag rfl (Ak AF Aa (hq.cell hal rfl)) <| Ae rfl rfl Aa (dF (by rw [hsl]; omega)) <| Aj (Af 1) <| Ae rfl rfl Aa (dF (by rw [hsl]; omega)) <| Ag rfl (A4 A9 Aa (ho1.plain (by omega))) <| Ae rfl rfl Aa (dF (by rw [hsl]; omega)) <| Aj (Af 1) <| Ag rfl (As Aa (dF (by rw [hsl]; omega)) Aa) <| Aj (Af 1) <| Ae rfl rfl Aa (dF (by rw [hsl]; omega)) <| Aj (Af 1) <| Ae rfl rfl Aa (dF (by rw [hsl]; omega)) <| Ag rfl (A4 A9 Aa hy1.plain) <| Ae rfl rfl Aa (dF (by rw [hsl]; omega)) <| Aj (Af 1) <| Ae rfl rfl Aa (dF (by rw [hsl]; omega)) <| Ag rfl (A4 A9 Aa (ho1.plain (by omega))) <| Ae rfl rfl Aa (dF (by rw [hsl]; omega)) <| Aj (Af 1) <| Ag rfl (As Aa (dF (by rw [hsl]; omega)) Aa) <| Aj (Af 1) <| Ae rfl rfl Aa (dF (fun h => h (congrArg (fun n : Nat => (n : Int)) (Bu.trans Bu.symm)))) <| Aj (Af 1) <| Ae rfl rfl Aa (dF (fun h => h (congrArg (fun n : Nat => (n : Int)) (Bu.trans Bu.symm)))) <| Ag rfl (A4 A9 Aa hy2.plain) <| Ae rfl rfl Aa (dF (fun h => h (congrArg (fun n : Nat => (n : Int)) (Bu.trans Bu.symm)))) <| Aj (Af 1) <| Ae rfl rfl Aa (dF (fun h => h (congrArg (fun n : Nat => (n : Int)) (Bu.trans Bu.symm)))) ?_
   refine Ag rfl (A4 A9 Aa (ho2.plain (by omega))) <| Ae rfl rfl Aa (dF (fun h => h (congrArg (fun n : Nat => (n : Int)) (Bu.trans Bu.symm)))) <| Aj (Af 1) <| Ag rfl (As Aa (dF (fun h => h (congrArg (fun n : Nat => (n : Int)) (Bu.trans Bu.symm)))) Aa) <| Ao <| Ab <| Ad Aa (dF (fun h => h (congrArg (fun n : Nat => (n : Int)) (DL.trans DL.symm)))) <| Al <| Ab <| Az (Af 2) fun ds => Ag rfl (A1 (k := l) BQ Aa hq.plain Aa rfl hal) <| Aj (Af 1) <| Ag rfl (Ak AF Aa (hq.cell hal rfl)) <| Aw (Af 1) <| Ac ?_
   rw [hsl]
   refine Bs (.inl rfl) (fun _ _ h => h) (by kernel_rfl) (by kernel_rfl) fun ds => AR (Af 3) <| AT rfl (Ak AF Aa (AA hz4 rfl)) <| FJ rfl (Ay bd_12 Aa AW (Ld hpf.1 hpf.2.1 hvs.pre.1 hvs.pre.2) (fun _ _ h => h)) <| AT rfl (AG Aa Aa hpp.symm (by omega) (by omega)) <| AR (Af 3) <| AT rfl (Ak AF Aa (AA hz4 rfl)) <| FJ rfl (Ay bd_12 Aa AW (Ld hpf.1 hpf.2.1 hvs.fee.1 hvs.fee.2) (fun _ _ h => h)) <| AT rfl (B4 Aa Aa hgp.symm (by omega) (by omega)) <| AR (Af 2) <| B0 <| Ab <| Ac ?_
   have hleS := hle0
   refine BO (.inl rfl) (fun _ _ h => h) (List.sublist_append_of_sublist_right <| .refl _) [17] (by kernel_rfl) fun ds => Au 0 rfl (List.sublist_append_of_sublist_right <| .refl _) (AI Aa) <| Au 1 rfl (List.sublist_append_of_sublist_right <| .refl _) (AI Aa) <| Au 2 rfl (List.sublist_append_of_sublist_right <| .refl _) (AI Aa) <| Au 3 rfl (List.sublist_append_of_sublist_right <| .refl _) (A1 (k := l) BQ Aa hq.plain Aa rfl hal) <| Au 4 rfl (List.sublist_append_of_sublist_right <| .refl _) (CE KJ Aa) <| Au 5 rfl (List.sublist_append_of_sublist_right <| .refl _) (Ak AF Aa (hq.cell hal rfl)) <| Au 6 rfl (List.sublist_append_of_sublist_right <| .refl _) (AI Aa) ?_
   refine Au 7 rfl (List.sublist_append_of_sublist_right <| .refl _) (AI Aa) <| Au 8 rfl (List.sublist_append_of_sublist_right <| .refl _) (AI Aa) <| Au 9 rfl (List.sublist_append_of_sublist_right <| .refl _) (A1 (k := l) BQ Aa hq.plain Aa rfl hal) <| Au 10 rfl (List.sublist_append_of_sublist_right <| .refl _) (CE KJ Aa) <| Au 11 rfl (List.sublist_append_of_sublist_right <| .refl _) (Ak AF Aa (hq.cell hal rfl)) <| Au 12 rfl (List.sublist_append_of_sublist_right <| .refl _) (A1 (k := b) A9 Aa (ho1.plain (by omega)) Aa (by rw [hsl]; exact hb9) hbl) <| Au 14 rfl (List.sublist_append_of_sublist_right <| .refl _) (AI Aa) ?_
   refine BU 13 rfl (by kernel_rfl) rfl (Be (Ak AF Aa (CI ho1 (fun p hp => List.mem_append_left _ hp) (L1 hbl))).quiet ⟨fun _ _ => (fun _ h => h.drop (List.sublist_append_of_sublist_right <| .refl _)), ?_⟩)
   refine Au 15 rfl (List.sublist_append_of_sublist_right <| .refl _) (B4 Aa Aa (show (allPay (defS s l d) rg [])[b] - paysP (defS s l d) rg l = payTo (defS s l d) rg [] b (defS s l d).lots.length - paysP (defS s l d) rg l by rw [hpb]) (by omega) (by omega)) <| Au 16 rfl (List.sublist_append_of_sublist_right <| .refl _) (A1 (k := b) A9 Aa (ho1.plain (by omega)) Aa (by rw [hsl]; exact hb9) hbl) ?_
   refine Eg 17 rfl (by kernel_rfl) (Dv DA Aa Aa ho1 (by rw [Cf]; omega) rfl (.z) .more fun R55 ho56 => ⟨(fun h => nomatch h), ?_⟩)
   have ho1b : Own 3 1 w1 ((allPay (defS s l d) rg (one9 l))).length (((allPay (defS s l d) rg (one9 l))).flatMap intE) R55 := by rw [Nat.mul_one, Eo, Ul hln2 hb9] at ho56; exact ho56.to (by rw [hpl, hp9])
   refine BC (by kernel_rfl) ?_ _
   refine Ab <| Ac ?_
   have hleS := hle0
   refine BO (.inl rfl) (fun _ _ h => h) (.refl _) [19] (by kernel_rfl) fun ds => Au 0 rfl (.refl _) (AI Aa) <| Au 1 rfl (.refl _) (AV Jl Aa) <| Au 2 rfl (.refl _) (Ak Dm Aa (AA hz4 rfl)) <| Au 3 rfl (.refl _) (AI Aa) <| Au 4 rfl (.refl _) (A1 (k := l) BN Aa hl2.plain Aa rfl hln2) <| Au 5 rfl (.refl _) (CE KK Aa) <| Au 6 rfl (.refl _) (Ak AF Aa (hl2.cell hln2 rfl)) <| Au 7 rfl (.refl _) (AI Aa) <| Au 8 rfl (.refl _) (AV Jl Aa) ?_
   refine Au 9 rfl (.refl _) (Ak Dm Aa (AA hz4 rfl)) <| Au 10 rfl (.refl _) (AI Aa) <| Au 11 rfl (.refl _) (A1 (k := l) BN Aa hl2.plain Aa rfl hln2) <| Au 12 rfl (.refl _) (CE KK Aa) <| Au 13 rfl (.refl _) (Ak AF Aa (hl2.cell hln2 rfl)) <| Au 14 rfl (.refl _) (A1 (k := q) A9 Aa (ho2.plain (by omega)) Aa (by rw [Hw hln2]; exact hq9) hql) <| Au 16 rfl (.refl _) (AI Aa) ?_
   refine BU 15 rfl (by kernel_rfl) rfl (Be (Ak AF Aa (CI ho2 (fun p hp => List.mem_append_right _ (hp)) (L1 hql))).quiet ⟨fun _ _ => (fun _ h => h.drop (.refl _)), ?_⟩)
   refine Au 17 rfl (.refl _) (B4 Aa Aa (show (allGet (defS s l d) rg [])[q] - gotP (defS s l d) rg l = getTo (defS s l d) rg [] q (defS s l d).lots.length - gotP (defS s l d) rg l by rw [hgb]) (by omega) (by omega)) <| Au 18 rfl (.refl _) (A1 (k := q) A9 Aa (ho2.plain (by omega)) Aa (by rw [Hw hln2]; exact hq9) hql) ?_
   refine Eg 19 rfl (by kernel_rfl) (Dv DA Aa Aa ho2 (by rw [Cf]; omega) rfl (.k <| .z) .last fun R57 ho58 => ⟨(fun h => nomatch h), ?_⟩)
   have ho2b : Own 3 1 w2 ((allGet (defS s l d) rg (one9 l))).length (((allGet (defS s l d) rg (one9 l))).flatMap intE) R57 := by rw [Nat.mul_one, Eo, UI hb hln2 hq9] at ho58; exact ho58.to (by rw [hgl, hg9])
   refine BC (by kernel_rfl) ?_ _
   refine Ab <| Ac <| BJ (σ := ⟨_, _⟩) (by rfl) ho1b (.z) .more fun F59 hF60 hz61 => ?_
   refine Cs (.lastb (.lastS)) ?_
   have g1 := ho1b.sl (fun _ => rfl) hz61 (by omega)
   refine BJ (σ := ⟨_, _⟩) (by rfl) ho2b (.z) .last fun F62 hF63 hz64 => ?_
   have hU284 := Heap.le_trans hF48 (Heap.le_trans hF54 (Heap.le_trans hF60 hF63))
   have hU285 := Heap.le_trans hF60 hF63
   have hU287 := Heap.le_trans hF54 (Heap.le_trans hF60 hF63)
   replace hy1 := hy1.mono hU285
   replace hy2 := hy2.mono hU285
   replace g1 := g1.mono hF63
   have g2 := ho2b.sl (fun _ => rfl) hz64 (by omega)
   refine Am fun ds => Aj (Af 2) <| AN rfl (Ay Dj Aa AW (BH g1 hy1) (fun _ _ h => h)) <| Aj (Af 1) <| Ae rfl rfl Aa (dT rfl) <| Aj (Af 1) <| Ae rfl rfl Aa (dT rfl) <| Aj (Af 1) <| Ae rfl rfl Aa (dT rfl) <| AN rfl (Ay Dj Aa AW (BH g2 hy2) (fun _ _ h => h)) <| Ag rfl (Ar Aa (dT rfl) Aa) <| Aj (Af 1) <| Ae rfl rfl Aa (dT rfl) <| Aj (Af 1) <| Ae rfl rfl Aa (dT rfl) <| Aj (Af 1) <| Ae rfl rfl Aa (dT rfl) <| Ag rfl (B4 Aa Aa rfl (by omega) (by omega)) <| Ae rfl rfl Aa (dT rfl) <| Aj (Af 1) <| Ae rfl rfl Aa (dT rfl) <| Aj (Af 1) <| Ae rfl rfl Aa (dT rfl) <| Ag rfl (B4 Aa Aa rfl (by omega) (by omega)) <| Ae rfl rfl Aa (dT rfl) <| Aj (Af 1) <| Ag rfl (Ar Aa (dT rfl) Aa) <| Aj (Af 1) <| Ae rfl rfl Aa (dT hho) <| AN rfl (Ay Tj Aa .nil Et (fun _ _ h => h)) <| Ag rfl (Ar Aa (dT hho) Aa) <| Aj (Af 1) <| Ae rfl rfl Aa rfl <| AN rfl (Ay Ti Aa .nil Fm (fun _ _ h => h)) <| Ag rfl (Ar Aa rfl Aa) <| Aw (Af 1) <| At <| Ap rfl Bd ?_
   rfl
  refine Am fun ds => Aj (Af 3) <| Ae rfl rfl Aa (dF (fun h => h hz0)) <| Aj (Af 1) <| Ae rfl rfl Aa (dF (fun h => h hz0)) <| Aj (Af 1) <| Ag rfl (As Aa (dF (fun h => h hz0)) Aa) <| Aj (Af 1) <| Ah rfl rfl Aa (.inl (congrArg Value.bool (dT h0))) rfl <| Ah rfl rfl Aa (.inl (congrArg Value.bool (dT h0))) rfl <| Ah rfl rfl Aa (.inl (congrArg Value.bool (dT h0))) rfl <| Ah rfl rfl Aa (.inl (congrArg Value.bool (dT h0))) rfl <| Ag rfl (Ar Aa (dT h0) Aa) <| Ao <| Ab <| Ai Aa rfl <| Ac <| Am fun ds => AN rfl (Ay Tj Aa .nil Et (fun _ _ h => h)) <| Aj (Af 1) <| Ae rfl rfl Aa rfl <| AN rfl (Ay Ti Aa .nil Fm (fun _ _ h => h)) <| Ag rfl (Ar Aa rfl Aa) <| Aw (Af 1) <| At <| Ax <| Ap rfl Bd ?_
  rfl
 refine Am fun ds => Aj (Af 3) <| Ah rfl rfl Aa (.inl (congrArg Value.bool (dT hz0))) rfl <| Ah rfl rfl Aa (.inl (congrArg Value.bool (dT hz0))) rfl <| Ag rfl (Ar Aa (dT hz0) Aa) <| Aj (Af 1) <| Ah rfl rfl Aa (.inl (congrArg Value.bool rfl)) rfl <| Ah rfl rfl Aa (.inl (congrArg Value.bool rfl)) rfl <| Ah rfl rfl Aa (.inl (congrArg Value.bool rfl)) rfl <| Ah rfl rfl Aa (.inl (congrArg Value.bool rfl)) rfl <| Ag rfl (Ar Aa rfl C4) <| Ao <| Ab <| Ai Aa rfl <| Ac <| Am fun ds => AN rfl (Ay Tj Aa .nil Et (fun _ _ h => h)) <| Aj (Af 1) <| Ae rfl rfl Aa rfl <| AN rfl (Ay Ti Aa .nil Fm (fun _ _ h => h)) <| Ag rfl (Ar Aa rfl Aa) <| Aw (Af 1) <| At <| Ax <| Ap rfl Bd ?_
 rfl
end
section
set_option maxRecDepth 100000
open Go.ChangeShapes Go.WideShapes Go.ChangeAt Go.RowKit
theorem HL (os : Os) (started : os.Started) (H : Type) (enc : TypeId × Value → H) :
   ReturnsInHanded {} Tryz.checked os 3 .any (Rows.topReturnedSpec.pre6 enc Tryz.prog Tryz.f3 Rows.topReturnedRow.domain false) (Rows.topReturnedSpec.post enc Tryz.prog Tryz.f3 false true false false) := by
 refine returnsInHanded_of_change_sized (C := Tryz.checked) Un started (by kernel_rfl) Tryz.func3
   (ChangeSpec.witness6 (enc := enc) (C := Tryz.checked) false ⟨#[], #[.agg #[.int .i64 0, .slice none 0 0, .slice none 0 0], .agg #[.slice none 0 0, .int .i64 0, .int .i64 0, .int .i64 0, .slice none 0 0, .slice none 0 0, .slice none 0 0, .slice none 0 0], .agg #[.int .u8 0, .int .u8 0]], []⟩ 8 (by kernel_rfl) (by kernel_rfl) (by kernel_rfl) (by kernel_rfl)) ?_
 intro W base args ds gs before hval0 hW hcnd hsz _
 have hval : ∀ (j : Nat) t v, Tryz.f3.params[j]? = some t → args[j]? = some v → Value.okWide Tryz.prog W .any base t v := hval0
 have hW' := hW
 obtain ⟨p, q, hA0, hV, rfl, hfz, hnd⟩ := hW
 have hA : DataW.TrodAll enc Tryz.prog W 0 (fun _ => true) true Tryz.f3.params.toList args.toList ds p := hA0
 rw [Tryz.params3] at hA hval
 obtain ⟨v0, vs0, d0, ds0, p0, q0, hargs, rfl, rfl, h0, r0⟩ := trodAll_cons hA
 obtain ⟨v1, vs1, d1, ds1, p1, q1, rfl, rfl, rfl, h1, r1⟩ := trodAll_cons r0
 obtain ⟨v2, vs2, d2, ds2, p2, q2, rfl, rfl, rfl, h2, r2⟩ := trodAll_cons r1
 obtain ⟨rfl, rfl, rfl⟩ := trodAll_nil r2
 obtain rfl : args = #[v0, v1, v2] := by cases args; simp_all
 obtain ⟨rfl, rfl⟩ := trodVars_none hV
 have hsz' : (DataW.weightsEach Tryz.prog (Tryz.f3.params.toList ++ []) ([d0, d1, d2] ++ [])).all (· ≤ reachBytes) = true := hsz
 rw [Tryz.params3] at hsz'
 have k0 := h0
 have lt0 : ∀ x ∈ p0, x.block < W.heap.size := by obtain ⟨m, hm⟩ := k0; exact DataW.trod_lt m _ _ _ hm
 have k1 := h1
 have lt1 : ∀ x ∈ p1, x.block < W.heap.size := by obtain ⟨m, hm⟩ := k1; exact DataW.trod_lt m _ _ _ hm
 have k2 := h2
 have lt2 : ∀ x ∈ p2, x.block < W.heap.size := by obtain ⟨m, hm⟩ := k2; exact DataW.trod_lt m _ _ _ hm
 obtain ⟨vg, vi, qs, is, c, rfl, hc⟩ := arg_cop (hval 0 27 v0 rfl rfl) h0 (Hg hsz' (j := 0) rfl rfl)
 obtain ⟨vs, vb, vl, vn, vd, s, rfl, hr⟩ := VU (hval 1 33 v1 rfl rfl) h1 (Hg hsz' (j := 1) rfl rfl)
 obtain ⟨ka, kb, rfl, hka, hkb⟩ := VV (hval 2 34 v2 rfl rfl) h2 (Hg hsz' (j := 2) rfl rfl)
 clear hA0 hval0
 refine (Ok.law (Lb hc hr hka hkb)).mono fun e W' ⟨he, bel⟩ => ?_
 subst he
 exact ⟨_, rfl, _, _, _, [], _, [], hW', trodAll_mk1 (shut_bool Tryz.underlying4 _), (trodAll_cons_mk (Below.trod NF (by kernel_rfl) (of_decide_eq_true (by kernel_rfl)) k0 bel lt0) (trodAll_cons_mk (Below.trod NF (by kernel_rfl) (of_decide_eq_true (by kernel_rfl)) k1 bel lt1) (trodAll_cons_mk (Below.trod NF (by kernel_rfl) (of_decide_eq_true (by kernel_rfl)) k2 bel lt2) trodAll_mk0))), rfl, bel.frame _, fun h => by cases h⟩
theorem topReturned : Rows.TopReturnedSaid :=
 OpenClaim.holds_of_wide 3 Tryz.f3 rfl rfl rfl rfl rfl rfl rfl ⟨rfl, rfl, rfl, rfl, rfl⟩ rfl rfl rfl rfl rfl (by kernel_rfl) Tryz.func3 (by kernel_rfl)
   (of_decide_eq_true (by kernel_rfl)) (by unfold Func.isWrapper; first | (rw [if_pos (by decide +kernel)]; kernel_rfl) | (rw [if_neg (by decide +kernel)]; exact ⟨rfl, rfl⟩))
   (fun os started H enc _ => HL os started H enc)
#print axioms topReturned
end
end Go.Proofs.YtkjfmibiinfhfacGreat
