/-
  TopDated returns true of any case of paper, any stem and any past, and leaves what it is handed as it was. No conditions.
-/
import Derived.Test.YtkjfmibiinfhfabGreatPaf
namespace Go.Proofs.YtkjfmibiinfhfabGreat
set_option synthInstance.maxSize 4000
set_option synthInstance.maxHeartbeats 1000000
section
set_option maxRecDepth 100000
open Go.RowKit
theorem bd_84 : Body Tryz.prog 84 := AF (by kernel_rfl)
theorem Vx {F : Heap} {b T : Nat} (h : F b = some (bx T [.slice none 0 0])) : Sl F (.slice (some ⟨b, 0, none⟩) 1 1) 1 slI [((.slice none 0 0 : Value), ([] : List Int))] := Dc h rfl rfl (fun _ => rfl) (by decide)
theorem nil_all {F : Heap} : AllI F [((.slice none 0 0 : Value), ([] : List Int))] := fun p hp => by obtain rfl := List.mem_singleton.1 hp; exact Sl.nil
theorem TL {F : Heap} {b T : Nat} (h : F b = some (bx T [.slice none 0 0])) : Sl F (.slice (some ⟨b, 0, none⟩) 1 1) 1 slE [((.slice none 0 0 : Value), ([] : List Nat))] := Dc h rfl rfl (fun _ => rfl) (by decide)
theorem Vy {F : Heap} : AllN F [((.slice none 0 0 : Value), ([] : List Nat))] := fun p hp => by obtain rfl := List.mem_singleton.1 hp; exact Sl.nil
theorem UT {α : Type} {P : α → Prop} {l : List α} {x : α} (h : ∀ p ∈ l, P p) (hx : P x) : ∀ p ∈ l ++ [x], P p := fun p hp => (List.mem_append.1 hp).elim (h p) fun hp => by obtain rfl := List.mem_singleton.1 hp; exact hx
theorem TF {F : Heap} {vs vr vx : Value} {c : Pap} (hr : PapR F vs vr vx c) (hv : ValidP c) : Ok Tryz.prog 41 [papV vs vr vx c].toArray F fun u F' => ∃ qs : List (Value × List Int), Sl F' u 1 slI qs ∧ AllI F' qs ∧ ∀ p ∈ qs, GoodPile c p.2 := by
 refine Ok.intro Tryz.func41 rfl Tryz.ntmps41 rfl fun w0 => ?_
 have hL2 := hr.reams.plain.lt
 refine Ac <| Al fun ds => A3 rfl <| Bc Aa rfl fun b1 hb1 nb1 => As (Ae 1) <| AL (i := 0) rfl hb1 (.here) fun F2 hF3 hz1 => ?_
 replace hr := hr.mono hF3
 refine Ac <| Al fun ds => A3 rfl <| AU Bt FS rfl (.cons Aa .nil) rfl rfl (by decide) (by simp [Value.oneCell']) fun b4 hb4 nb4 => AW (i := 0) rfl hb4 .here fun F5 hF6 hz7 => ?_
 replace hr := hr.mono hF6
 replace hz1 := hF6 _ _ hz1
 have hsl8 := Vx hz7
 refine As (Ae 1) <| Ac <| AI (Ae 1) <| Ak ?_
 refine AJ [3, 4, 5, 6, 7, 11, 12, 13, 14, 15, 16, 17, 18, 19, 20, 21, 22, 23, 24, 25, 26, 27, 28, 29, 30, 31, 32, 33, 34, 35, 36, 37, 38, 39, 40, 41, 42, 43, 44, 45, 46, 47, 48, 49, 50, 51, 52, 53, 54] (fun m e σ => ∃ G vo ps, F5.le G ∧ ∃ i : Nat, m + i = c.reams.length ∧ Fct e 4 (.int .i64 (i : Int)) ∧ Fct e 3 vo ∧ Sl G vo 1 slI ps ∧ AllI G ps ∧ (∀ p ∈ ps, PileTo c i p.2) ∧ ps.length ≤ 3 ^ i ∧ σ = ⟨G, []⟩) (c.reams.length) ?_ ?_
 · exact ⟨_, _, [((.slice none 0 0 : Value), ([] : List Int))], Heap.le_refl _, 0, by omega, Bb, Bb, hsl8, nil_all, (fun p hp => by obtain rfl := List.mem_singleton.1 hp; exact PileTo.nil), by simp, rfl⟩
 rintro m e _ ⟨G, vo, ps, hle1, i, hm1, hs4, hs3, hps, hpa, hpp, hpl, rfl⟩; replace hr := hr.mono hle1; replace hz1 := hle1 _ _ hz1
 by_cases hlt : i < c.reams.length
 ·have hrm := MR hlt
  have hrl : c.reams[i].lo = (c.rm i).lo ∧ c.reams[i].hi = (c.rm i).hi := by rw [hrm]; exact ⟨rfl, rfl⟩
  have hb := hv.ream hlt
  have hi4 : i < 4 := by have := hv.reams; omega
  have hp3 : 3 ^ i ≤ 3 ^ 3 := Nat.pow_le_pow_right (by omega) (by omega)
  refine Ac <| Aw (Ae 2) fun ds => Af rfl (Ah EQ Aa (AM hz1 rfl)) <| Af rfl (A6 CD Aa hr.reams.plain) <| As (Ae 1) <| Ag Aa (by first | rfl | exact dT (by omega)) <| Aj <| Ab <| Ac <| Ak <| AI (Ae 1) <| Ac <| AI (Ae 1) <| Ak ?_
  refine AJ [5, 6, 7, 18, 19, 20, 21, 22, 23, 24, 25, 26, 27, 28, 29, 30, 31, 32, 33, 34, 35, 36, 37, 38, 39, 40, 41, 42, 43, 44, 45, 46, 47, 48, 49, 50, 51, 52, 53] (fun m e σ => ∃ G2 v5 qs R5, G.le G2 ∧ ∃ k : Nat, m + k = ps.length ∧ Fct e 6 (.int .i64 (k : Int)) ∧ Fct e 5 v5 ∧ Own 44 1 v5 qs.length (qs.flatMap slI) R5 ∧ AllI G2 qs ∧ (∀ p ∈ qs, PileTo c (i + 1) p.2) ∧ qs.length ≤ 3 * k ∧ σ = ⟨G2, R5⟩) (ps.length) ?_ ?_
  · exact ⟨_, _, [], _, Heap.le_refl _, 0, by omega, Bb, Bb, Ce, (fun p hp => nomatch hp), (fun p hp => nomatch hp), by simp, rfl⟩
  rintro m2 e2 _ ⟨G2, v5, qs, R5, hle2, k, hm2, hu6, hu5, ho5, hqa, hqp, hql, rfl⟩; replace hr := hr.mono hle2; replace hps := hps.mono hle2; replace hpa := hpa.mono hle2; replace hz1 := hle2 _ _ hz1
  by_cases hk2 : k < ps.length
  ·refine Ac <| Aw (Ae 2) fun ds => Af rfl (A6 Bt Aa hps.plain) <| As (Ae 1) <| Ag Aa (by first | rfl | exact dT (by omega)) ?_
   have hpk := hpa _ (List.getElem_mem hk2)
   have hplk := (hpp _ (List.getElem_mem hk2)).1
   refine Aj <| Ab <| Ac <| Ak <| Aw (Ae 1) fun ds => Af rfl (Ah EQ Aa (AM hz1 rfl)) <| Ao (Ae 1) <| Af rfl (Ax (k := i) CD Aa hr.reams.plain Aa rfl hlt) <| Ao (Ae 2) <| Af rfl (Ah AA Aa (hr.reams.cell (j := 1 + 0) hlt rfl)) <| As (Ae 1) <| Ak ?_
   refine AJ [5, 7, 31, 32, 33, 34, 35, 36, 37, 38, 39, 40, 41, 42, 43, 44, 45, 46, 47, 48, 49, 50, 51, 52, 53] (fun m e σ => ∃ G3 v5 qs R5, G2.le G3 ∧ ∃ j : Nat, m + j = 4 ∧ (j : Int) ≤ (c.rm i).hi - (c.rm i).lo + 1 ∧ Fct e 7 (.int .i64 ((c.rm i).lo + (j : Int))) ∧ Fct e 5 v5 ∧ Own 44 1 v5 qs.length (qs.flatMap slI) R5 ∧ AllI G3 qs ∧ (∀ p ∈ qs, PileTo c (i + 1) p.2) ∧ qs.length ≤ 3 * k + j ∧ σ = ⟨G3, R5⟩) (4) ?_ ?_
   · exact ⟨_, _, qs, _, Heap.le_refl _, 0, by omega, by omega, BN (congrArg (Value.int .i64) (by rw [hrl.1]; simp)), Bb, ho5, hqa, hqp, by omega, rfl⟩
   rintro m3 e3 _ ⟨G3, v5, qs, R5, hle3, j, hm3, hj3, hv7, hv5, ho5, hqa, hqp, hql, rfl⟩; replace hr := hr.mono hle3; replace hps := hps.mono hle3; replace hpa := hpa.mono hle3; replace hpk := hpk.mono hle3; replace hz1 := hle3 _ _ hz1
   by_cases hz3 : (c.rm i).lo + (j : Int) ≤ (c.rm i).hi
   ·refine Ac <| Aw (Ae 2) fun ds => Af rfl (Ah EQ Aa (AM hz1 rfl)) <| Ao (Ae 1) <| Af rfl (Ax (k := i) CD Aa hr.reams.plain Aa rfl hlt) <| Ao (Ae 2) <| Af rfl (Ah AA Aa (hr.reams.cell (j := 1 + 1) hlt rfl)) <| As (Ae 1) <| Ag Aa (by rw [hrl.2]; exact dT hz3) <| Aj <| Ab <| Ac <| Ak <| Al fun ds => Ao (Ae 1) <| A3 rfl <| AU A7 B1 rfl .nil rfl rfl (by decide) (by simp [Value.oneCell']) fun b12 hb12 nb12 => Ao (Ae 2) <| Af rfl (Ax (k := k) Bt Aa hps.plain Aa rfl hk2) <| Af rfl (Ah Br Aa (hps.cell1 hk2 rfl)) <| A3 rfl <| Bi A7 D5 Aa (CR rfl) Aa (Sl.srcInt hpk) (by omega) (by omega) (.z) .box fun v13 R14 ho15 => ?_
    have hr48 : Own 3 1 v13 ps[k].2.length (ps[k].2.flatMap intE) R14 := by simpa using ho15
    refine Ao (Ae 1) <| A3 rfl <| AU A7 B1 rfl (.cons Aa .nil) rfl rfl (by decide) (by simp [Value.oneCell']) fun b16 hb16 nb16 => A3 rfl <| Bi A7 D5 Aa hr48 Aa (BA (s := 1) 0 rfl rfl (by simp [Value.oneCell'])) (by omega) (by omega) (.s <| .z) .more fun v17 R18 ho19 => ?_
    have hr51 : Own 3 1 v17 (ps[k].2 ++ [(c.rm i).lo + (j : Int)]).length ((ps[k].2 ++ [(c.rm i).lo + (j : Int)]).flatMap intE) R18 := Own.snoc ho19 rfl rfl
    obtain ⟨v51_, hv51⟩ : ∃ v, v = v17 := ⟨_, rfl⟩
    subst hv51
    refine Hv (σ := ⟨_, _⟩) (by rfl) hr51 (.s <| .z) .more fun F20 hF21 hz22 => ?_
    replace hqa := hqa.mono hF21
    replace hle3 := Heap.le_trans hle3 hF21
    have hrow := hr51.sl (fun _ => rfl) hz22 (by simp; omega)
    refine A3 rfl <| AU Bt FS rfl (.cons Aa .nil) rfl rfl (by decide) (fun u hu => by obtain rfl := List.mem_singleton.1 hu; exact hrow.plain.one) fun b23 hb23 nb23 => A3 rfl <| Bi Bt Np Aa ho5 Aa (BA (s := 1) 0 rfl rfl (fun u hu => by obtain rfl := List.mem_singleton.1 hu; exact hrow.plain.one)) (by omega) (by omega) (.s <| .s <| .z) .last fun v24 R25 ho26 => ?_
    have ho53 : Own 44 1 v24 (qs ++ [(v51_, ps[k].2 ++ [(c.rm i).lo + (j : Int)])]).length ((qs ++ [(v51_, ps[k].2 ++ [(c.rm i).lo + (j : Int)])]).flatMap slI) R25 := Own.snoc ho26 rfl rfl
    refine Ao (Ae 1) <| Am <| Az <| Ab <| By (fun _ _ h => h.drop (kD <| kD <| .refl _)) <| Al fun ds => Ao (Ae 1) <| Af rfl (AE Aa Aa rfl (by omega) (by omega)) <| Ao (Ae 1) <| Am ?_
    refine Ab ⟨_, m3 - 1, Off.eq (B3 rfl <| BT rfl <| BY rfl <| A2), by omega, ?_⟩
    refine ⟨_, _, qs ++ [(v51_, ps[k].2 ++ [(c.rm i).lo + (j : Int)])], _, hle3, j + 1, by omega, by omega, BN (congrArg (Value.int .i64) (by push_cast; omega)), Bb, ho53, hqa.snoc hrow, UT hqp ((hpp _ (List.getElem_mem hk2)).snoc (by omega) hz3), by simp; omega, rfl⟩
   refine Ac <| Aw (Ae 2) fun ds => Af rfl (Ah EQ Aa (AM hz1 rfl)) <| Ao (Ae 1) <| Af rfl (Ax (k := i) CD Aa hr.reams.plain Aa rfl hlt) <| Ao (Ae 2) <| Af rfl (Ah AA Aa (hr.reams.cell (j := 1 + 1) hlt rfl)) <| As (Ae 1) <| Ad Aa (by rw [hrl.2]; exact dF hz3) <| AC ?_
   refine A0 <| A0 <| A4 <| Az <| Ab <| Al fun ds => Ao (Ae 1) <| Af rfl (AE Aa Aa rfl (by omega) (by omega)) <| Ao (Ae 1) <| Am ?_
   refine Ab ⟨_, m2 - 1, Off.eq (BT rfl <| Ci rfl <| BJ rfl <| BT rfl <| Ci rfl <| A2), by omega, ?_⟩
   exact ⟨_, _, qs, _, Heap.le_trans hle2 hle3, k + 1, by omega, Bb, Bb, ho5, hqa, hqp, by omega, rfl⟩
  refine Ac <| Aw (Ae 2) fun ds => Af rfl (A6 Bt Aa hps.plain) <| As (Ae 1) <| Ad Aa (by first | rfl | exact dF (by omega)) ?_
  obtain rfl : k = ps.length := by omega
  refine AC ?_
  refine A0 <| A0 <| A4 <| Ab <| Bm (σ := ⟨_, _⟩) (by rfl) ho5 (.z) .last fun F27 hF28 hz29 => ?_
  replace hqa := hqa.mono hF28
  replace hle2 := Heap.le_trans hle2 hF28
  have hqs := ho5.sl (fun _ => rfl) hz29 (by have : 3 ^ (i + 1) ≤ 3 ^ 4 := Nat.pow_le_pow_right (by omega) (by omega); rw [Nat.pow_succ] at this; omega)
  refine Al fun ds => Ao (Ae 2) <| Am <| Az <| Ab <| Al fun ds => Ao (Ae 1) <| Af rfl (AE Aa Aa rfl (by omega) (by omega)) <| Ao (Ae 1) <| Am ?_
  refine Ab ⟨_, m - 1, Off.eq (BT rfl <| BY rfl <| BJ rfl <| Ci rfl <| Cw rfl <| BY rfl <| A2), by omega, ?_⟩
  exact ⟨_, _, qs, Heap.le_trans hle1 hle2, i + 1, by omega, Bb, Bb, hqs, hqa, hqp, by rw [Nat.pow_succ]; omega, rfl⟩
 refine Ac <| Aw (Ae 2) fun ds => Af rfl (Ah EQ Aa (AM hz1 rfl)) <| Af rfl (A6 CD Aa hr.reams.plain) <| As (Ae 1) <| Ad Aa (by first | rfl | exact dF (by omega)) ?_
 obtain rfl : i = c.reams.length := by omega
 have hp3 : 3 ^ c.reams.length ≤ 3 ^ 4 := Nat.pow_le_pow_right (by omega) hv.reams.2
 have hrg := Ge (a := c.run) (b := c.gats) (A := 500) (B := 5) (by have := hv.run; omega) hv.run.2 (by have := hv.gats; omega) hv.gats.2
 refine AC ?_
 refine A0 <| A0 <| A4 <| Ab <| AI (Ae 1) <| Ac <| AI (Ae 1) <| Ak ?_
 refine AJ [8, 9, 55, 56, 57, 58, 59, 60, 61, 62, 63, 64, 65, 66, 67, 68, 69, 70, 71, 72, 73, 74, 75, 76, 77, 78] (fun m e σ => ∃ G4 v8 qs R8, G.le G4 ∧ ∃ k : Nat, m + k = ps.length ∧ Fct e 9 (.int .i64 (k : Int)) ∧ Fct e 8 v8 ∧ Own 44 1 v8 qs.length (qs.flatMap slI) R8 ∧ AllI G4 qs ∧ (∀ p ∈ qs, GoodPile c p.2) ∧ qs.length ≤ k ∧ σ = ⟨G4, R8⟩) (ps.length) ?_ ?_
 · exact ⟨_, _, [], _, Heap.le_refl _, 0, by omega, Bb, Bb, Ce, (fun p hp => nomatch hp), (fun p hp => nomatch hp), by simp, rfl⟩
 rintro m2 e2 _ ⟨G4, v8, qs, R8, hle4, k, hm2, hu9, hu8, ho8, hqa, hqp, hql, rfl⟩; replace hr := hr.mono hle4; replace hps := hps.mono hle4; replace hpa := hpa.mono hle4; replace hz1 := hle4 _ _ hz1
 by_cases hlt : k < ps.length
 ·refine Ac <| Aw (Ae 2) fun ds => Af rfl (A6 Bt Aa hps.plain) <| As (Ae 1) <| Ag Aa (by first | rfl | exact dT (by omega)) ?_
  have hpk := hpa _ (List.getElem_mem hlt)
  have hpt := hpp _ (List.getElem_mem hlt)
  have htb : ∀ q (hq : q < ps[k].2.length), 0 ≤ ps[k].2[q] ∧ ps[k].2[q] ≤ 2000 := fun q hq => by have h1 := hpt.2 q hq; have h2 := hv.ream (i := q) (by have := hpt.1; omega); omega
  by_cases hen : c.run * c.gats ≤ sumTo ps[k].2 ps[k].2.length
  ·refine Aj <| Ab <| Ac <| Ak <| Ac <| Bx (.inl rfl) (fun _ _ h => h) (by kernel_rfl) (by kernel_rfl) fun ds => Ba (Ae 2) <| AX rfl (Ax (k := k) Bt Aa hps.plain Aa rfl hlt) <| AX rfl (Ah Br Aa (hps.cell1 hlt rfl)) <| GS rfl (Ay bd_84 Aa AY (OM hpk (by have := hpt.1; have := hv.reams; omega) htb) (fun _ _ h => h)) <| Ba (Ae 1) <| AX rfl (Ah AA Aa (AM hz1 rfl)) <| Ba (Ae 1) <| AX rfl (Ah AA Aa (AM hz1 rfl)) <| AX rfl (D9 Aa Aa rfl (by omega) (by omega)) <| Ba (Ae 1) <| B9 <| Ab <| Ag Aa (dT hen) <| Al fun ds => Ao (Ae 3) <| Af rfl (Ax (k := k) Bt Aa hps.plain Aa rfl hlt) <| Af rfl (Ah Br Aa (hps.cell1 hlt rfl)) <| A3 rfl <| AU Bt FS rfl (.cons Aa .nil) rfl rfl (by decide) (fun u hu => by obtain rfl := List.mem_singleton.1 hu; exact hpk.plain.one) fun b31 hb31 nb31 => A3 rfl <| Bi Bt Np Aa ho8 Aa (BA (s := 1) 0 rfl rfl (fun u hu => by obtain rfl := List.mem_singleton.1 hu; exact hpk.plain.one)) (by omega) (by omega) (.s <| .z) .last fun v32 R33 ho34 => ?_
   have ho78 : Own 44 1 v32 (qs ++ [ps[k]]).length ((qs ++ [ps[k]]).flatMap slI) R33 := Own.snoc ho34 rfl rfl
   refine Ao (Ae 1) <| Am <| Az <| Ab <| By (fun _ _ h => h.drop (kD <| .refl _)) <| Al fun ds => Ao (Ae 1) <| Af rfl (AE Aa Aa rfl (by omega) (by omega)) <| Ao (Ae 1) <| Am ?_
   refine Ab ⟨_, m2 - 1, Off.eq (B3 rfl <| BT rfl <| Cw rfl <| A2), by omega, ?_⟩
   exact ⟨_, _, qs ++ [ps[k]], _, hle4, k + 1, by omega, Bb, Bb, ho78, hqa.snoc hpk, UT hqp ⟨hpt, hen⟩, by simp; omega, rfl⟩
  refine Aj <| Ab <| Ac <| Ak <| Ac <| Bx (.inl rfl) (fun _ _ h => h) (by kernel_rfl) (by kernel_rfl) fun ds => Ba (Ae 2) <| AX rfl (Ax (k := k) Bt Aa hps.plain Aa rfl hlt) <| AX rfl (Ah Br Aa (hps.cell1 hlt rfl)) <| GS rfl (Ay bd_84 Aa AY (OM hpk (by have := hpt.1; have := hv.reams; omega) htb) (fun _ _ h => h)) <| Ba (Ae 1) <| AX rfl (Ah AA Aa (AM hz1 rfl)) <| Ba (Ae 1) <| AX rfl (Ah AA Aa (AM hz1 rfl)) <| AX rfl (D9 Aa Aa rfl (by omega) (by omega)) <| Ba (Ae 1) <| B9 <| Ab <| Ad Aa (dF hen) <| Aj <| Az <| Ab <| Al fun ds => Ao (Ae 1) <| Af rfl (AE Aa Aa rfl (by omega) (by omega)) <| Ao (Ae 1) <| Am ?_
  refine Ab ⟨_, m2 - 1, Off.eq (B3 rfl <| Cw rfl <| A2), by omega, ?_⟩
  exact ⟨_, _, qs, _, hle4, k + 1, by omega, Bb, Bb, ho8, hqa, hqp, by omega, rfl⟩
 refine Ac <| Aw (Ae 2) fun ds => Af rfl (A6 Bt Aa hps.plain) <| As (Ae 1) <| Ad Aa (by first | rfl | exact dF (by omega)) ?_
 obtain rfl : k = ps.length := by omega
 refine AC ?_
 refine A0 <| A0 <| A4 <| Ab <| AI (Ae 2) <| Bm (σ := ⟨_, _⟩) (by rfl) ho8 (.z) .last fun F35 hF36 hz37 => ?_
 replace hqa := hqa.mono hF36
 have hqs := ho8.sl (fun _ => rfl) hz37 (by omega)
 refine At <| Aq rfl Bf ?_
 exact ⟨qs, hqs, hqa, hqp⟩
end
section
set_option maxRecDepth 100000
open Go.RowKit
theorem bd_85 : Body Tryz.prog 85 := AF (by kernel_rfl)
theorem Pz {n : Nat} {b : List Nat} : ((n : Int) ∈ b.map fun (x : Nat) => (x : Int)) ↔ n ∈ b := by
 constructor
 · intro h; obtain ⟨x, hx, he⟩ := List.mem_map.1 h
   have : x = n := by omega
   exact this ▸ hx
 intro h; exact List.mem_map.2 ⟨n, h, rfl⟩
theorem AllN.snoc {F : Heap} {ps : List (Value × List Nat)} {p : Value × List Nat} (h : AllN F ps) (hp : Nats F p.1 p.2) : AllN F (ps ++ [p]) := fun q hq => (List.mem_append.1 hq).elim (h q) fun hq => by obtain rfl := List.mem_singleton.1 hq; exact hp
theorem lev_in {g : Nat} (hg : g ≤ 5) : ∀ {i : Nat} {b : List Nat}, i ≤ 5 → b ∈ lev g i → b.length ≤ 5
 | 0, b, _, h => by
   obtain rfl : b = [] := by simpa [lev] using h
   simp
 | i + 1, b, hi, h => by
   have key : ∀ {i : Nat} {b : List Nat}, b ∈ lev g i → b.length = i := by
     intro i
     induction i with
     | zero => intro b h; obtain rfl : b = [] := by simpa [lev] using h
               rfl
     | succ i ih =>
       intro b h
       obtain ⟨a, ha, hb⟩ := List.mem_flatMap.1 (show b ∈ (lev g i).flatMap fun b => extTo b g from h)
       unfold extTo at hb
       obtain ⟨x, _, rfl⟩ := List.mem_map.1 hb
       simp [ih ha]
   have := key h; omega
theorem all6_ok {F : Heap} {g : Nat} (h1 : 1 ≤ g) (hg5 : g ≤ 5) : Ok Tryz.prog 42 [.int .i64 (g : Int)].toArray F fun u F' => ∃ ps : List (Value × List Nat), Sl F' u 1 slE ps ∧ AllN F' ps ∧ ps.map (·.2) = allOrds g := by
 refine Ok.intro Tryz.func42 rfl Tryz.ntmps42 rfl fun w0 => AI (Ae 1) <| Ac <| Al fun ds => A3 rfl <| AU Bt FS rfl (.cons Aa .nil) rfl rfl (by decide) (by simp [Value.oneCell']) fun b1 hb1 nb1 => AW (i := 0) rfl hb1 .here fun F2 hF3 hz4 => ?_
 have hsl5 := TL hz4
 refine As (Ae 1) <| Ac <| AI (Ae 1) <| Ak ?_
 refine AJ [3, 4, 5, 6, 7, 9, 10, 11, 12, 13, 14, 15, 16, 17, 18, 19, 20, 21, 22, 23, 24, 25, 26, 27, 28, 29, 30, 31, 32, 33, 34, 35, 36, 37, 38, 39, 40, 41, 42, 43, 44] (fun m e σ => ∃ G vo ps, F2.le G ∧ ∃ i : Nat, m + i = g ∧ Fct e 4 (.int .i64 (i : Int)) ∧ Fct e 3 vo ∧ Sl G vo 1 slE ps ∧ AllN G ps ∧ ps.map (·.2) = lev g i ∧ σ = ⟨G, []⟩) (g) ?_ ?_
 · exact ⟨_, _, [((.slice none 0 0 : Value), ([] : List Nat))], Heap.le_refl _, 0, by omega, Bb, Bb, hsl5, Vy, rfl, rfl⟩
 rintro m e _ ⟨G, vo, ps, hle1, i, hm1, hs4, hs3, hps, hpa, hpm, rfl⟩
 by_cases hlt : i < g
 ·have hpl : ps.length ≤ 625 := by have h1 := congrArg List.length hpm; have h2 := Sy hg5 i; have h3 : 5 ^ i ≤ 5 ^ 4 := Nat.pow_le_pow_right (by omega) (by omega); simp at h1; omega
  refine Ac <| AI (Ae 3) <| Ag Aa (by first | rfl | exact dT (by omega)) <| Aj <| Ab <| Ac <| Ak <| AI (Ae 1) <| Ac <| AI (Ae 1) <| Ak ?_
  refine AJ [5, 6, 7, 14, 15, 16, 17, 18, 19, 20, 21, 22, 23, 24, 25, 26, 27, 28, 29, 30, 31, 32, 33, 34, 35, 36, 37, 38, 39, 40, 41, 42, 43] (fun m e σ => ∃ G2 v5 qs R5, G.le G2 ∧ ∃ k : Nat, m + k = ps.length ∧ Fct e 6 (.int .i64 (k : Int)) ∧ Fct e 5 v5 ∧ Own 44 1 v5 qs.length (qs.flatMap slE) R5 ∧ AllN G2 qs ∧ qs.map (·.2) = nextTo g (lev g i) k ∧ σ = ⟨G2, R5⟩) (ps.length) ?_ ?_
  · exact ⟨_, _, [], _, Heap.le_refl _, 0, by omega, Bb, Bb, Ce, (fun p hp => nomatch hp), by simp [nextTo], rfl⟩
  rintro m2 e2 _ ⟨G2, v5, qs, R5, hle2, k, hm2, hu6, hu5, ho5, hqa, hqm, rfl⟩; replace hps := hps.mono hle2; replace hpa := hpa.mono hle2
  by_cases hk2 : k < ps.length
  ·refine Ac <| Aw (Ae 2) fun ds => Af rfl (A6 Bt Aa hps.plain) <| As (Ae 1) <| Ag Aa (by first | rfl | exact dT (by omega)) ?_
   have hpk := hpa _ (List.getElem_mem hk2)
   have hbl : ps[k].2.length ≤ 5 := lev_in hg5 (by omega) (show ps[k].2 ∈ lev g i by rw [← hpm]; exact List.mem_map_of_mem (List.getElem_mem hk2))
   refine Aj <| Ab <| Ac <| Ak <| AI (Ae 1) <| Ak ?_
   refine AJ [5, 7, 20, 21, 22, 23, 24, 25, 26, 27, 28, 29, 30, 31, 32, 33, 34, 35, 36, 37, 38, 39, 40, 41, 42, 43] (fun m e σ => ∃ G3 v5 qs R5, G2.le G3 ∧ ∃ n : Nat, m + n = g ∧ Fct e 7 (.int .i64 (n : Int)) ∧ Fct e 5 v5 ∧ Own 44 1 v5 qs.length (qs.flatMap slE) R5 ∧ AllN G3 qs ∧ qs.map (·.2) = nextTo g (lev g i) k ++ extTo ps[k].2 n ∧ σ = ⟨G3, R5⟩) (g) ?_ ?_
   · exact ⟨_, _, qs, _, Heap.le_refl _, 0, by omega, Bb, Bb, ho5, hqa, by simp [extTo, hqm], rfl⟩
   rintro m3 e3 _ ⟨G3, v5, qs, R5, hle3, n, hm3, hv7, hv5, ho5, hqa, hqm, rfl⟩; replace hps := hps.mono hle3; replace hpa := hpa.mono hle3; replace hpk := hpk.mono hle3
   by_cases hlt3 : n < g
   ·refine Ac <| AI (Ae 3) <| Ag Aa (by first | rfl | exact dT (by omega)) ?_
    have hq3 : qs.length ≤ 5 * k + n := by have h1 := congrArg List.length hqm; have h2 := L1 hg5 (l := lev g i) (k := k) (by rw [← hpm]; simp; omega); have h3 := Nm (b := ps[k].2) (n := n); simp at h1; omega
    have hbl : ps[k].2.length ≤ 5 := hbl
    by_cases hin : n ∈ ps[k].2
    ·refine Aj <| Ab <| Ac <| Ak <| Aw (Ae 2) fun ds => Af rfl (Ax (k := k) Bt Aa hps.plain Aa rfl hk2) <| Af rfl (Ah Br Aa (hps.cell1 hk2 rfl)) <| Ao (Ae 1) <| AS rfl (Ay bd_85 Aa AY (V8 (Nats.ints hpk) (n : Int)) (fun _ _ h => h)) <| As (Ae 1) <| Ad Aa (by rw [dT (Pz.2 hin)]; rfl) <| Aj <| Az <| Ab <| Al fun ds => Ao (Ae 1) <| Af rfl (AE Aa Aa rfl (by omega) (by omega)) <| Ao (Ae 1) <| Am ?_
     refine Ab ⟨_, m3 - 1, Off.eq (BT rfl <| Ci rfl <| BY rfl <| A2), by omega, ?_⟩
     exact ⟨_, _, qs, _, hle3, n + 1, by omega, Bb, Bb, ho5, hqa, by rw [VM hin]; exact hqm, rfl⟩
    refine Aj <| Ab <| Ac <| Ak <| Aw (Ae 2) fun ds => Af rfl (Ax (k := k) Bt Aa hps.plain Aa rfl hk2) <| Af rfl (Ah Br Aa (hps.cell1 hk2 rfl)) <| Ao (Ae 1) <| AS rfl (Ay bd_85 Aa AY (V8 (Nats.ints hpk) (n : Int)) (fun _ _ h => h)) <| As (Ae 1) <| Ag Aa (by rw [dF (fun h => hin (Pz.1 h))]; rfl) <| Al fun ds => Ao (Ae 1) <| A3 rfl <| AU A7 B1 rfl .nil rfl rfl (by decide) (by simp [Value.oneCell']) fun b9 hb9 nb9 => Ao (Ae 2) <| Af rfl (Ax (k := k) Bt Aa hps.plain Aa rfl hk2) <| Af rfl (Ah Br Aa (hps.cell1 hk2 rfl)) <| A3 rfl <| Bi A7 D5 Aa (CR rfl) Aa (Sl.src hpk (fun _ => rfl) L3) (by omega) (by omega) (.z) .box fun v10 R11 ho12 => ?_
    have hr38 : Own 3 1 v10 ps[k].2.length (ps[k].2.flatMap natE) R11 := by simpa using ho12
    refine Ao (Ae 1) <| A3 rfl <| AU A7 B1 rfl (.cons Aa .nil) rfl rfl (by decide) (by simp [Value.oneCell']) fun b13 hb13 nb13 => A3 rfl <| Bi A7 D5 Aa hr38 Aa (BA (s := 1) 0 rfl rfl (by simp [Value.oneCell'])) (by omega) (by omega) (.s <| .z) .more fun v14 R15 ho16 => ?_
    have hr41 : Own 3 1 v14 (ps[k].2 ++ [n]).length ((ps[k].2 ++ [n]).flatMap natE) R15 := Own.snoc ho16 rfl rfl
    obtain ⟨v41_, hv41⟩ : ∃ v, v = v14 := ⟨_, rfl⟩
    subst hv41
    refine Hv (σ := ⟨_, _⟩) (by rfl) hr41 (.s <| .z) .more fun F17 hF18 hz19 => ?_
    replace hqa := hqa.mono hF18
    replace hle3 := Heap.le_trans hle3 hF18
    have hrow := hr41.sl (fun _ => rfl) hz19 (by simp; omega)
    refine A3 rfl <| AU Bt FS rfl (.cons Aa .nil) rfl rfl (by decide) (fun u hu => by obtain rfl := List.mem_singleton.1 hu; exact hrow.plain.one) fun b20 hb20 nb20 => A3 rfl <| Bi Bt Np Aa ho5 Aa (BA (s := 1) 0 rfl rfl (fun u hu => by obtain rfl := List.mem_singleton.1 hu; exact hrow.plain.one)) (by omega) (by omega) (.s <| .s <| .z) .last fun v21 R22 ho23 => ?_
    have ho43 : Own 44 1 v21 (qs ++ [(v41_, ps[k].2 ++ [n])]).length ((qs ++ [(v41_, ps[k].2 ++ [n])]).flatMap slE) R22 := Own.snoc ho23 rfl rfl
    refine Ao (Ae 1) <| Am <| Az <| Ab <| By (fun _ _ h => h.drop (kD <| kD <| .refl _)) <| Al fun ds => Ao (Ae 1) <| Af rfl (AE Aa Aa rfl (by omega) (by omega)) <| Ao (Ae 1) <| Am ?_
    refine Ab ⟨_, m3 - 1, Off.eq (B3 rfl <| BT rfl <| Cw rfl <| A2), by omega, ?_⟩
    exact ⟨_, _, qs ++ [(v41_, ps[k].2 ++ [n])], _, hle3, n + 1, by omega, Bb, Bb, ho43, hqa.snoc hrow, by rw [Ua hin, List.map_append, hqm, List.append_assoc]; rfl, rfl⟩
   refine Ac <| AI (Ae 3) <| Ad Aa (by first | rfl | exact dF (by omega)) ?_
   obtain rfl : n = g := by omega
   refine AC ?_
   refine A0 <| A0 <| A4 <| Az <| Ab <| Al fun ds => Ao (Ae 1) <| Af rfl (AE Aa Aa rfl (by omega) (by omega)) <| Ao (Ae 1) <| Am ?_
   refine Ab ⟨_, m2 - 1, Off.eq (Ci rfl <| Cw rfl <| BJ rfl <| Ci rfl <| BY rfl <| A2), by omega, ?_⟩
   exact ⟨_, _, qs, _, Heap.le_trans hle2 hle3, k + 1, by omega, Bb, Bb, ho5, hqa, by rw [Px (by rw [← hpm]; simpa using hk2), hqm]; simp [← hpm], rfl⟩
  refine Ac <| Aw (Ae 2) fun ds => Af rfl (A6 Bt Aa hps.plain) <| As (Ae 1) <| Ad Aa (by first | rfl | exact dF (by omega)) ?_
  obtain rfl : k = ps.length := by omega
  have hql : qs.length ≤ 5 * ps.length := by have h1 := congrArg List.length hqm; have h2 := L1 hg5 (l := lev g i) (k := ps.length) (by rw [← hpm]; simp); simp at h1; omega
  refine AC ?_
  refine A0 <| A0 <| A4 <| Ab <| Bm (σ := ⟨_, _⟩) (by rfl) ho5 (.z) .last fun F24 hF25 hz26 => ?_
  replace hqa := hqa.mono hF25
  replace hle2 := Heap.le_trans hle2 hF25
  have hqs := ho5.sl (fun _ => rfl) hz26 (by omega)
  refine Al fun ds => Ao (Ae 2) <| Am <| Az <| Ab <| Al fun ds => Ao (Ae 1) <| Af rfl (AE Aa Aa rfl (by omega) (by omega)) <| Ao (Ae 1) <| Am ?_
  refine Ab ⟨_, m - 1, Off.eq (BT rfl <| BY rfl <| BJ rfl <| Ci rfl <| BY rfl <| A2), by omega, ?_⟩
  exact ⟨_, _, qs, Heap.le_trans hle1 hle2, i + 1, by omega, Bb, Bb, hqs, hqa, by rw [hqm]; unfold nextTo; rw [show ps.length = (lev g i).length by rw [← hpm]; simp, List.take_length]; rfl, rfl⟩
 refine Ac <| AI (Ae 3) <| Ad Aa (by first | rfl | exact dF (by omega)) ?_
 obtain rfl : i = g := by omega
 refine AC ?_
 refine A0 <| A0 <| A4 <| Ab <| AI (Ae 2) <| At <| Aq rfl Bf ?_
 exact ⟨ps, hps, hpa, by rw [hpm, lev_all h1 hg5]⟩
end
section
def xF (l : List Int) (i : Nat) : Int := l[i]?.getD 0
theorem OB {l : List Int} {i : Nat} (h : i < l.length) : xF l i = l[i] := by simp [xF, h]
def isTo (c : Pap) (x : Nat → Int) (p s k : Nat) : Bool := (List.range k).any fun i => decide ((c.rm i).stock = s) && decide (inPl c x i p)
theorem PD {c : Pap} {x : Nat → Int} {i k : Nat} : decide (inPl c x i k) = (decide (abv x i < ((k : Int) + 1) * c.run) && decide ((k : Int) * c.run < abv x i + x i)) := by unfold inPl; exact Bool.decide_and _ _
theorem GG {c : Pap} {x : Nat → Int} {p s k : Nat} : isTo c x p s (k + 1) = (isTo c x p s k || (decide ((c.rm k).stock = s) && decide (inPl c x k p))) := by unfold isTo; rw [List.range_succ, List.any_append]; simp
def placL (c : Pap) (x : Nat → Int) (p n : Nat) : List Nat := (List.range n).filter fun s => isTo c x p s c.reams.length
theorem JC {c : Pap} {x : Nat → Int} {p n : Nat} : (placL c x p n).length ≤ n := by
 have := List.length_filter_le (fun s => isTo c x p s c.reams.length) (List.range n)
 rw [List.length_range] at this; exact this
theorem TA {c : Pap} {x : Nat → Int} {p n : Nat} (h : isTo c x p n c.reams.length = true) : placL c x p (n + 1) = placL c x p n ++ [n] := by unfold placL; rw [List.range_succ, List.filter_append]; simp [h]
theorem Vl {c : Pap} {x : Nat → Int} {p n : Nat} (h : isTo c x p n c.reams.length = false) : placL c x p (n + 1) = placL c x p n := by unfold placL; rw [List.range_succ, List.filter_append]; simp [h]
def placesL (c : Pap) (x : Nat → Int) (g : Nat) : List (List Nat) := (List.range g).map fun p => placL c x p c.stocks.length
theorem NQ {c : Pap} {x : Nat → Int} {g : Nat} : placesL c x (g + 1) = placesL c x g ++ [placL c x g c.stocks.length] := by unfold placesL; rw [List.range_succ, List.map_append]; rfl
end
section
set_option maxRecDepth 100000
open Go.RowKit
theorem QV {F : Heap} {vs vr vx : Value} {c : Pap} (hr : PapR F vs vr vx c) (hv : ValidP c) {g : Nat} (hg : c.gats = (g : Int)) (hg5 : g ≤ 5) {vp : Value} {l : List Int} (hl : Ints F vp l) (hll : l.length = c.reams.length) (hlb : ∀ i (hi : i < l.length), 0 ≤ l[i] ∧ l[i] ≤ 2000) : Ok Tryz.prog 44 [papV vs vr vx c, vp].toArray F fun u F' => ∃ qs : List (Value × List Nat), Sl F' u 1 slE qs ∧ AllN F' qs ∧ qs.map (·.2) = placesL c (xF l) g := by
 refine Ok.intro Tryz.func44 rfl Tryz.ntmps44 rfl fun w0 => ?_
 have hL1 := hr.stocks.plain.lt
 have hL2 := hl.plain.lt
 have hrr := hv.reams
 have hss := hv.stocks
 have hxF : ∀ i, i < c.reams.length → 0 ≤ xF l i ∧ xF l i ≤ 2000 := fun i hi => by rw [OB (by omega)]; exact hlb i (by omega)
 refine Ac <| Al fun ds => A3 rfl <| Bc Aa rfl fun b1 hb1 nb1 => As (Ae 1) <| AL (i := 0) rfl hb1 (.here) fun F2 hF3 hz2 => ?_
 replace hr := hr.mono hF3
 replace hl := hl.mono hF3
 refine AI (Ae 1) <| Ac <| AI (Ae 1) <| Ak ?_
 refine AJ [5, 6, 7, 8, 9, 10, 11, 12, 13, 14, 15, 16, 17, 18, 19, 20, 21, 22, 23, 24, 25, 26, 27, 28, 29, 30, 31, 32, 33, 34, 35, 36, 37, 38, 39, 40, 41, 42, 43, 44, 45, 46, 47, 48, 49, 50, 51, 52, 53, 54, 55, 56, 57, 58, 59, 60, 61, 62, 63, 64, 65, 66, 67, 68, 69, 70, 71, 72, 73, 74, 75, 76, 77, 78] (fun m e σ => ∃ G v5 qs R5, F2.le G ∧ ∃ p : Nat, m + p = g ∧ Fct e 6 (.int .i64 (p : Int)) ∧ Fct e 5 v5 ∧ Own 44 1 v5 qs.length (qs.flatMap slE) R5 ∧ AllN G qs ∧ qs.map (·.2) = placesL c (xF l) p ∧ σ = ⟨G, R5⟩) (g) ?_ ?_
 · exact ⟨_, _, [], _, Heap.le_refl _, 0, by omega, Bb, Bb, Ce, (fun p hp => nomatch hp), rfl, rfl⟩
 rintro m e _ ⟨G, v5, qs, R5, hle1, p, hm1, hs6, hs5, ho5, hqa, hqm, rfl⟩; replace hr := hr.mono hle1; replace hl := hl.mono hle1; replace hz2 := hle1 _ _ hz2
 by_cases hlt : p < g
 ·have hp1 := Ge (a := (p : Int)) (b := c.run) (A := 5) (B := 500) (by omega) (by omega) (by have := hv.run; omega) hv.run.2
  have hp2 := Ge (a := (p : Int) + 1) (b := c.run) (A := 5) (B := 500) (by omega) (by omega) (by have := hv.run; omega) hv.run.2
  refine Ac <| Aw (Ae 2) fun ds => Af rfl (Ah AA Aa (AM hz2 rfl)) <| As (Ae 1) <| Ag Aa (by first | rfl | exact dT (by omega)) <| Aj <| Ab <| Ac <| Ak <| AI (Ae 1) <| Ac <| AI (Ae 1) <| Ak ?_
  refine AJ [7, 8, 9, 10, 11, 18, 19, 20, 21, 22, 23, 24, 25, 26, 27, 28, 29, 30, 31, 32, 33, 34, 35, 36, 37, 38, 39, 40, 41, 42, 43, 44, 45, 46, 47, 48, 49, 50, 51, 52, 53, 54, 55, 56, 57, 58, 59, 60, 61, 62, 63, 64, 65, 66, 67, 68, 69, 70, 71, 72, 73, 74] (fun m e σ => ∃ v7 R7, ∃ s : Nat, m + s = c.stocks.length ∧ Fct e 8 (.int .i64 (s : Int)) ∧ Fct e 7 v7 ∧ Own 3 1 v7 (placL c (xF l) p s).length ((placL c (xF l) p s).flatMap natE) R7 ∧ σ = ⟨G, R5 ++ R7⟩) (c.stocks.length) ?_ ?_
  · exact ⟨_, [], 0, by omega, Bb, Bb, Ce, by simp⟩
  rintro m2 e2 _ ⟨v7, R7, s, hm2, hu8, hu7, ho7, rfl⟩
  by_cases hlt2 : s < c.stocks.length
  ·refine Ac <| Aw (Ae 2) fun ds => Af rfl (Ah Re Aa (AM hz2 rfl)) <| Af rfl (A6 Cd Aa hr.stocks.plain) <| As (Ae 1) <| Ag Aa (by first | rfl | exact dT (by omega)) <| Aj <| Ab <| Ac <| Ak <| AI (Ae 2) <| Ac <| AI (Ae 1) <| Ak ?_
   refine AJ [9, 10, 11, 25, 26, 27, 28, 29, 30, 31, 32, 33, 34, 35, 36, 37, 38, 39, 40, 41, 42, 43, 44, 45, 46, 47, 48, 49, 50, 51, 52, 53, 54, 55, 56, 57, 58, 59, 60, 61, 62, 63, 64, 65, 66, 67, 68, 69] (fun m e σ => ∃ i : Nat, m + i = c.reams.length ∧ Fct e 11 (.int .i64 (i : Int)) ∧ Fct e 9 (.int .i64 (abv (xF l) i)) ∧ Fct e 10 (.bool (isTo c (xF l) p s i)) ∧ σ = ⟨G, R5 ++ R7⟩) (c.reams.length) ?_ ?_
   · exact ⟨0, by omega, Bb, Bb, Bb, rfl⟩
   rintro m3 e3 _ ⟨i, hm3, hv11, hv9, hv10, rfl⟩
   by_cases hlt3 : i < c.reams.length
   ·have hll : i < l.length := by omega
    have hrs : c.reams[i].stock = (c.rm i).stock := by rw [MR hlt3]
    have hx := OB hll
    have hxb := hlb i hll
    have hab := DJ hxF i (by omega)
    have habs : abv (xF l) (i + 1) = abv (xF l) i + l[i] := by show abv (xF l) i + xF l i = _; rw [hx]
    refine Ac <| Aw (Ae 2) fun ds => Af rfl (A6 A7 Aa hl.plain) <| As (Ae 1) <| Ag Aa (by first | rfl | exact dT (by omega)) ?_
    by_cases his : isTo c (xF l) p s i = true
    ·refine Aj <| Ab <| Ac <| Ak <| Ac <| Bx (.inl rfl) (fun _ _ h => h) (by kernel_rfl) (by kernel_rfl) fun ds => Ba (Ae 2) <| AG rfl rfl Aa (.inl (congrArg Value.bool his)) rfl <| AG rfl rfl Aa (.inl (congrArg Value.bool his)) rfl <| AG rfl rfl Aa (.inl (congrArg Value.bool his)) rfl <| AG rfl rfl Aa (.inl (congrArg Value.bool his)) rfl <| AG rfl rfl Aa (.inl (congrArg Value.bool his)) rfl <| AG rfl rfl Aa (.inl (congrArg Value.bool his)) rfl <| AG rfl rfl Aa (.inl (congrArg Value.bool his)) rfl <| AG rfl rfl Aa (.inl (congrArg Value.bool his)) rfl <| AG rfl rfl Aa (.inl (congrArg Value.bool his)) rfl <| AG rfl rfl Aa (.inr rfl) rfl <| AG rfl rfl Aa (.inr rfl) rfl <| AG rfl rfl Aa (.inr rfl) rfl <| AG rfl rfl Aa (.inr rfl) rfl <| AG rfl rfl Aa (.inr rfl) rfl <| AG rfl rfl Aa (.inr rfl) rfl <| AG rfl rfl Aa (.inr rfl) rfl <| AG rfl rfl Aa (.inl (congrArg Value.bool his)) rfl <| AG rfl rfl Aa (.inl (congrArg Value.bool his)) rfl <| AG rfl rfl Aa (.inr rfl) rfl <| AG rfl rfl Aa (.inr rfl) rfl <| AG rfl rfl Aa (.inr rfl) rfl <| AG rfl rfl Aa (.inr rfl) rfl <| AG rfl rfl Aa (.inr rfl) rfl <| AG rfl rfl Aa (.inr rfl) rfl <| AG rfl rfl Aa (.inr rfl) rfl <| AG rfl rfl Aa (.inr rfl) rfl <| AG rfl rfl Aa (.inr rfl) rfl <| AG rfl rfl Aa (.inr rfl) rfl <| AG rfl rfl Aa (.inr rfl) rfl <| AG rfl rfl Aa (.inl (congrArg Value.bool his)) rfl ?_
     refine AX rfl (Au Aa his BF) <| Ba (Ae 1) <| B9 <| Ab <| Al fun ds => Ao (Ae 3) <| Af rfl (Ax (k := i) A7 Aa hl.plain Aa rfl hll) <| Af rfl (Ah AA Aa (hl.cell1 hll rfl)) <| Af rfl (AE Aa Aa rfl (by omega) (by omega)) <| Ao (Ae 1) <| Am <| Az <| Ab <| Al fun ds => Ao (Ae 1) <| Af rfl (AE Aa Aa rfl (by omega) (by omega)) <| Ao (Ae 1) <| Am ?_
     refine Ab ⟨_, m3 - 1, Off.eq (Cv rfl <| B3 rfl <| A2), by omega, ?_⟩
     exact ⟨i + 1, by omega, Bb, BN (congrArg (Value.int .i64) habs.symm), BN (congrArg Value.bool (by rw [GG, his]; rfl)), rfl⟩
    replace his : isTo c (xF l) p s i = false := by simpa using his
    refine Aj <| Ab <| Ac <| Ak <| Ac <| Bx (.inl rfl) (fun _ _ h => h) (by kernel_rfl) (by kernel_rfl) fun ds => Ba (Ae 2) <| AK rfl rfl Aa his <| Ba (Ae 1) <| AK rfl rfl Aa his <| AX rfl (Ah EQ Aa (AM hz2 rfl)) <| AK rfl rfl Aa his <| Ba (Ae 1) <| AK rfl rfl Aa his <| AX rfl (Ax (k := i) CD Aa hr.reams.plain Aa rfl hlt3) <| AK rfl rfl Aa his <| Ba (Ae 1) <| AK rfl rfl Aa his <| AX rfl (Ah AA Aa (hr.reams.cell hlt3 rfl)) <| AK rfl rfl Aa his <| Ba (Ae 1) <| AK rfl rfl Aa his <| Ba (Ae 1) <| AK rfl rfl Aa his <| Ba (Ae 1) ?_
    by_cases hst : (c.rm i).stock = (s : Int)
    ·refine AK rfl rfl Aa (by rw [hrs]; exact dT hst) <| Ba (Ae 1) <| AK rfl rfl Aa (by rw [hrs]; exact dT hst) <| Ba (Ae 1) <| AK rfl rfl Aa (by rw [hrs]; exact dT hst) <| AX rfl (AE Aa Aa rfl (by omega) (by omega)) <| AK rfl rfl Aa (by rw [hrs]; exact dT hst) <| Ba (Ae 1) <| AK rfl rfl Aa (by rw [hrs]; exact dT hst) <| AX rfl (Ah AA Aa (AM hz2 rfl)) <| AK rfl rfl Aa (by rw [hrs]; exact dT hst) <| AX rfl (D9 Aa Aa rfl (by omega) (by omega)) <| AK rfl rfl Aa (by rw [hrs]; exact dT hst) <| Ba (Ae 1) <| AK rfl rfl Aa his <| AX rfl (Au Aa (by rw [hrs]; exact dT hst) Aa) <| AK rfl rfl Aa his <| Ba (Ae 1) ?_
     by_cases hlo : abv (xF l) i < ((p : Int) + 1) * c.run
     ·refine AK rfl rfl Aa (dT hlo) <| Ba (Ae 1) <| AK rfl rfl Aa (dT hlo) <| Ba (Ae 1) <| AK rfl rfl Aa (dT hlo) <| Ba (Ae 1) <| AK rfl rfl Aa (dT hlo) <| AX rfl (Ax (k := i) A7 Aa hl.plain Aa rfl hll) <| AK rfl rfl Aa (dT hlo) <| AX rfl (Ah AA Aa (hl.cell1 hll rfl)) <| AK rfl rfl Aa (dT hlo) <| AX rfl (AE Aa Aa rfl (by omega) (by omega)) <| AK rfl rfl Aa (dT hlo) <| Ba (Ae 1) <| AK rfl rfl Aa (dT hlo) <| Ba (Ae 1) <| AK rfl rfl Aa (dT hlo) <| AX rfl (Ah AA Aa (AM hz2 rfl)) <| AK rfl rfl Aa (dT hlo) <| AX rfl (D9 Aa Aa rfl (by omega) (by omega)) <| AK rfl rfl Aa (dT hlo) <| Ba (Ae 1) <| AK rfl rfl Aa his <| AX rfl (Au Aa (dT hlo) Aa) <| AX rfl (A5 Aa his Aa) <| Ba (Ae 1) <| B9 <| Ab <| Al fun ds => Ao (Ae 3) <| Af rfl (Ax (k := i) A7 Aa hl.plain Aa rfl hll) <| Af rfl (Ah AA Aa (hl.cell1 hll rfl)) <| Af rfl (AE Aa Aa rfl (by omega) (by omega)) <| Ao (Ae 1) <| Am <| Az <| Ab <| Al fun ds => Ao (Ae 1) <| Af rfl (AE Aa Aa rfl (by omega) (by omega)) <| Ao (Ae 1) <| Am ?_
      refine Ab ⟨_, m3 - 1, Off.eq (Cv rfl <| B3 rfl <| A2), by omega, ?_⟩
      exact ⟨i + 1, by omega, Bb, BN (congrArg (Value.int .i64) habs.symm), BN (congrArg Value.bool (by rw [GG, his]; rw [dT hst, PD, hx]; simp [hlo])), rfl⟩
     refine AG rfl rfl Aa (.inl (congrArg Value.bool (dF hlo))) rfl <| AG rfl rfl Aa (.inl (congrArg Value.bool (dF hlo))) rfl <| AG rfl rfl Aa (.inl (congrArg Value.bool (dF hlo))) rfl <| AG rfl rfl Aa (.inl (congrArg Value.bool (dF hlo))) rfl <| AG rfl rfl Aa (.inl (congrArg Value.bool (dF hlo))) rfl <| AG rfl rfl Aa (.inl (congrArg Value.bool (dF hlo))) rfl <| AG rfl rfl Aa (.inl (congrArg Value.bool (dF hlo))) rfl <| AG rfl rfl Aa (.inl (congrArg Value.bool (dF hlo))) rfl <| AG rfl rfl Aa (.inl (congrArg Value.bool (dF hlo))) rfl <| AG rfl rfl Aa (.inl (congrArg Value.bool (dF hlo))) rfl <| AG rfl rfl Aa (.inl (congrArg Value.bool (dF hlo))) rfl <| AK rfl rfl Aa his <| AX rfl (A5 Aa (dF hlo) Aa) <| AX rfl (A5 Aa his Aa) <| Ba (Ae 1) <| B9 <| Ab <| Al fun ds => Ao (Ae 3) <| Af rfl (Ax (k := i) A7 Aa hl.plain Aa rfl hll) <| Af rfl (Ah AA Aa (hl.cell1 hll rfl)) <| Af rfl (AE Aa Aa rfl (by omega) (by omega)) <| Ao (Ae 1) <| Am <| Az <| Ab <| Al fun ds => Ao (Ae 1) <| Af rfl (AE Aa Aa rfl (by omega) (by omega)) <| Ao (Ae 1) <| Am ?_
     refine Ab ⟨_, m3 - 1, Off.eq (Cv rfl <| B3 rfl <| A2), by omega, ?_⟩
     exact ⟨i + 1, by omega, Bb, BN (congrArg (Value.int .i64) habs.symm), BN (congrArg Value.bool (by rw [GG, his]; rw [dT hst, PD]; simp [hlo])), rfl⟩
    refine AG rfl rfl Aa (.inl (congrArg Value.bool (by rw [hrs]; exact dF hst))) rfl <| AG rfl rfl Aa (.inl (congrArg Value.bool (by rw [hrs]; exact dF hst))) rfl <| AG rfl rfl Aa (.inl (congrArg Value.bool (by rw [hrs]; exact dF hst))) rfl <| AG rfl rfl Aa (.inl (congrArg Value.bool (by rw [hrs]; exact dF hst))) rfl <| AG rfl rfl Aa (.inl (congrArg Value.bool (by rw [hrs]; exact dF hst))) rfl <| AG rfl rfl Aa (.inl (congrArg Value.bool (by rw [hrs]; exact dF hst))) rfl <| AG rfl rfl Aa (.inl (congrArg Value.bool (by rw [hrs]; exact dF hst))) rfl <| AK rfl rfl Aa his <| AX rfl (A5 Aa (by rw [hrs]; exact dF hst) Aa) <| AK rfl rfl Aa his <| Ba (Ae 1) <| AG rfl rfl Aa (.inl (congrArg Value.bool rfl)) rfl <| AG rfl rfl Aa (.inl (congrArg Value.bool rfl)) rfl <| AG rfl rfl Aa (.inl (congrArg Value.bool rfl)) rfl <| AG rfl rfl Aa (.inl (congrArg Value.bool rfl)) rfl <| AG rfl rfl Aa (.inl (congrArg Value.bool rfl)) rfl <| AG rfl rfl Aa (.inl (congrArg Value.bool rfl)) rfl <| AG rfl rfl Aa (.inl (congrArg Value.bool rfl)) rfl <| AG rfl rfl Aa (.inl (congrArg Value.bool rfl)) rfl <| AG rfl rfl Aa (.inl (congrArg Value.bool rfl)) rfl <| AG rfl rfl Aa (.inl (congrArg Value.bool rfl)) rfl <| AG rfl rfl Aa (.inl (congrArg Value.bool rfl)) rfl <| AK rfl rfl Aa his ?_
    refine AX rfl (A5 Aa rfl BF) <| AX rfl (A5 Aa his Aa) <| Ba (Ae 1) <| B9 <| Ab <| Al fun ds => Ao (Ae 3) <| Af rfl (Ax (k := i) A7 Aa hl.plain Aa rfl hll) <| Af rfl (Ah AA Aa (hl.cell1 hll rfl)) <| Af rfl (AE Aa Aa rfl (by omega) (by omega)) <| Ao (Ae 1) <| Am <| Az <| Ab <| Al fun ds => Ao (Ae 1) <| Af rfl (AE Aa Aa rfl (by omega) (by omega)) <| Ao (Ae 1) <| Am ?_
    refine Ab ⟨_, m3 - 1, Off.eq (Cv rfl <| B3 rfl <| A2), by omega, ?_⟩
    exact ⟨i + 1, by omega, Bb, BN (congrArg (Value.int .i64) habs.symm), BN (congrArg Value.bool (by rw [GG, his]; rw [dF hst]; rfl)), rfl⟩
   refine Ac <| Aw (Ae 2) fun ds => Af rfl (A6 A7 Aa hl.plain) <| As (Ae 1) <| Ad Aa (by first | rfl | exact dF (by omega)) ?_
   obtain rfl : i = c.reams.length := by omega
   by_cases hfin : isTo c (xF l) p s c.reams.length = true
   ·refine AC ?_
    refine A0 <| A0 <| A4 <| Ab <| AI (Ae 1) <| Ag Aa hfin <| Al fun ds => Ao (Ae 2) <| A3 rfl <| AU A7 B1 rfl (.cons Aa .nil) rfl rfl (by decide) (by simp [Value.oneCell']) fun b7 hb7 nb7 => A3 rfl <| Bi A7 D5 Aa ho7 Aa (BA (s := 1) 0 rfl rfl (by simp [Value.oneCell'])) (by have := JC (c := c) (x := xF l) (p := p) (n := s); omega) (by have := JC (c := c) (x := xF l) (p := p) (n := s); omega) (.s <| .k <| .z) .last fun v8 R9 ho10 => ?_
    have ho74 : Own 3 1 v8 (placL c (xF l) p (s + 1)).length ((placL c (xF l) p (s + 1)).flatMap natE) R9 := by rw [TA hfin]; exact Own.snoc ho10 rfl rfl
    refine Ao (Ae 1) <| Am <| Az <| Ab <| By (fun _ _ h => h.drop (kD <| .refl _)) <| Al fun ds => Ao (Ae 1) <| Af rfl (AE Aa Aa rfl (by omega) (by omega)) <| Ao (Ae 1) <| Am ?_
    refine Ab ⟨_, m2 - 1, Off.eq (BT rfl <| Ci rfl <| BY rfl <| BJ rfl <| BT rfl <| A2), by omega, ?_⟩
    exact ⟨_, _, s + 1, by omega, Bb, Bb, ho74, rfl⟩
   replace hfin : isTo c (xF l) p s c.reams.length = false := by simpa using hfin
   refine AC ?_
   refine A0 <| A0 <| A4 <| Ab <| AI (Ae 1) <| Ad Aa hfin <| Aj <| Az <| Ab <| Al fun ds => Ao (Ae 1) <| Af rfl (AE Aa Aa rfl (by omega) (by omega)) <| Ao (Ae 1) <| Am ?_
   refine Ab ⟨_, m2 - 1, Off.eq (BT rfl <| BJ rfl <| BT rfl <| A2), by omega, ?_⟩
   exact ⟨_, _, s + 1, by omega, Bb, Bb, by rw [Vl hfin]; exact ho7, rfl⟩
  refine Ac <| Aw (Ae 2) fun ds => Af rfl (Ah Re Aa (AM hz2 rfl)) <| Af rfl (A6 Cd Aa hr.stocks.plain) <| As (Ae 1) <| Ad Aa (by first | rfl | exact dF (by omega)) ?_
  obtain rfl : s = c.stocks.length := by omega
  have hpl := JC (c := c) (x := xF l) (p := p) (n := c.stocks.length)
  have hql : qs.length = p := by have := congrArg List.length hqm; simpa [placesL] using this
  refine AC ?_
  refine A0 <| A0 <| A4 <| Ab <| Bm (σ := ⟨_, _⟩) (by rfl) ho7 (.k <| .z) .last fun F11 hF12 hz13 => ?_
  replace hqa := hqa.mono hF12
  replace hle1 := Heap.le_trans hle1 hF12
  refine Cl (.lastb (.here)) ?_
  have hrow := ho7.sl (fun _ => rfl) hz13 (by omega)
  refine Al fun ds => Ao (Ae 2) <| A3 rfl <| AU Bt FS rfl (.cons Aa .nil) rfl rfl (by decide) (fun u hu => by obtain rfl := List.mem_singleton.1 hu; exact hrow.plain.one) fun b14 hb14 nb14 => A3 rfl <| Bi Bt Np Aa ho5 Aa (BA (s := 1) 0 rfl rfl (fun u hu => by obtain rfl := List.mem_singleton.1 hu; exact hrow.plain.one)) (by omega) (by omega) (.s <| .z) .last fun v15 R16 ho17 => ?_
  have ho78 : Own 44 1 v15 (qs ++ [(v7, placL c (xF l) p c.stocks.length)]).length ((qs ++ [(v7, placL c (xF l) p c.stocks.length)]).flatMap slE) R16 := Own.snoc ho17 rfl rfl
  refine Ao (Ae 1) <| Am <| Az <| Ab <| By (fun _ _ h => h.drop (kD <| .refl _)) <| Al fun ds => Ao (Ae 1) <| Af rfl (AE Aa Aa rfl (by omega) (by omega)) <| Ao (Ae 1) <| Am ?_
  refine Ab ⟨_, m - 1, Off.eq (BT rfl <| Ci rfl <| BY rfl <| BJ rfl <| Ci rfl <| Cw rfl <| A2), by omega, ?_⟩
  exact ⟨_, _, qs ++ [(v7, placL c (xF l) p c.stocks.length)], _, Heap.le_trans hle1 (Heap.le_refl _), p + 1, by omega, Bb, Bb, ho78, hqa.snoc hrow, by rw [List.map_append, hqm, NQ]; rfl, rfl⟩
 refine Ac <| Aw (Ae 2) fun ds => Af rfl (Ah AA Aa (AM hz2 rfl)) <| As (Ae 1) <| Ad Aa (by first | rfl | exact dF (by omega)) ?_
 obtain rfl : p = g := by omega
 have hql : qs.length = p := by have := congrArg List.length hqm; simpa [placesL] using this
 refine AC ?_
 refine A0 <| A0 <| A4 <| Ab <| AI (Ae 2) <| Bm (σ := ⟨_, _⟩) (by rfl) ho5 (.z) .last fun F18 hF19 hz20 => ?_
 replace hqa := hqa.mono hF19
 have hqs := ho5.sl (fun _ => rfl) hz20 (by omega)
 refine At <| Aq rfl Bf ?_
 exact ⟨qs, hqs, hqa, hqm⟩
end
section
set_option maxRecDepth 100000
open Go.RowKit
theorem Uy : ZeroT Tryz.prog 47 (.agg #[.slice none 0 0, .slice none 0 0, .slice none 0 0]) := Bv (by kernel_rfl)
theorem RJ : AggT Tryz.prog 47 3 := Cx (by kernel_rfl)
instance : AggI Tryz.prog 47 3 := ⟨RJ⟩
theorem bd_41 : Body Tryz.prog 41 := AF (by kernel_rfl)
theorem bd_42 : Body Tryz.prog 42 := AF (by kernel_rfl)
theorem bd_44 : Body Tryz.prog 44 := AF (by kernel_rfl)
theorem bt_47 : BuildT Tryz.prog 47 [.slice none 0 0, .slice none 0 0, .slice none 0 0] [(0, 1), (1, 1), (2, 1)] := Cs Uy (by kernel_rfl) (by decide)
theorem Oj : FieldT Tryz.prog 33 0 0 := Bd (by kernel_rfl)
instance : FieldI Tryz.prog 33 0 0 := ⟨Oj⟩
theorem Gd : OneT Tryz.prog 31 := BI (by kernel_rfl)
instance : OneI Tryz.prog 31 := ⟨Gd⟩
theorem UF : SizeT Tryz.prog 47 3 := Bq (by kernel_rfl)
def PilesR (c : Pap) (F : Heap) (v : Value) : Prop := ∃ qs : List (Value × List Int), Sl F v 1 slI qs ∧ AllI F qs ∧ ∀ p ∈ qs, GoodPile c p.2
theorem PilesR.mono {c : Pap} {F F' : Heap} {v : Value} (h : PilesR c F v) (hF : F.le F') : PilesR c F' v := by obtain ⟨qs, h1, h2, h3⟩ := h; exact ⟨qs, h1.mono hF, h2.mono hF, h3⟩
def ListsR (ls : List (List Nat)) (F : Heap) (v : Value) : Prop := ∃ ps : List (Value × List Nat), Sl F v 1 slE ps ∧ AllN F ps ∧ ps.map (·.2) = ls
theorem ListsR.mono {ls : List (List Nat)} {F F' : Heap} {v : Value} (h : ListsR ls F v) (hF : F.le F') : ListsR ls F' v := by obtain ⟨qs, h1, h2, h3⟩ := h; exact ⟨qs, h1.mono hF, h2.mono hF, h3⟩
theorem Pw {a b c : Value} (ha : a.oneCell' = true) (hb : b.oneCell' = true) (hc : c.oneCell' = true) : ∀ u ∈ [a, b, c], u.oneCell' = true := fun u hu => by
 simp only [List.mem_cons, List.not_mem_nil, or_false] at hu
 rcases hu with rfl | rfl | rfl
 · exact ha
 · exact hb
 exact hc
structure TruR (F : Heap) (c : Pap) (g : Nat) (vp vo vq : Value) (l : List Int) (b : List Nat) : Prop where
 pile : Ints F vp l
 good : GoodPile c l
 ord : Nats F vo b
 isOrd : b ∈ allOrds g
 plc : ListsR (placesL c (xF l) g) F vq
theorem TruR.mono {F F' : Heap} {c : Pap} {g : Nat} {vp vo vq : Value} {l : List Int} {b : List Nat} (h : TruR F c g vp vo vq l b) (hF : F.le F') : TruR F' c g vp vo vq l b := ⟨h.pile.mono hF, h.good, h.ord.mono hF, h.isOrd, h.plc.mono hF⟩
theorem any6_ok {F : Heap} {vs vr vx : Value} {c : Pap} (hr : PapR F vs vr vx c) (hv : ValidP c) {g : Nat} (hg : c.gats = (g : Int)) (hg5 : g ≤ 5) (h1g : 1 ≤ g) {vt vy vk : Value} {xs : List Nat} (hxs : Sl F vt 1 u16E xs) (hxb : ∀ x ∈ xs, x < 65536) : Ok Tryz.prog 8 [papV vs vr vx c, .agg #[vt, vy, vk]].toArray F fun u F' => u = .tuple #[.agg #[.slice none 0 0, .slice none 0 0, .slice none 0 0], .bool false] ∨ ∃ vp vo vq l b, u = .tuple #[.agg #[vp, vo, vq], .bool true] ∧ TruR F' c g vp vo vq l b := by
 have hle0 : F.le F := Heap.le_refl _
 refine Ok.intro Tryz.func8 rfl Tryz.ntmps8 rfl fun w0 => Ac <| Al fun ds => A3 rfl <| Bc Aa rfl fun b1 hb1 nb1 => A3 rfl <| Bc Aa rfl fun b2 hb2 nb2 => A3 rfl <| AN Uy rfl fun b3 hb3 nb3 => As (Ae 1) <| AL (i := 2) rfl hb1 (.next <| .next <| .here) fun F4 hF5 hz2 => ?_
 replace hr := hr.mono hF5
 replace hxs := hxs.mono hF5
 replace hle0 := Heap.le_trans hle0 hF5
 refine AL (i := 1) rfl hb2 (.next <| .here) fun F6 hF7 hz3 => ?_
 replace hr := hr.mono hF7
 replace hxs := hxs.mono hF7
 replace hle0 := Heap.le_trans hle0 hF7
 replace hz2 := hF7 _ _ hz2
 refine Ac <| WU 7 (.inl rfl) (fun _ _ h => h) (by kernel_rfl) (by kernel_rfl) false rfl ([fun F v => v = papV vs vr vx c, fun F v => PilesR c F v, fun F v => v = .pointer (some ⟨b1, 0 + 3, none⟩), fun F v => v = .int .i64 (g : Int), fun F v => ListsR (allOrds g) F v, fun F v => PilesR c F v, fun F v => ListsR (allOrds g) F v]) (⟨fun F F2 v hF h => h, fun F F2 v hF h => h.mono hF, fun F F2 v hF h => h, fun F F2 v hF h => h, fun F F2 v hF h => h.mono hF, fun F F2 v hF h => h.mono hF, fun F F2 v hF h => h.mono hF, trivial⟩) (fun ds => ?_) (fun ds => ?_)
 ·refine ⟨⟨⟨⟨⟨⟨⟨trivial, ?_⟩, ?_⟩, ?_⟩, ?_⟩, ?_⟩, ?_⟩, ?_⟩
  ·intro e1 F1 hF1 he hj
   replace hz2 := hF1 _ _ hz2
   refine ⟨_, _, _, _, _, rfl, ?_⟩
   refine AP (AO Eh (BW (C7 he (by kernel_rfl)) <| L6 rfl <| K5 rfl <| JF) rfl rfl (AZ hz2)).quiet ⟨_, rfl, Heap.le_refl _, rfl⟩
  ·intro e1 F1 hF1 he hj
   replace hr := hr.mono hF1
   have g9 : (e1 9) = papV vs vr vx c := hj 0 (by kernel_rfl) (by decide)
   refine ⟨_, _, _, _, _, rfl, ?_⟩
   refine Be bd_41 Aa (.cons (Bh g9) .nil) (TF hr hv) fun v2 F2 hr hF2 => ⟨F2, rfl, hF2, hr⟩
  ·intro e1 F1 hF1 he hj
   refine ⟨_, _, _, _, _, rfl, ?_⟩
   refine AP (AD K9 (BW (C7 he (by kernel_rfl)) <| L6 rfl <| K5 rfl <| JF)).quiet ⟨_, rfl, Heap.le_refl _, rfl⟩
  ·intro e1 F1 hF1 he hj
   replace hz2 := hF1 _ _ hz2
   have g11 : (e1 11) = .pointer (some ⟨b1, 0 + 3, none⟩) := hj 2 (by kernel_rfl) (by decide)
   refine ⟨_, _, _, _, _, rfl, ?_⟩
   refine AP (Ah AA (Bh g11) (AM hz2 rfl)).quiet ⟨_, rfl, Heap.le_refl _, congrArg (Value.int .i64) hg⟩
  ·intro e1 F1 hF1 he hj
   replace hr := hr.mono hF1
   have g10 : PilesR c F1 (e1 10) := hj 1 (by kernel_rfl) (by decide)
   have g12 : (e1 12) = .int .i64 (g : Int) := hj 3 (by kernel_rfl) (by decide)
   refine ⟨_, _, _, _, _, rfl, ?_⟩
   refine Be bd_42 Aa (.cons (Bh g12) .nil) (all6_ok h1g hg5) fun v2 F2 hr hF2 => ⟨F2, rfl, hF2, hr⟩
  ·intro e1 F1 hF1 he hj
   have g9 : (e1 9) = papV vs vr vx c := hj 0 (by kernel_rfl) (by decide)
   have g10 : PilesR c F1 (e1 10) := hj 1 (by kernel_rfl) (by decide)
   have g13 : ListsR (allOrds g) F1 (e1 13) := hj 4 (by kernel_rfl) (by decide)
   refine ⟨_, _, _, _, _, rfl, ?_⟩
   refine AP (Bz (Bh rfl)).quiet ⟨_, rfl, Heap.le_refl _, g10⟩
  intro e1 F1 hF1 he hj
  have g9 : (e1 9) = papV vs vr vx c := hj 0 (by kernel_rfl) (by decide)
  have g10 : PilesR c F1 (e1 10) := hj 1 (by kernel_rfl) (by decide)
  have g11 : (e1 11) = .pointer (some ⟨b1, 0 + 3, none⟩) := hj 2 (by kernel_rfl) (by decide)
  have g12 : (e1 12) = .int .i64 (g : Int) := hj 3 (by kernel_rfl) (by decide)
  have g13 : ListsR (allOrds g) F1 (e1 13) := hj 4 (by kernel_rfl) (by decide)
  have g6 : PilesR c F1 (e1 6) := hj 5 (by kernel_rfl) (by decide)
  refine ⟨_, _, _, _, _, rfl, ?_⟩
  refine AP (Bz (Bh rfl)).quiet ⟨_, rfl, Heap.le_refl _, g13⟩
 intro e11 F8 hF9 he10 hj
 replace hr := hr.mono hF9
 replace hxs := hxs.mono hF9
 replace hle0 := Heap.le_trans hle0 hF9
 replace hz2 := hF9 _ _ hz2
 replace hz3 := hF9 _ _ hz3
 have g9 : (e11 9) = papV vs vr vx c := hj 0 (by decide)
 have g10 : PilesR c F8 (e11 10) := hj 1 (by decide)
 have g11 : (e11 11) = .pointer (some ⟨b1, 0 + 3, none⟩) := hj 2 (by decide)
 have g12 : (e11 12) = .int .i64 (g : Int) := hj 3 (by decide)
 have g13 : ListsR (allOrds g) F8 (e11 13) := hj 4 (by decide)
 have g6 : PilesR c F8 (e11 6) := hj 5 (by decide)
 have g7 : ListsR (allOrds g) F8 (e11 7) := hj 6 (by decide)
 obtain ⟨qs, hqs, hqa, hqp⟩ := g6
 obtain ⟨os, hos, hoa, hom⟩ := g7
 have hql := hqs.plain.lt
 have hol := hos.plain.lt
 refine Ab <| Ac <| Ac ?_
 by_cases h0 : qs.length = 0
 ·refine Al fun ds => Af rfl (A9 (Bh rfl)) <| Af rfl (A6 Bt Aa hqs.plain) <| As (Ae 1) <| Ag Aa (dT (by omega)) <| Ac <| Al fun ds => Af rfl (BE bt_47 .nil .nil) <| AV <| AQ UF (L5 rfl <| BW (C7 he10 (by kernel_rfl)) <| K5 rfl <| JF) Aa (i := 0) rfl rfl rfl rfl (by simp [Value.oneCell']) (.here) <| As (Ae 1) <| At <| A1 <| Aq rfl (.agg RJ (L5 rfl <| K5 rfl <| BW (C7 he10 (by kernel_rfl)) <| K5 rfl <| JF) rfl rfl (Bg 0 rfl) Bf) ?_
  exact .inl rfl
 refine Al fun ds => Af rfl (A9 (Bh rfl)) <| Af rfl (A6 Bt Aa hqs.plain) <| As (Ae 1) <| Ad Aa (dF (by omega)) ?_
 have hlt : turnN xs 0 % qs.length < qs.length := Nat.mod_lt _ (by omega)
 have hpile := hqa _ (List.getElem_mem hlt)
 have hgood := hqp _ (List.getElem_mem hlt)
 have hon : 0 < os.length := by have h1 := congrArg List.length hom; have h2 := RI h1g hg5; simp at h1; omega
 have hlo : turnN xs 1 % os.length < os.length := Nat.mod_lt _ hon
 have hord := hoa _ (List.getElem_mem hlo)
 have hordm : os[turnN xs 1 % os.length].2 ∈ allOrds g := by rw [← hom]; exact List.mem_map_of_mem (List.getElem_mem hlo)
 have hpt := hgood.1
 have htb : ∀ q (hq : q < qs[turnN xs 0 % qs.length].2.length), 0 ≤ qs[turnN xs 0 % qs.length].2[q] ∧ qs[turnN xs 0 % qs.length].2[q] ≤ 2000 := fun q hq => by have h1 := hpt.2 q hq; have h2 := hv.ream (i := q) (by have := hpt.1; omega); omega
 refine Aj <| Ab <| Ac <| Al fun ds => Af rfl (A9 (L6 rfl <| K5 rfl <| Bh rfl)) <| Af rfl (AD Oj (L5 rfl <| BW (C7 he10 (by kernel_rfl)) <| L6 rfl <| JF)) <| Af rfl (Ah Gd Aa (AM hz3 rfl)) <| AS rfl (Ay Ws Aa AY (KS hxs hxb rfl) (fun _ _ h => h)) <| Af rfl (A9 (L5 rfl <| L6 rfl <| K5 rfl <| Bh rfl)) <| Af rfl (A6 Bt Aa hqs.plain) <| Af rfl (CE Aa Aa (Int.natCast_nonneg _) (by omega)) <| Af rfl (Ax (k := turnN xs 0 % qs.length) Bt Aa hqs.plain Aa (by push_cast; rfl) hlt) <| Af rfl (Ah Br Aa (hqs.cell1 hlt rfl)) <| As (Ae 1) <| Ac ?_
 have hleS := hle0
 refine Bn (.inl rfl) (fun _ _ h => h) (List.nil_sublist _) [] (by kernel_rfl) fun ds => Ai 0 rfl (by kernel_rfl) (by kernel_rfl) (by kernel_rfl) (by kernel_rfl) rfl rfl (fun _ h => h.drop (List.nil_sublist _)) (fun _ _ _ h => h) (A9 Aa) <| Ai 1 rfl (by kernel_rfl) (by kernel_rfl) (by kernel_rfl) (by kernel_rfl) rfl rfl (fun _ h => h.drop (List.nil_sublist _)) (fun _ _ _ h => h) (A9 (Q5 rfl <| L5 rfl <| L6 rfl <| Bh rfl)) <| Ai 2 rfl (by kernel_rfl) (by kernel_rfl) (by kernel_rfl) (by kernel_rfl) rfl rfl (fun _ h => h.drop (List.nil_sublist _)) (fun _ _ _ h => h) (AD Oj (Q5 rfl <| L5 rfl <| L6 rfl <| K5 rfl <| BW (C7 he10 (by kernel_rfl)) <| L6 rfl <| JF)) <| Ai 3 rfl (by kernel_rfl) (by kernel_rfl) (by kernel_rfl) (by kernel_rfl) rfl rfl (fun _ h => h.drop (List.nil_sublist _)) (fun _ _ _ h => h) (Ah Gd Aa (AM hz3 rfl)) <| Ai 5 rfl (by kernel_rfl) (by kernel_rfl) (by kernel_rfl) (by kernel_rfl) rfl rfl (fun _ h => h.drop (List.nil_sublist _)) (fun _ _ _ h => h) (A9 (HW rfl <| K5 rfl <| Bh rfl)) <| Ai 6 rfl (by kernel_rfl) (by kernel_rfl) (by kernel_rfl) (by kernel_rfl) rfl rfl (fun _ h => h.drop (List.nil_sublist _)) (fun _ _ _ h => h) (A6 Bt Aa hos.plain) <| Ai 10 rfl (by kernel_rfl) (by kernel_rfl) (by kernel_rfl) (by kernel_rfl) rfl rfl (fun _ h => h.drop (List.nil_sublist _)) (fun _ _ _ h => h) (AO Eh (HW rfl <| L6 rfl <| K5 rfl <| BW (C7 he10 (by kernel_rfl)) <| L6 rfl <| K5 rfl <| JF) rfl rfl (AZ hz2)) ?_
 refine Ai 11 rfl (by kernel_rfl) (by kernel_rfl) (by kernel_rfl) (by kernel_rfl) rfl rfl (fun _ h => h.drop (List.nil_sublist _)) (fun _ _ _ h => h) (A9 Aa) ?_
 refine CK 4 rfl (by kernel_rfl) rfl (AP (Ay Ws Aa AY (KS hxs hxb rfl) (fun _ _ h => h)) ⟨fun _ _ => (fun _ h => h.drop (List.nil_sublist _)), ?_⟩)
 refine Ai 7 rfl (by kernel_rfl) (by kernel_rfl) (by kernel_rfl) (by kernel_rfl) rfl rfl (fun _ h => h.drop (List.nil_sublist _)) (fun _ _ _ h => h) (CE Aa Aa (Int.natCast_nonneg _) (by omega)) <| Ai 8 rfl (by kernel_rfl) (by kernel_rfl) (by kernel_rfl) (by kernel_rfl) rfl rfl (fun _ h => h.drop (List.nil_sublist _)) (fun _ _ _ h => h) (Ax (k := turnN xs 1 % os.length) Bt Aa hos.plain Aa (by push_cast; rfl) hlo) <| Ai 9 rfl (by kernel_rfl) (by kernel_rfl) (by kernel_rfl) (by kernel_rfl) rfl rfl (fun _ h => h.drop (List.nil_sublist _)) (fun _ _ _ h => h) (Ah Br Aa (hos.cell1 hlo rfl)) ?_
 refine CK 12 rfl (by kernel_rfl) rfl (Be bd_44 Aa AY (QV hr hv hg hg5 hpile hpt.1 htb) fun v12 F13 hr14 hF15 => ⟨fun _ _ _ h => (h.drop (List.nil_sublist _)).weak hF15 hleS, ?_⟩)
 replace hpile := hpile.mono hF15
 replace hord := hord.mono hF15
 obtain ⟨pl, hpl1, hpl2, hpl3⟩ := hr14
 have hpl : ListsR (placesL c (xF qs[turnN xs 0 % qs.length].2) g) _ _ := ⟨pl, hpl1, hpl2, hpl3⟩
 refine Ai 13 rfl (by kernel_rfl) (by kernel_rfl) (by kernel_rfl) (by kernel_rfl) rfl rfl (fun _ h => (h.drop (List.nil_sublist _)).weak hF15 hleS) (fun _ _ _ h => h) (BE bt_47 (.cons Aa (by rw [Cr hpile.plain.one]) (.cons Aa (by rw [Cr hord.plain.one]) (.cons Aa (by rw [Cr hpl1.plain.one]) .nil))) (.cons rfl rfl (Nat.le_of_ble_eq_true rfl) (.cons (.here) .nil) (.cons rfl rfl (Nat.le_of_ble_eq_true rfl) (.cons (.next <| .here) .nil) (.cons rfl rfl (Nat.le_of_ble_eq_true rfl) (.cons (.next <| .next <| .here) .nil) .nil)))) ?_
 refine BG 14 rfl (by kernel_rfl) (AQ UF (HW rfl <| Q5 rfl <| L6 rfl <| K5 rfl <| BW (C7 he10 (by kernel_rfl)) <| K5 rfl <| JF) Aa (i := 0) rfl rfl rfl rfl (Pw hpile.plain.one hord.plain.one hpl1.plain.one) (.here) ⟨fun _ _ => (fun _ h => (h.drop (List.nil_sublist _)).weak hF15 hleS), ?_⟩)
 refine Ai 15 rfl (by kernel_rfl) (by kernel_rfl) (by kernel_rfl) (by kernel_rfl) rfl rfl (fun _ h => (h.drop (List.nil_sublist _)).weak hF15 hleS) (fun _ _ _ h => h) (Bz BF) ?_
 refine Bo (by kernel_rfl) ?_ _
 refine Ab <| At <| Aq rfl (.agg RJ (HW rfl <| Q5 rfl <| L5 rfl <| BW (C7 he10 (by kernel_rfl)) <| K5 rfl <| JF) rfl rfl (Bg 0 rfl) Bf) ?_
 exact .inr ⟨_, _, _, _, _, rfl, ⟨hpile, hgood, hord, hordm, hpl⟩⟩
end
section
theorem O2 {l : List Int} : ∀ k, k ≤ l.length → abv (xF l) k = sumTo l k
 | 0, _ => by simp [abv, sumTo]
 | k + 1, h => by
   rw [He (by omega), ← O2 k (by omega)]
   show abv (xF l) k + xF l k = _
   rw [OB (by omega)]
theorem cover {c : Pap} (hv : ValidP c) {x : Nat → Int} {p : Nat} : ∀ k : Nat, (∃ i, i < k ∧ inPl c x i p) ∨ abv x k ≤ p * c.run
 | 0 => .inr (by show (0 : Int) ≤ _; have := hv.run; exact Int.mul_nonneg (by omega) (by omega))
 | k + 1 => by
   rcases cover hv (x := x) (p := p) k with ⟨i, h1, h2⟩ | h
   · exact .inl ⟨i, by omega, h2⟩
   by_cases hk : p * c.run < abv x k + x k
   · refine .inl ⟨k, by omega, ?_, hk⟩
     have := hv.run
     rw [Int.add_mul, Int.one_mul]; omega
   exact .inr (by show abv x k + x k ≤ _; omega)
theorem Fc {c : Pap} {x : Nat → Int} {p n s : Nat} : s ∈ placL c x p n ↔ s < n ∧ ∃ i, i < c.reams.length ∧ (c.rm i).stock = s ∧ inPl c x i p := by
 unfold placL isTo
 rw [List.mem_filter, List.mem_range, List.any_eq_true]
 constructor
 · rintro ⟨h1, i, h2, h3⟩
   rw [Bool.and_eq_true] at h3
   exact ⟨h1, i, List.mem_range.1 h2, of_decide_eq_true h3.1, of_decide_eq_true h3.2⟩
 rintro ⟨h1, i, h2, h3, h4⟩
 exact ⟨h1, i, List.mem_range.2 h2, by rw [dT h3, dT h4]; rfl⟩
theorem TD {c : Pap} (hv : ValidP c) {l : List Int} (hl : GoodPile c l) {g : Nat} (hg : c.gats = (g : Int)) {p : Nat} (hp : p < g) : 0 < (placL c (xF l) p c.stocks.length).length := by
 have hlen := hl.1.1
 rcases cover hv (x := xF l) (p := p) c.reams.length with ⟨i, h1, h2⟩ | h
 · have h3 := hv.ream h1
   obtain ⟨s, hs⟩ := Int.eq_ofNat_of_zero_le h3.1.1
   exact List.length_pos_of_mem (Fc.2 ⟨show s < c.stocks.length by omega, i, h1, hs, h2⟩)
 have h1 := hl.2
 rw [hlen, ← O2 _ (by omega)] at h1
 have h2 : c.run * c.gats ≤ p * c.run := Int.le_trans h1 h
 rw [hg, Int.mul_comm] at h2
 have h3 := hv.run
 have h4 : ((p : Int) + 1) * c.run ≤ (g : Int) * c.run := Int.mul_le_mul_of_nonneg_right (by omega) (by omega)
 rw [Int.add_mul, Int.one_mul] at h4
 omega
def seenP (c : Pap) (sn : List Sn) : Pap := { c with seen := sn }
def SeenOk (c : Pap) (l : List Int) (b : List Nat) (x : Sn) : Prop := ∃ p, ∃ hp : p < b.length, x.g = (b[p] : Int) ∧ ∃ s : Nat, x.s = (s : Int) ∧ s ∈ placL c (xF l) p c.stocks.length
end
section
set_option maxRecDepth 100000
open Go.RowKit
instance : FieldI Tryz.prog 33 2 2 := ⟨Bd (by kernel_rfl)⟩
theorem SA : FieldT Tryz.prog 47 1 1 := Bd (by kernel_rfl)
instance : FieldI Tryz.prog 47 1 1 := ⟨SA⟩
theorem UE {F : Heap} {vs vr vx : Value} {c : Pap} (hr : PapR F vs vr vx c) (hv : ValidP c) {g : Nat} (hg : c.gats = (g : Int)) (hg5 : g ≤ 5) {vp vo vq : Value} {l : List Int} {b : List Nat} (ht : TruR F c g vp vo vq l b) {vt vy vk : Value} {ls : List Nat} (hls : Sl F vk 1 u16E ls) (hlb : ∀ x ∈ ls, x < 65536) : Ok Tryz.prog 12 [papV vs vr vx c, .agg #[vp, vo, vq], .agg #[vt, vy, vk], .int .u8 0].toArray F fun u F' => ∃ vn sn, u = papV vs vr vn (seenP c sn) ∧ Sl F' vn 2 Sn.enc sn ∧ sn.length ≤ 8 ∧ ∀ x ∈ sn, SeenOk c l b x := by
 have hle0 : F.le F := Heap.le_refl _
 obtain ⟨ps, hps, hpa, hpm⟩ := ht.plc
 have hbl := (Dx ht.isOrd).1
 have hpl : ps.length = g := by have := congrArg List.length hpm; simpa [placesL] using this
 have hg1 : 1 ≤ g := by have := hv.gats; omega
 have hL3 := hls.plain.lt
 refine Ok.intro Tryz.func12 rfl Tryz.ntmps12 rfl fun w0 => Ac <| Al fun ds => A3 rfl <| Bc Aa rfl fun b1 hb1 nb1 => A3 rfl <| Bc Aa rfl fun b2 hb2 nb2 => A3 rfl <| Bc Aa rfl fun b3 hb3 nb3 => A3 rfl <| AN RQ rfl fun b4 hb4 nb4 => Am <| Ab <| AL (i := 2) rfl hb2 (.next <| .next <| .here) fun F5 hF6 hz5 => ?_
 replace hr := hr.mono hF6
 replace ht := ht.mono hF6
 replace hps := hps.mono hF6
 replace hpa := hpa.mono hF6
 replace hls := hls.mono hF6
 replace hle0 := Heap.le_trans hle0 hF6
 refine AL (i := 1) rfl hb3 (.next <| .here) fun F7 hF8 hz6 => ?_
 replace hr := hr.mono hF8
 replace ht := ht.mono hF8
 replace hps := hps.mono hF8
 replace hpa := hpa.mono hF8
 replace hls := hls.mono hF8
 replace hle0 := Heap.le_trans hle0 hF8
 replace hz5 := hF8 _ _ hz5
 refine Aw (Ae 1) fun ds => AV <| AT UG Aa Aa (i := 1) rfl (.next <| .next <| .next <| .next <| .here) rfl (.next <| .here) <| Am <| Ab <| Ac <| AI (Ae 1) <| Ak ?_
 refine AJ [9, 10, 11, 12, 14, 15, 16, 17, 18, 19, 20, 21, 22, 23, 24, 25, 26, 27, 28, 29, 30, 31, 32, 33, 34, 35, 36, 37, 38, 39, 40, 41, 42, 43, 44, 45, 46, 47, 48, 49, 50, 51, 52, 53, 54, 55, 56, 57, 58, 59, 60, 61, 62, 63, 64, 65, 66, 67, 68, 69, 70, 71, 72, 73, 74, 75, 76, 77, 78, 79, 80] (fun m e σ => ∃ G vn, ∃ sn : List Sn, ∃ R, F7.le G ∧ ∃ k : Nat, m + k = 8 ∧ Fct e 9 (.int .i64 ((2 * k : Nat) : Int)) ∧ sn.length = k ∧ Own 78 2 vn sn.length (sn.flatMap Sn.enc) R ∧ (∀ x ∈ sn, SeenOk c l b x) ∧ σ = ⟨G, (b4, bx 26 [.int .i64 0, .slice none 0 0, .slice none 0 0, .int .i64 0, .slice none 0 0]) :: (b1, bx 26 [.int .i64 c.run, vs, vr, .int .i64 c.gats, vn]) :: R⟩) (8) ?_ ?_
 · exact ⟨_, _, [], _, Heap.le_refl _, 0, by omega, Bb, rfl, Ce, (fun p hp => nomatch hp), rfl⟩
 rintro m e _ ⟨G, vn, sn, R, hle1, k, hm1, hs9, hsk, hsn, hok, rfl⟩; replace hr := hr.mono hle1; replace ht := ht.mono hle1; replace hps := hps.mono hle1; replace hpa := hpa.mono hle1; replace hls := hls.mono hle1; replace hz5 := hle1 _ _ hz5; replace hz6 := hle1 _ _ hz6; replace hle0 := Heap.le_trans hle0 hle1; have hsl : sn.length ≤ 8 := by omega
 by_cases h1 : 2 * k + 1 < ls.length
 ·refine Ac <| Aw (Ae 1) fun ds => Af rfl (AE Aa Aa rfl (by omega) (by omega)) <| Ao (Ae 1) <| Af rfl (Ah Gd Aa (AM hz6 rfl)) <| Af rfl (A6 HE Aa hls.plain) <| Ao (Ae 2) <| Ap rfl rfl Aa (dT (by push_cast; omega)) <| Ao (Ae 1) <| Ap rfl rfl Aa (dT (by push_cast; omega)) <| Ao (Ae 1) <| Ap rfl rfl Aa (dT (by push_cast; omega)) <| Af rfl (A6 Cu Aa (hsn.plain (by omega))) <| Ap rfl rfl Aa (dT (by push_cast; omega)) <| Ao (Ae 1) <| Af rfl (Au Aa (dT (by push_cast; omega)) Aa) <| Am <| Ab ?_
  by_cases h8 : sn.length < 8
  ·refine Ag Aa (dT (by omega)) ?_
   have hi1 : 2 * k < ls.length := by omega
   have hb1 := hlb _ (List.getElem_mem hi1)
   have hb2 := hlb _ (List.getElem_mem h1)
   have hp : (ls[2 * k] % b.length) < b.length := Nat.mod_lt _ (by omega)
   have hpq : (ls[2 * k] % b.length) < ps.length := by omega
   have hpp := hpa _ (List.getElem_mem hpq)
   have hpe9 : (ps.map (·.2))[(ls[2 * k] % b.length)]? = some (placL c (xF l) (ls[2 * k] % b.length) c.stocks.length) := by rw [hpm]; simp [placesL, show (ls[2 * k] % b.length) < g by omega]
   have hpe : ps[(ls[2 * k] % b.length)].2 = (placL c (xF l) (ls[2 * k] % b.length) c.stocks.length) := by simpa [hpq] using hpe9
   have hpos : 0 < ps[(ls[2 * k] % b.length)].2.length := by rw [hpe]; exact TD hv ht.good hg (by omega)
   have hq : (ls[2 * k + 1] % ps[ls[2 * k] % b.length].2.length) < ps[(ls[2 * k] % b.length)].2.length := Nat.mod_lt _ hpos
   have hql : ps[(ls[2 * k] % b.length)].2[(ls[2 * k + 1] % ps[ls[2 * k] % b.length].2.length)] ∈ (placL c (xF l) (ls[2 * k] % b.length) c.stocks.length) := by rw [← hpe]; exact List.getElem_mem hq
   refine Aj <| Ab <| Ac <| Ak <| Ac <| Bx (.inl rfl) (fun _ _ h => h) (by kernel_rfl) (by kernel_rfl) fun ds => Ba (Ae 1) <| AX rfl (Ah Gd Aa (AM hz6 rfl)) <| Ba (Ae 1) <| AX rfl (Ax (k := 2 * k) HE Aa hls.plain Aa rfl hi1) <| AX rfl (Ah K4 Aa (hls.cell1 hi1 rfl)) <| AX rfl (Ck ⟨_, Tryz.underlying126⟩ Tryz.underlying3 Aa (CQ (by omega) (by omega))) <| Ba (Ae 1) <| AX rfl (Ah Br Aa (AM hz5 rfl)) <| AX rfl (A6 A7 Aa ht.ord.plain) <| AX rfl (CE Aa Aa (Int.natCast_nonneg _) (by omega)) <| Ba (Ae 1) <| B9 <| Ab <| Aw (Ae 1) fun ds => Af rfl (Ah Rc Aa (AM hz5 rfl)) <| Ao (Ae 1) <| Af rfl (Ax (k := (ls[2 * k] % b.length)) Bt Aa hps.plain Aa (by push_cast; rfl) hpq) <| Af rfl (Ah Br Aa (hps.cell1 hpq rfl)) <| As (Ae 1) <| Aw (Ae 2) fun ds => Af rfl (Ah Gd Aa (AM hz6 rfl)) <| Ao (Ae 1) <| Af rfl (AE Aa Aa rfl (by omega) (by omega)) <| Af rfl (Ax (k := 2 * k + 1) HE Aa hls.plain Aa rfl h1) <| Af rfl (Ah K4 Aa (hls.cell1 h1 rfl)) <| Af rfl (Ck ⟨_, Tryz.underlying126⟩ Tryz.underlying3 Aa (CQ (by omega) (by omega))) <| Ao (Ae 1) <| Af rfl (A6 A7 Aa hpp.plain) <| Af rfl (CE Aa Aa (Int.natCast_nonneg _) (by omega)) <| Af rfl (Ax (k := (ls[2 * k + 1] % ps[ls[2 * k] % b.length].2.length)) A7 Aa hpp.plain Aa (by push_cast; rfl) hq) ?_
   refine Af rfl (Ah AA Aa (hpp.cell1 hq rfl)) <| As (Ae 1) <| Ac <| Aw (Ae 3) fun ds => Af rfl (A6 Cu Aa (hsn.plain (by omega))) <| Af rfl (HL Aa Aa (k := sn.length) rfl (show sn.length < 8 from h8) (show (0 : Int) / 2 ^ sn.length = 0 by simp)) <| Af rfl (CE Aa Aa (by decide) (by decide)) <| As (Ae 1) <| Ad Aa (by decide) <| Aj <| Ab ?_
   have hleS := hle0
   refine Bn (.inl rfl) (fun _ _ h => h) (kK <| kK <| List.nil_sublist _) [12] (by kernel_rfl) fun ds => Ai 0 rfl (by kernel_rfl) (by kernel_rfl) (by kernel_rfl) (by kernel_rfl) rfl rfl (fun _ h => h.drop (kK <| kK <| List.nil_sublist _)) (fun _ _ _ h => h) (AD Ol Aa) <| Ai 1 rfl (by kernel_rfl) (by kernel_rfl) (by kernel_rfl) (by kernel_rfl) rfl rfl (fun _ h => h.drop (kK <| kK <| List.nil_sublist _)) (fun _ _ _ h => h) (Ah NV Aa (Cell.own 1 rfl rfl)) <| Ai 2 rfl (by kernel_rfl) (by kernel_rfl) (by kernel_rfl) (by kernel_rfl) rfl rfl (fun _ h => h.drop (kK <| kK <| List.nil_sublist _)) (fun _ _ _ h => h) (AD SA Aa) <| Ai 3 rfl (by kernel_rfl) (by kernel_rfl) (by kernel_rfl) (by kernel_rfl) rfl rfl (fun _ h => h.drop (kK <| kK <| List.nil_sublist _)) (fun _ _ _ h => h) (Ah Br Aa (AM hz5 rfl)) <| Ai 4 rfl (by kernel_rfl) (by kernel_rfl) (by kernel_rfl) (by kernel_rfl) rfl rfl (fun _ h => h.drop (kK <| kK <| List.nil_sublist _)) (fun _ _ _ h => h) (A9 Aa) <| Ai 5 rfl (by kernel_rfl) (by kernel_rfl) (by kernel_rfl) (by kernel_rfl) rfl rfl (fun _ h => h.drop (kK <| kK <| List.nil_sublist _)) (fun _ _ _ h => h) (Ax (k := (ls[2 * k] % b.length)) A7 Aa ht.ord.plain Aa (by push_cast; rfl) hp) <| Ai 6 rfl (by kernel_rfl) (by kernel_rfl) (by kernel_rfl) (by kernel_rfl) rfl rfl (fun _ h => h.drop (kK <| kK <| List.nil_sublist _)) (fun _ _ _ h => h) (Ah AA Aa (ht.ord.cell1 hp rfl)) ?_
   refine Ai 7 rfl (by kernel_rfl) (by kernel_rfl) (by kernel_rfl) (by kernel_rfl) rfl rfl (fun _ h => h.drop (kK <| kK <| List.nil_sublist _)) (fun _ _ _ h => h) (A9 Aa) ?_
   refine CK 8 rfl (by kernel_rfl) rfl (AP (Ay Mo Aa AY (E2 _ _) (fun _ _ h => h)) ⟨fun _ _ => (fun _ h => h.drop (kK <| kK <| List.nil_sublist _)), ?_⟩)
   refine CK 9 rfl (by kernel_rfl) rfl (C2 (offs := [(0, 2)]) (zl := [.int .i64 0, .int .i64 0]) Cu FV rfl (.cons Aa rfl .nil) (by intro i p h; rcases i with _ | i <;> simp at h <;> subst h <;> rfl) (.cons rfl rfl (Nat.le_of_ble_eq_true rfl) (.cons (.here) (.cons (.next <| .here) .nil)) .nil) (by decide) (by decide) fun b10 hb10 nb10 => ⟨fun _ _ => (fun _ h => h.drop (kD <| kK <| kK <| List.nil_sublist _)), ?_⟩)
   refine CK 10 rfl (by kernel_rfl) rfl (Bi Cu SB Aa hsn Aa (BA (s := 2) 0 rfl rfl (by simp [Value.oneCell'])) (by omega) (by omega) (.s <| .s <| .s <| .z) .last fun v11 R12 ho13 => ⟨fun _ _ => (fun _ h => h.drop (kD <| kK <| kK <| List.nil_sublist _)), ?_⟩)
   have ho79 : Own 78 2 v11 (sn ++ [⟨b[(ls[2 * k] % b.length)], ps[(ls[2 * k] % b.length)].2[(ls[2 * k + 1] % ps[ls[2 * k] % b.length].2.length)]⟩] : List Sn).length ((sn ++ [⟨b[(ls[2 * k] % b.length)], ps[(ls[2 * k] % b.length)].2[(ls[2 * k + 1] % ps[ls[2 * k] % b.length].2.length)]⟩] : List Sn).flatMap Sn.enc) R12 := Own.snoc ho13 rfl rfl
   refine Ai 11 rfl (by kernel_rfl) (by kernel_rfl) (by kernel_rfl) (by kernel_rfl) rfl rfl (fun _ h => h.drop (kD <| kK <| kK <| List.nil_sublist _)) (fun _ _ _ h => h) (AD Ol Aa) ?_
   refine BG 12 rfl (by kernel_rfl) (AT UG Aa Aa (i := 2) rfl (.next <| .next <| .next <| .next <| .here) ho79.one (.next <| .next <| .here) ⟨(fun h => nomatch h), ?_⟩)
   refine Bo (by kernel_rfl) ?_ _
   refine Az <| Ab <| By (fun _ _ h => h.drop (kD <| kK <| kK <| .refl _)) <| Al fun ds => Ao (Ae 1) <| Af rfl (AE Aa Aa rfl (by omega) (by omega)) <| Ao (Ae 1) <| Am ?_
   refine Ab ⟨_, m - 1, Off.eq (Cv rfl <| Cv rfl <| BY rfl <| A2), by omega, ?_⟩
   refine ⟨_, _, sn ++ [⟨b[(ls[2 * k] % b.length)], ps[(ls[2 * k] % b.length)].2[(ls[2 * k + 1] % ps[ls[2 * k] % b.length].2.length)]⟩], _, hle1, k + 1, by omega, BN (congrArg (Value.int .i64) (by push_cast; omega)), by simp; omega, ho79, UT hok ⟨(ls[2 * k] % b.length), hp, rfl, _, rfl, hql⟩, rfl⟩
  refine Ad Aa (dF (by omega)) <| Bm (σ := ⟨_, _⟩) (by rfl) hsn (.s <| .s <| .z) .last fun F14 hF15 hz16 => ?_
  replace hr := hr.mono hF15
  have hsx := hsn.sl (fun _ => rfl) hz16 (by omega)
  refine AC ?_
  refine A0 <| A0 <| A4 <| Ab <| Aw (Ae 1) fun ds => AV <| AQ RZ Aa Aa (i := 0) rfl rfl rfl rfl (PapR.ones (c := seenP c sn) ⟨hr.stocks, hr.reams, hsx⟩) (.here) <| Am <| Ab <| At <| Aq rfl (.agg Eh Aa rfl rfl (Bg 0 rfl) .nil) ?_
  exact ⟨_, sn, rfl, hsx, hsl, hok⟩
 refine Ac <| Aw (Ae 1) fun ds => Af rfl (AE Aa Aa rfl (by omega) (by omega)) <| Ao (Ae 1) <| Af rfl (Ah Gd Aa (AM hz6 rfl)) <| Af rfl (A6 HE Aa hls.plain) <| Ao (Ae 2) <| Ar rfl rfl Aa (.inl (congrArg Value.bool (dF (by push_cast; omega)))) rfl <| Ar rfl rfl Aa (.inl (congrArg Value.bool (dF (by push_cast; omega)))) rfl <| Ar rfl rfl Aa (.inl (congrArg Value.bool (dF (by push_cast; omega)))) rfl <| Ar rfl rfl Aa (.inl (congrArg Value.bool (dF (by push_cast; omega)))) rfl <| Af rfl (A5 Aa (dF (by push_cast; omega)) Aa) <| Am <| Ab <| Ad Aa rfl <| Bm (σ := ⟨_, _⟩) (by rfl) hsn (.s <| .s <| .z) .last fun F17 hF18 hz19 => ?_
 replace hr := hr.mono hF18
 have hsx := hsn.sl (fun _ => rfl) hz19 (by omega)
 refine AC ?_
 refine A0 <| A0 <| A4 <| Ab <| Aw (Ae 1) fun ds => AV <| AQ RZ Aa Aa (i := 0) rfl rfl rfl rfl (PapR.ones (c := seenP c sn) ⟨hr.stocks, hr.reams, hsx⟩) (.here) <| Am <| Ab <| At <| Aq rfl (.agg Eh Aa rfl rfl (Bg 0 rfl) .nil) ?_
 exact ⟨_, sn, rfl, hsx, hsl, hok⟩
end
section
theorem OE {c : Pap} (h : ValidP c) : (checkP c).2.2 = 0 := by
 have h3 := BU (f := stkErr c) h.stk
 have h5 := BU (f := remErr c) h.rem
 have h8 := BU (f := snErr c) h.sns
 have a1 : inB 1 500 c.run = true := Di.2 h.run
 have a2 : inB 1 4 c.stocks.length = true := Di.2 (by have := h.stocks; omega)
 have a4 : inB 1 4 c.reams.length = true := Di.2 (by have := h.reams; omega)
 have a6 : inB 1 5 c.gats = true := Di.2 h.gats
 have a7 := h.seen
 unfold checkP
 rw [if_neg (by rw [a1]; simp), if_neg (by rw [a2]; simp), if_neg (fun q => q (by rw [h3])), if_neg (by rw [a4]; simp), if_neg (fun q => q (by rw [h5])), if_neg (by rw [a6]; simp), if_neg (by omega), if_neg (fun q => q (by rw [h8]))]
theorem QN {c : Pap} (hv : ValidP c) {g : Nat} (hg : c.gats = (g : Int)) {l : List Int} {b : List Nat} (hb : b ∈ allOrds g) {sn : List Sn} (h8 : sn.length ≤ 8) (hs : ∀ x ∈ sn, SeenOk c l b x) : ValidP (seenP c sn) := by
 refine ⟨hv.run, hv.stocks, hv.stk, hv.reams, hv.rem, hv.gats, h8, fun j hj => ?_⟩
 have hj' : j < sn.length := hj
 rw [DO hj]
 show (if (inB 0 (c.gats - 1) sn[j].g && inB 0 (c.stocks.length - 1) sn[j].s) = false then (4 : Int) else 0) = 0
 obtain ⟨p, hp, e1, s, e2, hm⟩ := hs _ (List.getElem_mem hj')
 obtain ⟨m1, -⟩ := Fc.1 hm
 obtain ⟨k1, k2⟩ := Dx hb
 have := k2 _ (List.getElem_mem hp)
 rw [if_neg]
 rw [Bool.not_eq_false, Bool.and_eq_true, Di, Di]
 omega
theorem JD {c : Pap} {n : Nat} : ∀ k, pileQ c n k = n / allN c k
 | 0 => by simp [pileQ, allN]
 | k + 1 => by show pileQ c n k / wideN c k = n / (allN c k * wideN c k); rw [JD k, Nat.div_div_eq_div_mul]
theorem Q3 {c : Pap} {i : Nat} : ∀ {k}, i < k → allN c i * wideN c i ∣ allN c k
 | k + 1, h => by
   show _ ∣ allN c k * wideN c k
   by_cases hk : i = k
   · subst hk; exact Nat.dvd_refl _
   exact Nat.dvd_trans (Q3 (k := k) (by omega)) (Nat.dvd_mul_right _ _)
theorem Si {c : Pap} {d : Nat → Nat} : ∀ k, (∀ i, i < k → d i < wideN c i) → ∃ n, n < allN c k ∧ ∀ i, i < k → pileQ c n i % wideN c i = d i
 | 0, _ => ⟨0, by simp [allN], fun i h => absurd h (by omega)⟩
 | k + 1, hd => by
   obtain ⟨n, h1, h2⟩ := Si (d := d) k fun i hi => hd i (by omega)
   have hk := hd k (by omega)
   refine ⟨n + allN c k * d k, ?_, fun i hi => ?_⟩
   · show _ < allN c k * wideN c k
     have h3 : allN c k * (d k + 1) ≤ allN c k * wideN c k := Nat.mul_le_mul_left _ hk
     rw [Nat.mul_add, Nat.mul_one] at h3
     omega
   by_cases hik : i = k
   · subst hik
     rw [JD, Nat.add_mul_div_left _ _ (by omega), Nat.div_eq_of_lt h1, Nat.zero_add]
     exact Nat.mod_eq_of_lt hk
   have h3 := h2 i (by omega)
   obtain ⟨q, hq⟩ := Q3 (c := c) (i := i) (k := k) (by omega)
   rw [JD] at h3 ⊢
   have h4 : 0 < allN c i := by
     rcases Nat.eq_zero_or_pos (allN c i) with h0 | h0
     · rw [h0, Nat.zero_mul, Nat.zero_mul] at hq; omega
     exact h0
   rw [hq, show allN c i * wideN c i * q * d k = allN c i * (wideN c i * (q * d k)) by simp only [Nat.mul_assoc], Nat.add_mul_div_left _ _ h4, Nat.add_mul_mod_self_left]
   exact h3
theorem JU {x y : Nat → Int} {n : Nat} (h : ∀ i, i < n → x i = y i) : ∀ k, k ≤ n → abv x k = abv y k
 | 0, _ => rfl
 | k + 1, hk => by
   show abv x k + x k = abv y k + y k
   rw [JU h k (by omega), h k (by omega)]
theorem pile_in {c : Pap} (hv : ValidP c) {l : List Int} (hl : GoodPile c l) : ∃ n, n ∈ allPiles c ∧ ∀ i, i < c.reams.length → pileF c n i = xF l i := by
 obtain ⟨⟨hlen, hb⟩, hs⟩ := hl
 obtain ⟨n, h1, h2⟩ := Si (c := c) (d := fun i => (xF l i - (c.rm i).lo).toNat) c.reams.length fun i hi => by
   have h3 := hb i (by omega)
   have h4 := FX hv hi
   rw [OB (by omega)]
   omega
 have hx : ∀ i, i < c.reams.length → pileF c n i = xF l i := fun i hi => by
   rw [Lw hi]
   unfold pileX
   rw [h2 i hi]
   have h3 := hb i (by omega)
   rw [OB (by omega)]
   omega
 refine ⟨n, ?_, hx⟩
 unfold allPiles pilesTo
 refine List.mem_filter.2 ⟨List.mem_range.2 h1, ?_⟩
 unfold highB
 rw [JU hx _ (Nat.le_refl _), decide_eq_true_eq]
 rw [← hlen, O2 _ (Nat.le_refl _)]
 exact hs
theorem Lt {c : Pap} {x : Nat → Int} {k s : Nat} : ∀ i, (placTo c x i k).testBit s = true ↔ (k : Int) < c.gats ∧ ∃ j, j < i ∧ (c.rm j).stock.toNat = s ∧ inPl c x j k
 | 0 => by simp [placTo]
 | i + 1 => by
   have ih := Lt (c := c) (x := x) (k := k) (s := s) i
   unfold placTo
   split
   · rename_i h
     rw [Nat.testBit_or, Nat.testBit_two_pow, Bool.or_eq_true, ih, decide_eq_true_eq]
     constructor
     · rintro (⟨h1, j, h2, h3⟩ | h1)
       · exact ⟨h1, j, by omega, h3⟩
       exact ⟨h.1, i, by omega, h1, h.2⟩
     rintro ⟨h1, j, h2, h3, h4⟩
     by_cases hj : j = i
     · subst hj; exact .inr h3
     exact .inl ⟨h1, j, by omega, h3, h4⟩
   rename_i h
   rw [ih]
   constructor
   · rintro ⟨h1, j, h2, h3⟩; exact ⟨h1, j, by omega, h3⟩
   rintro ⟨h1, j, h2, h3, h4⟩
   by_cases hj : j = i
   · subst hj; exact absurd ⟨h1, h4⟩ h
   exact ⟨h1, j, by omega, h3, h4⟩
theorem Sh {c : Pap} (hv : ValidP c) {l : List Int} {n : Nat} (hx : ∀ i, i < c.reams.length → pileF c n i = xF l i) {k s : Nat} : (plN c n k).testBit s = true ↔ (k : Int) < c.gats ∧ s ∈ placL c (xF l) k c.stocks.length := by
 unfold plN
 rw [Lt, Fc]
 have key : ∀ j, j < c.reams.length → (inPl c (pileF c n) j k ↔ inPl c (xF l) j k) := fun j hj => by
   unfold inPl
   rw [JU hx j (by omega), hx j hj]
 constructor
 · rintro ⟨h1, j, h2, h3, h4⟩
   have := hv.ream h2
   exact ⟨h1, by omega, j, h2, by omega, (key j h2).1 h4⟩
 rintro ⟨h1, h2, j, h3, h4, h5⟩
 exact ⟨h1, j, h3, by omega, (key j h3).2 h5⟩
theorem KN {c : Pap} {but g s : Nat} : ∀ {k : Nat}, k ≤ c.seen.length → (wantTo c but k g).testBit s = true → ∃ x ∈ c.seen, x.g = (g : Int) ∧ x.s.toNat = s
 | 0, _, h => by simp [wantTo] at h
 | k + 1, hk, h => by
   unfold wantTo at h
   split at h
   · rename_i hg
     rw [Nat.testBit_or, Nat.testBit_two_pow, Bool.or_eq_true, decide_eq_true_eq] at h
     rcases h with h | h
     · exact KN (by omega) h
     exact ⟨c.sn k, by rw [← UU (by omega)]; exact List.getElem_mem _, hg.2, h⟩
   exact KN (by omega) h
theorem fit_in {c : Pap} (hv : ValidP c) {g : Nat} (hg : c.gats = (g : Int)) {l : List Int} {b : List Nat} (hb : b ∈ allOrds g) (hs : ∀ x ∈ c.seen, SeenOk c l b x) {n : Nat} (hx : ∀ i, i < c.reams.length → pileF c n i = xF l i) : fitO c 0 n b = true := by
 obtain ⟨k1, k2⟩ := Dx hb
 have hgb := hv.gats
 have hnd := M9 (g := g) (by omega) (by omega) hb
 unfold fitO fitTo
 rw [List.all_eq_true]
 intro j hj
 have hj := List.mem_range.1 hj
 unfold atB
 rw [List.getElem?_eq_getElem hj, Option.getD_some, decide_eq_true_eq]
 have hz : butNot (wtN c 0 b[j]) (plN c n j : Int) = 0 := by
   refine Nat.eq_of_testBit_eq fun s => ?_
   rw [Mf (by have := NB hv (but := 0) (g := b[j]); omega), Nat.zero_testBit]
   cases hw : (wtN c 0 b[j]).testBit s with
   | false => rfl
   | true =>
     obtain ⟨x, hm, e1, e2⟩ := KN (Nat.le_refl _) hw
     obtain ⟨p, hp, f1, t, f2, f3⟩ := hs x hm
     have hpj : p = j := (List.getElem_inj hnd).1 (by omega : b[p] = b[j])
     subst hpj
     have ht : t = s := by omega
     subst ht
     rw [(Sh hv hx).2 ⟨by omega, f3⟩]; rfl
 rw [hz]; rfl
theorem Q2 {g : Nat} (h1 : 1 ≤ g) (h5 : g ≤ 5) : (allOrds g).length ≤ 120 := by
 have : g = 1 ∨ g = 2 ∨ g = 3 ∨ g = 4 ∨ g = 5 := by omega
 rcases this with rfl | rfl | rfl | rfl | rfl
 · have h : (allOrds 1).length = 1 := by kernel_rfl
   omega
 · have h : (allOrds 2).length = 2 := by kernel_rfl
   omega
 · have h : (allOrds 3).length = 6 := by kernel_rfl
   omega
 · have h : (allOrds 4).length = 24 := by kernel_rfl
   omega
 have h : (allOrds 5).length = 120 := by kernel_rfl
 omega
theorem QD {c : Pap} (hv : ValidP c) {g : Nat} (hg : c.gats = (g : Int)) : (truthsL c 0).length < 100000 := by
 have hgb := hv.gats
 have h1 := Gh (f := fun n => fits c 0 n (allOrds c.gats.toNat)) (k := 120) (fun n => by
   unfold fits
   rw [List.length_map]
   refine Nat.le_trans (List.length_filter_le _ _) ?_
   rw [hg, Int.toNat_natCast]
   exact Q2 (by omega) (by omega)) (allPiles c)
 have h2 := Jn hv
 have h3 : (truthsL c 0).length ≤ (allPiles c).length * 120 := h1
 omega
theorem LF {α : Type} {f : α → Int} {M : Int} : ∀ {l : List α} {m : Int}, m ≤ M → (∀ x ∈ l, f x ≤ M) → l.foldl (fun m s => max m (f s)) m ≤ M
 | [], _, h, _ => h
 | a :: l, m, h, h2 => LF (l := l) (Int.max_le.2 ⟨h, h2 a List.mem_cons_self⟩) fun x hx => h2 x (List.mem_cons_of_mem _ hx)
theorem MM {c : Pap} {x : Nat × List Nat} {s : Nat} : ∀ k, (stkTo c x k).testBit s = true → ∃ j, j < k ∧ (plN c x.1 j).testBit s = true
 | 0, h => by simp [stkTo] at h
 | k + 1, h => by
   unfold stkTo at h
   rw [Nat.testBit_or, Bool.or_eq_true] at h
   rcases h with h | h
   · obtain ⟨j, h1, h2⟩ := MM k h; exact ⟨j, by omega, h2⟩
   exact ⟨k, by omega, h⟩
theorem loT_le {c : Pap} (hv : ValidP c) {g : Nat} (hg : c.gats = (g : Int)) {l : List Int} {b : List Nat} {n : Nat} (hx : ∀ i, i < c.reams.length → pileF c n i = xF l i) {xs : List Nat} : loT c (n, b) ≤ latLs c xs (placesL c (xF l) g) := by
 unfold loT loY
 refine LF L9 fun s hs => ?_
 have hs := List.mem_of_mem_take hs
 obtain ⟨j, -, h1⟩ := MM 5 (Nw hs)
 obtain ⟨h2, h3⟩ := (Sh hv hx).1 h1
 have h4 := HB hv (xs := xs) (Fc.1 h3).1
 refine Int.le_trans h4.1 (Ng (l := placL c (xF l) j c.stocks.length) ?_ h3)
 unfold placesL
 exact List.mem_map.2 ⟨j, List.mem_range.2 (by omega), rfl⟩
theorem Ru {c : Pap} (hv : ValidP c) {g : Nat} (hg : c.gats = (g : Int)) {l : List Int} (hl : GoodPile c l) {b : List Nat} (hb : b ∈ allOrds g) {sn : List Sn} (h8 : sn.length ≤ 8) (hs : ∀ x ∈ sn, SeenOk c l b x) {xs : List Nat} :
   ValidP (seenP c sn) ∧ truthsL (seenP c sn) 0 ≠ [] ∧ (endsE (yearsP (seenP c sn) (truthsL (seenP c sn) 0))).1 ≤ latLs c xs (placesL c (xF l) g) := by
 have hv2 := QN hv hg hb h8 hs
 have hg2 : (seenP c sn).gats = (g : Int) := hg
 have hl2 : GoodPile (seenP c sn) l := hl
 obtain ⟨n, h1, hx⟩ := pile_in hv2 hl2
 have hf : fitO (seenP c sn) 0 n b = true := fit_in hv2 hg2 hb hs hx
 have hm : (n, b) ∈ truthsL (seenP c sn) 0 := by
   unfold truthsL truthsOf
   refine List.mem_flatMap.2 ⟨n, h1, ?_⟩
   unfold fits
   refine List.mem_map.2 ⟨b, List.mem_filter.2 ⟨?_, hf⟩, rfl⟩
   rw [hg2, Int.toNat_natCast]; exact hb
 refine ⟨hv2, fun h => (by rw [h] at hm; cases hm), Int.le_trans (ST hm) (loT_le (c := seenP c sn) (l := l) hv2 hg2 hx (xs := xs))⟩
theorem NP {c : Pap} {x : Nat → Int} {g : Nat} {ps : List (Go.Value × List Nat)} (h : ps.map (·.2) = placesL c x g) : ∀ p ∈ ps, ∀ s ∈ p.2, s < c.stocks.length := fun p hp s hs => by
 have h1 : p.2 ∈ placesL c x g := by rw [← h]; exact List.mem_map_of_mem hp
 unfold placesL at h1
 obtain ⟨k, -, hk⟩ := List.mem_map.1 h1
 rw [← hk] at hs
 exact (Fc.1 hs).1
end
section
def datS (t : Stm) (k : Nat) (z : Int) : Stm := ⟨t.places, t.editions.set k { t.ed k with lo := max (t.ed k).lo z }⟩
section
variable {t : Stm} {k : Nat} {z : Int} {l : List Int}
theorem Cb : (datS t k z).editions.length = t.editions.length := by simp [datS]
theorem Rw (hk : k < t.editions.length) : (datS t k z).ed k = { t.ed k with lo := max (t.ed k).lo z } := by simp [Stm.ed, datS, hk]
theorem VR {i : Nat} (h : i ≠ k) : (datS t k z).ed i = t.ed i := by simp [Stm.ed, datS, Ne.symm h]
theorem LR (hk : k < t.editions.length) {i : Nat} : ((datS t k z).ed i).rd = (t.ed i).rd ∧ ((datS t k z).ed i).hi = (t.ed i).hi ∧ ((datS t k z).ed i).name = (t.ed i).name ∧ (t.ed i).lo ≤ ((datS t k z).ed i).lo := by
 by_cases h : i = k
 · subst h
   rw [Rw hk]
   exact ⟨rfl, rfl, rfl, Int.le_max_left _ _⟩
 rw [VR h]; exact ⟨rfl, rfl, rfl, Int.le_refl _⟩
theorem LV {E : Edges} {b1 b2 : Nat → Int} (h : ∀ i, b1 i ≤ b2 i) : ∀ f i, climb E b1 f i ≤ climb E b2 f i
 | 0, i => h i
 | f + 1, i => CV.2 ⟨Int.le_trans (h i) BX, fun e he hi => by
   have h1 := LV (E := E) h f e.1
   have h2 := DI (base := b2) (f := f) he
   rw [hi] at h2
   omega⟩
theorem Uh (hk : k < t.editions.length) {E : Edges} {i : Nat} : firstY t E i ≤ firstY (datS t k z) E i := by
 unfold firstY
 rw [Cb]
 exact LV (fun i => (LR hk).2.2.2) _ _
theorem PT (hk : k < t.editions.length) {E : Edges} (h : fitsE (datS t k z) E = true) : fitsE t E = true := by
 rw [Dr] at h ⊢
 intro i hi
 have h1 := h i (by rw [Cb]; exact hi)
 rw [(LR hk).2.1] at h1
 exact Int.le_trans (Uh hk) h1
theorem dat_r (hk : k < t.editions.length) {i p : Nat} : (datS t k z).r i p = t.r i p := by unfold Stm.r; rw [(LR hk).1]
theorem VS (hk : k < t.editions.length) {p : Nat} : allFill (datS t k z) p = allFill t p := by
 unfold allFill
 rw [Cb]
 have key : ∀ r b, fillF (datS t k z) p r b = fillF t p r b := by
   intro r
   induction r with
   | zero => intro b; rfl
   | succ r ih =>
     intro b
     unfold fillF
     simp only [ih, fitR, dat_r hk]
 exact key _ _
theorem Ug (hk : k < t.editions.length) {p : Nat} : leastL (datS t k z) l p = leastL t l p := by
 unfold leastL
 rw [VS hk]
 rfl
theorem PU (hk : k < t.editions.length) (h : fitsT (datS t k z) l = true) : costL (datS t k z) l = costL t l := by
 have h2 : fitsE (datS t k z) (treeE l) = true := h
 unfold costL
 rw [if_pos h2, if_pos (PT hk h2)]
 have e : leastL (datS t k z) l = leastL t l := funext fun p => Ug hk
 rw [e]
 rfl
theorem VT (hk : k < t.editions.length) (h : bestsL (datS t k z) ≠ []) : bestsM t ≤ bestsM (datS t k z) := by
 obtain ⟨x, hx⟩ := List.exists_mem_of_ne_nil _ h
 obtain ⟨h1, h2, h3⟩ := FN.1 hx
 obtain ⟨h4, h5, h6⟩ := Cf.1 h1
 rw [← h2, PU hk h6]
 have hm : x ∈ allTrees t := Cf.2 ⟨by rw [← Cb (k := k) (z := z)]; exact h4, h5, PT hk h6⟩
 unfold bestsM
 rw [GQ]
 exact EG hm
theorem Ui (h0 : (checkT t).2.2 = 0) (hk : k < t.editions.length) (hz : max (t.ed k).lo z ≤ (t.ed k).hi) : (checkT (datS t k z)).2.2 = 0 := by
 have hc := Jh.1 h0
 have hn : (datS t k z).editions.map (·.name) = t.editions.map (·.name) := by
   refine List.ext_getElem (by simp [datS]) fun i h1 h2 => ?_
   have hi : i < t.editions.length := by simpa using h2
   have h3 := (LR (t := t) (z := z) hk (i := i)).2.2.1
   rw [List.getElem_map, List.getElem_map, ed_at (by rw [Cb]; exact hi), ed_at hi, h3]
 refine Jh.2 ⟨hc.np, hc.pl, hc.pn, by rw [Cb]; exact hc.ne, fun x hx => ?_, by rw [hn]; exact hc.en⟩
 rcases List.mem_or_eq_of_mem_set hx with hx | rfl
 · exact hc.ed x hx
 have h1 := hc.ed (t.ed k) (by rw [← ed_at hk]; exact List.getElem_mem hk)
 refine ⟨h1.1, ?_⟩
 have h2 := h1.2
 unfold ednErr at h2 ⊢
 split at h2
 · cases h2
 rename_i k1
 split at h2
 · cases h2
 rename_i k2
 split at h2
 · cases h2
 rename_i k3
 split at h2
 · cases h2
 rename_i k4
 rw [Bool.not_eq_false, Bool.and_eq_true] at k1
 unfold inB at k1
 simp only [Bool.and_eq_true, decide_eq_true_eq] at k1
 rw [if_neg, if_neg, if_neg, if_neg]
 · exact k4
 · exact k3
 · show ¬ (t.ed k).hi < max (t.ed k).lo z
   omega
 show ¬ ((inB 1450 1850 (max (t.ed k).lo z) && inB 1450 1850 (t.ed k).hi) = false)
 unfold inB
 simp only [Bool.and_eq_false_iff, decide_eq_false_iff_not]
 omega
theorem P2 {s : Stm} (hl : l.length = s.editions.length) (ht : IsTree l) (hc : costL s l < 1000) : bestsM s ≤ costL s l ∧ bestsL s ≠ [] := by
 have h1 : l ∈ allTrees s := Cf.2 ⟨hl, ht, EH hc⟩
 have h2 : bestsM s ≤ costL s l := by
   unfold bestsM
   rw [GQ]
   exact EG h1
 refine ⟨h2, fun h => ?_⟩
 have := Mi.1 h
 omega
theorem RW {s : Stm} (h0 : (checkT s).2.2 = 0) (hl : l.length = s.editions.length) (ht : IsTree l) : treeErr s l = 0 := by
 have h1 : trTo s l l.length = 0 := by
   unfold trTo
   rw [JG (OK h0 hl), List.take_length, if_neg]
   intro h
   rw [List.any_eq_true] at h
   obtain ⟨x, hx, hb⟩ := h
   obtain ⟨i, hi, rfl⟩ := List.getElem_of_mem hx
   have := ht.in_ i hi
   rw [BR hi] at hb
   simp [inT, inB] at hb
   omega
 rw [Hd h1, ht.isT]; rfl
end
structure DatedI (t : Stm) (k : Nat) (z : Int) (l : List Int) (Y : Nat → Int) : Prop where
 err : treeErr t l = 0
 err2 : treeErr (datS t k z) l = 0
 fits : fitsE (datS t k z) (treeE l) = true
 cost : costL t l < 1000
 same : costL (datS t k z) l = costL t l
 asked : askedT t = 0
 asked2 : askedT (datS t k z) = 0
 more : bestsM t ≤ bestsM (datS t k z)
 most : bestsM (datS t k z) ≤ costL (datS t k z) l
 years : ∀ i, i < t.editions.length → firstY (datS t k z) (treeE l) i ≤ Y i ∧ Y i ≤ lastY (datS t k z) (treeE l) i
 late : z ≤ firstY (datS t k z) (treeE l) k
theorem Uf {s : Stm} {l : List Int} {Y : Nat → Int} {R : Nat → List Int} {c : Int} {xd : List Nat} (h : ToldI s l Y R c) (h0 : (checkT s).2.2 = 0) (hll : l.length = s.editions.length) (ht : IsTree l) {k : Nat} (hk : k < s.editions.length) {z : Int} (hz : z ≤ Y k) : DatedI (toldS s xd Y R) k z l Y := by
 have h02 := h.check (xd := xd) h0 hll
 have hll2 : l.length = (toldS s xd Y R).editions.length := by rw [BD]; exact hll
 have hk2 : k < (toldS s xd Y R).editions.length := by rw [BD]; exact hk
 have hwin : ∀ j, j < s.editions.length → ((toldS s xd Y R).ed j).lo ≤ Y j ∧ Y j ≤ ((toldS s xd Y R).ed j).hi := fun j hj => by
   rw [Kx hj]
   have := h.lo j (by omega)
   show (max 1450 _ : Int) ≤ _ ∧ _ ≤ (min 1850 _ : Int)
   omega
 have hll3 : l.length = (datS (toldS s xd Y R) k z).editions.length := by rw [Cb]; exact hll2
 have h03 := Ui (z := z) h02 hk2 (by have := hwin k hk; omega)
 obtain ⟨hc1, -⟩ := h.cost (xd := xd) h0 hll ht
 have hyears : ∀ i, i < (datS (toldS s xd Y R) k z).editions.length → firstY (datS (toldS s xd Y R) k z) (treeE l) i ≤ Y i ∧ Y i ≤ lastY (datS (toldS s xd Y R) k z) (treeE l) i := by
   refine KH (s := datS (toldS s xd Y R) k z) (L := Y) (fun e he => ?_) (fun j hj => ?_) (fun e he => ?_)
   · obtain ⟨h1, h2, -⟩ := ht.edge he
     rw [Cb, BD]; omega
   · rw [Cb, BD] at hj
     have h1 := hwin j hj
     by_cases hjk : j = k
     · subst hjk
       rw [Rw hk2]
       show max ((toldS s xd Y R).ed j).lo z ≤ Y j ∧ Y j ≤ ((toldS s xd Y R).ed j).hi
       omega
     rw [VR hjk]; exact h1
   obtain ⟨h1, h2, h3⟩ := ht.edge he
   have := (h.src e.2 h2 e.1 h3).1
   omega
 have hfit : fitsE (datS (toldS s xd Y R) k z) (treeE l) = true := Dr.2 fun i hi => by
   refine Int.le_trans (hyears i hi).1 ?_
   rw [(LR hk2).2.1]
   rw [Cb, BD] at hi
   exact (hwin i hi).2
 have hsame := PU (z := z) hk2 hfit
 have hc2 : costL (datS (toldS s xd Y R) k z) l < 1000 := by rw [hsame]; exact hc1
 obtain ⟨b1, b2⟩ := P2 hll2 ht hc1
 obtain ⟨b3, b4⟩ := P2 hll3 ht hc2
 refine ⟨RW h02 hll2 ht, RW h03 hll3 ht, hfit, hc1, hsame, G0 h02 b2, G0 h03 b4, VT hk2 b4, b3, fun i hi => hyears i (by rw [Cb]; exact hi), ?_⟩
 have h5 := JI (s := datS (toldS s xd Y R) k z) (E := treeE l) (i := k)
 rw [Rw hk2] at h5
 exact Int.le_trans (Int.le_max_right _ _) h5
end
section
set_option maxHeartbeats 2000000
set_option maxRecDepth 100000
open Go.RowKit
theorem RK : AggT Tryz.prog 33 3 := Cx (by kernel_rfl)
instance : AggI Tryz.prog 33 3 := ⟨RK⟩
theorem WN : AggT Tryz.prog 36 4 := Cx (by kernel_rfl)
instance : AggI Tryz.prog 36 4 := ⟨WN⟩
theorem bd_10 : Body Tryz.prog 10 := AF (by kernel_rfl)
theorem bd_12 : Body Tryz.prog 12 := AF (by kernel_rfl)
theorem bd_16 : Body Tryz.prog 16 := AF (by kernel_rfl)
theorem bd_4 : Body Tryz.prog 4 := AF (by kernel_rfl)
theorem bd_5 : Body Tryz.prog 5 := AF (by kernel_rfl)
theorem Wq : Body Tryz.prog 6 := AF (by kernel_rfl)
theorem Wo : Body Tryz.prog 7 := AF (by kernel_rfl)
theorem bd_8 : Body Tryz.prog 8 := AF (by kernel_rfl)
theorem bd_9 : Body Tryz.prog 9 := AF (by kernel_rfl)
instance : FieldI Tryz.prog 33 1 1 := ⟨Bd (by kernel_rfl)⟩
instance : FieldI Tryz.prog 38 0 0 := ⟨Bd (by kernel_rfl)⟩
instance : FieldI Tryz.prog 38 1 3 := ⟨Bd (by kernel_rfl)⟩
instance : FieldI Tryz.prog 38 2 7 := ⟨Bd (by kernel_rfl)⟩
theorem Ue {E : Nat} {w : Value} {R : List (Nat × Obj)} {qs : List (Value × Edn)} {i : Nat} {a : Int} (h : Own E 4 w qs.length ((qs.flatMap edE).set (i * 4 + 1) (.int .i64 a)) R) (hi : i < qs.length) :
   Own E 4 w (qs.set i (qs[i].1, { qs[i].2 with lo := a })).length ((qs.set i (qs[i].1, { qs[i].2 with lo := a })).flatMap edE) R := by
 rw [De Da (j := 1) (x := (qs[i].1, { qs[i].2 with lo := a })) (by omega) qs i hi rfl] at h
 rw [List.length_set]; exact h
theorem StmR.ed_at {F : Heap} {vp ve : Value} {ps : List (Value × Edn)} {s : Stm} (h : StmR F vp ve ps s) {i : Nat} (hi : i < ps.length) : ps[i].2 = s.ed i := by
 have h1 : (ps.map (·.2))[i]? = some ps[i].2 := by simp [hi]
 rw [h.eqs] at h1
 unfold Stm.ed
 rw [h1]; rfl
theorem StmR.dat {F : Heap} {vp ve w : Value} {ps : List (Value × Edn)} {t : Stm} {k : Nat} {z : Int} (h : StmR F vp ve ps t) (hk : k < ps.length) (hw : Sl F w 4 edE (ps.set k (ps[k].1, { ps[k].2 with lo := max ps[k].2.lo z }))) :
   StmR F vp w (ps.set k (ps[k].1, { ps[k].2 with lo := max ps[k].2.lo z })) (datS t k z) := by
 refine ⟨h.places, hw, fun q hq => ?_, ?_⟩
 · rcases List.mem_or_eq_of_mem_set hq with hq | rfl
   · exact h.rds q hq
   exact h.rds ps[k] (List.getElem_mem hk)
 rw [List.map_set, h.eqs, h.ed_at hk]; rfl
theorem JE {F : Heap} {H : List (Nat × Obj)} {b T o n : Nat} {l vs : List Value} (hz : F b = some (bx T l)) (hv : (l.drop o).take n = vs) : ∀ j v, vs[j]? = some v → Cell ⟨F, H⟩ (addc ⟨b, o, none⟩ j) v := fun j v h => by
 subst hv
 have h2 : l[o + j]? = some v := by
   rw [List.getElem?_take] at h
   split at h
   · rw [List.getElem?_drop] at h; exact h
   cases h
 exact (CellF.own hz h2).cell
theorem Ux {F : Heap} {vs vr vx : Value} {c : Pap} (hr : PapR F vs vr vx c) (hv : ValidP c) {g : Nat} (hg : c.gats = (g : Int)) (hg5 : g ≤ 5) (h1g : 1 ≤ g) {vt vy vk : Value} {xs : List Nat} (hxs : Sl F vt 1 u16E xs) (hxb : ∀ x ∈ xs, x < 65536) : Ok Tryz.prog 8 [papV vs vr vx c, .agg #[vt, vy, vk]].toArray F fun u F' => ∃ a b d ok, u = .tuple #[.agg #[a, b, d], .bool ok] ∧ (∀ u ∈ [a, b, d], u.oneCell' = true) ∧ (ok = true → ∃ l o, TruR F' c g a b d l o) :=
 (any6_ok hr hv hg hg5 h1g hxs hxb).mono fun u F' _ h => by
   rcases h with rfl | ⟨vp, vo, vq, l, b, rfl, hT⟩
   · exact ⟨_, _, _, _, rfl, by simp [Value.oneCell'], fun h => nomatch h⟩
   obtain ⟨ps, hps, -⟩ := hT.plc
   exact ⟨_, _, _, _, rfl, Pw hT.pile.plain.one hT.ord.plain.one hps.plain.one, fun _ => ⟨l, b, hT⟩⟩
theorem PS {F : Heap} {vs vr vx : Value} {c : Pap} (hr : PapR F vs vr vx c) {vp ve : Value} {ps : List (Value × Edn)} {s : Stm} (hq : StmR F vp ve ps s) {u0 u1 u2 v0 v1 v2 v3 : Value} {xt xy xk xa xb xc xd : List Nat} (hu0 : Sl F u0 1 u16E xt) (hu0b : ∀ x ∈ xt, x < 65536) (hu1 : Sl F u1 1 u16E xy) (hu1b : ∀ x ∈ xy, x < 65536) (hu2 : Sl F u2 1 u16E xk) (hu2b : ∀ x ∈ xk, x < 65536) (h0s : Sl F v0 1 u8E xa) (h0b : ∀ x ∈ xa, x < 256) (h1s : Sl F v1 1 u8E xb) (h1b : ∀ x ∈ xb, x < 256) (h2s : Sl F v2 1 u8E xc) (h2b : ∀ x ∈ xc, x < 256) (h3s : Sl F v3 1 u8E xd) (h3b : ∀ x ∈ xd, x < 256) {w : Nat} (hw : w < 256) : Ok Tryz.prog 3 [papV vs vr vx c, .agg #[vp, ve], .agg #[u0, u1, u2, v0, v1, v2, v3, .int .u8 (w : Int)]].toArray F fun u _ => u = .bool true := by
 have hle0 : F.le F := Heap.le_refl _
 have hL1 := hq.eds.plain.lt
 have hL2 := hq.places.plain.lt
 have hlen := hq.len
 refine Ok.intro Tryz.func3 rfl Tryz.ntmps3 rfl fun w0 => Ac <| Al fun ds => A3 rfl <| Bc Aa rfl fun b1 hb1 nb1 => A3 rfl <| Bc Aa rfl fun b2 hb2 nb2 => A3 rfl <| Bc Aa rfl fun b3 hb3 nb3 => As (Ae 1) <| Ac <| AL (i := 0) rfl hb3 (.here) fun F4 hF5 hz5 => ?_
 replace hr := hr.mono hF5
 replace hq := hq.mono hF5
 replace hu0 := hu0.mono hF5
 replace hu1 := hu1.mono hF5
 replace hu2 := hu2.mono hF5
 replace h0s := h0s.mono hF5
 replace h1s := h1s.mono hF5
 replace h2s := h2s.mono hF5
 replace h3s := h3s.mono hF5
 replace hle0 := Heap.le_trans hle0 hF5
 by_cases h0 : (checkP c).2.2 = 0
 ·by_cases h1 : (checkT s).2.2 = 0
  ·refine Al fun ds => Ao (Ae 1) <| AS rfl (Ay bd_4 Aa AY (Fy hr) (fun _ _ h => h)) <| As (Ae 7) <| Aw (Ae 1) fun ds => AS rfl (Ay bd_5 Aa AY (Fx hq) (fun _ _ h => h.trans (show checkTV s = .tuple #[.int .i64 (checkT s).1, .int .i64 (checkT s).2.1, .int .i64 (checkT s).2.2] from rfl))) <| As (Ae 7) <| Ac <| Aw (Ae 3) fun ds => Ap rfl rfl Aa (by rw [h0]; rfl) <| Ao (Ae 1) <| Ap rfl rfl Aa (by rw [h0]; rfl) <| Ao (Ae 1) <| Af rfl (A5 Aa (by rw [h0]; rfl) Aa) <| Am <| Ab <| Ad Aa (by rw [h1]; rfl) ?_
   have hv := Eo h0
   have hvt := Cj h1
   have hgb := hv.gats
   obtain ⟨g, hg⟩ := Int.eq_ofNat_of_zero_le (show 0 ≤ c.gats by omega)
   have hg5 : g ≤ 5 := by omega
   have h1g : 1 ≤ g := by omega
   have hne := hvt.ne
   refine Aj <| Ab <| Aw (Ae 2) fun ds => Af rfl (AO (vs := [u0, u1, u2]) RK Aa rfl rfl (JE hz5 (n := 3) rfl)) <| A3 rfl <| Be bd_8 Aa AY (Ux hr hv hg hg5 h1g hu0 hu0b) fun v6 F7 hr8 hF9 => ?_
   replace hr := hr.mono hF9
   replace hq := hq.mono hF9
   replace hu1 := hu1.mono hF9
   replace hu2 := hu2.mono hF9
   replace h0s := h0s.mono hF9
   replace h1s := h1s.mono hF9
   replace h2s := h2s.mono hF9
   replace h3s := h3s.mono hF9
   replace hle0 := Heap.le_trans hle0 hF9
   replace hz5 := hF9 _ _ hz5
   obtain ⟨va, vb, vd, ok, rfl, h1c, hok⟩ := hr8
   refine Ao (Ae 3) <| A3 rfl <| AN Uy rfl fun b10 hb10 nb10 => AV <| AQ UF Aa Aa (i := 0) rfl rfl rfl rfl h1c (.here) <| As (Ae 1) <| Aw (Ae 2) fun ds => Af rfl (AO (vs := [v0, v1, v2, v3]) WN Aa rfl rfl (JE hz5 (n := 4) rfl)) <| A3 rfl <| Be bd_9 Aa AY (told_ok hq hvt h0s h0b h1s h1b h2s h2b h3s h3b) fun v11 F12 hr13 hF14 => ?_
   replace hr := hr.mono hF14
   replace hu1 := hu1.mono hF14
   replace hu2 := hu2.mono hF14
   replace hle0 := Heap.le_trans hle0 hF14
   replace hz5 := hF14 _ _ hz5
   obtain ⟨l, Y, R, cc, vl, ve2, ps2, vy, rfl, hl, hll0, ht, hI, hq2, hyr⟩ := hr13
   replace hok := fun h : ok = true => (hok h).imp fun _ h => h.imp fun _ h => TruR.mono h hF14
   have hll : l.length = s.editions.length := by omega
   have hlen2 := hq2.len
   rw [BD] at hlen2
   have hkK : (w % ps2.length) < ps2.length := Nat.mod_lt _ (by omega)
   refine Ao (Ae 5) <| A3 rfl <| AN MA rfl fun b15 hb15 nb15 => AV <| AQ OP Aa Aa (i := 0) rfl rfl rfl rfl hq2.ones (.here) <| As (Ae 3) <| Aw (Ae 1) fun ds => Af rfl (Ah Vt Aa (AM hz5 rfl)) <| Af rfl (Ck ⟨_, Tryz.underlying5⟩ Tryz.underlying3 Aa (CQ (by omega) (by omega))) <| Ao (Ae 2) <| Af rfl (A6 Bl Aa hq2.eds.plain) <| Af rfl (CE Aa Aa (Int.natCast_nonneg _) (by omega)) <| As (Ae 1) <| Ac <| Ac ?_
   have hyK : (iL Y ps.length)[(w % ps2.length)]'(by rw [Bp]; omega) = Y (w % ps2.length) := LD _
   cases ok
   ·refine Bx (.inl rfl) (fun _ _ h => h) (by kernel_rfl) (by kernel_rfl) fun ds => Ba (Ae 3) <| AG rfl rfl Aa (.inl (congrArg Value.bool rfl)) rfl <| AG rfl rfl Aa (.inl (congrArg Value.bool rfl)) rfl <| AG rfl rfl Aa (.inl (congrArg Value.bool rfl)) rfl <| AG rfl rfl Aa (.inl (congrArg Value.bool rfl)) rfl <| AG rfl rfl Aa (.inl (congrArg Value.bool rfl)) rfl <| AG rfl rfl Aa (.inl (congrArg Value.bool rfl)) rfl <| AG rfl rfl Aa (.inl (congrArg Value.bool rfl)) rfl <| AG rfl rfl Aa (.inl (congrArg Value.bool rfl)) rfl <| AG rfl rfl Aa (.inl (congrArg Value.bool rfl)) rfl <| AG rfl rfl Aa (.inl (congrArg Value.bool rfl)) rfl <| AG rfl rfl Aa (.inl (congrArg Value.bool rfl)) rfl <| AX rfl (Au Aa rfl BF) <| B9 <| Ab <| Ag Aa rfl <| Ac <| Al fun ds => AS rfl (Ay Wq Aa .nil Fl (fun _ _ h => h)) <| Ao (Ae 1) <| Ap rfl rfl Aa rfl <| AS rfl (Ay Wo Aa .nil Gz (fun _ _ h => h)) <| Af rfl (Au Aa rfl Aa) <| As (Ae 1) <| At <| A1 <| Aq rfl Bf ?_
    rfl
   obtain ⟨lp, bo, hT⟩ := hok rfl
   obtain ⟨pl, hpl, hpn, hpm⟩ := hT.plc
   have hplb := NP hpm
   refine Bx (.inl rfl) (fun _ _ h => h) (by kernel_rfl) (by kernel_rfl) fun ds => Ba (Ae 3) <| AK rfl rfl Aa rfl <| Ba (Ae 1) <| AK rfl rfl Aa rfl <| Ba (Ae 1) <| AK rfl rfl Aa rfl <| Ba (Ae 1) <| AK rfl rfl Aa rfl <| Ba (Ae 1) <| AK rfl rfl Aa rfl <| AX rfl (Ah Gd Aa (AM hz5 rfl)) <| AK rfl rfl Aa rfl <| GS rfl (Ay bd_10 Aa AY (TU hr hv hpl hpn hplb hu1 hu1b) (fun _ _ h => h)) <| AK rfl rfl Aa rfl <| Ba (Ae 1) <| AK rfl rfl Aa rfl <| Ba (Ae 1) <| AK rfl rfl Aa rfl <| AX rfl (Ax (k := (w % ps2.length)) A7 Aa hyr.plain Aa (by push_cast; rfl) (by rw [Bp]; omega)) <| AK rfl rfl Aa rfl <| AX rfl (Ah AA Aa (hyr.cell1 (by rw [Bp]; omega) rfl)) <| AK rfl rfl Aa rfl <| Ba (Ae 1) <| AX rfl (A5 Aa rfl Aa) <| B9 <| Ab ?_
   by_cases hlate : Y (w % ps2.length) < latLs c xy (pl.map (·.2))
   ·refine Ag Aa (by rw [hyK]; exact dT hlate) <| Ac <| Al fun ds => AS rfl (Ay Wq Aa .nil Fl (fun _ _ h => h)) <| Ao (Ae 1) <| Ap rfl rfl Aa rfl <| AS rfl (Ay Wo Aa .nil Gz (fun _ _ h => h)) <| Af rfl (Au Aa rfl Aa) <| As (Ae 1) <| At <| A1 <| Aq rfl Bf ?_
    rfl
   refine Ad Aa (by rw [hyK]; exact dF hlate) <| Aj <| Ab <| Aw (Ae 3) fun ds => Af rfl (AO (vs := [u0, u1, u2]) RK Aa rfl rfl (JE hz5 (n := 3) rfl)) <| A3 rfl <| Be bd_12 Aa AY (UE hr hv hg hg5 hT hu2 hu2b) fun v16 F17 hr18 hF19 => ?_
   replace hr := hr.mono hF19
   replace hle0 := Heap.le_trans hle0 hF19
   replace hl := hl.mono hF19
   replace hq2 := hq2.mono hF19
   replace hyr := hyr.mono hF19
   replace hT := hT.mono hF19
   obtain ⟨vn, sn, rfl, hsx, hsl, hso⟩ := hr18
   obtain ⟨hv3, hne3, hyr3⟩ := Ru hv hg hT.good hT.isOrd hsl hso (xs := xy)
   have hrs : PapR F17 vs vr vn (seenP c sn) := ⟨hr.stocks, hr.reams, hsx⟩
   refine AS rfl (Ay bd_11 Aa AY (O6 hrs hv3 (show (seenP c sn).gats = (g : Int) from hg) hg5 (OE hv3) hne3 (QD hv3 (show (seenP c sn).gats = (g : Int) from hg))) (fun _ _ h => h)) <| Ao (Ae 3) <| A3 rfl <| AN EE rfl fun b20 hb20 nb20 => AV <| AQ EX Aa Aa (i := 0) rfl rfl rfl rfl (by simp [Value.oneCell']) (.here) <| As (Ae 1) <| Ac <| Ac <| Bx (.inl rfl) (fun _ _ h => h) (by kernel_rfl) (by kernel_rfl) fun ds => Ba (Ae 3) <| AK rfl rfl Aa rfl <| Ba (Ae 1) <| AK rfl rfl Aa rfl <| Ba (Ae 1) <| AK rfl rfl Aa rfl <| Ba (Ae 1) <| AK rfl rfl Aa rfl <| Ba (Ae 1) <| AK rfl rfl Aa rfl <| AX rfl (Ax (k := (w % ps2.length)) A7 Aa hyr.plain Aa (by push_cast; rfl) (by rw [Bp]; omega)) <| AK rfl rfl Aa rfl <| AX rfl (Ah AA Aa (hyr.cell1 (by rw [Bp]; omega) rfl)) <| AK rfl rfl Aa rfl <| Ba (Ae 1) <| AX rfl (A5 Aa rfl Aa) <| B9 <| Ab <| Ad Aa (by rw [hyK]; exact dF (by rw [hpm] at hlate; omega)) <| Aj <| Ab <| Aw (Ae 1) fun ds => A3 rfl <| AN MA rfl fun b21 hb21 nb21 => AV <| AQ OP Aa Aa (i := 0) rfl rfl rfl rfl hq2.ones (.here) <| Am <| Ab <| Ac <| Al fun ds => A3 rfl <| FW Bl fun b22 hb22 nb22 => Ao (Ae 2) <| A3 rfl <| Bi Bl VN Aa (CR rfl) Aa (NG hq2.eds hq2.one) (by omega) (by omega) (.z) .box fun v23 R24 ho25 => ?_
   have ho123 : Own 59 4 v23 ps2.length (ps2.flatMap edE) R24 := by simpa using ho25
   refine Ao (Ae 1) <| BP (.one (.skip <| .here) <| .one (.skip <| .here) <| .one (.skip <| .here) <| .one (.skip <| .here) <| .one (.skip <| .here) <| .one (.lastS) <| .lastb (.last)) <| AV <| AT RY Aa Aa (i := 0) rfl (.next <| .here) ho123.one (.here) <| Am <| Ab <| Ac ?_
   have hleS := hle0
   refine Bn (.inl rfl) (fun _ _ h => h) (kK <| kK <| kK <| kK <| kK <| kK <| .refl _) [16] (by kernel_rfl) fun ds => Ai 0 rfl (by kernel_rfl) (by kernel_rfl) (by kernel_rfl) (by kernel_rfl) rfl rfl (fun _ h => h.drop (kK <| kK <| kK <| kK <| kK <| kK <| .refl _)) (fun _ _ _ h => h) (AD EJ Aa) <| Ai 1 rfl (by kernel_rfl) (by kernel_rfl) (by kernel_rfl) (by kernel_rfl) rfl rfl (fun _ h => h.drop (kK <| kK <| kK <| kK <| kK <| kK <| .refl _)) (fun _ _ _ h => h) (Ah B4 Aa (Cell.own 0 rfl rfl)) <| Ai 2 rfl (by kernel_rfl) (by kernel_rfl) (by kernel_rfl) (by kernel_rfl) rfl rfl (fun _ h => h.drop (kK <| kK <| kK <| kK <| kK <| kK <| .refl _)) (fun _ _ _ h => h) (A9 Aa) <| Ai 3 rfl (by kernel_rfl) (by kernel_rfl) (by kernel_rfl) (by kernel_rfl) rfl rfl (fun _ h => h.drop (kK <| kK <| kK <| kK <| kK <| kK <| .refl _)) (fun _ _ _ h => h) (AD EJ Aa) <| Ai 4 rfl (by kernel_rfl) (by kernel_rfl) (by kernel_rfl) (by kernel_rfl) rfl rfl (fun _ h => h.drop (kK <| kK <| kK <| kK <| kK <| kK <| .refl _)) (fun _ _ _ h => h) (Ah B4 Aa (Cell.own 2 rfl rfl)) <| Ai 5 rfl (by kernel_rfl) (by kernel_rfl) (by kernel_rfl) (by kernel_rfl) rfl rfl (fun _ h => h.drop (kK <| kK <| kK <| kK <| kK <| kK <| .refl _)) (fun _ _ _ h => h) (A9 Aa) ?_
   refine Ai 6 rfl (by kernel_rfl) (by kernel_rfl) (by kernel_rfl) (by kernel_rfl) rfl rfl (fun _ h => h.drop (kK <| kK <| kK <| kK <| kK <| kK <| .refl _)) (fun _ _ _ h => h) (Ax (k := (w % ps2.length)) Bl Aa hq2.eds.plain Aa (by push_cast; rfl) hkK) <| Ai 7 rfl (by kernel_rfl) (by kernel_rfl) (by kernel_rfl) (by kernel_rfl) rfl rfl (fun _ h => h.drop (kK <| kK <| kK <| kK <| kK <| kK <| .refl _)) (fun _ _ _ h => h) (BB K7 Aa) <| Ai 8 rfl (by kernel_rfl) (by kernel_rfl) (by kernel_rfl) (by kernel_rfl) rfl rfl (fun _ h => h.drop (kK <| kK <| kK <| kK <| kK <| kK <| .refl _)) (fun _ _ _ h => h) (BB EI Aa) <| Ai 9 rfl (by kernel_rfl) (by kernel_rfl) (by kernel_rfl) (by kernel_rfl) rfl rfl (fun _ h => h.drop (kK <| kK <| kK <| kK <| kK <| kK <| .refl _)) (fun _ _ _ h => h) (Ah AA Aa (hq2.eds.cell hkK rfl)) <| Ai 10 rfl (by kernel_rfl) (by kernel_rfl) (by kernel_rfl) (by kernel_rfl) rfl rfl (fun _ h => h.drop (kK <| kK <| kK <| kK <| kK <| kK <| .refl _)) (fun _ _ _ h => h) (AD EI Aa) <| Ai 11 rfl (by kernel_rfl) (by kernel_rfl) (by kernel_rfl) (by kernel_rfl) rfl rfl (fun _ h => h.drop (kK <| kK <| kK <| kK <| kK <| kK <| .refl _)) (fun _ _ _ h => h) (Ah AA Aa (Cell.own 1 rfl rfl)) ?_
   refine Ai 12 rfl (by kernel_rfl) (by kernel_rfl) (by kernel_rfl) (by kernel_rfl) rfl rfl (fun _ h => h.drop (kK <| kK <| kK <| kK <| kK <| kK <| .refl _)) (fun _ _ _ h => h) (Ee Aa Aa) <| Ai 13 rfl (by kernel_rfl) (by kernel_rfl) (by kernel_rfl) (by kernel_rfl) rfl rfl (fun _ h => h.drop (kK <| kK <| kK <| kK <| kK <| kK <| .refl _)) (fun _ _ _ h => h) (Ax (k := (w % ps2.length)) Bl Aa (ho123.plain (by omega)) Aa (by push_cast; rfl) hkK) <| Ai 14 rfl (by kernel_rfl) (by kernel_rfl) (by kernel_rfl) (by kernel_rfl) rfl rfl (fun _ h => h.drop (kK <| kK <| kK <| kK <| kK <| kK <| .refl _)) (fun _ _ _ h => h) (BB K7 Aa) <| Ai 15 rfl (by kernel_rfl) (by kernel_rfl) (by kernel_rfl) (by kernel_rfl) rfl rfl (fun _ h => h.drop (kK <| kK <| kK <| kK <| kK <| kK <| .refl _)) (fun _ _ _ h => h) (BB EI Aa) ?_
   refine BG 16 rfl (by kernel_rfl) (Dy Cc Aa Aa ho123 (by rw [C8 Da]; omega) rfl (.s <| .s <| .s <| .s <| .s <| .s <| .z) .last fun R26 ho27 => ⟨(fun h => nomatch h), ?_⟩)
   have ho15 := Ue ho27 hkK
   have hD : DatedI (toldS s xd Y R) (w % ps2.length) (endsE (yearsP (seenP c sn) (truthsL (seenP c sn) 0))).1 l Y := Uf hI h1 hll ht (by omega) (by rw [hpm] at hlate; omega)
   refine Bo (by kernel_rfl) ?_ _
   refine Ab <| Ac <| Bm (σ := ⟨_, _⟩) (by rfl) ho15 (.s <| .s <| .s <| .s <| .s <| .s <| .z) .last fun F28 hF29 hz30 => ?_
   replace hl := hl.mono hF29
   replace hq2 := hq2.mono hF29
   replace hyr := hyr.mono hF29
   have hdat := ho15.sl (fun _ => rfl) hz30 (by rw [List.length_set]; omega)
   have hq3 := hq2.dat hkK hdat
   refine Al fun ds => Ao (Ae 2) <| AS rfl (Ay SO Aa AY (D6 hq2 hl) (fun _ _ h => h.trans (show changesEV (toldS s xd Y R) l = .tuple #[.int .i64 (costL (toldS s xd Y R) l), .int .i64 0] by unfold changesEV; rw [Gv hD.err (by have := hD.cost; omega)]))) <| As (Ae 5) <| Aw (Ae 2) fun ds => AS rfl (Ay SO Aa AY (D6 hq3 hl) (fun _ _ h => h.trans (show changesEV (datS (toldS s xd Y R) (w % ps2.length) (endsE (yearsP (seenP c sn) (truthsL (seenP c sn) 0))).1) l = .tuple #[.int .i64 (costL (datS (toldS s xd Y R) (w % ps2.length) (endsE (yearsP (seenP c sn) (truthsL (seenP c sn) 0))).1) l), .int .i64 0] by unfold changesEV; rw [Gv hD.err2 (by have := hD.cost; have := hD.same; omega)]))) <| As (Ae 5) <| Aw (Ae 2) fun ds => A3 rfl <| Be bd_14 Aa AY (Hx hq3 hl) fun v31 F32 hr33 hF34 => ?_
   replace hq2 := hq2.mono hF34
   replace hyr := hyr.mono hF34
   replace hq3 := hq3.mono hF34
   have hys0 := hr33
   rw [MB hD.err2 hD.fits] at hys0
   obtain ⟨vys, rfl, hys⟩ := hys0
   replace hys : Sl _ vys 2 spanE (spL (firstY (datS (toldS s xd Y R) (w % ps2.length) (endsE (yearsP (seenP c sn) (truthsL (seenP c sn) 0))).1) (treeE l)) (lastY (datS (toldS s xd Y R) (w % ps2.length) (endsE (yearsP (seenP c sn) (truthsL (seenP c sn) 0))).1) (treeE l)) (datS (toldS s xd Y R) (w % ps2.length) (endsE (yearsP (seenP c sn) (truthsL (seenP c sn) 0))).1).editions.length) := hys
   refine As (Ae 5) <| Aw (Ae 1) fun ds => A3 rfl <| Be Wv Aa AY (Gw hq2) fun v35 F36 hr37 hF38 => ?_
   replace hyr := hyr.mono hF38
   replace hq3 := hq3.mono hF38
   replace hys := hys.mono hF38
   have hb0 := hr37
   rw [JP hD.asked] at hb0
   obtain ⟨vb1, rfl, hbs1⟩ := hb0
   refine As (Ae 9) <| Aw (Ae 1) fun ds => A3 rfl <| Be Wv Aa AY (Gw hq3) fun v39 F40 hr41 hF42 => ?_
   replace hyr := hyr.mono hF42
   replace hys := hys.mono hF42
   have hb0 := hr41
   rw [JP hD.asked2] at hb0
   obtain ⟨vb2, rfl, hbs2⟩ := hb0
   refine As (Ae 9) <| Ac <| Aw (Ae 3) fun ds => Ap rfl rfl Aa (dF (fun h => h rfl)) <| Ao (Ae 1) <| Ap rfl rfl Aa (dF (fun h => h rfl)) <| Ao (Ae 1) <| Af rfl (A5 Aa (dF (fun h => h rfl)) Aa) <| Ao (Ae 1) <| Ap rfl rfl Aa (dF (fun h => h rfl)) <| Ao (Ae 1) <| Ap rfl rfl Aa (dF (fun h => h rfl)) <| Ao (Ae 1) <| Af rfl (A5 Aa (dF (fun h => h rfl)) Aa) <| Ao (Ae 1) <| Ap rfl rfl Aa (dF (fun h => h rfl)) <| Ao (Ae 1) <| Ap rfl rfl Aa (dF (fun h => h rfl)) <| Ao (Ae 1) <| Af rfl (A5 Aa (dF (fun h => h rfl)) Aa) <| Ao (Ae 1) <| Ap rfl rfl Aa (dF (fun h => h rfl)) <| Ao (Ae 1) <| Ap rfl rfl Aa (dF (fun h => h rfl)) <| Ao (Ae 1) <| Af rfl (A5 Aa (dF (fun h => h rfl)) Aa) <| Ao (Ae 1) <| Ap rfl rfl Aa (dF (fun h => h rfl)) <| Ao (Ae 1) <| Ap rfl rfl Aa (dF (fun h => h rfl)) <| Ao (Ae 1) <| Ap rfl rfl Aa (dF (fun h => h rfl)) <| Ao (Ae 1) <| Af rfl (A5 Aa (dF (fun h => h rfl)) Aa) <| Ao (Ae 1) <| Ap rfl rfl Aa (dF (fun h => h hD.same.symm)) <| Ao (Ae 1) <| Ap rfl rfl Aa (dF (fun h => h hD.same.symm)) <| Ao (Ae 1) <| Ap rfl rfl Aa (dF (fun h => h hD.same.symm)) ?_
   refine Ao (Ae 1) <| Af rfl (A5 Aa (dF (fun h => h hD.same.symm)) Aa) <| Ao (Ae 1) <| Ap rfl rfl Aa (dF (Int.not_lt.2 hD.more)) <| Ao (Ae 1) <| Ap rfl rfl Aa (dF (Int.not_lt.2 hD.more)) <| Ao (Ae 1) <| Ap rfl rfl Aa (dF (Int.not_lt.2 hD.more)) <| Ao (Ae 1) <| Af rfl (A5 Aa (dF (Int.not_lt.2 hD.more)) Aa) <| Ao (Ae 1) <| Ap rfl rfl Aa (dF (Int.not_lt.2 hD.most)) <| Ao (Ae 1) <| Ap rfl rfl Aa (dF (Int.not_lt.2 hD.most)) <| Af rfl (A6 CL Aa hys.plain) <| Ap rfl rfl Aa (dF (Int.not_lt.2 hD.most)) <| Ao (Ae 1) <| Ap rfl rfl Aa (dF (Int.not_lt.2 hD.most)) <| Af rfl (A6 A7 Aa hyr.plain) <| Ap rfl rfl Aa (dF (Int.not_lt.2 hD.most)) <| Ao (Ae 1) <| Af rfl (A5 Aa (dF (Int.not_lt.2 hD.most)) Aa) <| Am <| Ab <| Ad Aa (dF (fun h => h (by rw [BC, Bp, Cb, BD]; omega))) <| AL (i := 5) rfl hb1 (.next <| .next <| .next <| .next <| .next <| .here) fun F43 hF44 hz3 => ?_
   replace hyr := hyr.mono hF44
   replace hys := hys.mono hF44
   refine AL (i := 4) rfl hb2 (.next <| .next <| .next <| .next <| .here) fun F45 hF46 hz4 => ?_
   replace hyr := hyr.mono hF46
   replace hys := hys.mono hF46
   refine AL (i := 3) rfl hb10 (.next <| .next <| .next <| .here) fun F47 hF48 hz13 => ?_
   replace hyr := hyr.mono hF48
   replace hys := hys.mono hF48
   refine AL (i := 2) rfl hb15 (.next <| .next <| .here) fun F49 hF50 hz15 => ?_
   replace hyr := hyr.mono hF50
   replace hys := hys.mono hF50
   refine AL (i := 1) rfl hb20 (.next <| .here) fun F51 hF52 hz20 => ?_
   replace hyr := hyr.mono hF52
   replace hys := hys.mono hF52
   refine AL (i := 0) rfl hb21 (.here) fun F53 hF54 hz21 => ?_
   replace hyr := hyr.mono hF54
   replace hys := hys.mono hF54
   replace hz20 := hF54 _ _ hz20
   refine Aj <| Ab <| Ac <| AI (Ae 1) <| Ak ?_
   refine AJ [6, 34, 213, 214, 215, 216, 217, 218, 219, 220, 221, 222, 223, 224, 225, 226, 227, 228] (fun m e σ => ∃ i : Nat, m + i = s.editions.length ∧ Fct e 34 (.int .i64 (i : Int)) ∧ σ = ⟨F53, []⟩) (s.editions.length) ?_ ?_
   · exact ⟨0, by omega, Bb, rfl⟩
   rintro m e _ ⟨i, hm, hs34, rfl⟩
   by_cases hlt : i < s.editions.length
   ·have hyi : (spL (firstY (datS (toldS s xd Y R) (w % ps2.length) (endsE (yearsP (seenP c sn) (truthsL (seenP c sn) 0))).1) (treeE l)) (lastY (datS (toldS s xd Y R) (w % ps2.length) (endsE (yearsP (seenP c sn) (truthsL (seenP c sn) 0))).1) (treeE l)) (datS (toldS s xd Y R) (w % ps2.length) (endsE (yearsP (seenP c sn) (truthsL (seenP c sn) 0))).1).editions.length)[i]'(by rw [BC, Cb, BD]; omega) = (firstY (datS (toldS s xd Y R) (w % ps2.length) (endsE (yearsP (seenP c sn) (truthsL (seenP c sn) 0))).1) (treeE l) i, lastY (datS (toldS s xd Y R) (w % ps2.length) (endsE (yearsP (seenP c sn) (truthsL (seenP c sn) 0))).1) (treeE l) i) := J4 _
    have hyY : (iL Y ps.length)[i]'(by rw [Bp]; omega) = Y i := LD _
    obtain ⟨hy1, hy2⟩ := hD.years i (by rw [BD]; exact hlt)
    have hin : inB (firstY (datS (toldS s xd Y R) (w % ps2.length) (endsE (yearsP (seenP c sn) (truthsL (seenP c sn) 0))).1) (treeE l) i) (lastY (datS (toldS s xd Y R) (w % ps2.length) (endsE (yearsP (seenP c sn) (truthsL (seenP c sn) 0))).1) (treeE l) i) (Y i) = true := by unfold inB; rw [dT hy1, dT hy2]; rfl
    refine Ac <| Aw (Ae 2) fun ds => Af rfl (A6 CL Aa hys.plain) <| As (Ae 1) <| Ag Aa (dT (by rw [BC, Cb, BD]; omega)) <| Aj <| Ab <| Ac <| Ak <| Ac <| Bx (.inl rfl) (fun _ _ h => h) (by kernel_rfl) (by kernel_rfl) fun ds => Ba (Ae 2) <| AX rfl (Ax (k := i) A7 Aa hyr.plain Aa rfl (by rw [Bp]; omega)) <| AX rfl (Ah AA Aa (hyr.cell1 (by rw [Bp]; omega) rfl)) <| Ba (Ae 2) <| AX rfl (Ax (k := i) CL Aa hys.plain Aa rfl (by rw [BC, Cb, BD]; omega)) <| AX rfl (AO Cg Aa rfl rfl (hys.whole (by rw [BC, Cb, BD]; omega))) <| GS rfl (Ay bd_16 Aa AY (TX _ _ _) (fun _ _ h => h)) <| Ba (Ae 1) <| B9 <| Ab <| Ad Aa (by rw [hyi, hyY]; show (!(inB _ _ _)) = false; rw [hin]; rfl) <| Aj <| Az <| Ab <| Al fun ds => Ao (Ae 1) <| Af rfl (AE Aa Aa rfl (by omega) (by omega)) <| Ao (Ae 1) <| Am ?_
    refine Ab ⟨_, m - 1, Off.eq (B3 rfl <| BY rfl <| A2), by omega, ?_⟩
    exact ⟨i + 1, by omega, Bb, rfl⟩
   refine Ac <| Aw (Ae 2) fun ds => Af rfl (A6 CL Aa hys.plain) <| As (Ae 1) <| Ad Aa (dF (by rw [BC, Cb, BD]; omega)) ?_
   have hyk : (spL (firstY (datS (toldS s xd Y R) (w % ps2.length) (endsE (yearsP (seenP c sn) (truthsL (seenP c sn) 0))).1) (treeE l)) (lastY (datS (toldS s xd Y R) (w % ps2.length) (endsE (yearsP (seenP c sn) (truthsL (seenP c sn) 0))).1) (treeE l)) (datS (toldS s xd Y R) (w % ps2.length) (endsE (yearsP (seenP c sn) (truthsL (seenP c sn) 0))).1).editions.length)[(w % ps2.length)]'(by rw [BC, Cb, BD]; omega) = (firstY (datS (toldS s xd Y R) (w % ps2.length) (endsE (yearsP (seenP c sn) (truthsL (seenP c sn) 0))).1) (treeE l) (w % ps2.length), lastY (datS (toldS s xd Y R) (w % ps2.length) (endsE (yearsP (seenP c sn) (truthsL (seenP c sn) 0))).1) (treeE l) (w % ps2.length)) := J4 _
   have hlate := hD.late
   refine AC ?_
   refine A0 <| A0 <| A4 <| Ab <| Ac <| Bx (.inl rfl) (fun _ _ h => h) (by kernel_rfl) (by kernel_rfl) fun ds => Ba (Ae 2) <| AX rfl (Ax (k := (w % ps2.length)) CL Aa hys.plain Aa (by push_cast; rfl) (by rw [BC, Cb, BD]; omega)) <| Ba (Ae 1) <| AX rfl (Ah AA Aa (hys.cell (by rw [BC, Cb, BD]; omega) rfl)) <| Ba (Ae 1) <| AX rfl (Ah AA Aa (AM hz20 rfl)) <| Ba (Ae 2) <| AK rfl rfl Aa (by rw [hyk]; exact dT hlate) <| GS rfl (Ay Wq Aa .nil Fl (fun _ _ h => h)) <| AX rfl (Au Aa (by rw [hyk]; exact dT hlate) Aa) <| Ba (Ae 1) <| AK rfl rfl Aa rfl <| GS rfl (Ay Wo Aa .nil Gz (fun _ _ h => h)) <| AX rfl (Au Aa rfl Aa) <| Ba (Ae 1) <| B9 <| Ab <| At <| Aq rfl Bf ?_
   rfl
  refine Al fun ds => Ao (Ae 1) <| AS rfl (Ay bd_4 Aa AY (Fy hr) (fun _ _ h => h)) <| As (Ae 7) <| Aw (Ae 1) fun ds => AS rfl (Ay bd_5 Aa AY (Fx hq) (fun _ _ h => h.trans (show checkTV s = .tuple #[.int .i64 (checkT s).1, .int .i64 (checkT s).2.1, .int .i64 (checkT s).2.2] from rfl))) <| As (Ae 7) <| Ac <| Aw (Ae 3) fun ds => Ap rfl rfl Aa (by rw [h0]; rfl) <| Ao (Ae 1) <| Ap rfl rfl Aa (by rw [h0]; rfl) <| Ao (Ae 1) <| Af rfl (A5 Aa (by rw [h0]; rfl) Aa) <| Am <| Ab <| Ag Aa (dT h1) <| Ac <| Al fun ds => AS rfl (Ay Wq Aa .nil Fl (fun _ _ h => h)) <| Ao (Ae 1) <| Ap rfl rfl Aa rfl <| AS rfl (Ay Wo Aa .nil Gz (fun _ _ h => h)) <| Af rfl (Au Aa rfl Aa) <| As (Ae 1) <| At <| A1 <| Aq rfl Bf ?_
  rfl
 refine Al fun ds => Ao (Ae 1) <| AS rfl (Ay bd_4 Aa AY (Fy hr) (fun _ _ h => h)) <| As (Ae 7) <| Aw (Ae 1) fun ds => AS rfl (Ay bd_5 Aa AY (Fx hq) (fun _ _ h => h.trans (show checkTV s = .tuple #[.int .i64 (checkT s).1, .int .i64 (checkT s).2.1, .int .i64 (checkT s).2.2] from rfl))) <| As (Ae 7) <| Ac <| Aw (Ae 3) fun ds => Ar rfl rfl Aa (.inl (congrArg Value.bool (dT h0))) rfl <| Ar rfl rfl Aa (.inl (congrArg Value.bool (dT h0))) rfl <| Af rfl (Au Aa (dT h0) Aa) <| Am <| Ab <| Ag Aa rfl <| Ac <| Al fun ds => AS rfl (Ay Wq Aa .nil Fl (fun _ _ h => h)) <| Ao (Ae 1) <| Ap rfl rfl Aa rfl <| AS rfl (Ay Wo Aa .nil Gz (fun _ _ h => h)) <| Af rfl (Au Aa rfl Aa) <| As (Ae 1) <| At <| A1 <| Aq rfl Bf ?_
 rfl
end
section
set_option maxRecDepth 100000
open Go.ChangeShapes Go.WideShapes Go.ChangeAt Go.RowKit
theorem KX (os : Os) (started : os.Started) (H : Type) (enc : TypeId × Value → H) :
   ReturnsInHanded {} Tryz.checked os 3 .any (Rows.topDatedSpec.pre6 enc Tryz.prog Tryz.f3 Rows.topDatedRow.domain false) (Rows.topDatedSpec.post enc Tryz.prog Tryz.f3 false true false false) := by
 refine returnsInHanded_of_change_sized (C := Tryz.checked) Vp started (by kernel_rfl) Tryz.func3
   (ChangeSpec.witness6 (enc := enc) (C := Tryz.checked) false ⟨#[], #[.agg #[.int .i64 0, .slice none 0 0, .slice none 0 0, .int .i64 0, .slice none 0 0], .agg #[.slice none 0 0, .slice none 0 0], .agg #[.slice none 0 0, .slice none 0 0, .slice none 0 0, .slice none 0 0, .slice none 0 0, .slice none 0 0, .slice none 0 0, .int .u8 0]], []⟩ 8 (by kernel_rfl) (by kernel_rfl) (by kernel_rfl) (by kernel_rfl)) ?_
 intro W base args ds gs before hval0 hW hcnd hsz _
 have hval : ∀ (j : Nat) t v, Tryz.f3.params[j]? = some t → args[j]? = some v → Value.okWide Tryz.prog W .any base t v := hval0
 have hW' := hW
 obtain ⟨p, q, hA0, hV, rfl, hfz, hnd⟩ := hW
 have hA : DataW.TrodAll enc Tryz.prog W 0 (fun _ => true) true Tryz.f3.params.toList args.toList ds p := hA0
 rw [Tryz.params3] at hA hval
 obtain ⟨v0, vs0, d0, ds0, p0, q0, hargs, rfl, rfl, h0, r0⟩ := trodAll_cons hA
 obtain ⟨v1, vs1, d1, ds1, p1, q1, rfl, rfl, rfl, h1, r1⟩ := trodAll_cons r0
 obtain ⟨v2, vs2, d2, ds2, p2, q2, rfl, rfl, rfl, h2, r2⟩ := trodAll_cons r1
 obtain ⟨rfl, rfl, rfl⟩ := trodAll_nil r2
 obtain rfl : args = #[v0, v1, v2] := by cases args; simp_all
 obtain ⟨rfl, rfl⟩ := trodVars_none hV
 have hsz' : (DataW.weightsEach Tryz.prog (Tryz.f3.params.toList ++ []) ([d0, d1, d2] ++ [])).all (· ≤ reachBytes) = true := hsz
 rw [Tryz.params3] at hsz'
 have k0 := h0
 have lt0 : ∀ x ∈ p0, x.block < W.heap.size := by obtain ⟨m, hm⟩ := k0; exact DataW.trod_lt m _ _ _ hm
 have k1 := h1
 have lt1 : ∀ x ∈ p1, x.block < W.heap.size := by obtain ⟨m, hm⟩ := k1; exact DataW.trod_lt m _ _ _ hm
 have k2 := h2
 have lt2 : ∀ x ∈ p2, x.block < W.heap.size := by obtain ⟨m, hm⟩ := k2; exact DataW.trod_lt m _ _ _ hm
 obtain ⟨vs, vr, vx, c, rfl, hr⟩ := arg_pap (hval 0 26 v0 rfl rfl) h0 (Hb hsz' (j := 0) rfl rfl)
 obtain ⟨vp, ve, ps, s, rfl, hq⟩ := WK (hval 1 30 v1 rfl rfl) h1 (Hb hsz' (j := 1) rfl rfl)
 obtain ⟨u0, u1, u2, w0, w1, w2, w3, w, rfl, hw, ⟨xt, xy, xk, ⟨su0, bu0⟩, ⟨su1, bu1⟩, ⟨su2, bu2⟩⟩, xa, xb, xc, xd, ⟨sa, ba⟩, ⟨sb, bb⟩, ⟨sc, bc⟩, ⟨sd, bd⟩⟩ := Uv (hval 2 38 v2 rfl rfl) h2 (Hb hsz' (j := 2) rfl rfl)
 clear hA0 hval0
 refine (Ok.law (PS hr hq su0 bu0 su1 bu1 su2 bu2 sa ba sb bb sc bc sd bd hw)).mono fun e W' ⟨he, bel⟩ => ?_
 subst he
 exact ⟨_, rfl, _, _, _, [], _, [], hW', trodAll_mk1 (shut_bool Tryz.underlying4 _), (trodAll_cons_mk (Below.trod Od (by kernel_rfl) (of_decide_eq_true (by kernel_rfl)) k0 bel lt0) (trodAll_cons_mk (Below.trod Od (by kernel_rfl) (of_decide_eq_true (by kernel_rfl)) k1 bel lt1) (trodAll_cons_mk (Below.trod Od (by kernel_rfl) (of_decide_eq_true (by kernel_rfl)) k2 bel lt2) trodAll_mk0))), rfl, bel.frame _, fun h => by cases h⟩
theorem topDated : Rows.TopDatedSaid :=
 OpenClaim.holds_of_wide 3 Tryz.f3 rfl rfl rfl rfl rfl rfl rfl ⟨rfl, rfl, rfl, rfl, rfl⟩ rfl rfl rfl rfl rfl (by kernel_rfl) Tryz.func3 (by kernel_rfl)
   (of_decide_eq_true (by kernel_rfl)) (by unfold Func.isWrapper; first | (rw [if_pos (by decide +kernel)]; kernel_rfl) | (rw [if_neg (by decide +kernel)]; exact ⟨rfl, rfl⟩))
   (fun os started H enc _ => KX os started H enc)
#print axioms topDated
end
end Go.Proofs.YtkjfmibiinfhfabGreat
