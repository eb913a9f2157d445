/-
  A part of a proof: TopDated returns true of any case of paper, any stem and any past, and leaves what it is handed as it was. No conditions.
-/
import Derived.Test.YtkjfmibiinfhfabGreatPae
import Derived.KernelRfl
namespace Go.Proofs.YtkjfmibiinfhfabGreat
set_option synthInstance.maxSize 4000
set_option synthInstance.maxHeartbeats 1000000
section
set_option maxRecDepth 100000
open Go.RowKit
theorem Qo : ∀ {a b : List Nat}, (a.map fun (n : Nat) => (n : Int)) = (b.map fun (n : Nat) => (n : Int)) ↔ a = b := fun {a b} => by
 constructor
 · intro h
   apply List.ext_getElem
   · have := congrArg List.length h; simpa using this
   intro i h1 h2
   have h3 := congrArg (fun l : List Int => l[i]?) h
   simp [h1, h2] at h3
   omega
 rintro rfl; rfl
theorem map_ne {ps qs : List (Value × List Nat)} {k : Nat} (h1 : k < ps.length) (h2 : k < qs.length) (h : ps[k].2 ≠ qs[k].2) : ps.map (·.2) ≠ qs.map (·.2) := fun e => by
 have h3 := congrArg (fun l : List (List Nat) => l[k]?) e
 simp [h1, h2] at h3
 exact h h3
theorem TP {ps qs : List (Value × List Nat)} (hl : ps.length = qs.length) (h : ∀ j (h1 : j < ps.length) (h2 : j < qs.length), ps[j].2 = qs[j].2) : ps.map (·.2) = qs.map (·.2) := by
 apply List.ext_getElem
 · simp [hl]
 intro i h1 h2
 simpa using h i (by simpa using h1) (by simpa using h2)
theorem same_ok {F : Heap} {v u : Value} {ps qs : List (Value × List Nat)} (h : Sl F v 1 slE ps) (hpn : AllN F ps) (g : Sl F u 1 slE qs) (hqn : AllN F qs) : Ok Tryz.prog 30 [v, u].toArray F fun r _ => r = .bool (decide (ps.map (·.2) = qs.map (·.2))) := by
 refine Ok.intro Tryz.func30 rfl Tryz.ntmps30 rfl fun w0 => ?_
 have hL1 := h.plain.lt
 have hL2 := g.plain.lt
 by_cases hl : ps.length = qs.length
 ·refine AI (Ae 1) <| Ac <| Aw (Ae 1) fun ds => Af rfl (A6 Bt Aa h.plain) <| Ao (Ae 1) <| Af rfl (A6 Bt Aa g.plain) <| As (Ae 1) <| Ad Aa (dF (by omega)) <| Aj <| Ab <| Ac <| AI (Ae 1) <| Ak ?_
  refine AJ [4, 5, 11, 12, 13, 14, 15, 16, 17, 18, 19, 20, 21, 22, 23, 24, 25, 26] (fun m e σ => ∃ k : Nat, m + k = ps.length ∧ Fct e 5 (.int .i64 (k : Int)) ∧ σ = ⟨F, []⟩ ∧ ∀ j (h1 : j < ps.length) (h2 : j < qs.length), j < k → ps[j].2 = qs[j].2) (ps.length) ?_ ?_
  · exact ⟨0, by omega, Bb, rfl, fun j h1 h2 h => absurd h (by omega)⟩
  rintro m e _ ⟨k, hm, hs5, rfl, hno⟩
  by_cases hlt : k < ps.length
  ·have hlq : k < qs.length := by omega
   have e1 := (hpn _ (List.getElem_mem hlt)).ints
   have e2 := (hqn _ (List.getElem_mem hlq)).ints
   refine Ac <| Aw (Ae 2) fun ds => Af rfl (A6 Bt Aa h.plain) <| As (Ae 1) <| Ag Aa (by first | rfl | exact dT (by omega)) ?_
   by_cases he : ps[k].2 = qs[k].2
   ·refine Aj <| Ab <| Ac <| Ak <| Ac <| Bx (.inl rfl) (fun _ _ h => h) (by kernel_rfl) (by kernel_rfl) fun ds => Ba (Ae 2) <| AX rfl (Ax (k := k) Bt Aa h.plain Aa rfl hlt) <| AX rfl (Ah Br Aa (h.cell1 hlt rfl)) <| Ba (Ae 2) <| AX rfl (Ax (k := k) Bt Aa g.plain Aa rfl hlq) <| AX rfl (Ah Br Aa (g.cell1 hlq rfl)) <| GS rfl (Ay Jl Aa AY (CJ e1 e2) (fun _ _ h => h)) <| Ba (Ae 1) <| B9 <| Ab <| Ad Aa (by rw [dT (Qo.2 he)]; rfl) <| Aj <| Az <| Ab <| Al fun ds => Ao (Ae 1) <| Af rfl (AE Aa Aa rfl (by omega) (by omega)) <| Ao (Ae 1) <| Am ?_
    refine Ab ⟨_, m - 1, Off.eq (B3 rfl <| BY rfl <| A2), by omega, ?_⟩
    refine ⟨k + 1, by omega, Bb, rfl, fun j h1 h2 hjk => ?_⟩
    rcases Nat.lt_succ_iff_lt_or_eq.1 hjk with hjk | rfl
    · exact hno j h1 h2 hjk
    exact he
   refine Aj <| Ab <| Ac <| Ak <| Ac <| Bx (.inl rfl) (fun _ _ h => h) (by kernel_rfl) (by kernel_rfl) fun ds => Ba (Ae 2) <| AX rfl (Ax (k := k) Bt Aa h.plain Aa rfl hlt) <| AX rfl (Ah Br Aa (h.cell1 hlt rfl)) <| Ba (Ae 2) <| AX rfl (Ax (k := k) Bt Aa g.plain Aa rfl hlq) <| AX rfl (Ah Br Aa (g.cell1 hlq rfl)) <| GS rfl (Ay Jl Aa AY (CJ e1 e2) (fun _ _ h => h)) <| Ba (Ae 1) <| B9 <| Ab <| Ag Aa (by rw [dF (fun q => he (Qo.1 q))]; rfl) <| AI (Ae 1) <| At ?_
   refine A8 (A1 (A1 (A8 (A1 ?_))))
   refine Aq rfl Bf ?_
   show Value.bool false = _
   rw [dF (map_ne hlt hlq he)]
  refine Ac <| Aw (Ae 2) fun ds => Af rfl (A6 Bt Aa h.plain) <| As (Ae 1) <| Ad Aa (by first | rfl | exact dF (by omega)) <| AC ?_
  refine A0 <| A0 <| A4 <| Ab <| AI (Ae 1) <| At <| Aq rfl Bf ?_
  show Value.bool true = _
  rw [dT (TP (by omega) fun j h1 h2 => hno j h1 h2 (by omega))]
 refine AI (Ae 1) <| Ac <| Aw (Ae 1) fun ds => Af rfl (A6 Bt Aa h.plain) <| Ao (Ae 1) <| Af rfl (A6 Bt Aa g.plain) <| As (Ae 1) <| Ag Aa (dT (by omega)) <| AI (Ae 1) <| At <| A1 <| Aq rfl Bf ?_
 show Value.bool false = _
 rw [dF (fun e => hl (by have := congrArg List.length e; simpa using this))]
end
section
theorem ValidP.stock {c : Pap} (h : ValidP c) {i : Nat} (hi : i < c.stocks.length) : 1450 ≤ (c.st i).lo ∧ (c.st i).lo ≤ (c.st i).hi ∧ (c.st i).hi ≤ 1850 := by
 have h1 := h.stk i hi
 rw [DB hi, UO hi] at h1
 by_cases a1 : nameOk (c.st i).name = false
 · rw [if_pos a1] at h1; exact absurd h1 (by decide)
 rw [if_neg a1] at h1
 by_cases a2 : (c.stocks.take i).any (fun y => sameS y.name (c.st i).name) = true
 · rw [if_pos a2] at h1; exact absurd h1 (by decide)
 rw [if_neg a2] at h1
 by_cases a3 : (inB 1450 1850 (c.st i).lo && inB 1450 1850 (c.st i).hi) = false
 · rw [if_pos a3] at h1; exact absurd h1 (by decide)
 rw [if_neg a3] at h1
 by_cases a4 : (c.st i).hi < (c.st i).lo
 · rw [if_pos a4] at h1; exact absurd h1 (by decide)
 rw [Bool.not_eq_false, Bool.and_eq_true, Di, Di] at a3
 omega
def stYear (c : Pap) (xs : List Nat) (s : Nat) : Int := (c.st s).lo + (turnN xs s : Int) % ((c.st s).hi - (c.st s).lo + 1)
theorem HB {c : Pap} (hv : ValidP c) {xs : List Nat} {s : Nat} (hs : s < c.stocks.length) : (c.st s).lo ≤ stYear c xs s ∧ stYear c xs s ≤ (c.st s).hi := by
 have h := hv.stock hs
 have h1 := Int.emod_nonneg (turnN xs s : Int) (b := (c.st s).hi - (c.st s).lo + 1) (by omega)
 have h2 := Int.emod_lt_of_pos (turnN xs s : Int) (b := (c.st s).hi - (c.st s).lo + 1) (by omega)
 unfold stYear; omega
def latL (c : Pap) (xs : List Nat) (n : Int) (l : List Nat) : Int := l.foldl (fun n s => max n (stYear c xs s)) n
def latLs (c : Pap) (xs : List Nat) (ls : List (List Nat)) : Int := ls.foldl (latL c xs) 0
theorem Oc {c : Pap} {xs : List Nat} : ∀ {l : List Nat} {n : Int}, n ≤ latL c xs n l
 | [], _ => Int.le_refl _
 | s :: l, n => Int.le_trans (Int.le_max_left _ _) (Oc (l := l) (n := max n (stYear c xs s)))
theorem P3 {c : Pap} {xs : List Nat} {s : Nat} : ∀ {l : List Nat} {n : Int}, s ∈ l → stYear c xs s ≤ latL c xs n l
 | t :: l, n, h => by
   rcases List.mem_cons.1 h with rfl | h
   · exact Int.le_trans (Int.le_max_right _ _) (Oc (l := l))
   exact P3 (l := l) h
theorem L9 {c : Pap} {xs : List Nat} : ∀ {ls : List (List Nat)} {n : Int}, n ≤ ls.foldl (latL c xs) n
 | [], _ => Int.le_refl _
 | _ :: ls, _ => Int.le_trans Oc (L9 (ls := ls))
theorem Ng {c : Pap} {xs : List Nat} {s : Nat} {l : List Nat} : ∀ {ls : List (List Nat)} {n : Int}, l ∈ ls → s ∈ l → stYear c xs s ≤ ls.foldl (latL c xs) n
 | m :: ls, n, h, hs => by
   rcases List.mem_cons.1 h with rfl | h
   · exact Int.le_trans (P3 hs) (L9 (ls := ls))
   exact Ng (ls := ls) h hs
end
section
set_option maxRecDepth 100000
open Go.RowKit
theorem Ws : Body Tryz.prog 43 := AF (by kernel_rfl)
instance : FieldI Tryz.prog 47 2 2 := ⟨Bd (by kernel_rfl)⟩
theorem Rc : OneT Tryz.prog 45 := BI (by kernel_rfl)
instance : OneI Tryz.prog 45 := ⟨Rc⟩
theorem TU {F : Heap} {vs vr vx : Value} {c : Pap} (hr : PapR F vs vr vx c) (hv : ValidP c) {q0 q1 q2 vt : Value} {ps : List (Value × List Nat)} (h : Sl F q2 1 slE ps) (hpn : AllN F ps) (hb : ∀ p ∈ ps, ∀ s ∈ p.2, s < c.stocks.length) {xs : List Nat} (hxs : Sl F vt 1 u16E xs) (hxb : ∀ x ∈ xs, x < 65536) : Ok Tryz.prog 10 [papV vs vr vx c, .agg #[q0, q1, q2], vt].toArray F fun u _ => u = .int .i64 (latLs c xs (ps.map (·.2))) := by
 refine Ok.intro Tryz.func10 rfl Tryz.ntmps10 rfl fun w0 => ?_
 have hL1 := hr.stocks.plain.lt
 have hL2 := h.plain.lt
 refine Ac <| Al fun ds => A3 rfl <| Bc Aa rfl fun b1 hb1 nb1 => A3 rfl <| Bc Aa rfl fun b2 hb2 nb2 => As (Ae 1) <| AI (Ae 1) <| Ac <| AI (Ae 1) <| Ak ?_
 refine AJ [7, 8, 9, 10, 11, 12, 13, 14, 15, 16, 17, 18, 19, 20, 21, 22, 23, 24, 25, 26, 27, 28, 29, 30, 31, 32, 33, 34, 35, 36, 37, 38, 39, 40, 41, 42, 43, 44, 45, 46, 47, 48, 49, 50, 51, 52, 53, 54, 55, 56, 57] (fun m e σ => ∃ i : Nat, m + i = ps.length ∧ Fct e 8 (.int .i64 (i : Int)) ∧ Fct e 7 (.int .i64 (((ps.map (·.2)).take i).foldl (latL c xs) 0)) ∧ σ = ⟨F, [(b2, bx 47 [q0, q1, q2]), (b1, bx 26 [.int .i64 c.run, vs, vr, .int .i64 c.gats, vx])]⟩) (ps.length) ?_ ?_
 · exact ⟨0, by omega, Bb, Bb, rfl⟩
 rintro m e _ ⟨i, hm, hs8, hs7, rfl⟩
 by_cases hlt : i < ps.length
 ·have hni := hpn _ (List.getElem_mem hlt)
  have hL4 := hni.plain.lt
  refine Ac <| Aw (Ae 3) fun ds => Af rfl (A6 Bt Aa h.plain) <| As (Ae 1) <| Ag Aa (by first | rfl | exact dT (by omega)) <| Aj <| Ab <| Ac <| Ak <| AI (Ae 1) <| Ak ?_
  refine AJ [7, 9, 10, 11, 19, 20, 21, 22, 23, 24, 25, 26, 27, 28, 29, 30, 31, 32, 33, 34, 35, 36, 37, 38, 39, 40, 41, 42, 43, 44, 45, 46, 47, 48, 49, 50, 51, 52, 53, 54, 55, 56, 57] (fun m e σ => ∃ j : Nat, m + j = ps[i].2.length ∧ Fct e 9 (.int .i64 (j : Int)) ∧ Fct e 7 (.int .i64 (latL c xs (((ps.map (·.2)).take i).foldl (latL c xs) 0) (ps[i].2.take j))) ∧ σ = ⟨F, [(b2, bx 47 [q0, q1, q2]), (b1, bx 26 [.int .i64 c.run, vs, vr, .int .i64 c.gats, vx])]⟩) (ps[i].2.length) ?_ ?_
  · exact ⟨0, by omega, Bb, Bb, rfl⟩
  rintro m2 e2 _ ⟨j, hm2, ht9, ht7, rfl⟩
  by_cases hj : j < ps[i].2.length
  ·have hsl := hb _ (List.getElem_mem hlt) _ (List.getElem_mem hj)
   have hst := UO hsl
   have hrl : c.stocks[ps[i].2[j]].lo = (c.st ps[i].2[j]).lo ∧ c.stocks[ps[i].2[j]].hi = (c.st ps[i].2[j]).hi := by rw [hst]; exact ⟨rfl, rfl⟩
   have hsb := hv.stock hsl
   have hyb := HB hv (xs := xs) hsl
   refine Ac <| Aw (Ae 4) fun ds => Af rfl (Ax (k := i) Bt Aa h.plain Aa rfl hlt) <| Af rfl (Ah Br Aa (h.cell1 hlt rfl)) <| Af rfl (A6 A7 Aa hni.plain) <| As (Ae 1) <| Ag Aa (by first | rfl | exact dT (by omega)) <| Aj <| Ab <| Ac <| Ak <| Aw (Ae 3) fun ds => Af rfl (Ax (k := i) Bt Aa h.plain Aa rfl hlt) <| Af rfl (Ah Br Aa (h.cell1 hlt rfl)) <| Ao (Ae 1) <| Af rfl (Ax (k := j) A7 Aa hni.plain Aa rfl hj) <| Af rfl (Ah AA Aa (hni.cell1 hj rfl)) <| As (Ae 1) <| Aw (Ae 3) fun ds => Af rfl (Ax (k := ps[i].2[j]) Cd Aa hr.stocks.plain Aa rfl hsl) <| Ao (Ae 1) <| Af rfl (AO (vs := [.int .i64 c.stocks[ps[i].2[j]].lo, .int .i64 c.stocks[ps[i].2[j]].hi]) Cg Aa rfl rfl (hr.stocks.part hsl (rest := []) rfl)) <| A3 rfl <| AN EE rfl fun b5 hb5 nb5 => AV <| AQ EX Aa Aa (i := 0) rfl rfl rfl rfl (by simp [Value.oneCell']) (.here) <| Am <| Ab <| Bx (.inl rfl) (fun _ _ h => h) (by kernel_rfl) (by kernel_rfl) fun ds => Ba (Ae 5) <| GS rfl (Ay Ws Aa AY (KS hxs hxb rfl) (fun _ _ h => h)) <| Ba (Ae 4) <| AX rfl (BZ Aa Aa rfl (by omega) (by omega)) <| AX rfl (AE Aa Aa rfl (by omega) (by omega)) <| AX rfl (CE Aa Aa (Int.natCast_nonneg _) (by omega)) <| AX rfl (AE Aa Aa (show c.stocks[ps[i].2[j]].lo + (turnN xs ps[i].2[j] : Int) % (c.stocks[ps[i].2[j]].hi - c.stocks[ps[i].2[j]].lo + 1) = stYear c xs ps[i].2[j] by rw [hst]; rfl) (by omega) (by omega)) ?_
   refine Ba (Ae 2) <| B9 <| Az <| Ab <| By (fun _ _ h => h.drop (kD <| kK <| kK <| .refl _)) <| Al fun ds => Ao (Ae 1) <| Af rfl (AE Aa Aa rfl (by omega) (by omega)) <| Ao (Ae 1) <| Am ?_
   refine Ab ⟨_, m2 - 1, Off.eq (Cv rfl <| BT rfl <| Cw rfl <| BY rfl <| A2), by omega, ?_⟩
   exact ⟨j + 1, by omega, Bb, BN (congrArg (Value.int .i64) (by rw [List.take_succ_eq_append_getElem hj]; unfold latL; rw [List.foldl_append]; rfl)), rfl⟩
  refine Ac <| Aw (Ae 4) fun ds => Af rfl (Ax (k := i) Bt Aa h.plain Aa rfl hlt) <| Af rfl (Ah Br Aa (h.cell1 hlt rfl)) <| Af rfl (A6 A7 Aa hni.plain) <| As (Ae 1) <| Ad Aa (by first | rfl | exact dF (by omega)) ?_
  obtain rfl : j = ps[i].2.length := by omega
  refine AC ?_
  refine A0 <| A0 <| A4 <| Az <| Ab <| Al fun ds => Ao (Ae 1) <| Af rfl (AE Aa Aa rfl (by omega) (by omega)) <| Ao (Ae 1) <| Am ?_
  refine Ab ⟨_, m - 1, Off.eq (BT rfl <| Cw rfl <| BY rfl <| BJ rfl <| Ci rfl <| Cw rfl <| A2), by omega, ?_⟩
  exact ⟨i + 1, by omega, Bb, BN (congrArg (Value.int .i64) (by rw [List.take_length, List.take_succ_eq_append_getElem (by simpa using hlt), List.foldl_append]; simp)), rfl⟩
 refine Ac <| Aw (Ae 3) fun ds => Af rfl (A6 Bt Aa h.plain) <| As (Ae 1) <| Ad Aa (by first | rfl | exact dF (by omega)) ?_
 obtain rfl : i = ps.length := by omega
 refine AC ?_
 refine A0 <| A0 <| A4 <| Ab <| AI (Ae 2) <| At <| Aq rfl Bf ?_
 show Value.int .i64 _ = _
 rw [List.take_of_length_le (by simp)]; rfl
end
section
open Go.RowKit
section
variable {P : Program} {n : Nat} {B : Base} {e : Env} {σ : St} {ty : TypeId} {pos : String} {af : Array Edge} {gd : Option (Nat × Bool)} {d : Option Nat}
theorem x_make0 {T E bytes : Nat} {x y : Operand} {z : Value} {k : Nat} {i : Int} {K : Value → St → Prop} (hT : SliceT P T E 1) (hE : ElemT P E 1 bytes z) (hz : z.oneCell' = true) (hx : ev e x = .int .i64 0) (hy : ev e y = .int .i64 i) (hi : i = (k : Int)) (hroom : bytes * k ≤ 281474976710656) (hk : k ≤ 9223372036854775807)
   (hn : ∀ b v, B.w0.heap.size ≤ b → σ.F b = none → Own E 1 v 0 [] [(b, bx E (List.replicate k z))] → K v ⟨σ.F, (b, bx E (List.replicate k z)) :: σ.H⟩) :
   OpX P n B ⟨d, .makeSlice T x y, ty, pos, af, gd⟩ e σ K := .run fun w hw => by
 obtain ⟨j, hj, hj1, hj2, hj3⟩ := hE.ex
 subst hi
 subst hj2
 have hby : (j.bytes : Int) * (k : Int) ≤ 281474976710656 := by
   have : ((j.bytes * k : Nat) : Int) ≤ 281474976710656 := by omega
   rwa [Int.natCast_mul] at this
 have hr := run_make (P := P) w T E j z hT.1 hj hj3 .i64 .i64 0 k (by omega) (by omega) hby (by omega)
 have hcells : madeCells z.cells ((k : Int).toNat * j.size) = (List.replicate k z).toArray := by
   rw [hj1, Int.toNat_natCast, Nat.mul_one, Cr hz]
   apply Array.ext'
   simp [madeCells]
   apply List.ext_getElem
   · simp
   intro q h1 h2; simp [Nat.mod_one]
 rw [hcells] at hr
 refine ⟨_, _, _, .inl ?_, hw.alloc (bx E (List.replicate k z)), hn _ (.slice (some ⟨w.heap.size, 0, none⟩) 0 k) hw.size hw.fresh ?_⟩
 · simp [execOp, hx, hy, hr, bx]
 exact ⟨k, List.replicate k z, rfl, by simp, by simp, by simp, Nat.zero_le _⟩
theorem Own.cut {E s k m : Nat} {v : Value} {cs ds : List Value} {R : List (Nat × Obj)} (h : Own E s v m (cs ++ ds) R) (hk : cs.length = k * s) (hm : k ≤ m) : Own E s (subslice v 0 k s) k cs R := by
 match R, h with
 | [], ⟨h1, h2, h3⟩ =>
   obtain ⟨rfl, -⟩ := List.append_eq_nil_iff.1 h3
   obtain rfl : k = 0 := by omega
   subst h1
   exact ⟨rfl, rfl, rfl⟩
 | [(b, o)], ⟨cap, spare, h1, h2, h3, h4, h5⟩ =>
   subst h1
   refine ⟨cap, ds ++ spare, ?_, by rw [h2, List.append_assoc], hk, by rw [← List.append_assoc]; exact h4, by omega⟩
   unfold subslice
   by_cases hc : cap = 0
   · subst hc; rfl
   show Value.slice (if cap = 0 then _ else _) _ _ = _
   rw [if_neg hc]; simp [addc]
end
end
section
set_option maxRecDepth 100000
open Go.RowKit
theorem W8 : Body Tryz.prog 116 := AF (by kernel_rfl)
theorem NW : OneT Tryz.prog 189 := BI (by kernel_rfl)
instance : OneI Tryz.prog 189 := ⟨NW⟩
theorem Sq : OneT Tryz.prog 199 := BI (by kernel_rfl)
instance : OneI Tryz.prog 199 := ⟨Sq⟩
structure OrdC (L : Nat) (F : Heap) (c : Pap) (vs vr vx : Value) (ob d2 d3 d4 : Nat) : Prop where
 me : F d2 = some (bx 110 [.int .i64 c.run, vs, vr, .int .i64 c.gats, vx])
 yield : F d3 = some (bx 199 [.func (.yield L) #[] #[]])
 next : F d4 = some (bx 189 [.func (.func 116) #[] #[.pointer (some ⟨ob, 0, none⟩), .pointer (some ⟨d2, 0, none⟩), .pointer (some ⟨d3, 0, none⟩), .pointer (some ⟨d4, 0, none⟩)]])
theorem OrdC.mono {L : Nat} {F F' : Heap} {c : Pap} {vs vr vx : Value} {ob d2 d3 d4 : Nat} (h : OrdC L F c vs vr vx ob d2 d3 d4) (hF : F.le F') : OrdC L F' c vs vr vx ob d2 d3 d4 := ⟨hF _ _ h.me, hF _ _ h.yield, hF _ _ h.next⟩
def OrdOk (c : Pap) (g L : Nat) (F0 : Heap) (xs : List (List Nat)) (J : List (List Nat) → Heap → List (Nat × Obj) → Prop) (Jx : Heap → List (Nat × Obj) → Prop) (vs vr vx : Value) (ob d2 d3 d4 d : Nat) : Prop :=
 ∀ {F : Heap} {R1 RH : List (Nat × Obj)} {v : Value} {b : List Nat} {z : Int} {pre rest : List (List Nat)}, F0.le F → OrdC L F c vs vr vx ob d2 d3 d4 → z = (usedB b : Int) → b.length + d = g → (∀ x ∈ b, x < 5) → Own 3 1 v b.length (b.flatMap natE) R1 →
   xs = pre ++ ordTo g d b ++ rest → J pre F RH →
   OkG Tryz.prog 116 [.int .i64 z, .pointer (some ⟨ob, 0, none⟩), .pointer (some ⟨d2, 0, none⟩), .pointer (some ⟨d3, 0, none⟩), .pointer (some ⟨d4, 0, none⟩)].toArray F ((ob, bx 44 [v]) :: (R1 ++ RH)) fun u F' H' => ∃ v' R' RH', H' = (ob, bx 44 [v']) :: (R' ++ RH') ∧ (u = .bool true ∧ Own 3 1 v' b.length (b.flatMap natE) R' ∧ J (pre ++ ordTo g d b) F' RH' ∨ u = .bool false ∧ Jx F' RH')
def YieldO (P : Program) (L : Nat) (F0 : Heap) (xs : List (List Nat)) (J : List (List Nat) → Heap → List (Nat × Obj) → Prop) (Jx : Heap → List (Nat × Obj) → Prop) : Prop :=
 ∀ pre x rest F H v R, xs = pre ++ x :: rest → F0.le F → J pre F H → Own 3 1 v x.length (x.flatMap natE) R → OkYG P L [v] F (R ++ H) fun u F' H' => ∃ H2, H' = R ++ H2 ∧ (u = .bool true ∧ J (pre ++ [x]) F' H2 ∨ u = .bool false ∧ Jx F' H2)
theorem ord_nil {c : Pap} {g : Nat} (hg : c.gats = (g : Int)) (hg5 : g ≤ 5) {L : Nat} {F0 : Heap} {xs : List (List Nat)} {J : List (List Nat) → Heap → List (Nat × Obj) → Prop} {Jx : Heap → List (Nat × Obj) → Prop} {vs vr vx : Value} {ob d2 d3 d4 : Nat}
   (hm : ∀ pre F F' H, F.le F' → J pre F H → J pre F' H) (hmx : ∀ F F' H, F.le F' → Jx F H → Jx F' H) (hy : YieldO Tryz.prog L F0 xs J Jx) : OrdOk c g L F0 xs J Jx vs vr vx ob d2 d3 d4 0 := by
 intro F R1 RH v b z pre rest hF hC hz hlen h5 ho hxs hJ
 subst hz
 refine OkG.intro Tryz.func116 rfl Tryz.ntmps116 rfl fun w0 => AI (Ae 1) <| Ac <| Aw (Ae 1) fun ds => Af rfl (A6 A7 Aa (ho.plain (by omega))) <| Ao (Ae 2) <| Af rfl (Ah AA Aa (AM hC.me rfl)) <| As (Ae 1) <| Ag Aa (dT (by omega)) <| Ac <| DK fun ds => BK rfl rfl (Ah Sq Aa (AM hC.yield rfl)) <| BK rfl rfl (Ah Br Aa (Cell.own 0 rfl rfl)) <| RM rfl Aa AY rfl (hy pre b rest _ _ _ _ (by rw [hxs]; simp [ordTo]) hF hJ ho) fun v5 F6 RH9 hr7 hF8 => ?_
 replace hJ := hm _ _ _ _ hF8 hJ
 obtain ⟨RH2, rfl, hyb⟩ := hr7
 refine BK rfl rfl (Bz Aa) <| G9 <| Ab <| At <| A1 <| C6 rfl Bf .all ?_
 exact ⟨_, _, _, rfl, hyb.imp (fun h => ⟨h.1, ho, h.2⟩) id⟩
theorem Vq {c : Pap} {g : Nat} (hg : c.gats = (g : Int)) (hg5 : g ≤ 5) {L : Nat} {F0 : Heap} {xs : List (List Nat)} {J : List (List Nat) → Heap → List (Nat × Obj) → Prop} {Jx : Heap → List (Nat × Obj) → Prop} {vs vr vx : Value} {ob d2 d3 d4 : Nat}
   (hm : ∀ pre F F' H, F.le F' → J pre F H → J pre F' H) (hmx : ∀ F F' H, F.le F' → Jx F H → Jx F' H) (hy : YieldO Tryz.prog L F0 xs J Jx) {d : Nat} (ih : OrdOk c g L F0 xs J Jx vs vr vx ob d2 d3 d4 d) : OrdOk c g L F0 xs J Jx vs vr vx ob d2 d3 d4 (d + 1) := by
 intro F R1 RH v b z pre rest hF hC hz hlen h5 ho hxs hJ
 subst hz
 refine OkG.intro Tryz.func116 rfl Tryz.ntmps116 rfl fun w0 => AI (Ae 1) <| Ac <| Aw (Ae 1) fun ds => Af rfl (A6 A7 Aa (ho.plain (by omega))) <| Ao (Ae 2) <| Af rfl (Ah AA Aa (AM hC.me rfl)) <| As (Ae 1) <| Ad Aa (dF (by omega)) <| Aj <| Ab <| Ac <| Aw (Ae 2) fun ds => Af rfl (Ah AA Aa (AM hC.me rfl)) <| As (Ae 1) <| Ak ?_
 refine AJ [6, 7, 20, 21, 22, 23, 24, 25, 26, 27, 28, 29, 30, 31, 32, 33, 34, 35, 36, 37, 38, 39, 40, 41, 42, 43, 44] (fun m e σ => ∃ G v' R' RH', F0.le G ∧ F.le G ∧ ∃ k : Nat, m + k = g ∧ Fct e 20 (.int .i64 (k : Int)) ∧ Own 3 1 v' b.length (b.flatMap natE) R' ∧ J (pre ++ ordK g d b k) G RH' ∧ σ = ⟨G, (ob, bx 44 [v']) :: (R' ++ RH')⟩) (g) ?_ ?_
 · exact ⟨_, _, _, _, hF, Heap.le_refl _, 0, by omega, Bb, ho, by simpa [TI] using hJ, rfl⟩
 rintro m e _ ⟨G, v', R', RH', hG, hFG, k, hm1, hs20, ho, hJ, rfl⟩; replace hC := hC.mono hFG
 by_cases hlt : k < g
 ·refine AI (Ae 1) <| Ac <| Ag Aa (by first | rfl | exact dT (by omega)) ?_
  have hk5 : k < 5 := by omega
  have hub := OG h5
  have hpk : 2 ^ k < 32 := Nat.pow_lt_pow_right (n := 5) (by omega) (by omega)
  by_cases hbt : (usedB b).testBit k = true
  ·have hin : k ∈ b := by rw [Jz] at hbt; exact of_decide_eq_true hbt
   refine Aj <| Ab <| Ac <| Ak <| AI (Ae 2) <| Ac <| Aw (Ae 2) fun ds => Af rfl (HL Aa Aa rfl (show k < 64 by omega) (show _ = ((usedB b / 2 ^ k : Nat) : Int) by simp)) <| Af rfl (HM Aa Aa rfl (k := 1) rfl (by have := Nat.div_le_self (usedB b) (2 ^ k); omega) (by omega) rfl) <| As (Ae 1) <| Ag Aa (dT (KE.2 hbt)) <| AC <| A0 <| A4 <| Ab <| Al fun ds => Af rfl (AE Aa Aa rfl (by omega) (by omega)) <| Ao (Ae 1) <| Am ?_
   refine Ab ⟨_, m - 1, Off.eq (BT rfl <| Cw rfl <| A2), by omega, ?_⟩
   refine ⟨_, _, _, _, hG, hFG, k + 1, by omega, Bb, ho, ?_, rfl⟩
   rw [TJ hin]; exact hJ
  replace hbt : (usedB b).testBit k = false := by simpa using hbt
  have hin : k ∉ b := by rw [Jz] at hbt; exact of_decide_eq_false hbt
  refine Aj <| Ab <| Ac <| Ak <| AI (Ae 2) <| Ac <| Aw (Ae 2) fun ds => Af rfl (HL Aa Aa rfl (show k < 64 by omega) (show _ = ((usedB b / 2 ^ k : Nat) : Int) by simp)) <| Af rfl (HM Aa Aa rfl (k := 1) rfl (by have := Nat.div_le_self (usedB b) (2 ^ k); omega) (by omega) rfl) <| As (Ae 1) <| Ad Aa (dF (fun hq => by rw [KE.1 hq] at hbt; cases hbt)) <| Aj <| Ab <| Aw (Ae 2) fun ds => A3 rfl <| AU A7 B1 rfl (.cons Aa .nil) rfl rfl (by decide) (by simp [Value.oneCell']) fun b2 hb2 nb2 => A3 rfl <| Bi A7 D5 Aa ho Aa (BA (s := 1) 0 rfl rfl (by simp [Value.oneCell'])) (by omega) (by omega) (.s <| .s <| .z) .more fun v3 R4 ho5 => ?_
  have ho2 : Own 3 1 v3 (b ++ [k]).length ((b ++ [k]).flatMap natE) R4 := Own.snoc ho5 rfl rfl
  refine AV <| AT E0 Aa Aa (i := 1) rfl (.here) ho2.one (.next <| .here) <| Am <| Ab <| Ac <| Ac <| Cl (.one (.next <| .here) <| .blk (.next <| .here) <| .lastb (.next <| .last)) ?_
  obtain ⟨rest1, hsp⟩ := Rb (d := d) hlt hin
  have h5s : ∀ x ∈ b ++ [k], x < 5 := fun x hx => (List.mem_append.1 hx).elim (h5 x) fun hx => (show x = k by simpa using hx) ▸ hk5
  have hbk : (b ++ [k]).length ≤ 5 := by simp; omega
  refine Bn (.inl rfl) (fun _ _ h => h) (kK <| .refl _) [5, 6] (by kernel_rfl) fun ds => Ai 0 rfl (by kernel_rfl) (by kernel_rfl) (by kernel_rfl) (by kernel_rfl) rfl rfl (fun _ h => h.drop (kK <| .refl _)) (fun _ _ _ h => h) (Ah NW Aa (AM hC.next rfl)) <| Ai 1 rfl (by kernel_rfl) (by kernel_rfl) (by kernel_rfl) (by kernel_rfl) rfl rfl (fun _ h => h.drop (kK <| .refl _)) (fun _ _ _ h => h) (A9 Aa) <| Ai 2 rfl (by kernel_rfl) (by kernel_rfl) (by kernel_rfl) (by kernel_rfl) rfl rfl (fun _ h => h.drop (kK <| .refl _)) (fun _ _ _ h => h) (A9 Aa) <| Ai 3 rfl (by kernel_rfl) (by kernel_rfl) (by kernel_rfl) (by kernel_rfl) rfl rfl (fun _ h => h.drop (kK <| .refl _)) (fun _ _ _ h => h) (Pk Aa Aa (k := k) rfl (by omega) (show _ = ((2 ^ k : Nat) : Int) by simp) (Int.le_trans (by decide) (Int.natCast_nonneg _)) (Int.le_trans (Int.le_of_lt (Int.ofNat_lt.2 hpk)) (by decide))) <| Ai 4 rfl (by kernel_rfl) (by kernel_rfl) (by kernel_rfl) (by kernel_rfl) rfl rfl (fun _ h => h.drop (kK <| .refl _)) (fun _ _ _ h => h) (T0 Aa Aa (m := usedB b) (k := 2 ^ k) rfl rfl (by omega) (by omega) rfl) ?_
  refine CK 5 rfl (by kernel_rfl) rfl (Hz W8 Aa AY rfl (ih (pre := pre ++ ordK g d b k) (rest := rest1 ++ rest) hG hC (by rw [KO]) (by simp; omega) h5s ho2 (by rw [hxs, hsp]; simp) hJ) fun v6 F7 H10 hr8 hF9 => ⟨(fun h => nomatch h), ?_⟩)
  replace hG := Heap.le_trans hG hF9
  replace hFG := Heap.le_trans hFG hF9
  replace hJ := hm _ _ _ _ hF9 hJ
  obtain ⟨v3, R3, RH3, rfl, hyb0⟩ := hr8
  obtain ⟨yb, rfl, hyb⟩ := GZ hyb0
  refine CK 6 rfl (by kernel_rfl) rfl (AP (MU Aa).quiet ⟨(fun h => nomatch h), ?_⟩)
  refine Bo (by kernel_rfl) ?_ _
  refine Ab ?_
  rcases hyb with ⟨rfl, ho3, hJ2⟩ | ⟨rfl, hJx⟩
  ·refine Ad Aa rfl ?_
   have ho4 : Own 3 1 (subslice v3 0 b.length 1) b.length (b.flatMap natE) R3 := Own.cut (ds := natE k) (m := (b ++ [k]).length) (by simpa using ho3) (by rw [HT]; omega) (by simp)
   refine Aj <| Ab <| Al fun ds => Ao (Ae 2) <| Af rfl (A6 A7 Aa (ho3.plain (by omega))) <| Af rfl (BZ Aa Aa rfl (by omega) (by omega)) <| Af rfl (Do A7 Aa (ho3.plain (by simp; omega)) Aa (k := b.length) (by simp) (by simp)) <| AV <| AT E0 Aa Aa (i := 0) rfl (.here) ho4.one (.here) <| Am <| Az <| Ab <| Al fun ds => Af rfl (AE Aa Aa rfl (by omega) (by omega)) <| Ao (Ae 1) <| Am ?_
   refine Ab ⟨_, m - 1, Off.eq (B3 rfl <| BT rfl <| Cw rfl <| A2), by omega, ?_⟩
   refine ⟨_, _, _, _, hG, hFG, k + 1, by omega, Bb, ho4, ?_, rfl⟩
   rw [Sp hin, ← List.append_assoc]; exact hJ2
  refine Ag Aa rfl <| AI (Ae 1) <| At ?_
  refine A1 (A8 (A1 (A1 (A8 (A1 ?_)))))
  refine C6 rfl Bf .all ?_
  exact ⟨_, _, _, rfl, .inr ⟨rfl, hJx⟩⟩
 refine AI (Ae 1) <| Ac <| Ad Aa (by first | rfl | exact dF (by omega)) ?_
 obtain rfl : k = g := by omega
 refine AC ?_
 refine A0 <| A0 <| A4 <| Ab <| AI (Ae 1) <| At <| C6 rfl Bf .all ?_
 exact ⟨_, _, _, rfl, .inl ⟨rfl, ho, by rw [Ly]; exact hJ⟩⟩
end
section
set_option maxRecDepth 100000
open Go.RowKit
theorem zr_189 : ZeroT Tryz.prog 189 (.nilFunc) := Bv (by kernel_rfl)
theorem sz_189 : SizeT Tryz.prog 189 1 := Bq (by kernel_rfl)
theorem Vr {c : Pap} {g : Nat} (hg : c.gats = (g : Int)) (hg5 : g ≤ 5) {L : Nat} {F0 : Heap} {xs : List (List Nat)} {J : List (List Nat) → Heap → List (Nat × Obj) → Prop} {Jx : Heap → List (Nat × Obj) → Prop} {vs vr vx : Value} {ob d2 d3 d4 : Nat}
   (hm : ∀ pre F F' H, F.le F' → J pre F H → J pre F' H) (hmx : ∀ F F' H, F.le F' → Jx F H → Jx F' H) (hy : YieldO Tryz.prog L F0 xs J Jx) : ∀ d, OrdOk c g L F0 xs J Jx vs vr vx ob d2 d3 d4 d
 | 0 => ord_nil hg hg5 hm hmx hy
 | d + 1 => Vq hg hg5 hm hmx hy (Vr hg hg5 hm hmx hy d)
theorem HO {F0 : Heap} {vs vr vx : Value} {c : Pap} {g : Nat} (hg : c.gats = (g : Int)) (hg5 : g ≤ 5) {d1 : Nat} (z0 : F0 d1 = some (bx 110 [.int .i64 c.run, vs, vr, .int .i64 c.gats, vx])) : IterB Tryz.prog 115 [.pointer (some ⟨d1, 0, none⟩)] F0 3 (fun b => b) (fun _ v => v) (allOrds g) := by
 intro L J Jx F RH hF hm hmx hy h0
 have z1 := hF _ _ z0
 refine OkG.intro Tryz.func115 rfl Tryz.ntmps115 rfl fun w0 => Ac <| Al fun ds => A3 rfl <| Bc Aa rfl fun b1 hb1 nb1 => Am <| Ab <| Ac <| AL (i := 0) rfl hb1 (.here) fun F2 hF3 hz2 => ?_
 replace h0 := hm _ _ _ _ hF3 h0
 replace hF := Heap.le_trans hF hF3
 replace z1 := hF3 _ _ z1
 refine Al fun ds => Ao (Ae 2) <| Af rfl (Ah AA Aa (AM z1 rfl)) <| A3 rfl <| x_make0 A7 D5 rfl Aa Aa hg (by omega) (by omega) fun b8 v8 hb8 nb8 ho8 => A3 rfl <| AN FS rfl fun b4 hb4 nb4 => AV <| AT E0 Aa Aa (i := 0) rfl (.here) ho8.one (.here) <| Am <| Ab <| Ac <| Al fun ds => A3 rfl <| AN zr_189 rfl fun b5 hb5 nb5 => Am <| Ab <| Ac <| Al fun ds => Af rfl (Bu AY) <| AV <| AT sz_189 Aa Aa (i := 0) rfl (.here) rfl (.here) <| Am <| Ab <| AL (i := 0) rfl hb5 (.here) fun F6 hF7 hz4 => ?_
 replace h0 := hm _ _ _ _ hF7 h0
 replace hF := Heap.le_trans hF hF7
 replace z1 := hF7 _ _ z1
 replace hz2 := hF7 _ _ hz2
 refine Al fun ds => Af rfl (Ah NW Aa (AM hz4 rfl)) <| A3 rfl <| Hz W8 Aa AY rfl (Vr hg hg5 hm hmx hy g (ob := b4) (R1 := [(b8, bx 3 (List.replicate g (.int .i64 0)))]) (b := []) (z := 0) (pre := []) (rest := []) hF ⟨z1, hz2, hz4⟩ rfl (by simp) (fun x h => absurd h (by simp)) ho8 (by simp [allOrds]) h0) fun v12 F13 H16 hr14 hF15 => ?_
 replace h0 := hm _ _ _ _ hF15 h0
 obtain ⟨v9, R9, RH9, rfl, hyb0⟩ := hr14
 obtain ⟨yb, rfl, hyb⟩ := GZ hyb0
 refine Am <| MW rfl .nil (.cons _ (List.sublist_append_right _ _)) ?_
 rcases hyb with ⟨-, -, h⟩ | ⟨-, h⟩
 · exact .inl h
 exact .inr h
end
section
def usedTo (c : Pap) (n : Nat) : Nat → Nat
 | 0 => 0
 | i + 1 => if abv (pileF c n) i < c.run * c.gats then usedTo c n i + 1 else usedTo c n i
theorem ME {c : Pap} {n : Nat} : ∀ i, usedTo c n i ≤ i
 | 0 => Nat.le_refl _
 | i + 1 => by have := ME (c := c) (n := n) i; unfold usedTo; split <;> omega
def plN (c : Pap) (n : Nat) (k : Nat) : Nat := placTo c (pileF c n) c.reams.length k
def wtN (c : Pap) (but : Nat) (g : Nat) : Nat := wantTo c but c.seen.length g
def atB (c : Pap) (but n g k : Nat) : Bool := decide ((butNot (wtN c but g) (plN c n k) : Int) = 0)
def fitTo (c : Pap) (but n : Nat) (b : List Nat) (k : Nat) : Bool := (List.range k).all fun j => atB c but n (b[j]?.getD 0) j
def fitO (c : Pap) (but n : Nat) (b : List Nat) : Bool := fitTo c but n b b.length
theorem Ho {c : Pap} {but n : Nat} {b : List Nat} {k : Nat} (h : k < b.length) : fitTo c but n b (k + 1) = (fitTo c but n b k && atB c but n b[k] k) := by
 unfold fitTo; rw [List.range_succ, List.all_append]; simp [h]
theorem VD {c : Pap} {but n : Nat} {b : List Nat} {k m : Nat} (hk : k < m) (hm : m ≤ b.length) (h : atB c but n (b[k]'(by omega)) k = false) : fitTo c but n b m = false := by
 unfold fitTo
 rw [List.all_eq_false]
 refine ⟨k, List.mem_range.2 hk, ?_⟩
 rw [List.getElem?_eq_getElem (by omega), Option.getD_some, h]; simp
def fits (c : Pap) (but n : Nat) (l : List (List Nat)) : List (Nat × List Nat) := (l.filter (fitO c but n)).map fun b => (n, b)
theorem Ni {c : Pap} {but n : Nat} {l : List (List Nat)} {b : List Nat} : fits c but n (l ++ [b]) = fits c but n l ++ (if fitO c but n b = true then [(n, b)] else []) := by
 unfold fits
 rw [List.filter_append, List.map_append]
 by_cases h : fitO c but n b = true <;> simp [h]
def truthsOf (c : Pap) (but : Nat) (ns : List Nat) : List (Nat × List Nat) := ns.flatMap fun n => fits c but n (allOrds c.gats.toNat)
def truthsL (c : Pap) (but : Nat) : List (Nat × List Nat) := truthsOf c but (allPiles c)
theorem M0 {c : Pap} {but n : Nat} {ns : List Nat} : truthsOf c but (ns ++ [n]) = truthsOf c but ns ++ fits c but n (allOrds c.gats.toNat) := by unfold truthsOf; rw [List.flatMap_append]; simp
theorem KT {c : Pap} {but n : Nat} {pre rest : List Nat} {p r : List (List Nat)} {b : List Nat} (h : allPiles c = pre ++ n :: rest) (h2 : allOrds c.gats.toNat = p ++ b :: r) (hf : fitO c but n b = true) :
   ∃ q, truthsL c but = (truthsOf c but pre ++ fits c but n p) ++ (n, b) :: q := by
 refine ⟨fits c but n r ++ truthsOf c but rest, ?_⟩
 unfold truthsL
 rw [h]
 have e1 : truthsOf c but (pre ++ n :: rest) = truthsOf c but pre ++ (fits c but n (allOrds c.gats.toNat) ++ truthsOf c but rest) := by unfold truthsOf; rw [List.flatMap_append, List.flatMap_cons]
 have e2 : fits c but n (p ++ b :: r) = fits c but n p ++ (n, b) :: fits c but n r := by
   unfold fits
   rw [List.filter_append, List.filter_cons, if_pos hf, List.map_append, List.map_cons]
 rw [e1, h2, e2]
 simp [List.append_assoc]
def truthV (c : Pap) (x : Nat × List Nat) (v : Go.Value) : Go.Value :=
 .agg ((([.int .i64 (abv (pileF c x.1) c.reams.length), .int .i64 (usedTo c x.1 c.reams.length : Int)] : List Go.Value) ++ arrV 5 (fun k => (plN c x.1 k : Int)) ++ [v])).toArray
end
section
set_option maxRecDepth 100000
open Go.RowKit
theorem N9 : ZeroT Tryz.prog 122 (.agg #[.int .i64 0, .int .i64 0, .int .i64 0, .int .i64 0, .int .i64 0, .int .i64 0, .int .i64 0, .slice none 0 0]) := Bv (by kernel_rfl)
theorem WA : Body Tryz.prog 114 := AF (by kernel_rfl)
theorem W9 : Body Tryz.prog 115 := AF (by kernel_rfl)
theorem bd_88 : Body Tryz.prog 88 := AF (by kernel_rfl)
theorem bd_89 : Body Tryz.prog 89 := AF (by kernel_rfl)
theorem Wm : Body Tryz.prog 90 := AF (by kernel_rfl)
theorem bd_91 : Body Tryz.prog 91 := AF (by kernel_rfl)
theorem bt_122 : BuildT Tryz.prog 122 [.int .i64 0, .int .i64 0, .int .i64 0, .int .i64 0, .int .i64 0, .int .i64 0, .int .i64 0, .slice none 0 0] [(0, 1), (1, 1), (2, 5), (7, 1)] := Cs N9 (by kernel_rfl) (by decide)
theorem Sr : OneT Tryz.prog 167 := BI (by kernel_rfl)
instance : OneI Tryz.prog 167 := ⟨Sr⟩
theorem UI : SizeT Tryz.prog 173 4 := Bq (by kernel_rfl)
theorem natG {xs : List Nat} {i : Nat} (h : i < xs.length) : (xs.flatMap natE)[i * 1]? = some (.int .i64 (xs[i] : Int)) := FI (enc := natE) (s := 1) (fun _ => rfl) (j := 0) xs i h rfl
theorem Na {g : Nat} : ∀ {d : Nat} {b x : List Nat}, x ∈ ordTo g d b → x.length = b.length + d ∧ ∀ y ∈ x, y ∈ b ∨ y < g
 | 0, b, x, h => by
   obtain rfl : x = b := by simpa [ordTo] using h
   exact ⟨rfl, fun y hy => .inl hy⟩
 | d + 1, b, x, h => by
   unfold ordTo at h
   obtain ⟨k, hk, hx⟩ := List.mem_flatMap.1 h
   by_cases hb : k ∈ b
   · rw [if_pos hb] at hx; cases hx
   rw [if_neg hb] at hx
   obtain ⟨h1, h2⟩ := Na hx
   refine ⟨by rw [h1]; simp; omega, fun y hy => ?_⟩
   rcases h2 y hy with h3 | h3
   · rcases List.mem_append.1 h3 with h4 | h4
     · exact .inl h4
     obtain rfl : y = k := by simpa using h4
     exact .inr (List.mem_range.1 hk)
   exact .inr h3
theorem Dx {g : Nat} {x : List Nat} (h : x ∈ allOrds g) : x.length = g ∧ ∀ y ∈ x, y < g := by
 obtain ⟨h1, h2⟩ := Na h
 exact ⟨by simpa using h1, fun y hy => (h2 y hy).resolve_left (by simp)⟩
theorem Ta {c : Pap} {n : Nat} {b : List Nat} {v : Value} : truthV c (n, b) v = .agg [.int .i64 (abv (pileF c n) c.reams.length), .int .i64 (usedTo c n c.reams.length : Int), .int .i64 (plN c n 0 : Int), .int .i64 (plN c n 1 : Int), .int .i64 (plN c n 2 : Int), .int .i64 (plN c n 3 : Int), .int .i64 (plN c n 4 : Int), v].toArray := rfl
theorem NB {c : Pap} (hv : ValidP c) {but g : Nat} : wtN c but g < 16 := Jv hv _ (Nat.le_refl _)
theorem QX {c : Pap} (hv : ValidP c) {n k : Nat} : plN c n k < 16 := Es hv _ (Nat.le_refl _)
theorem D1 {F0 : Heap} {vs vr vx : Value} {c : Pap} (hr0 : PapR F0 vs vr vx c) (hv : ValidP c) {g : Nat} (hg : c.gats = (g : Int)) (hg5 : g ≤ 5) {but : Nat} (hbut : but < 256) {d1 d2 : Nat} (z01 : F0 d1 = some (bx 110 [.int .i64 c.run, vs, vr, .int .i64 c.gats, vx])) (z02 : F0 d2 = some (bx 3 [.int .i64 (but : Int)])) : IterB Tryz.prog 87 [.pointer (some ⟨d1, 0, none⟩), .pointer (some ⟨d2, 0, none⟩)] F0 3 (fun x => x.2) (truthV c) (truthsL c but) := by
 intro L J Jx F RH hF hm hmx hy h0
 have hr := hr0.mono hF
 have z1 := hF _ _ z01
 have z2 := hF _ _ z02
 have hgn : c.gats.toNat = g := by omega
 have hrr := hv.reams
 have hrg := Ge (a := c.run) (b := c.gats) (A := 500) (B := 5) (by have := hv.run; omega) hv.run.2 (by have := hv.gats; omega) hv.gats.2
 refine OkG.intro Tryz.func87 rfl Tryz.ntmps87 rfl fun w0 => Ac <| Al fun ds => A3 rfl <| Bc Aa rfl fun b1 hb1 nb1 => Am <| Ab <| AL (i := 0) rfl hb1 (.here) fun F2 hF3 hz3 => ?_
 replace hr := hr.mono hF3
 replace h0 := hm _ _ _ _ hF3 h0
 replace hF := Heap.le_trans hF hF3
 replace z1 := hF3 _ _ z1
 replace z2 := hF3 _ _ z2
 refine Ac <| Al fun ds => Af rfl (AO Ch Aa rfl rfl (AZ z1)) <| Af rfl (Ah AA Aa (AM z2 rfl)) <| AS rfl (Ay bd_88 Aa AY (OD hr hv hbut) (fun _ _ h => h)) <| A3 rfl <| AN Js rfl fun b4 hb4 nb4 => AV <| AQ J1 Aa Aa (i := 0) rfl rfl rfl rfl Ec (.here) <| Am <| Ab <| AL (i := 0) rfl hb4 (.here) fun F5 hF6 hz4 => ?_
 replace hr := hr.mono hF6
 replace h0 := hm _ _ _ _ hF6 h0
 replace hF := Heap.le_trans hF hF6
 replace z1 := hF6 _ _ z1
 replace hz3 := hF6 _ _ hz3
 refine Ac <| Al fun ds => Af rfl (AO Ch Aa rfl rfl (AZ z1)) <| A3 rfl <| Be bd_89 Aa AY (Pq hr) fun v7 F8 hr9 hF10 => ?_
 replace hr := hr.mono hF10
 replace h0 := hm _ _ _ _ hF10 h0
 replace hF := Heap.le_trans hF hF10
 replace z1 := hF10 _ _ z1
 replace hz3 := hF10 _ _ hz3
 replace hz4 := hF10 _ _ hz4
 obtain ⟨dp, rfl, hzp⟩ := hr9
 refine Am <| Ab <| Ak ?_
 refine GR rfl Aa (WA) (Ke hr hv hzp) (Heap.le_refl _) (fun pre F H => J (truthsOf c but pre) F H) (fun cd F H => cd = .ret ∧ Jx F H) (fun _ _ _ _ hF h => hm _ _ _ _ hF h) (fun _ _ _ _ hF h => ⟨h.1, hmx _ _ _ hF h.2⟩) h0 (fun L D fn1 tm1 pre1 x1 rest1 G1 RH1 vs1 hxs1 hle1 hJ1 hA1 => ?_) (fun c1 F2 RHx hF2 hJ => ?_) (fun F2 RHx hF2 hJ => ?_)
 ·replace hr := hr.mono hle1
  replace h0 := hm _ _ _ _ hle1 h0
  replace hF := Heap.le_trans hF hle1
  replace z1 := hle1 _ _ z1
  replace hz3 := hle1 _ _ hz3
  replace hz4 := hle1 _ _ hz4
  obtain rfl := hA1
  refine ⟨rfl, rfl, fun w1 => ?_⟩
  refine GA (e' := (upd (upd _ 19 (.agg (arrV 4 (pileF c x1)).toArray)) 20 (.int .i64 (abv (pileF c x1) c.reams.length)))) rfl rfl <| Ac <| AB (.inr (by kernel_rfl)) (fun _ _ h => h) fun ds => A3 rfl <| AN Q6 rfl fun b11 hb11 nb11 => AV <| AQ UI Aa Aa (i := 0) rfl rfl rfl rfl Ec (.here) <| Am <| Ab <| AB (.inr (by kernel_rfl)) (fun _ _ h => h) fun ds => A3 rfl <| AN B1 rfl fun b12 hb12 nb12 => AV <| AT Cc Aa Aa (i := 0) rfl (.here) rfl (.here) <| BP (.one (.next <| .next <| .here) <| .one (.next <| .next <| .here) <| .one (.next <| .here) <| .one (.here) <| .lastb (.last)) <| Am ?_
  refine Ab ⟨_, rfl, ?_⟩
  refine Jr (i := 0) rfl (fun _ => .here) fun oL hoL => AL (i := 2) rfl hb11 (.next <| .next <| .here) fun F13 hF14 hz5 => ?_
  replace hr := hr.mono hF14
  replace h0 := hm _ _ _ _ hF14 h0
  replace hF := Heap.le_trans hF hF14
  replace hle1 := hle1.mono hF14
  replace hJ1 := hm _ _ _ _ hF14 hJ1
  replace z1 := hF14 _ _ z1
  replace hz3 := hF14 _ _ hz3
  replace hz4 := hF14 _ _ hz4
  refine AL (i := 2) rfl hb12 (.next <| .next <| .here) fun F15 hF16 hz6 => ?_
  replace hr := hr.mono hF16
  replace h0 := hm _ _ _ _ hF16 h0
  replace hF := Heap.le_trans hF hF16
  replace hle1 := hle1.mono hF16
  replace hJ1 := hm _ _ _ _ hF16 hJ1
  replace z1 := hF16 _ _ z1
  replace hz3 := hF16 _ _ hz3
  replace hz4 := hF16 _ _ hz4
  replace hz5 := hF16 _ _ hz5
  refine Ak <| Mx <| Ac <| AB (.inr (by kernel_rfl)) (fun _ _ h => h) fun ds => Af rfl (AO Ch Aa rfl rfl (AZ z1)) <| Af rfl (AO Jp Aa rfl rfl (AZ hz5)) <| AS rfl (Ay Wm Aa AY (JB hr hv (CF hv)) (fun _ _ h => h)) <| A3 rfl <| AN Js rfl fun b17 hb17 nb17 => AV <| AQ J1 Aa Aa (i := 0) rfl rfl rfl rfl Ec (.here) <| Am <| Ab <| Ac <| AL (i := 0) rfl hb17 (.here) fun F18 hF19 hz7 => ?_
  replace hr := hr.mono hF19
  replace h0 := hm _ _ _ _ hF19 h0
  replace hF := Heap.le_trans hF hF19
  replace hle1 := hle1.mono hF19
  replace hJ1 := hm _ _ _ _ hF19 hJ1
  replace z1 := hF19 _ _ z1
  replace hz3 := hF19 _ _ hz3
  replace hz4 := hF19 _ _ hz4
  replace hz5 := hF19 _ _ hz5
  replace hz6 := hF19 _ _ hz6
  refine AB (.inr (by kernel_rfl)) (fun _ _ h => h) fun ds => A3 rfl <| AN B1 rfl fun b20 hb20 nb20 => AV <| AT Cc Aa Aa (i := 0) rfl (.here) rfl (.here) <| As (Ae 1) <| Ac <| Ac <| AB (.inr (by kernel_rfl)) (fun _ _ h => h) fun ds => Ao (Ae 2) <| Af rfl (Ah EQ Aa (AM z1 rfl)) <| Af rfl (A6 CD Aa hr.reams.plain) <| As (Ae 1) <| Ak ?_
  refine AJ [9, 10, 28, 29, 30, 31, 32, 33, 34, 35, 36, 37, 38, 39, 40, 41, 42, 43, 44, 45, 46, 47] (fun m e σ => ∃ i : Nat, m + i = c.reams.length ∧ Fct e 28 (.int .i64 (i : Int)) ∧ Fct e 9 (.int .i64 (abv (pileF c x1) i)) ∧ σ = ⟨F18, (b20, bx 3 [.int .i64 (usedTo c x1 i : Int)]) :: (L, oL) :: (D, openO) :: RH1⟩) (c.reams.length) ?_ ?_
  · exact ⟨0, by omega, Bb, Bb, rfl⟩
  rintro m e _ ⟨i, hm1, hs28, hs9, rfl⟩
  by_cases hlt : i < c.reams.length
  ·have hi4 : i < 4 := by omega
   have hpb := CF hv (n := x1) i hlt
   have hab := DJ (CF hv (n := x1)) i (by omega)
   have hus := ME (c := c) (n := x1) i
   refine Ac <| AB (.inr (by kernel_rfl)) (fun _ _ h => h) fun ds => As (Ae 1) <| Ac <| Ag Aa (by first | rfl | exact dT (by omega)) ?_
   by_cases hab2 : abv (pileF c x1) i < c.run * c.gats
   ·refine Aj <| Ab <| Ac <| Ak <| Ac <| AB (.inr (by kernel_rfl)) (fun _ _ h => h) fun ds => As (Ae 2) <| Ac <| Ac <| AB (.inr (by kernel_rfl)) (fun _ _ h => h) fun ds => Ao (Ae 3) <| Af rfl (Ah AA Aa (AM z1 rfl)) <| Ao (Ae 2) <| Af rfl (Ah AA Aa (AM z1 rfl)) <| Af rfl (D9 Aa Aa rfl (by omega) (by omega)) <| As (Ae 1) <| Ag Aa (dT hab2) <| AB (.inr (by kernel_rfl)) (fun _ _ h => h) fun ds => Ao (Ae 1) <| Af rfl (AE Aa Aa rfl (by omega) (by omega)) <| AV <| AT Cc Aa Aa (i := 0) rfl (.here) rfl (.here) <| Am <| Ab <| AB (.inr (by kernel_rfl)) (fun _ _ h => h) fun ds => Ao (Ae 2) <| Af rfl (AR (k := i) JS Aa Aa rfl hi4) <| Af rfl (Ah AA Aa (CellF.own hz5 (CA hi4)).cell) <| Af rfl (AE Aa Aa rfl (by omega) (by omega)) <| Ao (Ae 1) <| Am <| Az <| Ab <| AB (.inr (by kernel_rfl)) (fun _ _ h => h) fun ds => Af rfl (AE Aa Aa rfl (by omega) (by omega)) <| Ao (Ae 1) <| Am ?_
    refine Ab ⟨_, m - 1, Off.eq (B3 rfl <| Ci rfl <| Cw rfl <| A2), by omega, ?_⟩
    have h9 : usedTo c x1 (i + 1) = usedTo c x1 i + 1 := by show (if _ then _ else _) = _; rw [if_pos hab2]
    exact ⟨i + 1, by omega, Bb, Bb, by rw [h9]; rfl⟩
   refine Aj <| Ab <| Ac <| Ak <| Ac <| AB (.inr (by kernel_rfl)) (fun _ _ h => h) fun ds => As (Ae 2) <| Ac <| Ac <| AB (.inr (by kernel_rfl)) (fun _ _ h => h) fun ds => Ao (Ae 3) <| Af rfl (Ah AA Aa (AM z1 rfl)) <| Ao (Ae 2) <| Af rfl (Ah AA Aa (AM z1 rfl)) <| Af rfl (D9 Aa Aa rfl (by omega) (by omega)) <| As (Ae 1) <| Ad Aa (dF hab2) <| Aj <| Ab <| AB (.inr (by kernel_rfl)) (fun _ _ h => h) fun ds => Ao (Ae 2) <| Af rfl (AR (k := i) JS Aa Aa rfl hi4) <| Af rfl (Ah AA Aa (CellF.own hz5 (CA hi4)).cell) <| Af rfl (AE Aa Aa rfl (by omega) (by omega)) <| Ao (Ae 1) <| Am <| Az <| Ab <| AB (.inr (by kernel_rfl)) (fun _ _ h => h) fun ds => Af rfl (AE Aa Aa rfl (by omega) (by omega)) <| Ao (Ae 1) <| Am ?_
   refine Ab ⟨_, m - 1, Off.eq (B3 rfl <| Ci rfl <| A2), by omega, ?_⟩
   have h9 : usedTo c x1 (i + 1) = usedTo c x1 i := by show (if _ then _ else _) = _; rw [if_neg hab2]
   exact ⟨i + 1, by omega, Bb, Bb, by rw [h9]⟩
  refine Ac <| AB (.inr (by kernel_rfl)) (fun _ _ h => h) fun ds => As (Ae 1) <| Ac <| Ad Aa (by first | rfl | exact dF (by omega)) ?_
  obtain rfl : i = c.reams.length := by omega
  refine AL (i := 0) rfl hb20 (.here) fun F22 hF23 hz8 => ?_
  replace hr := hr.mono hF23
  replace h0 := hm _ _ _ _ hF23 h0
  replace hF := Heap.le_trans hF hF23
  replace hle1 := hle1.mono hF23
  replace hJ1 := hm _ _ _ _ hF23 hJ1
  replace z1 := hF23 _ _ z1
  replace hz3 := hF23 _ _ hz3
  replace hz4 := hF23 _ _ hz4
  replace hz6 := hF23 _ _ hz6
  replace hz7 := hF23 _ _ hz7
  refine AC ?_
  refine A0 <| A0 <| A4 <| Ab <| Ac <| Q4 <| Ab <| Ac ?_
  obtain ⟨r0, hr0, hd0⟩ : ∃ r : Loop, oL = Obj.loop r ∧ r.defers = D := ⟨_, hoL, rfl⟩
  subst hr0
  refine AB (.inr (by kernel_rfl)) (fun _ _ h => h) fun ds => Af rfl (AO Ch Aa rfl rfl (AZ z1)) <| A3 rfl <| Be bd_91 Aa AY (MZ hr) fun v24 F25 hr26 hF27 => ?_
  replace h0 := hm _ _ _ _ hF27 h0
  replace hF := Heap.le_trans hF hF27
  replace hle1 := hle1.mono hF27
  replace hJ1 := hm _ _ _ _ hF27 hJ1
  replace hz3 := hF27 _ _ hz3
  replace hz4 := hF27 _ _ hz4
  replace hz6 := hF27 _ _ hz6
  replace hz7 := hF27 _ _ hz7
  replace hz8 := hF27 _ _ hz8
  obtain ⟨do_, rfl, hzo⟩ := hr26
  refine Am <| Ab <| Ak ?_
  refine RN rfl (.head _) Aa (W9) (HO hg hg5 hzo) (Heap.le_refl _) (fun pre2 F H => ∃ H0, H = (L, Obj.loop r0) :: (D, openO) :: H0 ∧ J (truthsOf c but pre1 ++ fits c but x1 pre2) F H0) (fun cd F H => cd = .ret ∧ ∃ H0, H = (L, Obj.loop r0) :: (D, openO) :: H0 ∧ Jx F H0) (fun _ _ _ _ hF h => by obtain ⟨H0, h1, h2⟩ := h; exact ⟨H0, h1, hm _ _ _ _ hF h2⟩) (fun _ _ _ _ hF h => by obtain ⟨h0, H0, h1, h2⟩ := h; exact ⟨h0, H0, h1, hmx _ _ _ hF h2⟩) ⟨_, rfl, by simpa [fits] using hJ1⟩ (fun L2 fn2 tm2 pre2 x2 rest2 G2 RHi v2 R2 hxs2 hle2 hJ2 hO2 => ?_) (fun c2 F2 H1 hF2 hJ => ?_) (fun F2 H1 hF2 hJ => ?_)
  ·replace h0 := hm _ _ _ _ hle2 h0
   replace hF := Heap.le_trans hF hle2
   replace hJ1 := hm _ _ _ _ hle2 hJ1
   replace hz3 := hle2 _ _ hz3
   replace hz4 := hle2 _ _ hz4
   replace hz6 := hle2 _ _ hz6
   replace hz7 := hle2 _ _ hz7
   replace hz8 := hle2 _ _ hz8
   obtain ⟨RH2, rfl, hJ2⟩ := hJ2
   replace hO2 : Own 3 1 v2 x2.length (x2.flatMap natE) R2 := hO2
   obtain ⟨hlen2, hm2⟩ := Dx (show x2 ∈ allOrds g by rw [hxs2]; simp)
   refine ⟨rfl, rfl, fun w2 => ?_⟩
   refine GA (e' := (upd _ 50 v2)) rfl rfl <| AB (.inr (by kernel_rfl)) (fun _ _ h => h) fun ds => Ao (Ae 1) <| Am ?_
   refine Ab ⟨_, rfl, ?_⟩
   refine Jr (i := 0) rfl (fun _ => .here) fun oL2 hoL2 => Ak <| Ac <| Ac <| AB (.inr (by kernel_rfl)) (fun _ _ h => h) fun ds => Ao (Ae 1) <| Af rfl (A6 A7 Aa (hO2.plain (by omega))) <| As (Ae 1) <| Ak ?_
   refine AJ [12, 13, 53, 54, 55, 56, 57, 58, 59, 60, 61, 62, 63, 64, 65, 66] (fun m e σ => ∃ k : Nat, m + k = x2.length ∧ Fct e 53 (.int .i64 (k : Int)) ∧ σ = ⟨G2, (L2, oL2) :: (R2 ++ ((L, Obj.loop r0) :: (D, openO) :: RH2))⟩ ∧ fitTo c but x1 x2 k = true) (x2.length) ?_ ?_
   · exact ⟨0, by omega, Bb, rfl, rfl⟩
   rintro m e _ ⟨k, hm1, hs53, rfl, hft⟩
   by_cases hlt : k < x2.length
   ·have hk5 : k < 5 := by omega
    have hg5 : x2[k] < 5 := by have := hm2 x2[k] (List.getElem_mem hlt); omega
    refine Ac <| AB (.inr (by kernel_rfl)) (fun _ _ h => h) fun ds => As (Ae 1) <| Ac <| Ag Aa (by first | rfl | exact dT (by omega)) ?_
    by_cases hat : atB c but x1 x2[k] k = true
    ·have hat2 : (butNot (wtN c but x2[k]) (plN c x1 k) : Int) = 0 := of_decide_eq_true hat
     refine Aj <| Ab <| Ac <| Ak <| Ac <| AB (.inr (by kernel_rfl)) (fun _ _ h => h) fun ds => Ao (Ae 1) <| Af rfl (Ax (k := k) A7 Aa (hO2.plain (by omega)) Aa rfl hlt) <| Af rfl (Ah AA Aa (CM hO2 (fun p hp => .tail _ (List.mem_append_left _ hp)) (natG hlt))) <| As (Ae 2) <| Ac <| Bx (.inr (by kernel_rfl)) (fun _ _ h => h) (by kernel_rfl) (by kernel_rfl) fun ds => Ba (Ae 1) <| AX rfl (AR (k := x2[k]) Eg Aa Aa rfl hg5) <| AX rfl (Ah AA Aa (CellF.own hz4 (CA hg5)).cell) <| Ba (Ae 1) <| AX rfl (AR (k := k) Eg Aa Aa rfl hk5) <| AX rfl (Ah AA Aa (CellF.own hz7 (CA hk5)).cell) <| AX rfl (Lr Aa Aa (m := wtN c but x2[k]) rfl (by have := NB hv (but := but) (g := x2[k]); omega)) <| Ba (Ae 1) <| B9 <| Ab <| Ad Aa (dF (fun h => h hat2)) <| Aj <| Az <| Ab <| AB (.inr (by kernel_rfl)) (fun _ _ h => h) fun ds => Af rfl (AE Aa Aa rfl (by omega) (by omega)) <| Ao (Ae 1) <| Am ?_
     refine Ab ⟨_, m - 1, Off.eq (B3 rfl <| A2), by omega, ?_⟩
     exact ⟨k + 1, by omega, Bb, rfl, by rw [Ho hlt, hft, hat]; rfl⟩
    replace hat : atB c but x1 x2[k] k = false := by simpa using hat
    have hat2 : ¬ (butNot (wtN c but x2[k]) (plN c x1 k) : Int) = 0 := of_decide_eq_false hat
    refine Aj <| Ab <| Ac <| Ak <| Ac <| AB (.inr (by kernel_rfl)) (fun _ _ h => h) fun ds => Ao (Ae 1) <| Af rfl (Ax (k := k) A7 Aa (hO2.plain (by omega)) Aa rfl hlt) <| Af rfl (Ah AA Aa (CM hO2 (fun p hp => .tail _ (List.mem_append_left _ hp)) (natG hlt))) <| As (Ae 2) <| Ac <| Bx (.inr (by kernel_rfl)) (fun _ _ h => h) (by kernel_rfl) (by kernel_rfl) fun ds => Ba (Ae 1) <| AX rfl (AR (k := x2[k]) Eg Aa Aa rfl hg5) <| AX rfl (Ah AA Aa (CellF.own hz4 (CA hg5)).cell) <| Ba (Ae 1) <| AX rfl (AR (k := k) Eg Aa Aa rfl hk5) <| AX rfl (Ah AA Aa (CellF.own hz7 (CA hk5)).cell) <| AX rfl (Lr Aa Aa (m := wtN c but x2[k]) rfl (by have := NB hv (but := but) (g := x2[k]); omega)) <| Ba (Ae 1) <| B9 <| Ab <| Ag Aa (dT hat2) ?_
    subst hoL2
    refine AC ?_
    refine Dv rfl (A0 (A0 (Dv rfl (A0 (A4 ?_)))))
    refine MQ (.one (.here) <| .blk (.here) <| .one (.here) <| .one (.here) <| .lastb (.last)) ?_
    refine .inl ⟨rfl, _, rfl, hle2, ⟨_, rfl, ?_⟩⟩
    refine ⟨_, rfl, ?_⟩
    have hnf : fitO c but x1 x2 = false := VD hlt (Nat.le_refl _) hat
    rw [Ni, if_neg (by rw [hnf]; simp), List.append_nil]
    exact hJ2
   refine Ac <| AB (.inr (by kernel_rfl)) (fun _ _ h => h) fun ds => As (Ae 1) <| Ac <| Ad Aa (by first | rfl | exact dF (by omega)) ?_
   obtain rfl : k = x2.length := by omega
   have hfit : fitO c but x1 x2 = true := hft
   obtain ⟨q, hsp⟩ := KT (but := but) hxs1 (show allOrds c.gats.toNat = pre2 ++ x2 :: rest2 by rw [hgn]; exact hxs2) hfit
   have hy9 := hy _ (x1, x2) q _ _ _ _ hsp (Heap.le_trans hF (Heap.le_refl _)) hJ2 hO2
   rw [Ta] at hy9
   refine Cl (.one (.here) <| .one (.skip <| .here) <| .one (.skip <| .here) <| .blk (.here) <| .lastb (.last)) <| AC ?_
   refine A0 <| A0 <| A4 <| Ab <| Ac <| DK fun ds => BK rfl rfl (Ah Sr Aa (AM hz3 rfl)) <| BK rfl rfl (Ah AA Aa (AM hz6 rfl)) <| BK rfl rfl (Ah AA Aa (AM hz8 rfl)) <| BK rfl rfl (AO Jq Aa rfl rfl (AZ hz7)) <| BK rfl rfl (A9 Aa) <| BK rfl rfl (BE bt_122 (.cons Aa rfl (.cons Aa rfl (.cons Aa rfl (.cons Aa (by rw [Cr hO2.one]) .nil)))) (.cons rfl rfl (Nat.le_of_ble_eq_true rfl) (.cons (.here) .nil) (.cons rfl rfl (Nat.le_of_ble_eq_true rfl) (.cons (.next <| .here) .nil) (.cons rfl rfl (Nat.le_of_ble_eq_true rfl) (.cons (.next <| .next <| .here) (.cons (.next <| .next <| .next <| .here) (.cons (.next <| .next <| .next <| .next <| .here) (.cons (.next <| .next <| .next <| .next <| .next <| .here) (.cons (.next <| .next <| .next <| .next <| .next <| .next <| .here) .nil))))) (.cons rfl rfl (Nat.le_of_ble_eq_true rfl) (.cons (.next <| .next <| .next <| .next <| .next <| .next <| .next <| .here) .nil) .nil))))) <| WI_yG rfl Aa AY rfl (hy9.frame [(L2, _), (L, _), (D, _)]) fun v33 F34 RH9 hr35 hF36 => ?_
   replace h0 := hm _ _ _ _ hF36 h0
   replace hJ1 := hm _ _ _ _ hF36 hJ1
   replace hle2 := hle2.mono hF36
   replace hJ2 := hm _ _ _ _ hF36 hJ2
   obtain ⟨_, e9, RH3, rfl, hyb0⟩ := hr35
   replace e9 : RH9 = (L2, _) :: (L, _) :: (D, _) :: (R2 ++ RH3) := e9
   subst e9
   obtain ⟨yb, rfl, hyb⟩ := GZ hyb0
   refine BK rfl rfl (MU Aa) <| G9 <| Ab ?_
   rcases hyb with ⟨rfl, hJ2⟩ | ⟨rfl, hJx⟩
   ·refine Ad Aa rfl ?_
    subst hoL2
    refine Aj <| Az <| MQ (.one (.here) <| .blk (.next <| .next <| .here) <| .one (.here) <| .one (.here) <| .lastb (.last)) ?_
    refine .inl ⟨rfl, _, rfl, hle2, ⟨_, rfl, ?_⟩⟩
    exact ⟨_, rfl, by rw [Ni, if_pos hfit, ← List.append_assoc]; exact hJ2⟩
   refine Ag Aa rfl ?_
   subst hoL2
   refine At <| A8 <| Tt (.one (.here) <| .blk (.next <| .next <| .here) <| .one (.here) <| .one (.here) <| .lastb (.last)) ?_
   refine .inr ⟨rfl, _, _, rfl, hle2, ⟨_, rfl, ?_⟩⟩
   exact ⟨rfl, _, rfl, hJx⟩
  ·replace h0 := hm _ _ _ _ hF2 h0
   replace hle1 := hle1.mono hF2
   replace hJ1 := hm _ _ _ _ hF2 hJ1
   obtain ⟨rfl, RH2, rfl, hJx⟩ := hJ
   obtain rfl := Obj.loop.inj hoL
   refine At <| A8 (EF (A8 ?_))
   refine Va (.one (.here) <| .one (.here) <| .lastb (.last)) ?_
   refine .inr ⟨rfl, _, _, rfl, hle1, ?_⟩
   exact ⟨rfl, hJx⟩
  replace h0 := hm _ _ _ _ hF2 h0
  replace hle1 := hle1.mono hF2
  replace hJ1 := hm _ _ _ _ hF2 hJ1
  obtain ⟨RH2, rfl, hJ1⟩ := hJ
  obtain rfl := Obj.loop.inj hoL
  refine Az (scope_n (Az ?_))
  refine BS (.one (.here) <| .one (.here) <| .lastb (.last)) ?_
  refine .inl ⟨rfl, _, rfl, hle1, ?_⟩
  show J (truthsOf c but (pre1 ++ [x1])) _ _
  rw [M0, hgn]; exact hJ1
 ·replace h0 := hm _ _ _ _ hF2 h0
  obtain ⟨rfl, hJx⟩ := hJ
  refine At <| A8 <| C6 rfl .nil .all ?_
  exact .inr hJx
 replace h0 := hm _ _ _ _ hF2 h0
 refine Az <| MX rfl .nil .all ?_
 exact .inl hJ
end
section
open Go.RowKit
def andZ (a : Int) (n : Nat) : Int := if a = -1 then n else ((a.toNat &&& n : Nat) : Int)
theorem q_andZ {P : Program} {B : Base} {e : Env} {σ : St} {ty : TypeId} {pos : String} {af : Array Edge} {d : Option Nat} {gd : Option (Nat × Bool)} {x y : Operand} {a : Int} {n : Nat} {t u : TypeId} (hx : ev e x = .int .i64 a) (hy : ev e y = .int .i64 (n : Int)) (ha : a = -1 ∨ ∃ m : Nat, a = m ∧ m < 16) (hn : n < 16) :
   OpR P B ⟨d, .binOp .and t x y u, ty, pos, af, gd⟩ e σ (.int .i64 (andZ a n)) := by
 rcases ha with rfl | ⟨m, rfl, hm⟩
 · intro w _
   have e3 : Op.intBits .and .i64 (-1) (n : Int) = pure (.int .i64 (IntKind.i64.wrap ((BitVec.ofInt 64 (-1) &&& BitVec.ofInt 64 (n : Int)).toNat : Int))) := rfl
   have e1 : ∀ n : Nat, n < 16 → (IntKind.i64.wrap ((BitVec.ofInt 64 (-1) &&& BitVec.ofInt 64 (n : Int)).toNat : Int)) = andZ (-1) n := by decide
   rw [e1 n hn] at e3
   simp only [execOp, hx, hy, eqGuard, binOp, e3]
   simp
 have h1 : ¬ ((m : Int) = -1) := by omega
 unfold andZ
 rw [if_neg h1, Int.toNat_natCast]
 exact HM hx hy rfl rfl (by omega) (by omega) rfl
def ixN (b : List Nat) (g : Int) : Int := findI (fun x => decide (g = x)) (b.map fun (n : Nat) => (n : Int))
def ownN (c : Pap) (g : Int) (x : Nat × List Nat) : Nat := plN c x.1 (ixN x.2 g).toNat
def sureZ (c : Pap) (g : Int) (l : List (Nat × List Nat)) : Int := (l.map (ownN c g)).foldl andZ (-1)
def mayN (c : Pap) (g : Int) (l : List (Nat × List Nat)) : Nat := (l.map (ownN c g)).foldl (· ||| ·) 0
theorem QI {c : Pap} {g : Int} {l : List (Nat × List Nat)} {x : Nat × List Nat} : sureZ c g (l ++ [x]) = andZ (sureZ c g l) (ownN c g x) := by simp [sureZ, List.foldl_append]
theorem TO {c : Pap} {g : Int} {l : List (Nat × List Nat)} {x : Nat × List Nat} : mayN c g (l ++ [x]) = mayN c g l ||| ownN c g x := by simp [mayN, List.foldl_append]
theorem K0 {c : Pap} (hv : ValidP c) {g : Int} {x : Nat × List Nat} : ownN c g x < 16 := Es hv _ (Nat.le_refl _)
theorem WM {a b : Nat} (h : b < 16) : a &&& b < 16 := Nat.lt_of_le_of_lt Nat.and_le_right h
theorem JY {c : Pap} (hv : ValidP c) {g : Int} : ∀ (l : List (Nat × List Nat)) (a : Int), (a = -1 ∨ ∃ m : Nat, a = m ∧ m < 16) → ((l.map (ownN c g)).foldl andZ a = -1 ∨ ∃ m : Nat, (l.map (ownN c g)).foldl andZ a = m ∧ m < 16)
 | [], _, h => h
 | x :: l, a, h => by
   refine JY hv l (andZ a (ownN c g x)) (.inr ?_)
   unfold andZ
   split
   · exact ⟨_, rfl, K0 hv⟩
   exact ⟨_, rfl, WM (K0 hv)⟩
theorem UK {c : Pap} (hv : ValidP c) {g : Int} {l : List (Nat × List Nat)} : sureZ c g l = -1 ∨ ∃ m : Nat, sureZ c g l = m ∧ m < 16 := JY hv l (-1) (.inl rfl)
theorem L4 {c : Pap} (hv : ValidP c) {g : Int} : ∀ (l : List (Nat × List Nat)) (a : Nat), a < 16 → (l.map (ownN c g)).foldl (· ||| ·) a < 16
 | [], _, h => h
 | _ :: l, _, h => L4 hv l _ (Nat.or_lt_two_pow (n := 4) h (K0 hv))
theorem Ob {c : Pap} (hv : ValidP c) {g : Int} {l : List (Nat × List Nat)} : mayN c g l < 16 := L4 hv l 0 (by decide)
def addE (s : Int × Int × Int) (z : Int) : Int × Int × Int := (if s.2.2 = 0 then z else min s.1 z, if s.2.2 = 0 then z else max s.2.1 z, s.2.2 + 1)
def endsE (l : List Int) : Int × Int × Int := l.foldl addE (0, 0, 0)
theorem FJ {l : List Int} {z : Int} : endsE (l ++ [z]) = addE (endsE l) z := by simp [endsE, List.foldl_append]
theorem Nn : ∀ (l : List Int) (s : Int × Int × Int), (l.foldl addE s).2.2 = s.2.2 + l.length
 | [], s => by simp
 | z :: l, s => by
   show (l.foldl addE (addE s z)).2.2 = _
   rw [Nn l]; show s.2.2 + 1 + (l.length : Int) = _; simp; omega
theorem DZ {l : List Int} : (endsE l).2.2 = l.length := by unfold endsE; rw [Nn]; simp
end
section
set_option maxRecDepth 100000
open Go.RowKit
theorem Q0 : Body Tryz.prog 48 := AF (by kernel_rfl)
theorem Qw : Body Tryz.prog 87 := AF (by kernel_rfl)
instance : FieldI Tryz.prog 122 2 2 := ⟨Bd (by kernel_rfl)⟩
instance : FieldI Tryz.prog 122 3 7 := ⟨Bd (by kernel_rfl)⟩
theorem QH : SizeT Tryz.prog 122 8 := Bq (by kernel_rfl)
theorem cell8 {A B v : Value} {f : Nat → Value} : ∀ {k : Nat}, k < 5 → ([A, B, f 0, f 1, f 2, f 3, f 4, v] : List Value)[2 + k * 1]? = some (f k)
 | 0, _ => rfl
 | 1, _ => rfl
 | 2, _ => rfl
 | 3, _ => rfl
 | 4, _ => rfl
 | _ + 5, h => absurd h (by omega)
theorem Jo {c : Pap} {g : Nat} (hg : c.gats = (g : Int)) {but : Nat} {x : Nat × List Nat} (h : x ∈ truthsL c but) : x.2.length = g ∧ (∀ y ∈ x.2, y < g) ∧ x.1 ∈ allPiles c ∧ fitO c but x.1 x.2 = true := by
 unfold truthsL truthsOf fits at h
 obtain ⟨n, hn, h2⟩ := List.mem_flatMap.1 h
 obtain ⟨b, hb, rfl⟩ := List.mem_map.1 h2
 obtain ⟨h3, h4⟩ := List.mem_filter.1 hb
 rw [show c.gats.toNat = g by omega] at h3
 obtain ⟨h5, h6⟩ := Dx h3
 exact ⟨h5, h6, hn, h4⟩
theorem KZ {F : Heap} {vs vr vx : Value} {c : Pap} (hr : PapR F vs vr vx c) (hv : ValidP c) {g : Nat} (hg : c.gats = (g : Int)) (hg5 : g ≤ 5) {gz : Int} (hin : ∀ x ∈ truthsL c 0, 0 ≤ ixN x.2 gz ∧ ixN x.2 gz < 5) : Ok Tryz.prog 64 [papV vs vr vx c, .int .i64 gz].toArray F fun u _ => u = .tuple #[.int .i64 (sureZ c gz (truthsL c 0)), .int .i64 (mayN c gz (truthsL c 0) : Int), .bool (!(truthsL c 0).isEmpty)] := by
 refine Ok.intro Tryz.func64 rfl Tryz.ntmps64 rfl fun w0 => Ac <| Al fun ds => A3 rfl <| Bc Aa rfl fun b1 hb1 nb1 => A3 rfl <| Bc Aa rfl fun b2 hb2 nb2 => A3 rfl <| AN B1 rfl fun b3 hb3 nb3 => A3 rfl <| AN B1 rfl fun b4 hb4 nb4 => A3 rfl <| AN zr_4 rfl fun b5 hb5 nb5 => Am <| Ab <| AL (i := 4) rfl hb1 (.next <| .next <| .next <| .next <| .here) fun F6 hF7 hz2 => ?_
 replace hr := hr.mono hF7
 refine AL (i := 3) rfl hb2 (.next <| .next <| .next <| .here) fun F8 hF9 hz3 => ?_
 replace hr := hr.mono hF9
 replace hz2 := hF9 _ _ hz2
 refine Ac <| Al fun ds => AV <| AT Cc Aa Aa (i := 2) rfl (.here) rfl (.next <| .next <| .here) <| Am <| Ab <| Ac <| Ac <| Al fun ds => Af rfl (AO Ch Aa rfl rfl (AZ hz2)) <| A3 rfl <| Be Q0 Aa AY (EV hr) fun v10 F11 hr12 hF13 => ?_
 replace hr := hr.mono hF13
 replace hz3 := hF13 _ _ hz3
 obtain ⟨dt, db, rfl, hzt, hzb⟩ := hr12
 refine Am <| Ab <| Ak ?_
 refine Ey rfl Aa (Qw) (D1 hr hv hg hg5 (but := 0) (by decide) hzt hzb) (Heap.le_refl _) (fun pre _ H => H = [(b5, bx 4 [.bool (!pre.isEmpty)]), (b4, bx 3 [.int .i64 (mayN c gz pre : Int)]), (b3, bx 3 [.int .i64 (sureZ c gz pre)])]) (fun _ _ _ => False) (fun _ _ _ _ _ h => h) (fun _ _ _ _ _ h => h) rfl (fun L D fn tm pre x rest G1 RHi v R2 hxs hle1 hJ hO => ?_) (fun _ _ _ _ h => h.elim) (fun F2 H1 hF2 hJ => ?_)
 ·replace hz3 := hle1 _ _ hz3
  replace hO : Own 3 1 v x.2.length (x.2.flatMap natE) R2 := hO
  subst hJ
  refine ⟨rfl, rfl, fun w1 => ?_⟩
  refine GA (e' := (upd _ 11 (.agg [.int .i64 (abv (pileF c x.1) c.reams.length), .int .i64 (usedTo c x.1 c.reams.length : Int), .int .i64 (plN c x.1 0 : Int), .int .i64 (plN c x.1 1 : Int), .int .i64 (plN c x.1 2 : Int), .int .i64 (plN c x.1 3 : Int), .int .i64 (plN c x.1 4 : Int), v].toArray))) rfl rfl <| AB (.inr (by kernel_rfl)) (fun _ _ h => h) fun ds => A3 rfl <| AN N9 rfl fun b14 hb14 nb14 => AV <| AQ QH Aa Aa (i := 0) rfl rfl rfl rfl (by simp [Value.oneCell']; exact hO.one) (.here) <| BP (.one (.next <| .here) <| .one (.next <| .here) <| .one (.here) <| .one (.skip <| .here) <| .one (.skip <| .here) <| .one (.lastS) <| .lastb (.last)) <| Am ?_
  refine Ab ⟨_, rfl, ?_⟩
  have hmn := Ob hv (g := gz) (l := pre)
  have how := K0 hv (g := gz) (x := x)
  have hix := hin x (by rw [hxs]; simp)
  obtain ⟨ki, hki⟩ := Int.eq_ofNat_of_zero_le hix.1
  have hk5 : ki < 5 := by omega
  have hol : x.2.length < 281474976710656 := by have := (Jo hg (show x ∈ truthsL c 0 by rw [hxs]; simp)).1; omega
  refine Ak <| Ac <| AB (.inr (by kernel_rfl)) (fun _ _ h => h) fun ds => Ao (Ae 2) <| Af rfl (Ah AA Aa (AM hz3 rfl)) <| AS rfl (FA N1 Aa AY (fun G _ hG => Ev (Nats.ints (hO.sl (fun _ => rfl) (fun p hp => hG p (by simp [hp])) hol)) gz) (fun _ _ h => h)) <| Ao (Ae 1) <| Af rfl (AR (k := ki) Eg Aa Aa hki hk5) <| Af rfl (Ah AA Aa (Cell.own 2 rfl (cell8 (f := fun k => .int .i64 (plN c x.1 k : Int)) hk5))) <| As (Ae 1) <| Ac <| AB (.inr (by kernel_rfl)) (fun _ _ h => h) fun ds => Ao (Ae 2) <| Af rfl (q_andZ Aa Aa (UK hv) (Es hv _ (Nat.le_refl _))) <| AV <| AT Cc Aa Aa (i := 5) rfl (.here) rfl (.next <| .next <| .next <| .next <| .next <| .here) <| Am <| Ab <| Ac <| AB (.inr (by kernel_rfl)) (fun _ _ h => h) fun ds => Ao (Ae 2) <| Af rfl (T0 Aa Aa (m := mayN c gz pre) rfl rfl (by omega) (by have := QX hv (n := x.1) (k := ki); omega) rfl) <| AV <| AT Cc Aa Aa (i := 4) rfl (.here) rfl (.next <| .next <| .next <| .next <| .here) <| Am <| Ab <| AB (.inr (by kernel_rfl)) (fun _ _ h => h) fun ds => AV <| AT Tk Aa Aa (i := 3) rfl (.here) rfl (.next <| .next <| .next <| .here) <| Am <| Az <| BS (.one (.here) <| .one (.here) <| .blk (.next <| .next <| .next <| .next <| .last) <| .one (.next <| .here) <| .one (.next <| .here) <| .one (.next <| .here) <| .nil) ?_
  refine .inl ⟨rfl, _, rfl, hle1, ⟨_, rfl, ?_⟩⟩
  show _ = _
  rw [QI, TO, show (pre ++ [x]).isEmpty = false by simp]; simp [ownN, hki]
 subst hJ
 refine Az <| Ab <| Ac <| Bn (.inl rfl) (fun _ _ h => h) (kK <| kK <| kK <| .refl _) [5] (by kernel_rfl) fun ds => Ai 0 rfl (by kernel_rfl) (by kernel_rfl) (by kernel_rfl) (by kernel_rfl) rfl rfl (fun _ h => h.drop (kK <| kK <| kK <| .refl _)) (fun _ _ _ h => h) (Ah AA Aa (Cell.own 2 rfl rfl)) <| Ai 1 rfl (by kernel_rfl) (by kernel_rfl) (by kernel_rfl) (by kernel_rfl) rfl rfl (fun _ h => h.drop (kK <| kK <| kK <| .refl _)) (fun _ _ _ h => h) (Ah AA Aa (Cell.own 1 rfl rfl)) <| Ai 2 rfl (by kernel_rfl) (by kernel_rfl) (by kernel_rfl) (by kernel_rfl) rfl rfl (fun _ h => h.drop (kK <| kK <| kK <| .refl _)) (fun _ _ _ h => h) (Ah Vu Aa (Cell.own 0 rfl rfl)) ?_
 refine BG 3 rfl (by kernel_rfl) (AT Cc Aa Aa (i := 2) rfl (.here) rfl (.next <| .next <| .here) ⟨fun _ _ => (fun _ h => h.drop (kK <| kK <| kK <| .refl _)), ?_⟩)
 refine BG 4 rfl (by kernel_rfl) (AT Cc Aa Aa (i := 1) rfl (.here) rfl (.next <| .here) ⟨fun _ _ => (fun _ h => h.drop (kK <| kK <| kK <| .refl _)), ?_⟩)
 refine BG 5 rfl (by kernel_rfl) (AT Tk Aa Aa (i := 0) rfl (.here) rfl (.here) ⟨(fun h => nomatch h), ?_⟩)
 refine Bo (by kernel_rfl) ?_ _
 refine Ab <| At <| Aq rfl (.one AA Aa (Cell.own 2 rfl rfl) (.one AA Aa (Cell.own 1 rfl rfl) (.one Vu Aa (Cell.own 0 rfl rfl) .nil))) ?_
 rfl
end
section
set_option maxRecDepth 100000
open Go.RowKit
theorem Mn : Body Tryz.prog 47 := AF (by kernel_rfl)
theorem bd_64 : Body Tryz.prog 64 := AF (by kernel_rfl)
theorem QK {F : Heap} {vs vr vx : Value} {c : Pap} (hr : PapR F vs vr vx c) (hv : ValidP c) {g : Nat} (hg : c.gats = (g : Int)) (hg5 : g ≤ 5) (hc : (checkP c).2.2 = 0) {gz : Int} (hgz : 0 ≤ gz ∧ gz < c.gats) (hin : ∀ x ∈ truthsL c 0, 0 ≤ ixN x.2 gz ∧ ixN x.2 gz < 5) (hne : truthsL c 0 ≠ []) {s : Nat} (hs : sureZ c gz (truthsL c 0) = (s : Int)) (hs2 : s < 256) : Ok Tryz.prog 25 [papV vs vr vx c, .int .i64 gz].toArray F fun u F' => ∃ a b, u = .tuple #[a, b, .int .i64 0] ∧ Nats F' a (bitsL s) ∧ Nats F' b (bitsL (mayN c gz (truthsL c 0))) := by
 refine Ok.intro Tryz.func25 rfl Tryz.ntmps25 rfl fun w0 => Ac <| Al fun ds => A3 rfl <| Bc Aa rfl fun b1 hb1 nb1 => As (Ae 3) <| Aw (Ae 1) fun ds => AS rfl (Ay Mn Aa AY (DH hr) (fun _ _ h => h)) <| Ao (Ae 3) <| A3 rfl <| AN EN rfl fun b2 hb2 nb2 => AV <| AQ Fr Aa Aa (i := 0) rfl rfl rfl rfl hr.ones (.here) <| As (Ae 1) <| Ac <| Ak <| AI (Ae 3) <| Ad Aa (by rw [hc]; rfl) <| Aw (Ae 2) fun ds => Af rfl (BZ Aa Aa rfl (by omega) (by omega)) <| Ao (Ae 1) <| A3 rfl <| AU A7 B1 rfl (.cons Aa .nil) rfl rfl (by decide) (by simp [Value.oneCell']) fun b3 hb3 nb3 => AW (i := 0) rfl hb3 .here fun F4 hF5 hz6 => ?_
 replace hr := hr.mono hF5
 have hsl7 := Bk hz6
 refine AS rfl (Ay Dg Aa AY (Bw _ _ hsl7) (fun _ _ h => h)) <| As (Ae 1) <| Ad Aa (by simp [hgz.1, show gz ≤ c.gats - 1 by omega, inB]) ?_
 have hml := Ob hv (g := gz) (l := truthsL c 0)
 refine Aj <| Az <| Ab <| Aw (Ae 2) fun ds => AS rfl (Ay bd_64 Aa AY ((KZ hr hv hg hg5 hin).mono (R' := fun u _ => u = .tuple #[.int .i64 (s : Int), .int .i64 (mayN c gz (truthsL c 0) : Int), .bool (!(truthsL c 0).isEmpty)]) fun u F2 _ h => by rw [hs] at h; exact h) (fun _ _ h => h)) <| As (Ae 7) <| Ac <| AI (Ae 2) <| Ad Aa (by cases h : truthsL c 0 with | nil => exact absurd h hne | cons a l => rfl) <| Aj <| Ab <| Aw (Ae 1) fun ds => A3 rfl <| Be Mm Aa AY (FF (n := s) (by omega)) fun v8 F9 hr10 hF11 => ?_
 have hla := hr10
 refine Ao (Ae 1) <| A3 rfl <| Be Mm Aa AY (FF (n := (mayN c gz (truthsL c 0))) (by omega)) fun v12 F13 hr14 hF15 => ?_
 replace hla := hla.mono hF15
 have hlb := hr14
 refine As (Ae 3) <| At <| Aq rfl Bf ?_
 exact ⟨_, _, rfl, hla, hlb⟩
end
section
open Go.RowKit
theorem QT {P : Program} {B : Base} {e : Env} {σ : St} {ty : TypeId} {pos : String} {af : Array Edge} {d : Option Nat} {gd : Option (Nat × Bool)} {T len E k : Nat} {x y : Operand} {l : List Value} {v : Value} {kd : IntKind} {i : Int} (hT : ArrT P T len E 1) (h1 : OneT P E)
   (hx : ev e x = .agg l.toArray) (hy : ev e y = .int kd i) (hi : i = (k : Int)) (hlt : k < len) (hv : l[k]? = some v) : OpR P B ⟨d, .index T x y, ty, pos, af, gd⟩ e σ v := fun w _ => by
 subst hi
 have hs := B6 (P := P) (T := E) (s := 1) hT.2
 have h2 : (0 : Int) ≤ (k : Int) ∧ (k : Int) < (len : Int) := ⟨by omega, by omega⟩
 simp [execOp, hx, hy, Instr.index, asIntOf, Bj hT.1, hlt, hs, part, HI h1, hv]
def stkTo (c : Pap) (x : Nat × List Nat) : Nat → Nat
 | 0 => 0
 | k + 1 => stkTo c x k ||| plN c x.1 k
def stkN (c : Pap) (x : Nat × List Nat) : Nat := stkTo c x 5
theorem HA {c : Pap} (hv : ValidP c) {x : Nat × List Nat} : ∀ k, stkTo c x k < 16
 | 0 => by simp [stkTo]
 | k + 1 => Nat.or_lt_two_pow (n := 4) (HA hv k) (Es hv _ (Nat.le_refl _))
theorem Hj {c : Pap} (hv : ValidP c) {f : Nat → Int} {k s : Nat} : ∀ i, i ≤ c.reams.length → (placTo c f i k).testBit s = true → s < c.stocks.length
 | 0, _, h => by simp [placTo] at h
 | i + 1, hi, h => by
   unfold placTo at h
   have h2 := hv.ream (i := i) (by omega)
   split at h
   · rw [Nat.testBit_or, Nat.testBit_two_pow, Bool.or_eq_true, decide_eq_true_eq] at h
     rcases h with h | h
     · exact Hj hv i (by omega) h
     omega
   exact Hj hv i (by omega) h
theorem MN {c : Pap} (hv : ValidP c) {x : Nat × List Nat} {s : Nat} : ∀ k, (stkTo c x k).testBit s = true → s < c.stocks.length
 | 0, h => by simp [stkTo] at h
 | k + 1, h => by
   unfold stkTo at h
   rw [Nat.testBit_or, Bool.or_eq_true] at h
   exact h.elim (MN hv k) (Hj hv _ (Nat.le_refl _))
theorem Nw {n s : Nat} (h : s ∈ bitsL n) : n.testBit s = true := by
 unfold bitsL at h; exact (List.mem_filter.1 h).2
theorem UM {c : Pap} (hv : ValidP c) {x : Nat × List Nat} {s : Nat} (h : s ∈ bitsL (stkN c x)) : s < c.stocks.length := MN hv 5 (Nw h)
def loY (c : Pap) (x : Nat × List Nat) (j : Nat) : Int := ((bitsL (stkN c x)).take j).foldl (fun m s => max m (c.st s).lo) 0
def hiY (c : Pap) (x : Nat × List Nat) (j : Nat) : Int := ((bitsL (stkN c x)).take j).foldl (fun m s => max m (c.st s).hi) 0
theorem V0 {c : Pap} {x : Nat × List Nat} {j : Nat} (h : j < (bitsL (stkN c x)).length) : loY c x (j + 1) = max (loY c x j) (c.st (bitsL (stkN c x))[j]).lo := by
 unfold loY; rw [List.take_succ_eq_append_getElem h, List.foldl_append]; rfl
theorem V7 {c : Pap} {x : Nat × List Nat} {j : Nat} (h : j < (bitsL (stkN c x)).length) : hiY c x (j + 1) = max (hiY c x j) (c.st (bitsL (stkN c x))[j]).hi := by
 unfold hiY; rw [List.take_succ_eq_append_getElem h, List.foldl_append]; rfl
def loT (c : Pap) (x : Nat × List Nat) : Int := loY c x (bitsL (stkN c x)).length
def hiT (c : Pap) (x : Nat × List Nat) : Int := hiY c x (bitsL (stkN c x)).length
def yearsP (c : Pap) (l : List (Nat × List Nat)) : List Int := l.flatMap fun x => [loT c x, hiT c x]
theorem Ha {c : Pap} : ∀ {l : List (Nat × List Nat)}, (yearsP c l).length = 2 * l.length
 | [] => rfl
 | x :: l => by
   have := Ha (c := c) (l := l)
   unfold yearsP at this ⊢
   simp [this]; omega
theorem O4 {c : Pap} {l : List (Nat × List Nat)} {x : Nat × List Nat} : yearsP c (l ++ [x]) = (yearsP c l ++ [loT c x]) ++ [hiT c x] := by simp [yearsP, List.flatMap_append]
theorem PL : ∀ (l : List Int) (s : Int × Int × Int), 0 ≤ s.2.2 → (∀ z ∈ l, (l.foldl addE s).1 ≤ z) ∧ (s.2.2 ≠ 0 → (l.foldl addE s).1 ≤ s.1)
 | [], s, _ => ⟨by simp, fun _ => Int.le_refl _⟩
 | z :: l, s, h => by
   have h2 : (0 : Int) ≤ (addE s z).2.2 := by show 0 ≤ s.2.2 + 1; omega
   have h3 : (addE s z).2.2 ≠ 0 := by show s.2.2 + 1 ≠ 0; omega
   obtain ⟨k1, k2⟩ := PL l (addE s z) h2
   have k3 := k2 h3
   have k4 : (addE s z).1 ≤ z := by
     show (if s.2.2 = 0 then z else min s.1 z) ≤ z
     split <;> omega
   refine ⟨fun y hy => ?_, fun h0 => ?_⟩
   · rcases List.mem_cons.1 hy with rfl | hy
     · exact Int.le_trans k3 k4
     exact k1 y hy
   have : (addE s z).1 ≤ s.1 := by
     show (if s.2.2 = 0 then z else min s.1 z) ≤ s.1
     rw [if_neg h0]; omega
   exact Int.le_trans k3 this
theorem ST {c : Pap} {l : List (Nat × List Nat)} {x : Nat × List Nat} (h : x ∈ l) : (endsE (yearsP c l)).1 ≤ loT c x := by
 have h1 := (PL (yearsP c l) (0, 0, 0) (by decide)).1
 exact h1 _ (by unfold yearsP; exact List.mem_flatMap.2 ⟨x, h, by simp⟩)
end
section
set_option maxRecDepth 100000
open Go.RowKit
theorem U0 : ZeroT Tryz.prog 146 (.agg #[.int .i64 0, .int .i64 0, .int .i64 0]) := Bv (by kernel_rfl)
theorem zr_147 : ZeroT Tryz.prog 147 (.nilFunc) := Bv (by kernel_rfl)
theorem bd_65 : Body Tryz.prog 65 := AF (by kernel_rfl)
theorem bd_66 : Body Tryz.prog 66 := AF (by kernel_rfl)
instance : FieldI Tryz.prog 122 0 0 := ⟨Bd (by kernel_rfl)⟩
instance : FieldI Tryz.prog 122 1 1 := ⟨Bd (by kernel_rfl)⟩
theorem Ss : OneT Tryz.prog 147 := BI (by kernel_rfl)
instance : OneI Tryz.prog 147 := ⟨Ss⟩
theorem sz_147 : SizeT Tryz.prog 147 1 := Bq (by kernel_rfl)
def leftP (c : Pap) (l : List (Nat × List Nat)) : List Int := l.map fun x => abv (pileF c x.1) c.reams.length - c.run * c.gats
def begunP (c : Pap) (l : List (Nat × List Nat)) : List Int := l.map fun x => (usedTo c x.1 c.reams.length : Int)
theorem Rg {c : Pap} {l : List (Nat × List Nat)} {x : Nat × List Nat} : leftP c (l ++ [x]) = leftP c l ++ [abv (pileF c x.1) c.reams.length - c.run * c.gats] := by simp [leftP]
theorem Qv {c : Pap} {l : List (Nat × List Nat)} {x : Nat × List Nat} : begunP c (l ++ [x]) = begunP c l ++ [(usedTo c x.1 c.reams.length : Int)] := by simp [begunP]
theorem V3 {F : Heap} {vs vr vx : Value} {c : Pap} (hr : PapR F vs vr vx c) (hv : ValidP c) {g : Nat} (hg : c.gats = (g : Int)) (hg5 : g ≤ 5) (hc : (checkP c).2.2 = 0) (hne : truthsL c 0 ≠ []) (hcnt : (truthsL c 0).length < 100000) : Ok Tryz.prog 26 [papV vs vr vx c].toArray F fun u F' => u = .tuple #[.agg #[.int .i64 (endsE (leftP c (truthsL c 0))).1, .int .i64 (endsE (leftP c (truthsL c 0))).2.1], .agg #[.int .i64 (endsE (begunP c (truthsL c 0))).1, .int .i64 (endsE (begunP c (truthsL c 0))).2.1], .int .i64 0] := by
 have hrr := hv.reams
 have hrg := Ge (a := c.run) (b := c.gats) (A := 500) (B := 5) (by have := hv.run; omega) hv.run.2 (by have := hv.gats; omega) hv.gats.2
 refine Ok.intro Tryz.func26 rfl Tryz.ntmps26 rfl fun w0 => Ac <| Al fun ds => A3 rfl <| Bc Aa rfl fun b1 hb1 nb1 => A3 rfl <| AN EE rfl fun b2 hb2 nb2 => A3 rfl <| AN EE rfl fun b3 hb3 nb3 => As (Ae 1) <| Aw (Ae 1) fun ds => AS rfl (Ay Mn Aa AY (DH hr) (fun _ _ h => h)) <| Ao (Ae 3) <| A3 rfl <| AN EN rfl fun b4 hb4 nb4 => AV <| AQ Fr Aa Aa (i := 0) rfl rfl rfl rfl hr.ones (.here) <| As (Ae 1) <| Ac <| AI (Ae 2) <| Ad Aa (by rw [hc]; rfl) <| AL (i := 3) rfl hb1 (.next <| .next <| .next <| .here) fun F5 hF6 hz1 => ?_
 replace hr := hr.mono hF6
 refine AL (i := 0) rfl hb4 (.here) fun F7 hF8 hz5 => ?_
 replace hr := hr.mono hF8
 replace hz1 := hF8 _ _ hz1
 refine Aj <| Ab <| Ac <| Al fun ds => A3 rfl <| AN U0 rfl fun b9 hb9 nb9 => A3 rfl <| AN U0 rfl fun b10 hb10 nb10 => Am <| Ab <| Ac <| Al fun ds => Af rfl (DT AY .nil) <| A3 rfl <| AN zr_147 rfl fun b11 hb11 nb11 => AV <| AT sz_147 Aa Aa (i := 0) rfl (.here) rfl (.here) <| Am <| Ab <| AL (i := 0) rfl hb11 (.here) fun F12 hF13 hz8 => ?_
 replace hr := hr.mono hF13
 replace hz1 := hF13 _ _ hz1
 replace hz5 := hF13 _ _ hz5
 refine Ac <| Ac <| Al fun ds => Af rfl (AO Ch Aa rfl rfl (AZ hz5)) <| A3 rfl <| Be Q0 Aa AY (EV hr) fun v14 F15 hr16 hF17 => ?_
 replace hr := hr.mono hF17
 replace hz1 := hF17 _ _ hz1
 replace hz8 := hF17 _ _ hz8
 obtain ⟨dt, db, rfl, hzt, hzb⟩ := hr16
 refine Am <| Ab <| Ak ?_
 refine Ey rfl Aa (Qw) (D1 hr hv hg hg5 (but := 0) (by decide) hzt hzb) (Heap.le_refl _) (fun pre _ H => H = [(b10, bx 146 [.int .i64 (endsE (begunP c pre)).1, .int .i64 (endsE (begunP c pre)).2.1, .int .i64 (endsE (begunP c pre)).2.2]), (b9, bx 146 [.int .i64 (endsE (leftP c pre)).1, .int .i64 (endsE (leftP c pre)).2.1, .int .i64 (endsE (leftP c pre)).2.2]), (b3, bx 54 [.int .i64 0, .int .i64 0]), (b2, bx 54 [.int .i64 0, .int .i64 0])]) (fun _ _ _ => False) (fun _ _ _ _ _ h => h) (fun _ _ _ _ _ h => h) rfl (fun L D fn tm pre x rest G1 RHi v R2 hxs hle1 hJ hO => ?_) (fun _ _ _ _ h => h.elim) (fun F2 H1 hF2 hJ => ?_)
 ·replace hz1 := hle1 _ _ hz1
  replace hz8 := hle1 _ _ hz8
  replace hO : Own 3 1 v x.2.length (x.2.flatMap natE) R2 := hO
  subst hJ
  refine ⟨rfl, rfl, fun w1 => ?_⟩
  refine GA (e' := (upd _ 23 (.agg [.int .i64 (abv (pileF c x.1) c.reams.length), .int .i64 (usedTo c x.1 c.reams.length : Int), .int .i64 (plN c x.1 0 : Int), .int .i64 (plN c x.1 1 : Int), .int .i64 (plN c x.1 2 : Int), .int .i64 (plN c x.1 3 : Int), .int .i64 (plN c x.1 4 : Int), v].toArray))) rfl rfl <| AB (.inr (by kernel_rfl)) (fun _ _ h => h) fun ds => A3 rfl <| AN N9 rfl fun b18 hb18 nb18 => AV <| AQ QH Aa Aa (i := 0) rfl rfl rfl rfl (by simp [Value.oneCell']; exact hO.one) (.here) <| BP (.one (.next <| .here) <| .one (.next <| .here) <| .one (.here) <| .one (.skip <| .here) <| .one (.skip <| .here) <| .one (.skip <| .here) <| .one (.lastS) <| .lastb (.last)) <| Am ?_
  refine Ab ⟨_, rfl, ?_⟩
  have hml : (endsE (leftP c pre)).2.2 = ((leftP c pre).length : Int) := DZ
  have hmb : (endsE (begunP c pre)).2.2 = ((begunP c pre).length : Int) := DZ
  have hll : (leftP c pre).length = pre.length := by simp [leftP]
  have hlb : (begunP c pre).length = pre.length := by simp [begunP]
  have hpl : pre.length < 100000 := by have := hcnt; rw [hxs] at this; simp at this; omega
  have hab := DJ (CF hv (n := x.1)) c.reams.length (Nat.le_refl _)
  refine Ak <| Ac <| AB (.inr (by kernel_rfl)) (fun _ _ h => h) fun ds => Af rfl (Ah Ss Aa (AM hz8 rfl)) <| Ao (Ae 3) <| Af rfl (Ah AA Aa (AM hz1 rfl)) <| Ao (Ae 1) <| Af rfl (Ah AA Aa (AM hz1 rfl)) <| Af rfl (D9 Aa Aa rfl (by omega) (by omega)) <| Af rfl (BZ Aa Aa rfl (by omega) (by omega)) <| BP (.one (.next <| .next <| .next <| .next <| .here) <| .one (.here) <| .one (.here) <| .one (.here) <| .one (.here) <| .one (.here) <| .one (.here) <| .lastb (.last)) <| A3 rfl <| OA bd_65 Aa AY rfl (SQ (by omega)) fun v23 F24 H27 hr25 hF26 => ?_
  replace hle1 := hle1.mono hF26
  obtain ⟨rfl, rfl⟩ := hr25
  refine Am <| Ab <| AB (.inr (by kernel_rfl)) (fun _ _ h => h) fun ds => Ao (Ae 2) <| BP (.one (.next <| .next <| .next <| .next <| .here) <| .one (.next <| .here) <| .one (.next <| .here) <| .one (.next <| .here) <| .one (.here) <| .one (.here) <| .one (.here) <| .lastb (.last)) <| A3 rfl <| Dz bd_65 Aa AY rfl (SQ (by omega)) fun v33 F34 H37 hr35 hF36 => ?_
  replace hle1 := hle1.mono hF36
  obtain ⟨rfl, rfl⟩ := hr35
  refine Am <| Az <| BS (.one (.next <| .here) <| .one (.next <| .here) <| .blk (.next <| .next <| .next <| .next <| .next <| .last) <| .one (.here) <| .one (.next <| .here) <| .one (.next <| .here) <| .one (.next <| .here) <| .nil) ?_
  refine .inl ⟨rfl, _, rfl, hle1, ⟨_, rfl, ?_⟩⟩
  show _ = _
  rw [Rg, Qv, FJ, FJ]; rfl
 subst hJ
 refine Az <| Ab <| Ac <| AI (Ae 3) <| Ad Aa (dF (fun h0 => by rw [DZ] at h0; exact hne (by simpa [leftP] using h0))) <| Aj <| Ab <| Ac <| Al fun ds => D8 (.cons (.next <| .here) <| .cons (.here) <| .cons (.here) <| .cons (.here) <| .nil) <| A3 rfl <| Dz bd_66 Aa AY rfl OT fun v42 F43 H46 hr44 hF45 => ?_
 obtain ⟨rfl, rfl⟩ := hr44
 refine D8 (.cons (.next <| .here) <| .cons (.here) <| .cons (.here) <| .cons (.here) <| .nil) <| A3 rfl <| Dz bd_66 Aa AY rfl OT fun v51 F52 H55 hr53 hF54 => ?_
 obtain ⟨rfl, rfl⟩ := hr53
 refine AV <| AQ EX Aa Aa (i := 3) rfl rfl rfl rfl (by simp [Value.oneCell']) (.next <| .next <| .next <| .here) <| AV <| AQ EX Aa Aa (i := 2) rfl rfl rfl rfl (by simp [Value.oneCell']) (.next <| .next <| .here) <| As (Ae 1) <| At <| Aq rfl (.agg Cg Aa rfl rfl (Bg 3 rfl) (.agg Cg Aa rfl rfl (Bg 2 rfl) Bf)) ?_
 rfl
end
section
set_option maxRecDepth 100000
open Go.RowKit
theorem zr_115 : ZeroT Tryz.prog 115 (.agg #[.int .i64 0, .int .i64 0, .int .i64 0]) := Bv (by kernel_rfl)
theorem bd_50 : Body Tryz.prog 50 := AF (by kernel_rfl)
theorem bd_51 : Body Tryz.prog 51 := AF (by kernel_rfl)
theorem cell5 {f : Nat → Value} : ∀ {k : Nat}, k < 5 → ([f 0, f 1, f 2, f 3, f 4] : List Value)[k]? = some (f k)
 | 0, _ => rfl
 | 1, _ => rfl
 | 2, _ => rfl
 | 3, _ => rfl
 | 4, _ => rfl
 | _ + 5, h => absurd h (by omega)
theorem O6 {F : Heap} {vs vr vx : Value} {c : Pap} (hr : PapR F vs vr vx c) (hv : ValidP c) {g : Nat} (hg : c.gats = (g : Int)) (hg5 : g ≤ 5) (hc : (checkP c).2.2 = 0) (hne : truthsL c 0 ≠ []) (hcnt : (truthsL c 0).length < 100000) : Ok Tryz.prog 11 [papV vs vr vx c].toArray F fun u F' => u = .tuple #[.agg #[.int .i64 (endsE (yearsP c (truthsL c 0))).1, .int .i64 (endsE (yearsP c (truthsL c 0))).2.1], .int .i64 0] := by
 refine Ok.intro Tryz.func11 rfl Tryz.ntmps11 rfl fun w0 => Ac <| Al fun ds => A3 rfl <| Bc Aa rfl fun b1 hb1 nb1 => A3 rfl <| AN EE rfl fun b2 hb2 nb2 => As (Ae 1) <| Aw (Ae 1) fun ds => AS rfl (Ay Mn Aa AY (DH hr) (fun _ _ h => h)) <| Ao (Ae 3) <| A3 rfl <| AN EN rfl fun b3 hb3 nb3 => AV <| AQ Fr Aa Aa (i := 0) rfl rfl rfl rfl hr.ones (.here) <| As (Ae 1) <| Ac <| AI (Ae 2) <| Ad Aa (by rw [hc]; rfl) <| AL (i := 0) rfl hb3 (.here) fun F4 hF5 hz4 => ?_
 replace hr := hr.mono hF5
 refine Aj <| Ab <| Ac <| Al fun ds => A3 rfl <| AN zr_115 rfl fun b6 hb6 nb6 => Am <| Ab <| Ac <| Ac <| Al fun ds => Af rfl (AO Ch Aa rfl rfl (AZ hz4)) <| A3 rfl <| Be Q0 Aa AY (EV hr) fun v7 F8 hr9 hF10 => ?_
 replace hr := hr.mono hF10
 obtain ⟨dt, db, rfl, hzt, hzb⟩ := hr9
 refine Am <| Ab <| Ak ?_
 refine Ey rfl Aa (Qw) (D1 hr hv hg hg5 (but := 0) (by decide) hzt hzb) (Heap.le_refl _) (fun pre _ H => H = [(b6, bx 115 [.int .i64 (endsE (yearsP c pre)).1, .int .i64 (endsE (yearsP c pre)).2.1, .int .i64 (endsE (yearsP c pre)).2.2]), (b2, bx 54 [.int .i64 0, .int .i64 0]), (b1, bx 26 [.int .i64 c.run, vs, vr, .int .i64 c.gats, vx])]) (fun _ _ _ => False) (fun _ _ _ _ _ h => h) (fun _ _ _ _ _ h => h) rfl (fun L D fn tm pre x rest G1 RHi v R2 hxs hle1 hJ hO => ?_) (fun _ _ _ _ h => h.elim) (fun F2 H1 hF2 hJ => ?_)
 ·replace hr := hr.mono hle1
  replace hO : Own 3 1 v x.2.length (x.2.flatMap natE) R2 := hO
  subst hJ
  refine ⟨rfl, rfl, fun w1 => ?_⟩
  refine GA (e' := (upd _ 26 (.agg [.int .i64 (abv (pileF c x.1) c.reams.length), .int .i64 (usedTo c x.1 c.reams.length : Int), .int .i64 (plN c x.1 0 : Int), .int .i64 (plN c x.1 1 : Int), .int .i64 (plN c x.1 2 : Int), .int .i64 (plN c x.1 3 : Int), .int .i64 (plN c x.1 4 : Int), v].toArray))) rfl rfl <| AB (.inr (by kernel_rfl)) (fun _ _ h => h) fun ds => A3 rfl <| AN N9 rfl fun b11 hb11 nb11 => AV <| AQ QH Aa Aa (i := 0) rfl rfl rfl rfl (by simp [Value.oneCell']; exact hO.one) (.here) <| BP (.one (.next <| .here) <| .one (.next <| .here) <| .one (.here) <| .one (.skip <| .here) <| .one (.skip <| .here) <| .one (.lastS) <| .lastb (.last)) <| Am ?_
  refine Ab ⟨_, rfl, ?_⟩
  refine Jr (i := 0) rfl (fun _ => .here) fun oL hoL => Ak <| Ac <| AB (.inr (by kernel_rfl)) (fun _ _ h => h) fun ds => As (Ae 1) <| Ac <| Ac <| AB (.inr (by kernel_rfl)) (fun _ _ h => h) fun ds => Ao (Ae 1) <| Af rfl (AO (vs := [.int .i64 (plN c x.1 0 : Int), .int .i64 (plN c x.1 1 : Int), .int .i64 (plN c x.1 2 : Int), .int .i64 (plN c x.1 3 : Int), .int .i64 (plN c x.1 4 : Int)]) Jq Aa rfl rfl (Fd 2 rfl (rest := [v]) rfl)) <| As (Ae 1) <| Ak ?_
  refine AJ [8, 10, 29, 30, 31, 32, 33, 34, 35] (fun m e σ => ∃ k : Nat, m + k = 5 ∧ Fct e 29 (.int .i64 (k : Int)) ∧ Fct e 8 (.int .i64 (stkTo c x k : Int)) ∧ σ = ⟨G1, (L, oL) :: (D, openO) :: (b11, bx 122 [.int .i64 (abv (pileF c x.1) c.reams.length), .int .i64 (usedTo c x.1 c.reams.length : Int), .int .i64 (plN c x.1 0 : Int), .int .i64 (plN c x.1 1 : Int), .int .i64 (plN c x.1 2 : Int), .int .i64 (plN c x.1 3 : Int), .int .i64 (plN c x.1 4 : Int), v]) :: (b6, bx 115 [.int .i64 (endsE (yearsP c pre)).1, .int .i64 (endsE (yearsP c pre)).2.1, .int .i64 (endsE (yearsP c pre)).2.2]) :: (b2, bx 54 [.int .i64 0, .int .i64 0]) :: (b1, bx 26 [.int .i64 c.run, vs, vr, .int .i64 c.gats, vx]) :: R2⟩) (5) ?_ ?_
  · exact ⟨0, by omega, Bb, Bb, rfl⟩
  rintro m e _ ⟨k, hm, hs29, hs8, rfl⟩
  by_cases hlt : k < 5
  ·have hsb := HA hv (x := x) k
   have hpb := QX hv (n := x.1) (k := k)
   refine Ac <| AB (.inr (by kernel_rfl)) (fun _ _ h => h) fun ds => As (Ae 1) <| Ac <| Ag Aa (by first | rfl | exact dT (by omega)) <| Aj <| Ab <| Ac <| Ak <| Ac <| AB (.inr (by kernel_rfl)) (fun _ _ h => h) fun ds => Af rfl (QT Eg AA Aa Aa rfl hlt (cell5 (f := fun k => .int .i64 (plN c x.1 k : Int)) hlt)) <| As (Ae 1) <| AB (.inr (by kernel_rfl)) (fun _ _ h => h) fun ds => Ao (Ae 2) <| Af rfl (T0 Aa Aa (m := stkTo c x k) (k := plN c x.1 k) rfl rfl (by omega) (by omega) rfl) <| Ao (Ae 1) <| Am <| Az <| Ab <| AB (.inr (by kernel_rfl)) (fun _ _ h => h) fun ds => Af rfl (AE Aa Aa rfl (by omega) (by omega)) <| Ao (Ae 1) <| Am ?_
   refine Ab ⟨_, m - 1, Off.eq (BT rfl <| BY rfl <| A2), by omega, ?_⟩
   exact ⟨k + 1, by omega, Bb, Bb, rfl⟩
  refine Ac <| AB (.inr (by kernel_rfl)) (fun _ _ h => h) fun ds => As (Ae 1) <| Ac <| Ad Aa (by first | rfl | exact dF (by omega)) ?_
  obtain rfl : k = 5 := by omega
  have hsb := HA hv (x := x) 5
  refine AC ?_
  refine A0 <| A0 <| A4 <| Ab <| Ac <| AB (.inr (by kernel_rfl)) (fun _ _ h => h) fun ds => As (Ae 2) <| Ac <| Ac <| AB (.inr (by kernel_rfl)) (fun _ _ h => h) fun ds => Ao (Ae 1) <| A3 rfl <| Be Mm Aa AY (FF (n := stkN c x) (by have := HA hv (x := x) 5; unfold stkN; omega)) fun v13 F14 hr15 hF16 => ?_
  replace hr := hr.mono hF16
  replace hle1 := hle1.mono hF16
  have hbl := hr15
  refine Af rfl (A6 A7 Aa hbl.plain) <| As (Ae 1) <| Ak ?_
  refine AJ [11, 12, 14, 39, 40, 41, 42, 43, 44, 45, 46, 47, 48, 49, 50, 51, 52, 53, 54, 55, 56, 57, 58, 59, 60, 61] (fun m e σ => ∃ j : Nat, m + j = (bitsL (stkN c x)).length ∧ Fct e 39 (.int .i64 (j : Int)) ∧ Fct e 11 (.int .i64 (loY c x j)) ∧ Fct e 12 (.int .i64 (hiY c x j)) ∧ σ = ⟨F14, (L, oL) :: (D, openO) :: (b11, bx 122 [.int .i64 (abv (pileF c x.1) c.reams.length), .int .i64 (usedTo c x.1 c.reams.length : Int), .int .i64 (plN c x.1 0 : Int), .int .i64 (plN c x.1 1 : Int), .int .i64 (plN c x.1 2 : Int), .int .i64 (plN c x.1 3 : Int), .int .i64 (plN c x.1 4 : Int), v]) :: (b6, bx 115 [.int .i64 (endsE (yearsP c pre)).1, .int .i64 (endsE (yearsP c pre)).2.1, .int .i64 (endsE (yearsP c pre)).2.2]) :: (b2, bx 54 [.int .i64 0, .int .i64 0]) :: (b1, bx 26 [.int .i64 c.run, vs, vr, .int .i64 c.gats, vx]) :: R2⟩) ((bitsL (stkN c x)).length) ?_ ?_
  · exact ⟨0, by omega, Bb, Bb, Bb, rfl⟩
  rintro m2 e2 _ ⟨j, hm2, ht39, ht11, ht12, rfl⟩
  by_cases hlt : j < (bitsL (stkN c x)).length
  ·have hbl9 := GP (stkN c x)
   have hsl := UM hv (List.getElem_mem hlt)
   have hst := UO hsl
   have hrl : c.stocks[(bitsL (stkN c x))[j]].lo = (c.st (bitsL (stkN c x))[j]).lo ∧ c.stocks[(bitsL (stkN c x))[j]].hi = (c.st (bitsL (stkN c x))[j]).hi := by rw [hst]; exact ⟨rfl, rfl⟩
   refine Ac <| AB (.inr (by kernel_rfl)) (fun _ _ h => h) fun ds => As (Ae 1) <| Ac <| Ag Aa (by first | rfl | exact dT (by omega)) <| Aj <| Ab <| Ac <| Ak <| Ac <| AB (.inr (by kernel_rfl)) (fun _ _ h => h) fun ds => Af rfl (Ax (k := j) A7 Aa hbl.plain Aa rfl hlt) <| Af rfl (Ah AA Aa (hbl.cell1 hlt rfl)) <| As (Ae 1) <| Bx (.inr (by kernel_rfl)) (fun _ _ h => h) (by kernel_rfl) (by kernel_rfl) fun ds => Ba (Ae 4) <| AX rfl (Ax (k := (bitsL (stkN c x))[j]) Cd Aa hr.stocks.plain Aa rfl hsl) <| Ba (Ae 2) <| AX rfl (Ah AA Aa (hr.stocks.cell (j := 1 + 0) hsl rfl)) <| Ba (Ae 5) <| AX rfl (Ax (k := (bitsL (stkN c x))[j]) Cd Aa hr.stocks.plain Aa rfl hsl) <| Ba (Ae 2) <| AX rfl (Ah AA Aa (hr.stocks.cell (j := 1 + 1) hsl rfl)) <| Ba (Ae 3) <| B9 <| Az <| Ab <| AB (.inr (by kernel_rfl)) (fun _ _ h => h) fun ds => Af rfl (AE Aa Aa rfl (by omega) (by omega)) <| Ao (Ae 1) <| Am ?_
   refine Ab ⟨_, m2 - 1, Off.eq (B3 rfl <| BT rfl <| Cw rfl <| A2), by omega, ?_⟩
   exact ⟨j + 1, by omega, Bb, BN (congrArg (Value.int .i64) (by rw [V0 hlt, hrl.1])), BN (congrArg (Value.int .i64) (by rw [V7 hlt, hrl.2])), rfl⟩
  refine Ac <| AB (.inr (by kernel_rfl)) (fun _ _ h => h) fun ds => As (Ae 1) <| Ac <| Ad Aa (by first | rfl | exact dF (by omega)) ?_
  obtain rfl : j = (bitsL (stkN c x)).length := by omega
  subst hoL
  have hmt : (endsE (yearsP c pre)).2.2 = ((yearsP c pre).length : Int) := DZ
  have hyl := Ha (c := c) (l := pre)
  have hpl : pre.length < 100000 := by have := hcnt; rw [hxs] at this; simp at this; omega
  refine AC ?_
  refine A0 <| A0 <| A4 <| Ab <| Ac <| AB (.inr (by kernel_rfl)) (fun _ _ h => h) fun ds => Ao (Ae 1) <| BP (.one (.next <| .next <| .next <| .here) <| .one (.here) <| .one (.here) <| .one (.here) <| .one (.here) <| .one (.here) <| .lastb (.last)) <| A3 rfl <| Dz bd_50 Aa AY rfl (SR (by omega)) fun v22 F23 H26 hr24 hF25 => ?_
  replace hle1 := hle1.mono hF25
  obtain ⟨rfl, rfl⟩ := hr24
  refine Am <| Ab <| AB (.inr (by kernel_rfl)) (fun _ _ h => h) fun ds => Ao (Ae 1) <| A3 rfl <| Dz bd_50 Aa AY rfl (SR (by omega)) fun v31 F32 H35 hr33 hF34 => ?_
  replace hle1 := hle1.mono hF34
  obtain ⟨rfl, rfl⟩ := hr33
  refine Am <| Az <| BS (.one (.next <| .here) <| .one (.next <| .here) <| .blk (.next <| .next <| .next <| .next <| .last) <| .one (.here) <| .one (.next <| .here) <| .one (.next <| .here) <| .nil) ?_
  refine .inl ⟨rfl, _, rfl, hle1, ⟨_, rfl, ?_⟩⟩
  show _ = _
  rw [O4, FJ, FJ]; rfl
 subst hJ
 refine Az <| Ab ?_
 by_cases h0 : (endsE (yearsP c (truthsL c 0))).2.2 = 0
 ·refine Ac <| AI (Ae 3) <| Ag Aa (dT h0) <| Ac <| Al fun ds => Af rfl (BE GX .nil .nil) <| AV <| AQ EX Aa Aa (i := 1) rfl rfl rfl rfl (by simp [Value.oneCell']) (.next <| .here) <| As (Ae 1) <| At <| A1 <| Aq rfl (.agg Cg Aa rfl rfl (Bg 1 rfl) Bf) ?_
  rw [DZ, Ha] at h0
  exact absurd hne (fun h => h (List.eq_nil_of_length_eq_zero (by omega)))
 refine Ac <| AI (Ae 3) <| Ad Aa (dF h0) <| Aj <| Ab <| Ac <| Al fun ds => A3 rfl <| Dz bd_51 Aa AY rfl UP fun v40 F41 H44 hr42 hF43 => ?_
 obtain ⟨rfl, rfl⟩ := hr42
 refine AV <| AQ EX Aa Aa (i := 1) rfl rfl rfl rfl (by simp [Value.oneCell']) (.next <| .here) <| As (Ae 1) <| At <| Aq rfl (.agg Cg Aa rfl rfl (Bg 1 rfl) Bf) ?_
 rfl
end
section
set_option maxRecDepth 100000
open Go.RowKit
theorem bd_67 : Body Tryz.prog 67 := AF (by kernel_rfl)
def bestW (c : Pap) : Nat → Int
 | 0 => -1
 | k + 1 => if 0 ≤ bestW c k ∧ fewB k (bestW c k).toNat = false then bestW c k else if truthsL c k = [] then bestW c k else (k : Int)
theorem Qs {c : Pap} : ∀ k : Nat, bestW c k < (k : Int)
 | 0 => by simp [bestW]
 | k + 1 => by
   have := Qs (c := c) k
   unfold bestW
   split
   · push_cast; omega
   split
   · push_cast; omega
   push_cast; omega
theorem SV {F : Heap} {vs vr vx : Value} {c : Pap} (hr : PapR F vs vr vx c) (hv : ValidP c) {g : Nat} (hg : c.gats = (g : Int)) (hg5 : g ≤ 5) (hc : (checkP c).2.2 = 0) {w : Nat} (hw : bestW c (2 ^ c.seen.length) = (w : Int)) (hw2 : w < 256) : Ok Tryz.prog 27 [papV vs vr vx c].toArray F fun u F' => ∃ a, u = .tuple #[a, .int .i64 0] ∧ Nats F' a (bitsL w) := by
 refine Ok.intro Tryz.func27 rfl Tryz.ntmps27 rfl fun w0 => Ac <| Al fun ds => A3 rfl <| Bc Aa rfl fun b1 hb1 nb1 => As (Ae 2) <| Aw (Ae 1) fun ds => AS rfl (Ay Mn Aa AY (DH hr) (fun _ _ h => h)) <| Ao (Ae 3) <| A3 rfl <| AN EN rfl fun b2 hb2 nb2 => AV <| AQ Fr Aa Aa (i := 0) rfl rfl rfl rfl hr.ones (.here) <| As (Ae 1) <| Ac <| AI (Ae 2) <| Ad Aa (by rw [hc]; rfl) <| AL (i := 1) rfl hb1 (.next <| .here) fun F3 hF4 hz1 => ?_
 replace hr := hr.mono hF4
 refine AL (i := 0) rfl hb2 (.here) fun F5 hF6 hz4 => ?_
 replace hr := hr.mono hF6
 replace hz1 := hF6 _ _ hz1
 refine Aj <| Ab <| Ac <| Al fun ds => A3 rfl <| AN B1 rfl fun b7 hb7 nb7 => AV <| AT Cc Aa Aa (i := 0) rfl (.here) rfl (.here) <| Am <| Ab <| Ac <| Ac ?_
 have hp2 : 2 ^ c.seen.length ≤ 2 ^ 8 := Nat.pow_le_pow_right (by omega) hv.seen
 refine Al fun ds => Ao (Ae 1) <| Af rfl (Ah NV Aa (AM hz1 rfl)) <| Af rfl (A6 Cu Aa hr.seen.plain) <| Af rfl (Pk Aa Aa (k := c.seen.length) rfl (by have := hv.seen; omega) (show _ = ((2 ^ c.seen.length : Nat) : Int) by simp) (Int.le_trans (by decide) (Int.natCast_nonneg _)) (Int.le_trans (Int.ofNat_le.2 hp2) (by decide))) <| As (Ae 1) <| Ak ?_
 refine AJ [7, 20, 21, 22, 23, 24, 25, 26, 27, 28, 29, 30, 31, 32, 33, 34, 35, 36] (fun m e σ => ∃ G, F5.le G ∧ ∃ k : Nat, m + k = 2 ^ c.seen.length ∧ Fct e 20 (.int .i64 (k : Int)) ∧ σ = ⟨G, [(b7, bx 3 [.int .i64 (bestW c k)])]⟩) (2 ^ c.seen.length) ?_ ?_
 · exact ⟨_, Heap.le_refl _, 0, by omega, Bb, rfl⟩
 rintro m e _ ⟨G, hFG, k, hm, hs20, rfl⟩; replace hr := hr.mono hFG; replace hz1 := hFG _ _ hz1; replace hz4 := hFG _ _ hz4
 by_cases hlt : k < 2 ^ c.seen.length
 ·refine AI (Ae 1) <| Ac <| Ag Aa (by first | rfl | exact dT (by omega)) ?_
  by_cases hb0 : 0 ≤ bestW c k
  ·obtain ⟨nb, hnb⟩ := Int.eq_ofNat_of_zero_le hb0
   have hbl := Qs (c := c) k
   rw [hnb]
   have hb0n : (0 : Int) ≤ (nb : Int) := Int.natCast_nonneg _
   refine Aj <| Ab <| Ac <| Ak <| Aw (Ae 1) fun ds => A3 rfl <| AN B1 rfl fun b9 hb9 nb9 => AV <| AT Cc Aa Aa (i := 0) rfl (.here) rfl (.here) <| Am <| Ab <| Ac <| Aw (Ae 3) fun ds => Ap rfl rfl Aa (dT hb0n) <| Ao (Ae 1) <| Ap rfl rfl Aa (dT hb0n) <| Ao (Ae 1) <| Ap rfl rfl Aa (dT hb0n) <| AS rfl (Ay bd_67 Aa AY (VF (a := k) (b := nb) (by omega) (by omega)) (fun _ _ h => h)) <| Ap rfl rfl Aa (dT hb0n) <| Ao (Ae 1) <| Af rfl (Au Aa (dT hb0n) Aa) <| Am <| Ab ?_
   by_cases hfw : fewB k nb = true
   ·refine Ad Aa (by rw [hfw]; rfl) <| Aj <| Ab <| Ac <| Al fun ds => Af rfl (AO Ch Aa rfl rfl (AZ hz4)) <| Ao (Ae 1) <| A3 rfl <| Be Q0 Aa AY (EV hr) fun v10 F11 hr12 hF13 => ?_
    replace hr := hr.mono hF13
    replace hFG := Heap.le_trans hFG hF13
    obtain ⟨dt, db, rfl, hzt, hzb⟩ := hr12
    refine Am <| Ab <| Ak ?_
    refine Ey rfl Aa (Qw) (D1 hr hv hg hg5 (but := k) (by omega) hzt hzb) (Heap.le_refl _) (fun pre _ H => pre = [] ∧ H = [(b9, bx 3 [.int .i64 (k : Int)]), (b7, bx 3 [.int .i64 (nb : Int)])]) (fun cd _ H => cd = .exit 2 ∧ truthsL c k ≠ [] ∧ H = [(b9, bx 3 [.int .i64 (k : Int)]), (b7, bx 3 [.int .i64 (k : Int)])]) (fun _ _ _ _ _ h => h) (fun _ _ _ _ _ h => h) ⟨rfl, rfl⟩ (fun L D fn tm pre x rest G1 RHi v R2 hxs hle1 hJ hO => ?_) (fun c F2 H1 hF2 hJ => ?_) (fun F2 H1 hF2 hJ => ?_)
    ·replace hO : Own 3 1 v x.2.length (x.2.flatMap natE) R2 := hO
     obtain ⟨rfl, rfl⟩ := hJ
     refine ⟨rfl, rfl, fun w1 => ?_⟩
     refine GA (e' := (upd _ 34 (.agg [.int .i64 (abv (pileF c x.1) c.reams.length), .int .i64 (usedTo c x.1 c.reams.length : Int), .int .i64 (plN c x.1 0 : Int), .int .i64 (plN c x.1 1 : Int), .int .i64 (plN c x.1 2 : Int), .int .i64 (plN c x.1 3 : Int), .int .i64 (plN c x.1 4 : Int), v].toArray))) rfl rfl <| Aj ?_
     refine Ab ⟨_, rfl, ?_⟩
     refine Cl (.one (.here) <| .one (.here) <| .one (.skip <| .here) <| .one (.lastS) <| .lastb (.last)) <| Ak <| Ac <| AB (.inr (by kernel_rfl)) (fun _ _ h => h) fun ds => Ao (Ae 1) <| AV <| AT Cc Aa Aa (i := 3) rfl (.here) rfl (.next <| .next <| .next <| .here) <| Am <| Ab <| AC <| Dv rfl <| Pf (.one (.here) <| .one (.here) <| .blk (.next <| .next <| .last) <| .one (.here) <| .one (.here) <| .nil) ?_
     refine .inr ⟨rfl, _, _, rfl, hle1, ⟨_, rfl, ?_⟩⟩
     exact ⟨rfl, by rw [hxs]; simp, rfl⟩
    ·replace hFG := Heap.le_trans hFG hF2
     obtain ⟨rfl, hnn, rfl⟩ := hJ
     refine AC <| A4 <| Az <| Ab <| By (fun _ _ h => h.drop (kD <| kK <| .refl _)) <| Al fun ds => Af rfl (AE Aa Aa rfl (by omega) (by omega)) <| Ao (Ae 1) <| Am ?_
     refine Ab ⟨_, m - 1, Off.eq (B3 rfl <| A2), by omega, ?_⟩
     refine ⟨_, hFG, k + 1, by omega, Bb, ?_⟩
     rw [bestW, if_neg (by rw [hnb, Int.toNat_natCast, hfw]; simp), if_neg hnn]
    replace hFG := Heap.le_trans hFG hF2
    obtain ⟨hnil, rfl⟩ := hJ
    refine Az (Az (Ab ?_))
    refine By (fun _ _ h => h.drop (kD <| kK <| .refl _)) <| Al fun ds => Af rfl (AE Aa Aa rfl (by omega) (by omega)) <| Ao (Ae 1) <| Am ?_
    refine Ab ⟨_, m - 1, Off.eq (B3 rfl <| A2), by omega, ?_⟩
    refine ⟨_, hFG, k + 1, by omega, Bb, ?_⟩
    rw [bestW, if_neg (by rw [hnb, Int.toNat_natCast, hfw]; simp), if_pos hnil, hnb]
   replace hfw : fewB k nb = false := by simpa using hfw
   refine Ag Aa (by rw [hfw]; rfl) <| AC <| A0 <| A4 <| Ab <| By (fun _ _ h => h.drop (kD <| kK <| .refl _)) <| Al fun ds => Af rfl (AE Aa Aa rfl (by omega) (by omega)) <| Ao (Ae 1) <| Am ?_
   refine Ab ⟨_, m - 1, Off.eq (BT rfl <| Ci rfl <| BY rfl <| A2), by omega, ?_⟩
   refine ⟨_, hFG, k + 1, by omega, Bb, ?_⟩
   rw [bestW, if_pos ⟨hb0, by rw [hnb, Int.toNat_natCast, hfw]⟩, hnb]
  refine Aj <| Ab <| Ac <| Ak <| Aw (Ae 1) fun ds => A3 rfl <| AN B1 rfl fun b14 hb14 nb14 => AV <| AT Cc Aa Aa (i := 0) rfl (.here) rfl (.here) <| Am <| Ab <| Ac <| Aw (Ae 3) fun ds => Ar rfl rfl Aa (.inl (congrArg Value.bool (dF hb0))) rfl <| Ar rfl rfl Aa (.inl (congrArg Value.bool (dF hb0))) rfl <| Ar rfl rfl Aa (.inl (congrArg Value.bool (dF hb0))) rfl <| Ar rfl rfl Aa (.inl (congrArg Value.bool (dF hb0))) rfl <| Af rfl (A5 Aa (dF hb0) Aa) <| Am <| Ab <| Ad Aa rfl <| Aj <| Ab <| Ac <| Al fun ds => Af rfl (AO Ch Aa rfl rfl (AZ hz4)) <| Ao (Ae 1) <| A3 rfl <| Be Q0 Aa AY (EV hr) fun v15 F16 hr17 hF18 => ?_
  replace hr := hr.mono hF18
  replace hFG := Heap.le_trans hFG hF18
  obtain ⟨dt, db, rfl, hzt, hzb⟩ := hr17
  refine Am <| Ab <| Ak ?_
  refine Ey rfl Aa (Qw) (D1 hr hv hg hg5 (but := k) (by omega) hzt hzb) (Heap.le_refl _) (fun pre _ H => pre = [] ∧ H = [(b14, bx 3 [.int .i64 (k : Int)]), (b7, bx 3 [.int .i64 (bestW c k)])]) (fun cd _ H => cd = .exit 2 ∧ truthsL c k ≠ [] ∧ H = [(b14, bx 3 [.int .i64 (k : Int)]), (b7, bx 3 [.int .i64 (k : Int)])]) (fun _ _ _ _ _ h => h) (fun _ _ _ _ _ h => h) ⟨rfl, rfl⟩ (fun L D fn tm pre x rest G1 RHi v R2 hxs hle1 hJ hO => ?_) (fun c F2 H1 hF2 hJ => ?_) (fun F2 H1 hF2 hJ => ?_)
  ·replace hO : Own 3 1 v x.2.length (x.2.flatMap natE) R2 := hO
   obtain ⟨rfl, rfl⟩ := hJ
   refine ⟨rfl, rfl, fun w1 => ?_⟩
   refine GA (e' := (upd _ 34 (.agg [.int .i64 (abv (pileF c x.1) c.reams.length), .int .i64 (usedTo c x.1 c.reams.length : Int), .int .i64 (plN c x.1 0 : Int), .int .i64 (plN c x.1 1 : Int), .int .i64 (plN c x.1 2 : Int), .int .i64 (plN c x.1 3 : Int), .int .i64 (plN c x.1 4 : Int), v].toArray))) rfl rfl <| Aj ?_
   refine Ab ⟨_, rfl, ?_⟩
   refine Cl (.one (.here) <| .one (.here) <| .one (.skip <| .here) <| .one (.lastS) <| .lastb (.last)) <| Ak <| Ac <| AB (.inr (by kernel_rfl)) (fun _ _ h => h) fun ds => Ao (Ae 1) <| AV <| AT Cc Aa Aa (i := 3) rfl (.here) rfl (.next <| .next <| .next <| .here) <| Am <| Ab <| AC <| Dv rfl <| Pf (.one (.here) <| .one (.here) <| .blk (.next <| .next <| .last) <| .one (.here) <| .one (.here) <| .nil) ?_
   refine .inr ⟨rfl, _, _, rfl, hle1, ⟨_, rfl, ?_⟩⟩
   exact ⟨rfl, by rw [hxs]; simp, rfl⟩
  ·replace hFG := Heap.le_trans hFG hF2
   obtain ⟨rfl, hnn, rfl⟩ := hJ
   refine AC <| A4 <| Az <| Ab <| By (fun _ _ h => h.drop (kD <| kK <| .refl _)) <| Al fun ds => Af rfl (AE Aa Aa rfl (by omega) (by omega)) <| Ao (Ae 1) <| Am ?_
   refine Ab ⟨_, m - 1, Off.eq (B3 rfl <| A2), by omega, ?_⟩
   refine ⟨_, hFG, k + 1, by omega, Bb, ?_⟩
   rw [bestW, if_neg (fun h => hb0 h.1), if_neg hnn]
  replace hFG := Heap.le_trans hFG hF2
  obtain ⟨hnil, rfl⟩ := hJ
  refine Az (Az (Ab ?_))
  refine By (fun _ _ h => h.drop (kD <| kK <| .refl _)) <| Al fun ds => Af rfl (AE Aa Aa rfl (by omega) (by omega)) <| Ao (Ae 1) <| Am ?_
  refine Ab ⟨_, m - 1, Off.eq (B3 rfl <| A2), by omega, ?_⟩
  refine ⟨_, hFG, k + 1, by omega, Bb, ?_⟩
  rw [bestW, if_neg (fun h => hb0 h.1), if_pos hnil]
 refine AI (Ae 1) <| Ac <| Ad Aa (by first | rfl | exact dF (by omega)) ?_
 obtain rfl : k = 2 ^ c.seen.length := by omega
 rw [hw]
 refine AC ?_
 refine A0 <| A0 <| A4 <| Ab <| Ac <| AI (Ae 2) <| Ad Aa (dF (by omega)) <| Aj <| Ab <| Aw (Ae 1) fun ds => A3 rfl <| Be Mm Aa AY (FF (n := w) hw2) fun v19 F20 hr21 hF22 => ?_
 have hla := hr21
 refine As (Ae 2) <| At <| Aq rfl Bf ?_
 exact ⟨_, rfl, hla⟩
end
section
open Go.RowKit
section
variable {P : Program} {n : Nat} {B : Base} {e : Env} {σ : St} {d : Option Nat} {ty : TypeId} {pos : String} {af : Array Edge} {gd : Option (Nat × Bool)}
def iterO (m k : Nat) (ss : List Nat) : Obj := .mapIter (some m) k ss.toArray k
theorem U2 {M K E b : Nat} {x : Operand} {es : List (Value × Value)} {Q : Value → St → Prop} (hT : P.underlying M = some (.map K E)) (hx : ev e x = .map (some b)) (hm : σ.F b = some (mapO es))
   (hn : ∀ c, B.w0.heap.size ≤ c → σ.F c = none → Q (.pointer (some ⟨c, 0, none⟩)) ⟨σ.F, (c, iterO b es.length []) :: σ.H⟩) : OpX P n B ⟨d, .range M x, ty, pos, af, gd⟩ e σ Q := .run fun w hw => by
 have hg := CI (P := P) (hw.sub _ _ hm)
 refine ⟨_, _, _, .inl ?_, hw.alloc (iterO b es.length []), hn _ hw.size hw.fresh⟩
 simp only [execOp, hx, Instr.range, Sem.run_bind, Bj hT, Result.andThen_ok, hg, mapO]
 rfl
theorem EK {es : List (Value × Value)} {x : MapEntry} (h : x ∈ es.zipIdx.map entryO) : ∃ k, ∃ hk : k < es.length, x = ⟨es[k].1, es[k].2, k⟩ := by
 obtain ⟨j, p, h1, h2⟩ := P1 h
 obtain ⟨hk, rfl⟩ := List.getElem?_eq_some_iff.1 h1
 exact ⟨j, hk, h2⟩
theorem LN {es : List (Value × Value)} {k : Nat} (hk : k < es.length) : (⟨es[k].1, es[k].2, k⟩ : MapEntry) ∈ es.zipIdx.map entryO := by
 refine List.mem_map.2 ⟨(es[k], k), ?_, rfl⟩
 rw [List.mem_zipIdx_iff_getElem?]; exact List.getElem?_eq_getElem hk
theorem PJ {α : Type} {p : α → Bool} {l : List α} (h : ∀ x ∈ l, p x = false) : l.filter p = [] := by
 rw [List.filter_eq_nil_iff]; intro x hx; rw [h x hx]; simp
theorem Rp {α : Type} {p : α → Bool} {l : List α} (h : ∀ x ∈ l, p x = true) : l.filter p = l := List.filter_eq_self.2 h
theorem Ts {b c : Nat} {es : List (Value × Value)} {ss : List Nat} {w : World} (hc : w.heap[c]? = some (iterO b es.length ss)) (hb : w.heap[b]? = some (mapO es)) :
   ((∀ k, k < es.length → k ∈ ss) ∧ (Instr.next (.pointer (some ⟨c, 0, none⟩)) false ty).run P w = .ok (.tuple #[.bool false]) w) ∨
   ∃ k, ∃ hk : k < es.length, k ∉ ss ∧ ∃ w1, (w1 = w ∨ w1 = { w with drawn := w.drawn + 1 }) ∧ (Instr.next (.pointer (some ⟨c, 0, none⟩)) false ty).run P w = .ok (.tuple #[.bool true, es[k].1, es[k].2]) { w1 with heap := w1.heap.setIfInBounds c (iterO b es.length (ss ++ [k])) } := by
 let L := es.zipIdx.map entryO
 let left := L.filter fun x => !ss.contains x.born
 have hlb : ∀ x ∈ left, x.born < es.length := fun x hx => by
   obtain ⟨k, hk, rfl⟩ := EK (List.mem_filter.1 hx).1
   exact hk
 have hold : left.filter (fun x => decide (x.born < es.length)) = left := Rp fun x hx => dT (hlb x hx)
 have hnew : left.filter (fun x => decide (x.born ≥ es.length)) = [] := PJ fun x hx => dF (by have := hlb x hx; omega)
 have hgc : (Go.getObj c).run P w = .ok (iterO b es.length ss) w := by simp only [Go.getObj, Sem.run, hc]; simp [iterO]
 have hgb := CI (P := P) hb
 have hall : ¬ ((!(ss.toArray.isEmpty) && !(L.toArray.isEmpty) && L.toArray.all fun x => decide (x.born ≥ es.length)) = true) := by
   intro h
   rw [Bool.and_eq_true, Bool.and_eq_true] at h
   obtain ⟨⟨-, h2⟩, h3⟩ := h
   cases hL : L with
   | nil => rw [hL] at h2; simp at h2
   | cons x l =>
     have hx : x ∈ L := by rw [hL]; simp
     obtain ⟨k, hk, rfl⟩ := EK hx
     rw [hL] at h3
     simp at h3
     omega
 have key : (Instr.next (.pointer (some ⟨c, 0, none⟩)) false ty).run P w =
     ((do
       let candidates := (if left.isEmpty then #[none] else #[]) ++ (left.toArray.map some)
       match candidates[← choose (.mapNext candidates.size)]? with
       | some (some x) =>
         setObj c (.mapIter (some b) es.length (ss.toArray.push x.born) es.length)
         pure (.tuple #[.bool true, x.key, x.val])
       | some none => pure (.tuple #[.bool false])
       | none => stuck "Next: no such candidate") : Sem Value).run P w := by
   simp only [Instr.next, Sem.run_bind, hgc, Result.andThen_ok, iterO, hgb, mapO]
   rw [if_neg hall]
   have e1 : (es.zipIdx.map entryO).toArray.filter (fun x => !ss.toArray.contains x.born) = left.toArray := by
     rw [List.filter_toArray]; congr 1; show List.filter _ _ = List.filter _ _; congr 1; funext x; simp
   rw [e1, List.filter_toArray, List.filter_toArray, hold, hnew]
   simp
   rfl
 rw [key]
 by_cases hl : left = []
 · refine .inl ⟨fun k hk => ?_, ?_⟩
   · have hx := LN hk
     have : (⟨es[k].1, es[k].2, k⟩ : MapEntry) ∉ left := by rw [hl]; simp
     by_cases hm : k ∈ ss
     · exact hm
     exact absurd (List.mem_filter.2 ⟨hx, by simp [hm]⟩) this
   rw [hl]
   simp [Go.choose, Sem.run, Question.forced]
 have hpos : 0 < left.length := List.length_pos_iff.2 hl
 have hie : left.isEmpty = false := by cases h : left with | nil => exact absurd h hl | cons _ _ => rfl
 have fin : ∀ t, t < left.length → ∀ w1 : World, w1.heap = w.heap → ∃ k, ∃ hk : k < es.length, k ∉ ss ∧ ((do
     match (left.toArray.map some)[t]? with
     | some (some x) =>
       setObj c (.mapIter (some b) es.length (ss.toArray.push x.born) es.length)
       pure (.tuple #[.bool true, x.key, x.val])
     | some none => pure (.tuple #[.bool false])
     | none => stuck "Next: no such candidate") : Sem Value).run P w1 = .ok (.tuple #[.bool true, es[k].1, es[k].2]) { w1 with heap := w1.heap.setIfInBounds c (iterO b es.length (ss ++ [k])) } := by
   intro t ht w1 hw1
   have hx := List.getElem_mem ht
   obtain ⟨h1, h2⟩ := List.mem_filter.1 hx
   obtain ⟨k, hk, he⟩ := EK h1
   refine ⟨k, hk, by rw [he] at h2; simpa using h2, ?_⟩
   have e2 : (left.toArray.map some)[t]? = some (some left[t]) := by simp [ht]
   simp only [e2]
   have hc1 : w1.heap[c]? = some (iterO b es.length ss) := by rw [hw1]; exact hc
   simp only [Sem.run_bind, Go.setObj, Sem.run, hc1, iterO, Result.andThen_ok, he]
   simp
 refine .inr ?_
 simp only [hie, Bool.false_eq_true, if_false, Array.empty_append]
 have hsz : (left.toArray.map some).size = left.length := by simp
 by_cases hf : left.length ≤ 1
 · obtain ⟨k, hk, h1, h2⟩ := fin 0 hpos w rfl
   refine ⟨k, hk, h1, w, .inl rfl, ?_⟩
   rw [← h2]
   simp only [Go.choose, Sem.run_bind, Sem.run, Question.forced, hsz, dT hf, if_true, Result.andThen_ok]
 obtain ⟨k, hk, h1, h2⟩ := fin (w.tape w.drawn (.mapNext left.length) % left.length) (Nat.mod_lt _ hpos) { w with drawn := w.drawn + 1 } rfl
 refine ⟨k, hk, h1, _, .inr rfl, ?_⟩
 rw [← h2]
 simp only [Go.choose, Sem.run_bind, Sem.run, Question.forced, hsz, dF hf, Bool.false_eq_true, if_false, Question.cut, Result.andThen_ok]
theorem x_nextM {b c i : Nat} {x : Operand} {es : List (Value × Value)} {ss : List Nat} {Hf : Nat → List (Nat × Obj)} {Q : Value → St → Prop} (hx : ev e x = .pointer (some ⟨c, 0, none⟩)) (hi : σ.H[i]? = some (c, iterO b es.length ss)) (hm : σ.F b = some (mapO es))
   (hH : ∀ k, SetL σ.H i (c, iterO b es.length (ss ++ [k])) (Hf k))
   (h0 : (∀ k, k < es.length → k ∈ ss) → Q (.tuple #[.bool false]) σ) (h1 : ∀ k (hk : k < es.length), k ∉ ss → Q (.tuple #[.bool true, es[k].1, es[k].2]) ⟨σ.F, Hf k⟩) :
   OpX P n B ⟨d, .next x false, ty, pos, af, gd⟩ e σ Q := .run fun w hw => by
 have hc := (hw.own _ (List.mem_of_getElem? hi)).1
 rcases Ts (P := P) (ty := ty) hc (hw.sub _ _ hm) with ⟨q1, q2⟩ | ⟨k, hk, q1, w1, q2, q3⟩
 · exact ⟨_, _, _, .inl (by simp [execOp, hx, q2]), hw, h0 q1⟩
 have hw1 : Holds B σ w1 := by rcases q2 with rfl | rfl; exact hw; exact hw.drew
 refine ⟨_, _, _, .inl (by simp [execOp, hx, q3]; rfl), hw1.setObj hi (o' := iterO b es.length (ss ++ [k])), ?_⟩
 rw [← (hH k).eq.1]
 exact h1 k hk q1
theorem Vh {b c i k : Nat} {x : Operand} {es : List (Value × Value)} {ss : List Nat} (hx : ev e x = .pointer (some ⟨c, 0, none⟩)) (hi : σ.H[i]? = some (c, iterO b es.length (ss ++ [k]))) (hm : σ.F b = some (mapO es)) (hk : k < es.length) :
   OpR P B ⟨d, .entry x, ty, pos, af, gd⟩ e σ (.tuple #[es[k].1, es[k].2]) := fun w hw => by
 have hc := (hw.own _ (List.mem_of_getElem? hi)).1
 have hgc : (Go.getObj c).run P w = .ok (iterO b es.length (ss ++ [k])) w := by simp only [Go.getObj, Sem.run, hc]; simp [iterO]
 have hgb := CI (P := P) (hw.sub _ _ hm)
 have hfind : (es.zipIdx.map entryO).toArray.find? (fun x => x.born == k) = some ⟨es[k].1, es[k].2, k⟩ := by
   rw [List.find?_toArray]
   have hex := LN hk
   cases hf : (es.zipIdx.map entryO).find? (fun x => x.born == k) with
   | none => exact absurd (List.find?_eq_none.1 hf _ hex) (by simp)
   | some y =>
     have h1 := List.find?_some hf
     obtain ⟨j, hj, rfl⟩ := EK (List.mem_of_find?_eq_some hf)
     have : j = k := by simpa using h1
     subst this; rfl
 simp only [execOp, hx, Instr.entry, Sem.run_bind, hgc, Result.andThen_ok, iterO]
 have hback : (ss ++ [k]).toArray.back? = some k := by simp
 simp [hback, hfind, Sem.run_bind, hgb, mapO]
end
end
section
open Go.RowKit
def wayB (c : Pap) (b : List Nat) : Bool := (allPiles c).any fun n => fitO c 0 n b
def waysTo (c : Pap) (l : List (List Nat)) : List (List Nat) := l.filter (wayB c)
def waysL (c : Pap) : List (List Nat) := waysTo c (allOrds c.gats.toNat)
theorem QC {c : Pap} {l : List (List Nat)} {b : List Nat} (h : wayB c b = true) : waysTo c (l ++ [b]) = waysTo c l ++ [b] := by unfold waysTo; rw [List.filter_append]; simp [h]
theorem SW {c : Pap} {l : List (List Nat)} {b : List Nat} (h : wayB c b = false) : waysTo c (l ++ [b]) = waysTo c l := by unfold waysTo; rw [List.filter_append]; simp [h]
theorem T9 {f g : Nat → Nat} (h : placV f = placV g) {k : Nat} (hk : k < 5) : f k = g k := by
 unfold placV at h
 have h2 : arrV 5 (fun k => (f k : Int)) = arrV 5 (fun k => (g k : Int)) := by simpa using h
 have a := O0 (f := fun k => (f k : Int)) hk
 have b := O0 (f := fun k => (g k : Int)) hk
 rw [h2, b] at a
 simp at a
 omega
theorem VC {c : Pap} {but n m : Nat} {b : List Nat} (h5 : b.length ≤ 5) (h : placV (plN c n) = placV (plN c m)) : fitO c but n b = fitO c but m b := by
 have key : ∀ k, k ≤ 5 → fitTo c but n b k = fitTo c but m b k := by
   intro k hk
   unfold fitTo
   induction k with
   | zero => rfl
   | succ k ih =>
     rw [List.range_succ, List.all_append, List.all_append, ih (by omega)]
     congr 1
     simp only [List.all_cons, List.all_nil, Bool.and_true]
     unfold atB
     rw [T9 h (by omega)]
 exact key _ h5
structure KnownP (P : Program) (K : Nat) (c : Pap) (es : List (Value × Value)) (pre : List Nat) : Prop where
 keys : ∀ p ∈ es, IsK P K p.1
 nodup : (es.map (·.1)).Nodup
 vals : ∀ p ∈ es, ∃ z : Int, p.2 = .int .i64 z ∧ 0 ≤ z ∧ z ≤ pre.length
 some : ∀ p ∈ es, ∃ n ∈ pre, p.1 = placV (plN c n)
 all : ∀ n ∈ pre, ∃ p ∈ es, p.1 = placV (plN c n)
theorem KnownP.nil {P : Program} {K : Nat} {c : Pap} : KnownP P K c [] [] := ⟨by simp, by simp, by simp, by simp, by simp⟩
theorem KnownP.new {P : Program} {K : Nat} {c : Pap} {es : List (Value × Value)} {pre : List Nat} {n : Nat} (h : KnownP P K c es pre) (hk : IsK P K (placV (plN c n))) (hno : ∀ p ∈ es, p.1 ≠ placV (plN c n)) : KnownP P K c (es ++ [(placV (plN c n), .int .i64 (0 + 1))]) (pre ++ [n]) := by
 refine ⟨Mt h.keys hk, Oa h.nodup hno, fun p hp => ?_, fun p hp => ?_, fun m hm => ?_⟩
 · rcases List.mem_append.1 hp with hp | hp
   · obtain ⟨z, h1, h2, h3⟩ := h.vals p hp
     exact ⟨z, h1, h2, by simp; omega⟩
   obtain rfl : p = _ := by simpa using hp
   exact ⟨0 + 1, rfl, by decide, by simp; omega⟩
 · rcases List.mem_append.1 hp with hp | hp
   · obtain ⟨m, h1, h2⟩ := h.some p hp
     exact ⟨m, List.mem_append_left _ h1, h2⟩
   obtain rfl : p = _ := by simpa using hp
   exact ⟨n, by simp, rfl⟩
 rcases List.mem_append.1 hm with hm | hm
 · obtain ⟨p, h1, h2⟩ := h.all m hm
   exact ⟨p, List.mem_append_left _ h1, h2⟩
 obtain rfl : m = n := by simpa using hm
 exact ⟨_, List.mem_append_right _ (List.mem_singleton.2 rfl), rfl⟩
theorem KnownP.old {P : Program} {K : Nat} {c : Pap} {es : List (Value × Value)} {pre : List Nat} {n j : Nat} {z : Int} (h : KnownP P K c es pre) (hj : es[j]? = .some (placV (plN c n), .int .i64 z)) (hz : 0 ≤ z ∧ z ≤ pre.length) : KnownP P K c (es.set j (placV (plN c n), .int .i64 (z + 1))) (pre ++ [n]) := by
 have hmem := List.mem_of_getElem? hj
 have hset : ∀ p ∈ es.set j (placV (plN c n), .int .i64 (z + 1)), p = (placV (plN c n), .int .i64 (z + 1)) ∨ p ∈ es := fun p hp => (List.mem_or_eq_of_mem_set hp).symm
 refine ⟨all_set h.keys hj, nd_set h.nodup hj, fun p hp => ?_, fun p hp => ?_, fun m hm => ?_⟩
 · rcases hset p hp with rfl | hp
   · exact ⟨z + 1, rfl, by omega, by simp; omega⟩
   obtain ⟨y, h1, h2, h3⟩ := h.vals p hp
   exact ⟨y, h1, h2, by simp; omega⟩
 · rcases hset p hp with rfl | hp
   · exact ⟨n, by simp, rfl⟩
   obtain ⟨m, h1, h2⟩ := h.some p hp
   exact ⟨m, List.mem_append_left _ h1, h2⟩
 have key : ∀ q ∈ es, ∃ p ∈ es.set j (placV (plN c n), .int .i64 (z + 1)), p.1 = q.1 := by
   intro q hq
   have h1 : q.1 ∈ es.map (·.1) := List.mem_map_of_mem hq
   rw [← map_set (v := .int .i64 (z + 1)) hj] at h1
   obtain ⟨p, h2, h3⟩ := List.mem_map.1 h1
   exact ⟨p, h2, h3⟩
 rcases List.mem_append.1 hm with hm | hm
 · obtain ⟨q, h1, h2⟩ := h.all m hm
   obtain ⟨p, h3, h4⟩ := key q h1
   exact ⟨p, h3, h4.trans h2⟩
 obtain rfl : m = n := by simpa using hm
 obtain ⟨p, h3, h4⟩ := key _ hmem
 exact ⟨p, h3, h4⟩
theorem Jn {c : Pap} (hv : ValidP c) : (allPiles c).length ≤ 81 := by
 unfold allPiles pilesTo
 have := List.length_filter_le (highB c) (List.range (allN c c.reams.length))
 rw [List.length_range] at this
 exact Nat.le_trans this (KG hv (Nat.le_refl _))
def restN (n : Nat) (ss : List Nat) : Nat := ((List.range n).filter fun k => !ss.contains k).length
theorem Vb {n k : Nat} {ss : List Nat} (hk : k < n) (h : k ∉ ss) : restN n (ss ++ [k]) < restN n ss := by
 unfold restN
 have e1 : (List.range n).filter (fun j => !(ss ++ [k]).contains j) = ((List.range n).filter fun j => !ss.contains j).filter fun j => !(j == k) := by
   rw [List.filter_filter]
   congr 1
   funext j
   by_cases h1 : j ∈ ss <;> by_cases h2 : j = k <;> simp [h1, h2]
 rw [e1]
 refine List.length_filter_lt_length_iff_exists.2 ⟨k, List.mem_filter.2 ⟨List.mem_range.2 hk, by simp [h]⟩, by simp⟩
def NoFit (c : Pap) (es : List (Value × Value)) (b : List Nat) (ss : List Nat) : Prop := ∀ k ∈ ss, ∀ n u, es[k]? = some (placV (plN c n), u) → fitO c 0 n b = false
theorem NoFit.nil {c : Pap} {es : List (Value × Value)} {b : List Nat} : NoFit c es b [] := fun _ h => nomatch h
theorem NoFit.snoc {c : Pap} {es : List (Value × Value)} {b ss : List Nat} {k n : Nat} (h : NoFit c es b ss) (h5 : b.length ≤ 5) (hk : k < es.length) (hn : es[k].1 = placV (plN c n)) (hf : fitO c 0 n b = false) : NoFit c es b (ss ++ [k]) := by
 intro j hj m u hm
 rcases List.mem_append.1 hj with hj | hj
 · exact h j hj m u hm
 obtain rfl : j = k := by simpa using hj
 rw [List.getElem?_eq_getElem hk] at hm
 have h2 : placV (plN c n) = placV (plN c m) := by
   rw [← hn]
   have := congrArg (Option.map (·.1)) hm
   simpa using this
 rw [← VC h5 h2]; exact hf
theorem NoFit.all {P : Program} {K : Nat} {c : Pap} {es : List (Value × Value)} {b ss : List Nat} (h : NoFit c es b ss) (hK : KnownP P K c es (allPiles c)) (hall : ∀ k, k < es.length → k ∈ ss) : wayB c b = false := by
 unfold wayB
 rw [List.any_eq_false]
 intro n hn
 obtain ⟨p, hp, he⟩ := hK.all n hn
 obtain ⟨k, hk, rfl⟩ := List.getElem_of_mem hp
 rw [h k (hall k hk) n es[k].2 (by rw [List.getElem?_eq_getElem hk, ← he])]
 simp
theorem U6 {c : Pap} {b : List Nat} {n : Nat} (hn : n ∈ allPiles c) (h : fitO c 0 n b = true) : wayB c b = true := List.any_eq_true.2 ⟨n, hn, h⟩
theorem T4 {P : Program} {B : Base} {e : Env} {σ : St} {ty : TypeId} {pos : String} {af : Array Edge} {d : Option Nat} {gd : Option (Nat × Bool)} {b c i k : Nat} {x : Operand} {es : List (Value × Value)} {ss : List Nat} {v : Value} (hx : ev e x = .pointer (some ⟨c, 0, none⟩)) (hi : σ.H[i]? = some (c, iterO b es.length (ss ++ [k]))) (hm : σ.F b = some (mapO es)) (hk : k < es.length) (hv : es[k].1 = v) :
   OpR P B ⟨d, .entry x, ty, pos, af, gd⟩ e σ (.tuple #[v, es[k].2]) := hv ▸ Vh hx hi hm hk
theorem Nb {g : Nat} : ∀ {d : Nat} {b : List Nat}, (ordTo g d b).length ≤ g ^ d
 | 0, b => by simp [ordTo]
 | d + 1, b => by
   have key : ∀ l : List Nat, (l.flatMap fun x => if x ∈ b then [] else ordTo g d (b ++ [x])).length ≤ l.length * g ^ d := by
     intro l
     induction l with
     | nil => simp
     | cons x l ih =>
       rw [List.flatMap_cons, List.length_append, List.length_cons, Nat.add_mul, Nat.one_mul, Nat.add_comm]
       refine Nat.add_le_add ih ?_
       split
       · simp
       exact Nb
   have := key (List.range g)
   rw [List.length_range] at this
   unfold ordTo
   rw [Nat.pow_succ, Nat.mul_comm]; exact this
theorem Ks {g : Nat} (hg : g ≤ 5) : (allOrds g).length ≤ 3125 := by
 have h1 : (allOrds g).length ≤ g ^ g := Nb
 have h2 : g ^ g ≤ 5 ^ 5 := Nat.le_trans (Nat.pow_le_pow_left hg g) (Nat.pow_le_pow_right (by omega) hg)
 omega
theorem KM {c : Pap} {l : List (List Nat)} : (waysTo c l).length ≤ l.length := List.length_filter_le _ _
theorem Own.src {E s k : Nat} {v : Value} {cs : List Value} {R H : List (Nat × Obj)} {F : Heap} (h : Own E s v k cs R) (hR : ∀ p ∈ R, p ∈ H) (h1 : ∀ u ∈ cs, u.oneCell' = true) : Src ⟨F, H⟩ v k cs s := by
 match R, h, hR with
 | [], ⟨h2, h3, h4⟩, _ =>
   subst h2; subst h3; subst h4
   exact ⟨by simp, by simp, none, 0, rfl, (fun _ => rfl), (fun x hx => nomatch hx)⟩
 | [(b, o)], h, hR =>
   obtain ⟨cap, spare, h2, h3, h4, h5, h6⟩ := id h
   subst h2
   refine ⟨h4, h1, some ⟨b, 0, none⟩, cap, rfl, (fun h => nomatch h), fun x hx => ?_⟩
   obtain rfl := Option.some.inj hx
   exact ⟨fun _ => rfl, fun j u hj => h.cell hR hj⟩
end
section
set_option maxRecDepth 100000
open Go.RowKit
theorem zr_187 : ZeroT Tryz.prog 187 (.map none) := Bv (by kernel_rfl)
theorem zr_45 : ZeroT Tryz.prog 45 (.slice none 0 0) := Bv (by kernel_rfl)
theorem K2 : OneT Tryz.prog 187 := BI (by kernel_rfl)
instance : OneI Tryz.prog 187 := ⟨K2⟩
theorem sz_187 : SizeT Tryz.prog 187 1 := Bq (by kernel_rfl)
theorem sz_45 : SizeT Tryz.prog 45 1 := Bq (by kernel_rfl)
theorem laidW : laidOutB Tryz.prog = true := by kernel_rfl
theorem P0 : MapT Tryz.prog 187 120 3 (.int .i64 0) := ⟨Tryz.underlying187, Bv (by kernel_rfl), Go.Maps.Keyed.of_law (deep_law_laid laidW (m := 5) (by omega) (Nat.le_of_ble_eq_true (by kernel_rfl)) (by kernel_rfl) (by kernel_rfl))⟩
theorem LB {c : Pap} (hv : ValidP c) {n : Nat} : IsK Tryz.prog 120 (placV (plN c n)) :=
 P6 Tryz.underlying120 Tryz.underlying3 (by kernel_rfl) (by kernel_rfl) (by kernel_rfl) (d := Tryz.prog.types.size - 1) (by kernel_rfl) fun i _ => by have := QX hv (n := n) (k := i); omega
theorem Rf {l : List Nat} : ∀ u ∈ l.flatMap natE, u.oneCell' = true := fun u hu => by
 obtain ⟨x, _, h⟩ := List.mem_flatMap.1 hu
 simp [natE] at h; subst h; rfl
theorem NE {F : Heap} {vs vr vx : Value} {c : Pap} (hr : PapR F vs vr vx c) (hv : ValidP c) {g : Nat} (hg : c.gats = (g : Int)) (hg5 : g ≤ 5) : Ok Tryz.prog 61 [papV vs vr vx c].toArray F fun u F' => ∃ ps : List (Value × List Nat), Sl F' u 1 slE ps ∧ AllN F' ps ∧ ps.map (·.2) = waysL c := by
 refine Ok.intro Tryz.func61 rfl Tryz.ntmps61 rfl fun w0 => Ac <| Al fun ds => A3 rfl <| Bc Aa rfl fun b1 hb1 nb1 => A3 rfl <| AN zr_45 rfl fun b2 hb2 nb2 => Am <| Ab <| AL (i := 1) rfl hb1 (.next <| .here) fun F3 hF4 hz1 => ?_
 replace hr := hr.mono hF4
 refine Ac <| Al fun ds => Af rfl (AO Ch Aa rfl rfl (AZ hz1)) <| AS rfl (Ay bd_88 Aa AY (OD hr hv (but := 0) (by decide)) (fun _ _ h => h)) <| A3 rfl <| AN Js rfl fun b5 hb5 nb5 => AV <| AQ J1 Aa Aa (i := 0) rfl rfl rfl rfl Ec (.here) <| Am <| Ab <| AL (i := 0) rfl hb5 (.here) fun F6 hF7 hz3 => ?_
 replace hr := hr.mono hF7
 replace hz1 := hF7 _ _ hz1
 refine Ac <| Al fun ds => A3 rfl <| MD fun b8 hb8 nb8 => A3 rfl <| AN zr_187 rfl fun b9 hb9 nb9 => AV <| AT sz_187 Aa Aa (i := 0) rfl (.here) rfl (.here) <| Am <| Ab <| AL (i := 0) rfl hb9 (.here) fun F10 hF11 hz4 => ?_
 replace hr := hr.mono hF11
 replace hz1 := hF11 _ _ hz1
 replace hz3 := hF11 _ _ hz3
 refine Ac <| Ac <| Al fun ds => Af rfl (AO Ch Aa rfl rfl (AZ hz1)) <| A3 rfl <| Be bd_89 Aa AY (Pq hr) fun v12 F13 hr14 hF15 => ?_
 replace hr := hr.mono hF15
 replace hz1 := hF15 _ _ hz1
 replace hz3 := hF15 _ _ hz3
 replace hz4 := hF15 _ _ hz4
 obtain ⟨dp, rfl, hzp⟩ := hr14
 refine Am <| Ab <| Ak ?_
 refine GR rfl Aa (WA) (Ke hr hv hzp) (Heap.le_refl _) (fun pre _ H => ∃ es, KnownP Tryz.prog 120 c es pre ∧ H = [(b8, mapO es), (b2, bx 45 [.slice none 0 0])]) (fun _ _ _ => False) (fun _ _ _ _ _ h => h) (fun _ _ _ _ _ h => h) ⟨[], KnownP.nil, rfl⟩ (fun L D fn1 tm1 pre1 x1 rest1 G1 RH1 vs1 hxs1 hle1 hJ1 hA1 => ?_) (fun _ _ _ _ h => h.elim) (fun F2 H1 hF2 hJ => ?_)
 ·replace hr := hr.mono hle1
  replace hz1 := hle1 _ _ hz1
  replace hz4 := hle1 _ _ hz4
  obtain rfl := hA1
  obtain ⟨es, hK, rfl⟩ := hJ1
  refine ⟨rfl, rfl, fun w1 => ?_⟩
  refine GA (e' := (upd (upd _ 17 (.agg (arrV 4 (pileF c x1)).toArray)) 18 (.int .i64 (abv (pileF c x1) c.reams.length)))) rfl rfl <| AB (.inr (by kernel_rfl)) (fun _ _ h => h) fun ds => A3 rfl <| AN Q6 rfl fun b16 hb16 nb16 => AV <| AQ UI Aa Aa (i := 0) rfl rfl rfl rfl Ec (.here) <| D8 (.cons (.next <| .here) <| .cons (.next <| .here) <| .cons (.here) <| .cons (.here) <| .cons (.here) <| .nil) <| Am ?_
  refine Ab ⟨_, rfl, ?_⟩
  refine AL (i := 2) rfl hb16 (.next <| .next <| .here) fun F17 hF18 hz5 => ?_
  replace hr := hr.mono hF18
  replace hle1 := hle1.mono hF18
  replace hz1 := hF18 _ _ hz1
  replace hz4 := hF18 _ _ hz4
  have hpl : pre1.length ≤ 81 := by have := Jn hv; rw [hxs1] at this; simp at this; omega
  rcases Sz (es := es) (placV (plN c x1)) with hno | ⟨j, u, hj⟩
  ·refine Ak <| Bn (.inr (by kernel_rfl)) (fun _ _ h => h) (kK <| kK <| kD <| kK <| .refl _) [8] (by kernel_rfl) fun ds => Ai 0 rfl (by kernel_rfl) (by kernel_rfl) (by kernel_rfl) (by kernel_rfl) rfl rfl (fun _ h => h.drop (kK <| kK <| kD <| kK <| .refl _)) (fun _ _ _ h => h) (Ah K2 Aa (AM hz4 rfl)) <| Ai 1 rfl (by kernel_rfl) (by kernel_rfl) (by kernel_rfl) (by kernel_rfl) rfl rfl (fun _ h => h.drop (kK <| kK <| kD <| kK <| .refl _)) (fun _ _ _ h => h) (AO Ch Aa rfl rfl (AZ hz1)) <| Ai 2 rfl (by kernel_rfl) (by kernel_rfl) (by kernel_rfl) (by kernel_rfl) rfl rfl (fun _ h => h.drop (kK <| kK <| kD <| kK <| .refl _)) (fun _ _ _ h => h) (AO Jp Aa rfl rfl (AZ hz5)) ?_
   refine CK 3 rfl (by kernel_rfl) rfl (AP (Ay Wm Aa AY (JB hr hv (CF hv)) (fun _ _ h => h)) ⟨fun _ _ => (fun _ h => h.drop (kK <| kK <| kD <| kK <| .refl _)), ?_⟩)
   refine FR [4, 6] (by kernel_rfl) (by decide) (in2 ?_ ?_)
   ·refine D7 rfl rfl (AP (T3 P0 Aa Aa (i := 2) rfl (LB hv) hK.keys hno).quiet ⟨fun _ _ => (fun _ h => h.drop (kK <| kK <| kD <| kK <| .refl _)), ?_⟩)
    refine Ai 5 rfl (by kernel_rfl) (by kernel_rfl) (by kernel_rfl) (by kernel_rfl) rfl rfl (fun _ h => h.drop (kK <| kK <| kD <| kK <| .refl _)) (fun _ _ _ h => h) (AE Aa Aa rfl (by omega) (by omega)) ?_
    refine CK 6 rfl (by kernel_rfl) rfl (O8 P0 Aa Aa (i := 2) rfl (LB hv) hK.keys hno (.next <| .next <| .here) ⟨fun _ _ => (fun _ h => h.drop (kK <| kK <| kD <| kK <| .refl _)), ?_⟩)
    refine Ai 7 rfl (by kernel_rfl) (by kernel_rfl) (by kernel_rfl) (by kernel_rfl) rfl rfl (fun _ h => h.drop (kK <| kK <| kD <| kK <| .refl _)) (fun _ _ _ h => h) (NO Aa) ?_
    refine BG 8 rfl (by kernel_rfl) (Ei Aa Aa Aa (i := 2) rfl (congrArg (Option.map (·.1)) Ky) (.next <| .next <| .here) ⟨(fun h => nomatch h), ?_⟩)
    refine Bo (by kernel_rfl) ?_ _
    refine Az <| BS (.one (.here) <| .one (.here) <| .one (.here) <| .one (.here) <| .nil) ?_
    refine .inl ⟨rfl, _, rfl, hle1, ?_⟩
    exact ⟨_, by rw [OY]; exact hK.new (LB hv) hno, rfl⟩
   refine D7 rfl rfl (O8 P0 Aa Aa (i := 2) rfl (LB hv) hK.keys hno (.next <| .next <| .here) ⟨fun _ _ => (fun _ h => h.drop (kK <| kK <| kD <| kK <| .refl _)), ?_⟩)
   refine Ai 7 rfl (by kernel_rfl) (by kernel_rfl) (by kernel_rfl) (by kernel_rfl) rfl rfl (fun _ h => h.drop (kK <| kK <| kD <| kK <| .refl _)) (fun _ _ _ h => h) (NO Aa) ?_
   refine CK 4 rfl (by kernel_rfl) rfl (AP (J7 P0 Aa Aa (i := 2) rfl (LB hv) (Mt hK.keys (LB hv)) (Oa hK.nodup hno) Ky).quiet ⟨fun _ _ => (fun _ h => h.drop (kK <| kK <| kD <| kK <| .refl _)), ?_⟩)
   refine Ai 5 rfl (by kernel_rfl) (by kernel_rfl) (by kernel_rfl) (by kernel_rfl) rfl rfl (fun _ h => h.drop (kK <| kK <| kD <| kK <| .refl _)) (fun _ _ _ h => h) (AE Aa Aa rfl (by omega) (by omega)) ?_
   refine BG 8 rfl (by kernel_rfl) (Ei Aa Aa Aa (i := 2) rfl (congrArg (Option.map (·.1)) Ky) (.next <| .next <| .here) ⟨(fun h => nomatch h), ?_⟩)
   refine Bo (by kernel_rfl) ?_ _
   refine Az <| BS (.one (.here) <| .one (.here) <| .one (.here) <| .one (.here) <| .nil) ?_
   refine .inl ⟨rfl, _, rfl, hle1, ?_⟩
   exact ⟨_, by rw [OY]; exact hK.new (LB hv) hno, rfl⟩
  obtain ⟨z, hz1_, hzl, hzr⟩ := hK.vals _ (List.mem_of_getElem? hj)
  replace hz1_ : u = .int .i64 z := hz1_
  subst hz1_
  refine Ak <| Bn (.inr (by kernel_rfl)) (fun _ _ h => h) (kK <| kK <| kD <| kK <| .refl _) [8] (by kernel_rfl) fun ds => Ai 0 rfl (by kernel_rfl) (by kernel_rfl) (by kernel_rfl) (by kernel_rfl) rfl rfl (fun _ h => h.drop (kK <| kK <| kD <| kK <| .refl _)) (fun _ _ _ h => h) (Ah K2 Aa (AM hz4 rfl)) <| Ai 1 rfl (by kernel_rfl) (by kernel_rfl) (by kernel_rfl) (by kernel_rfl) rfl rfl (fun _ h => h.drop (kK <| kK <| kD <| kK <| .refl _)) (fun _ _ _ h => h) (AO Ch Aa rfl rfl (AZ hz1)) <| Ai 2 rfl (by kernel_rfl) (by kernel_rfl) (by kernel_rfl) (by kernel_rfl) rfl rfl (fun _ h => h.drop (kK <| kK <| kD <| kK <| .refl _)) (fun _ _ _ h => h) (AO Jp Aa rfl rfl (AZ hz5)) ?_
  refine CK 3 rfl (by kernel_rfl) rfl (AP (Ay Wm Aa AY (JB hr hv (CF hv)) (fun _ _ h => h)) ⟨fun _ _ => (fun _ h => h.drop (kK <| kK <| kD <| kK <| .refl _)), ?_⟩)
  refine FR [4, 6] (by kernel_rfl) (by decide) (in2 ?_ ?_)
  ·refine D7 rfl rfl (AP (J7 P0 Aa Aa (i := 2) rfl (LB hv) hK.keys hK.nodup hj).quiet ⟨fun _ _ => (fun _ h => h.drop (kK <| kK <| kD <| kK <| .refl _)), ?_⟩)
   refine Ai 5 rfl (by kernel_rfl) (by kernel_rfl) (by kernel_rfl) (by kernel_rfl) rfl rfl (fun _ h => h.drop (kK <| kK <| kD <| kK <| .refl _)) (fun _ _ _ h => h) (AE Aa Aa rfl (by omega) (by omega)) ?_
   refine CK 6 rfl (by kernel_rfl) rfl (O7 P0 Aa Aa (i := 2) rfl (LB hv) hK.keys hK.nodup hj ⟨fun _ _ => (fun _ h => h.drop (kK <| kK <| kD <| kK <| .refl _)), ?_⟩)
   refine Ai 7 rfl (by kernel_rfl) (by kernel_rfl) (by kernel_rfl) (by kernel_rfl) rfl rfl (fun _ h => h.drop (kK <| kK <| kD <| kK <| .refl _)) (fun _ _ _ h => h) (NO Aa) ?_
   refine BG 8 rfl (by kernel_rfl) (Ei Aa Aa Aa (i := 2) rfl (congrArg (Option.map (·.1)) hj) (.next <| .next <| .here) ⟨(fun h => nomatch h), ?_⟩)
   refine Bo (by kernel_rfl) ?_ _
   refine Az <| BS (.one (.here) <| .one (.here) <| .one (.here) <| .one (.here) <| .nil) ?_
   refine .inl ⟨rfl, _, rfl, hle1, ?_⟩
   exact ⟨_, hK.old hj ⟨hzl, hzr⟩, rfl⟩
  refine D7 rfl rfl (O7 P0 Aa Aa (i := 2) rfl (LB hv) hK.keys hK.nodup hj ⟨fun _ _ => (fun _ h => h.drop (kK <| kK <| kD <| kK <| .refl _)), ?_⟩)
  refine Ai 7 rfl (by kernel_rfl) (by kernel_rfl) (by kernel_rfl) (by kernel_rfl) rfl rfl (fun _ h => h.drop (kK <| kK <| kD <| kK <| .refl _)) (fun _ _ _ h => h) (NO Aa) ?_
  refine CK 4 rfl (by kernel_rfl) rfl (AP (J7 P0 Aa Aa (i := 2) rfl (LB hv) hK.keys hK.nodup hj).quiet ⟨fun _ _ => (fun _ h => h.drop (kK <| kK <| kD <| kK <| .refl _)), ?_⟩)
  refine Ai 5 rfl (by kernel_rfl) (by kernel_rfl) (by kernel_rfl) (by kernel_rfl) rfl rfl (fun _ h => h.drop (kK <| kK <| kD <| kK <| .refl _)) (fun _ _ _ h => h) (AE Aa Aa rfl (by omega) (by omega)) ?_
  refine BG 8 rfl (by kernel_rfl) (Ei Aa Aa Aa (i := 2) rfl (congrArg (Option.map (·.1)) hj) (.next <| .next <| .here) ⟨(fun h => nomatch h), ?_⟩)
  refine Bo (by kernel_rfl) ?_ _
  refine Az <| BS (.one (.here) <| .one (.here) <| .one (.here) <| .one (.here) <| .nil) ?_
  refine .inl ⟨rfl, _, rfl, hle1, ?_⟩
  exact ⟨_, hK.old hj ⟨hzl, hzr⟩, rfl⟩
 replace hr := hr.mono hF2
 replace hz1 := hF2 _ _ hz1
 replace hz3 := hF2 _ _ hz3
 replace hz4 := hF2 _ _ hz4
 obtain ⟨es, hK, rfl⟩ := hJ
 refine Az <| Ab <| AL (i := 0) rfl hb8 (.here) fun F19 hF20 hzm => ?_
 replace hr := hr.mono hF20
 replace hz1 := hF20 _ _ hz1
 replace hz3 := hF20 _ _ hz3
 replace hz4 := hF20 _ _ hz4
 refine Ac <| Ac <| Al fun ds => Af rfl (AO Ch Aa rfl rfl (AZ hz1)) <| A3 rfl <| Be bd_91 Aa AY (MZ hr) fun v21 F22 hr23 hF24 => ?_
 replace hz1 := hF24 _ _ hz1
 replace hz3 := hF24 _ _ hz3
 replace hz4 := hF24 _ _ hz4
 replace hzm := hF24 _ _ hzm
 obtain ⟨do_, rfl, hzo⟩ := hr23
 refine Am <| Ab <| Ak ?_
 refine Ey rfl Aa (W9) (HO hg hg5 hzo) (Heap.le_refl _) (fun pre F H => ∃ vr_ ps R3, H = (b2, bx 45 [vr_]) :: R3 ∧ Own 44 1 vr_ ps.length (ps.flatMap slE) R3 ∧ AllN F ps ∧ ps.map (·.2) = waysTo c pre) (fun _ _ _ => False) (fun _ _ _ _ hF h => by obtain ⟨v2, ps, R3, h1, h2, h3, h4⟩ := h; exact ⟨v2, ps, R3, h1, h2, h3.mono hF, h4⟩) (fun _ _ _ _ _ h => h) ⟨_, [], [], rfl, Ce, (fun p hp => nomatch hp), rfl⟩ (fun L D fn2 tm2 pre2 x2 rest2 G1 RH1 v2 R2 hxs2 hle2 hJ2 hO2 => ?_) (fun _ _ _ _ h => h.elim) (fun F2 H1 hF2 hJ => ?_)
 ·replace hz1 := hle2 _ _ hz1
  replace hz3 := hle2 _ _ hz3
  replace hz4 := hle2 _ _ hz4
  replace hzm := hle2 _ _ hzm
  obtain ⟨vr_, ps, R3, rfl, ho3, hps, hpm⟩ := hJ2
  replace hO2 : Own 3 1 v2 x2.length (x2.flatMap natE) R2 := hO2
  obtain ⟨hlen2, hm2⟩ := Dx (show x2 ∈ allOrds g by rw [hxs2]; simp)
  refine ⟨rfl, rfl, fun w1 => ?_⟩
  refine GA (e' := (upd _ 29 v2)) rfl rfl <| AB (.inr (by kernel_rfl)) (fun _ _ h => h) fun ds => Ao (Ae 1) <| Am ?_
  refine Ab ⟨_, rfl, ?_⟩
  refine Cl (.one (.here) <| .one (.here) <| .one (.skip <| .here) <| .blk (.here) <| .lastb (.last)) <| Jr (i := 0) rfl (fun _ => .here) fun oL hoL => Ak <| Ac <| AB (.inr (by kernel_rfl)) (fun _ _ h => h) fun ds => Af rfl (Ah K2 Aa (AM hz4 rfl)) <| A3 rfl <| U2 Tryz.underlying187 Aa hzm fun bi hbi nbi => Am <| Ab <| Ak ?_
  refine AJ [7, 8, 9, 10, 11, 32, 33, 34, 35, 36, 37, 38, 39, 40, 41, 42, 43, 44, 45, 46, 47, 48, 49, 50, 51, 52, 53, 54, 55, 56, 57, 58, 59, 60, 61, 62, 63, 64, 65] (fun m e σ => ∃ ss, m = restN es.length ss ∧ NoFit c es x2 ss ∧ ∃ F9, G1.le F9 ∧ σ = ⟨F9, (bi, iterO b8 es.length ss) :: (L, oL) :: (D, openO) :: (b2, bx 45 [vr_]) :: (R2 ++ R3)⟩) (restN es.length []) ?_ ?_
  · exact ⟨[], rfl, NoFit.nil, _, Heap.le_refl _, rfl⟩
  rintro m3 e3 _ ⟨ss, hm3, hnf, F9, hF9, rfl⟩; replace hle2 := hle2.mono hF9; replace hps := hps.mono hF9; replace hz1 := hF9 _ _ hz1; replace hz3 := hF9 _ _ hz3; replace hz4 := hF9 _ _ hz4; replace hzm := hF9 _ _ hzm
  refine Ac <| AB (.inr (by kernel_rfl)) (fun _ _ h => h) fun ds => ?_
  refine A3 rfl (x_nextM Aa (i := 0) rfl hzm (fun k => .here) (fun hall => ?_) (fun k hk hno => ?_))
  ·refine As (Ae 1) <| Ac <| Ad Aa rfl ?_
   subst hoL
   refine AC ?_
   refine A0 <| A0 <| A4 <| Az <| BS (.one (.next <| .here) <| .one (.next <| .here) <| .blk (.next <| .next <| .here) <| .one (.next <| .here) <| .lastb (.next <| .last)) ?_
   refine .inl ⟨rfl, _, rfl, hle2, ⟨_, rfl, ?_⟩⟩
   exact ⟨vr_, ps, R3, rfl, ho3, hps, by rw [SW (hnf.all hK hall)]; exact hpm⟩
  obtain ⟨n, hn, hkey⟩ := hK.some _ (List.getElem_mem hk)
  rw [hkey]
  refine As (Ae 1) <| Ac <| Ag Aa rfl <| Aj <| Ab <| Ak <| Ac <| AB (.inr (by kernel_rfl)) (fun _ _ h => h) fun ds => Af rfl (T4 Aa (i := 0) rfl hzm hk hkey) <| Ao (Ae 1) <| A3 rfl <| AN Js rfl fun b26 hb26 nb26 => AV <| AQ J1 Aa Aa (i := 0) rfl rfl rfl rfl Ec (.here) <| Am <| Ab <| AL (i := 0) rfl hb26 (.here) fun F27 hF28 hz7 => ?_
  replace hle2 := hle2.mono hF28
  replace hps := hps.mono hF28
  replace hF9 := Heap.le_trans hF9 hF28
  replace hz3 := hF28 _ _ hz3
  refine Ac <| AB (.inr (by kernel_rfl)) (fun _ _ h => h) fun ds => As (Ae 1) <| Ac <| Ac <| AB (.inr (by kernel_rfl)) (fun _ _ h => h) fun ds => Ao (Ae 1) <| Af rfl (A6 A7 Aa (hO2.plain (by omega))) <| As (Ae 1) <| Ak ?_
  refine AJ [8, 9, 10, 38, 39, 40, 41, 42, 43, 44, 45, 46, 47, 48, 49, 50, 51, 52, 53, 54] (fun m e σ => ∃ q : Nat, m + q = x2.length ∧ Fct e 38 (.int .i64 (q : Int)) ∧ Fct e 8 (.bool (fitTo c 0 n x2 q)) ∧ σ = ⟨F27, (bi, iterO b8 es.length (ss ++ [k])) :: (L, oL) :: (D, openO) :: (b2, bx 45 [vr_]) :: (R2 ++ R3)⟩) (x2.length) ?_ ?_
  · exact ⟨0, by omega, Bb, Bb, rfl⟩
  rintro m4 e4 _ ⟨q, hm4, ht38, ht8, rfl⟩
  by_cases hlt : q < x2.length
  ·have hq5 : q < 5 := by omega
   have hg5 : x2[q] < 5 := by have := hm2 x2[q] (List.getElem_mem hlt); omega
   have hatd : atB c 0 n x2[q] q = decide ((butNot (wtN c 0 x2[q]) (plN c n q) : Int) = 0) := rfl
   refine Ac <| AB (.inr (by kernel_rfl)) (fun _ _ h => h) fun ds => As (Ae 1) <| Ac <| Ag Aa (by first | rfl | exact dT (by omega)) ?_
   by_cases hft : fitTo c 0 n x2 q = true
   ·refine Aj <| Ab <| Ac <| Ak <| Ac <| AB (.inr (by kernel_rfl)) (fun _ _ h => h) fun ds => Ao (Ae 1) <| Af rfl (Ax (k := q) A7 Aa (hO2.plain (by omega)) Aa rfl hlt) <| Af rfl (Ah AA Aa (CM hO2 (fun p hp => .tail _ (.tail _ (.tail _ (.tail _ (List.mem_append_left _ hp))))) (natG hlt))) <| As (Ae 2) <| Bx (.inr (by kernel_rfl)) (fun _ _ h => h) (by kernel_rfl) (by kernel_rfl) fun ds => Ba (Ae 2) <| AK rfl rfl Aa hft <| Ba (Ae 1) <| AK rfl rfl Aa hft <| AX rfl (AR (k := x2[q]) Eg Aa Aa rfl hg5) <| AK rfl rfl Aa hft <| AX rfl (Ah AA Aa (CellF.own hz3 (CA hg5)).cell) <| AK rfl rfl Aa hft <| Ba (Ae 1) <| AK rfl rfl Aa hft <| AX rfl (AR (k := q) Eg Aa Aa rfl hq5) <| AK rfl rfl Aa hft <| AX rfl (Ah AA Aa (CellF.own hz7 (CA hq5)).cell) <| AK rfl rfl Aa hft <| AX rfl (Lr Aa Aa (m := wtN c 0 x2[q]) rfl (by have := NB hv (but := 0) (g := x2[q]); omega)) <| AK rfl rfl Aa hft <| Ba (Ae 1) <| AX rfl (Au Aa hft Aa) <| Ba (Ae 1) <| B9 <| Az <| Ab <| AB (.inr (by kernel_rfl)) (fun _ _ h => h) fun ds => Af rfl (AE Aa Aa rfl (by omega) (by omega)) <| Ao (Ae 1) <| Am ?_
    refine Ab ⟨_, m4 - 1, Off.eq (B3 rfl <| Ci rfl <| A2), by omega, ?_⟩
    exact ⟨q + 1, by omega, Bb, BN (congrArg Value.bool (by rw [Ho hlt, hft]; rfl)), rfl⟩
   replace hft : fitTo c 0 n x2 q = false := by simpa using hft
   refine Aj <| Ab <| Ac <| Ak <| Ac <| AB (.inr (by kernel_rfl)) (fun _ _ h => h) fun ds => Ao (Ae 1) <| Af rfl (Ax (k := q) A7 Aa (hO2.plain (by omega)) Aa rfl hlt) <| Af rfl (Ah AA Aa (CM hO2 (fun p hp => .tail _ (.tail _ (.tail _ (.tail _ (List.mem_append_left _ hp))))) (natG hlt))) <| As (Ae 2) <| Bx (.inr (by kernel_rfl)) (fun _ _ h => h) (by kernel_rfl) (by kernel_rfl) fun ds => Ba (Ae 2) <| AG rfl rfl Aa (.inl (congrArg Value.bool hft)) rfl <| AG rfl rfl Aa (.inl (congrArg Value.bool hft)) rfl <| AG rfl rfl Aa (.inl (congrArg Value.bool hft)) rfl <| AG rfl rfl Aa (.inl (congrArg Value.bool hft)) rfl <| AG rfl rfl Aa (.inl (congrArg Value.bool hft)) rfl <| AG rfl rfl Aa (.inl (congrArg Value.bool hft)) rfl <| AG rfl rfl Aa (.inl (congrArg Value.bool hft)) rfl <| AG rfl rfl Aa (.inl (congrArg Value.bool hft)) rfl <| AX rfl (A5 Aa hft BF) <| Ba (Ae 1) <| B9 <| Az <| Ab <| AB (.inr (by kernel_rfl)) (fun _ _ h => h) fun ds => Af rfl (AE Aa Aa rfl (by omega) (by omega)) <| Ao (Ae 1) <| Am ?_
   refine Ab ⟨_, m4 - 1, Off.eq (B3 rfl <| Ci rfl <| A2), by omega, ?_⟩
   exact ⟨q + 1, by omega, Bb, BN (congrArg Value.bool (by rw [Ho hlt, hft]; rfl)), rfl⟩
  refine Ac <| AB (.inr (by kernel_rfl)) (fun _ _ h => h) fun ds => As (Ae 1) <| Ac <| Ad Aa (by first | rfl | exact dF (by omega)) ?_
  obtain rfl : q = x2.length := by omega
  by_cases hfit : fitO c 0 n x2 = true
  ·refine AC ?_
   refine A0 <| A0 <| A4 <| Ab <| Ac <| AB (.inr (by kernel_rfl)) (fun _ _ h => h) fun ds => As (Ae 1) <| Ag Aa hfit <| Ac <| AB (.inr (by kernel_rfl)) (fun _ _ h => h) fun ds => Ao (Ae 1) <| Af rfl (A6 A7 Aa (hO2.plain (by omega))) <| A3 rfl <| NA (k := x2.length) A7 D5 rfl rfl Aa Aa rfl (by omega) (by omega) fun b30 hb30 nb30 => As (Ae 1) <| Ac <| AB (.inr (by kernel_rfl)) (fun _ _ h => h) fun ds => Ao (Ae 2) <| A3 rfl <| x_copy (s := 1) rfl A7 Aa Aa (i := 0) rfl (by simp) (hO2.src (fun p hp => .tail _ (.tail _ (.tail _ (.tail _ (.tail _ (List.mem_append_left _ hp)))))) Rf) (.here) <| Am <| Ab <| Ac <| AL (i := 0) rfl hb30 (.here) fun F31 hF32 hzc => ?_
   replace hle2 := hle2.mono hF32
   replace hps := hps.mono hF32
   have hn58 : Nats F31 (.slice (some ⟨b30, 0, none⟩) x2.length x2.length) x2 := HS hzc rfl (by omega)
   have hpl : ps.length ≤ 3125 := by have h1 := congrArg List.length hpm; have h2 := KM (c := c) (l := pre2); have h3 := Ks hg5; rw [hxs2] at h3; simp at h1 h3; omega
   subst hoL
   refine AB (.inr (by kernel_rfl)) (fun _ _ h => h) fun ds => Ao (Ae 2) <| A3 rfl <| AU Bt FS rfl (.cons Aa .nil) rfl rfl (by decide) (by simp [Value.oneCell']) fun b33 hb33 nb33 => A3 rfl <| Bi Bt Np Aa ho3 Aa (BA (s := 1) 0 rfl rfl (by simp [Value.oneCell'])) (by omega) (by omega) (.s <| .s <| .s <| .s <| .s <| .k <| .z) .last fun v34 R35 ho36 => ?_
   have ho5 : Own 44 1 v34 (ps ++ [((.slice (some ⟨b30, 0, none⟩) x2.length x2.length : Value), x2)]).length ((ps ++ [((.slice (some ⟨b30, 0, none⟩) x2.length x2.length : Value), x2)]).flatMap slE) R35 := Own.snoc ho36 rfl rfl
   refine AV <| AT sz_45 Aa Aa (i := 4) rfl (.here) ho5.one (.next <| .next <| .next <| .next <| .here) <| Am <| Ab <| AC ?_
   refine Dv rfl (A0 (A4 ?_))
   refine Az <| BS (.one (.next <| .next <| .here) <| .one (.next <| .next <| .here) <| .blk (.next <| .next <| .next <| .here) <| .one (.next <| .next <| .here) <| .lastb (.next <| .next <| .last)) ?_
   refine .inl ⟨rfl, _, rfl, hle2, ⟨_, rfl, ?_⟩⟩
   exact ⟨_, ps ++ [(_, x2)], _, rfl, ho5, (fun p hp => (List.mem_append.1 hp).elim (hps p) fun h => by obtain rfl := List.mem_singleton.1 h; exact hn58), by rw [QC (U6 hn hfit), List.map_append, hpm]; rfl⟩
  replace hfit : fitO c 0 n x2 = false := by simpa using hfit
  refine AC ?_
  refine A0 <| A0 <| A4 <| Ab <| Ac <| AB (.inr (by kernel_rfl)) (fun _ _ h => h) fun ds => As (Ae 1) <| Ad Aa hfit <| Aj <| Az ?_
  refine Ab ⟨_, restN es.length (ss ++ [k]), Off.eq (Cw rfl <| BJ rfl <| BT rfl <| BY rfl <| A2), (by rw [hm3]; exact Vb hk hno), ?_⟩
  exact ⟨ss ++ [k], rfl, hnf.snoc (by omega) hk hkey hfit, _, hF9, rfl⟩
 obtain ⟨vr_, ps, R3, rfl, ho3, hps, hpm⟩ := hJ
 refine Az <| Ab ?_
 have hpl : ps.length ≤ 3125 := by have h1 := congrArg List.length hpm; have h2 := KM (c := c) (l := allOrds g); have h3 := Ks hg5; simp at h1; omega
 refine Aw (Ae 1) fun ds => AV <| AT sz_45 Aa Aa (i := 0) rfl (.here) ho3.one (.here) <| Am <| Ab <| Bm (σ := ⟨_, _⟩) (by rfl) ho3 (.s <| .z) .last fun F37 hF38 hz39 => ?_
 replace hps := hps.mono hF38
 have hsl := ho3.sl (fun _ => rfl) hz39 (by omega)
 refine At <| Aq rfl (.one Rc Aa (Cell.own 0 rfl rfl) .nil) ?_
 exact ⟨ps, hsl, hps, by rw [hpm]; unfold waysL; rw [show c.gats.toNat = g by omega]⟩
end
section
set_option maxRecDepth 100000
open Go.RowKit
theorem Wp : Body Tryz.prog 61 := AF (by kernel_rfl)
theorem KL {c : Pap} {ps : List (Value × List Nat)} (h : ps.map (·.2) = waysL c) : ((ps.length : Int) = 0) ↔ waysL c = [] := by
 rw [← h]; cases ps with
 | nil => simp
 | cons p l => simp; omega
theorem Lx {F : Heap} {vs vr vx : Value} {c : Pap} (hr : PapR F vs vr vx c) (hv : ValidP c) {g : Nat} (hg : c.gats = (g : Int)) (hg5 : g ≤ 5) (hc : (checkP c).2.2 = 0) : Ok Tryz.prog 23 [papV vs vr vx c].toArray F fun u F' => ∃ v, ∃ ps : List (Value × List Nat), u = .tuple #[v, .int .i64 (if waysL c = [] then 8 else 0)] ∧ Sl F' v 1 slE ps ∧ AllN F' ps ∧ ps.map (·.2) = waysL c := by
 refine Ok.intro Tryz.func23 rfl Tryz.ntmps23 rfl fun w0 => Ac <| Al fun ds => A3 rfl <| Bc Aa rfl fun b1 hb1 nb1 => As (Ae 2) <| Aw (Ae 1) fun ds => AS rfl (Ay Mn Aa AY (DH hr) (fun _ _ h => h)) <| Ao (Ae 3) <| A3 rfl <| AN EN rfl fun b2 hb2 nb2 => AV <| AQ Fr Aa Aa (i := 0) rfl rfl rfl rfl hr.ones (.here) <| As (Ae 1) <| Ac <| AI (Ae 2) <| Ad Aa (by rw [hc]; rfl) <| Aj <| Ab <| Aw (Ae 1) fun ds => A3 rfl <| Be Wp Aa AY (NE hr hv hg hg5) fun v3 F4 hr5 hF6 => ?_
 obtain ⟨ps, hps, hpn, hpm⟩ := hr5
 refine As (Ae 1) <| Ac <| Ac ?_
 have hpl := hps.plain.lt
 by_cases h0 : waysL c = []
 ·refine Al fun ds => Ao (Ae 1) <| Af rfl (A6 Bt Aa hps.plain) <| As (Ae 1) <| Ag Aa (dT ((KL hpm).2 h0)) <| AI (Ae 2) <| At <| A1 <| Aq rfl Bf ?_
  exact ⟨_, [], by rw [if_pos h0]; rfl, Sl.nil, (fun p hp => nomatch hp), h0.symm⟩
 refine Al fun ds => Ao (Ae 1) <| Af rfl (A6 Bt Aa hps.plain) <| As (Ae 1) <| Ad Aa (dF (fun h => h0 ((KL hpm).1 h))) <| Aj <| Ab <| AI (Ae 3) <| At <| Aq rfl Bf ?_
 exact ⟨_, ps, by rw [if_neg h0]; rfl, hps, hpn, hpm⟩
def befTo (a b : Int) (l : List (List Nat)) (k : Nat) : Nat := ((l.take k).filter fun o => decide (ixN o a < ixN o b)).length
theorem Wj {a b : Int} {l : List (List Nat)} {k : Nat} : befTo a b l k ≤ k := by
 unfold befTo
 refine Nat.le_trans (List.length_filter_le _ _) ?_
 rw [List.length_take]; omega
theorem Ml {a b : Int} {l : List (List Nat)} {k : Nat} (h : k < l.length) : befTo a b l (k + 1) = befTo a b l k + if ixN l[k] a < ixN l[k] b then 1 else 0 := by
 unfold befTo
 rw [List.take_succ_eq_append_getElem h, List.filter_append, List.length_append]
 congr 1
 by_cases h2 : ixN l[k] a < ixN l[k] b <;> simp [h2]
def befE (c : Pap) (a b : Int) : Int := if befTo a b (waysL c) (waysL c).length = (waysL c).length then 1 else if befTo a b (waysL c) (waysL c).length = 0 then 2 else 0
theorem RF {F : Heap} {vs vr vx : Value} {c : Pap} (hr : PapR F vs vr vx c) (hv : ValidP c) {g : Nat} (hg : c.gats = (g : Int)) (hg5 : g ≤ 5) (hc : (checkP c).2.2 = 0) {a b : Int} (ha : 0 ≤ a ∧ a < c.gats) (hb : 0 ≤ b ∧ b < c.gats) (hab0 : ¬ a = b) (hne : waysL c ≠ []) : Ok Tryz.prog 24 [papV vs vr vx c, .int .i64 a, .int .i64 b].toArray F fun u F' => u = .tuple #[.int .i64 (befE c a b), .int .i64 0] := by
 refine Ok.intro Tryz.func24 rfl Tryz.ntmps24 rfl fun w0 => Ac <| Al fun ds => A3 rfl <| Bc Aa rfl fun b1 hb1 nb1 => As (Ae 2) <| Aw (Ae 1) fun ds => AS rfl (Ay Mn Aa AY (DH hr) (fun _ _ h => h)) <| Ao (Ae 3) <| A3 rfl <| AN EN rfl fun b2 hb2 nb2 => AV <| AQ Fr Aa Aa (i := 0) rfl rfl rfl rfl hr.ones (.here) <| As (Ae 1) <| Ac <| Ak <| AI (Ae 3) <| Ad Aa (by rw [hc]; rfl) <| Aw (Ae 2) fun ds => Af rfl (BZ Aa Aa rfl (by omega) (by omega)) <| Ao (Ae 2) <| A3 rfl <| AU A7 B1 rfl (.cons Aa (.cons Aa .nil)) rfl rfl (by decide) (by simp [Value.oneCell']) fun b3 hb3 nb3 => AW (i := 0) rfl hb3 .here fun F4 hF5 hz6 => ?_
 replace hr := hr.mono hF5
 have hsl7 := Cp hz6
 refine AS rfl (Ay Dg Aa AY (Bw _ _ hsl7) (fun _ _ h => h)) <| As (Ae 1) <| Ad Aa (by simp [ha.1, hb.1, show a ≤ c.gats - 1 by omega, show b ≤ c.gats - 1 by omega, inB]) <| AI (Ae 4) <| Ad Aa (dF hab0) <| Aj <| Az <| Ab <| Aw (Ae 1) fun ds => A3 rfl <| Be Wp Aa AY (NE hr hv hg hg5) fun v8 F9 hr10 hF11 => ?_
 obtain ⟨ps, hps, hpn, hpm⟩ := hr10
 refine As (Ae 1) <| AI (Ae 1) <| Ac <| Ac ?_
 have hpl := hps.plain.lt
 refine Al fun ds => Ao (Ae 1) <| Af rfl (A6 Bt Aa hps.plain) <| As (Ae 1) <| Ak ?_
 refine AJ [11, 13, 39, 40, 41, 42, 43, 44, 45, 46, 47, 48, 49, 50, 51, 52] (fun m e σ => ∃ k : Nat, m + k = ps.length ∧ Fct e 39 (.int .i64 (k : Int)) ∧ Fct e 11 (.int .i64 (befTo a b (waysL c) k : Int)) ∧ σ = ⟨F9, [(b2, bx 110 [.int .i64 c.run, vs, vr, .int .i64 c.gats, vx]), (b1, bx 26 [.int .i64 c.run, vs, vr, .int .i64 c.gats, vx])]⟩) (ps.length) ?_ ?_
 · exact ⟨0, by omega, Bb, BN (congrArg (Value.int .i64) (by simp [befTo])), rfl⟩
 rintro m e _ ⟨k, hm, hs39, hs11, rfl⟩
 by_cases hlt : k < ps.length
 ·have hlw : k < (waysL c).length := by rw [← hpm]; simpa using hlt
  have hnk := hpn _ (List.getElem_mem hlt)
  have hwk : (waysL c)[k] = ps[k].2 := by simp [← hpm]
  have hbl := Wj (a := a) (b := b) (l := waysL c) (k := k)
  refine AI (Ae 1) <| Ac <| Ag Aa (by first | rfl | exact dT (by omega)) ?_
  by_cases hab : ixN ps[k].2 a < ixN ps[k].2 b
  ·refine Aj <| Ab <| Ac <| Ak <| Ac <| Al fun ds => Af rfl (Ax (k := k) Bt Aa hps.plain Aa rfl hlt) <| Af rfl (Ah Br Aa (hps.cell1 hlt rfl)) <| As (Ae 1) <| Aw (Ae 2) fun ds => AS rfl (Ay N1 Aa AY (Ev (Nats.ints hnk) a) (fun _ _ h => h)) <| Ao (Ae 2) <| AS rfl (Ay N1 Aa AY (Ev (Nats.ints hnk) b) (fun _ _ h => h)) <| As (Ae 1) <| Ag Aa (dT hab) <| Al fun ds => Ao (Ae 1) <| Af rfl (AE Aa Aa rfl (by omega) (by omega)) <| Ao (Ae 1) <| Am <| Az <| Ab <| Al fun ds => Af rfl (AE Aa Aa rfl (by omega) (by omega)) <| Ao (Ae 1) <| Am ?_
   refine Ab ⟨_, m - 1, Off.eq (B3 rfl <| A2), by omega, ?_⟩
   exact ⟨k + 1, by omega, Bb, BN (congrArg (Value.int .i64) (by rw [Ml hlw, hwk, if_pos hab]; push_cast; rfl)), rfl⟩
  refine Aj <| Ab <| Ac <| Ak <| Ac <| Al fun ds => Af rfl (Ax (k := k) Bt Aa hps.plain Aa rfl hlt) <| Af rfl (Ah Br Aa (hps.cell1 hlt rfl)) <| As (Ae 1) <| Aw (Ae 2) fun ds => AS rfl (Ay N1 Aa AY (Ev (Nats.ints hnk) a) (fun _ _ h => h)) <| Ao (Ae 2) <| AS rfl (Ay N1 Aa AY (Ev (Nats.ints hnk) b) (fun _ _ h => h)) <| As (Ae 1) <| Ad Aa (dF hab) <| Aj <| Az <| Ab <| Al fun ds => Af rfl (AE Aa Aa rfl (by omega) (by omega)) <| Ao (Ae 1) <| Am ?_
  refine Ab ⟨_, m - 1, Off.eq (BT rfl <| Ci rfl <| BY rfl <| A2), by omega, ?_⟩
  exact ⟨k + 1, by omega, Bb, BN (congrArg (Value.int .i64) (by rw [Ml hlw, hwk, if_neg hab]; simp)), rfl⟩
 refine AI (Ae 1) <| Ac <| Ad Aa (by first | rfl | exact dF (by omega)) ?_
 obtain rfl : k = ps.length := by omega
 have hlw : ps.length = (waysL c).length := by rw [← hpm]; simp
 have hne2 : (ps.length : Int) ≠ 0 := fun h => hne ((KL hpm).1 h)
 refine AC ?_
 refine A0 <| A0 <| A4 <| Ab <| Ac <| Ak <| Aw (Ae 1) fun ds => Af rfl (A6 Bt Aa hps.plain) <| As (Ae 2) <| Ad Aa (dF hne2) ?_
 by_cases h1 : befTo a b (waysL c) ps.length = ps.length
 ·refine Aw (Ae 2) fun ds => Af rfl (A6 Bt Aa hps.plain) <| As (Ae 2) <| Ag Aa (dT (by omega)) <| AI (Ae 2) <| At <| A8 <| A1 <| Aq rfl Bf ?_
  show _ = _
  unfold befE; rw [← hlw, if_pos h1]; rfl
 refine Aw (Ae 2) fun ds => Af rfl (A6 Bt Aa hps.plain) <| As (Ae 2) <| Ad Aa (dF (by omega)) ?_
 by_cases h2 : befTo a b (waysL c) ps.length = 0
 ·refine AI (Ae 3) <| Ag Aa (dT (by omega)) <| AI (Ae 2) <| At <| A8 <| A1 <| Aq rfl Bf ?_
  show _ = _
  unfold befE; rw [← hlw, if_neg h1, if_pos h2]; rfl
 refine AI (Ae 3) <| Ad Aa (dF (by omega)) <| Aj <| Az <| Ab <| AI (Ae 2) <| At <| Aq rfl Bf ?_
 show _ = _
 unfold befE; rw [← hlw, if_neg h1, if_neg h2]; rfl
end
section
set_option maxRecDepth 100000
open Go.RowKit
theorem bd_68 : Body Tryz.prog 68 := AF (by kernel_rfl)
theorem UG : SizeT Tryz.prog 24 1 := Bq (by kernel_rfl)
def moreP (c : Pap) (g s : Nat) : Pap := { c with seen := c.seen ++ [⟨g, s⟩] }
def worstTo (c : Pap) (g : Nat) (l : List Nat) : Nat → Int
 | 0 => 0
 | j + 1 => max (worstTo c g l j) ((waysL (moreP c g (l[j]?.getD 0))).length : Int)
def worstE (c : Pap) (g : Nat) : Int := worstTo c g (bitsL (mayN c g (truthsL c 0))) (bitsL (mayN c g (truthsL c 0))).length
def askTo (c : Pap) : Nat → Int × Int
 | 0 => (0, 0)
 | k + 1 => if k = 0 ∨ worstE c k < (askTo c k).2 then ((k : Int), worstE c k) else askTo c k
theorem QB {c : Pap} {g : Nat} {l : List Nat} {j : Nat} (h : j < l.length) : worstTo c g l (j + 1) = max (worstTo c g l j) ((waysL (moreP c g l[j])).length : Int) := by
 show max _ _ = _
 rw [List.getElem?_eq_getElem h]; rfl
theorem askP_ok {F : Heap} {vs vr vx : Value} {c : Pap} (hr : PapR F vs vr vx c) (hv : ValidP c) {g : Nat} (hg : c.gats = (g : Int)) (hg5 : g ≤ 5) (hc : (checkP c).2.2 = 0) (hin : ∀ k : Nat, k < g → ∀ x ∈ truthsL c 0, 0 ≤ ixN x.2 (k : Int) ∧ ixN x.2 (k : Int) < 5) (hne : truthsL c 0 ≠ []) (hmv : ∀ k s : Nat, k < g → s ∈ bitsL (mayN c (k : Int) (truthsL c 0)) → ValidP (moreP c k s)) : Ok Tryz.prog 29 [papV vs vr vx c].toArray F fun u F' => u = .tuple #[.int .i64 (askTo c g).1, .int .i64 (askTo c g).2, .int .i64 0] := by
 refine Ok.intro Tryz.func29 rfl Tryz.ntmps29 rfl fun w0 => Ac <| Al fun ds => A3 rfl <| Bc Aa rfl fun b1 hb1 nb1 => As (Ae 3) <| Aw (Ae 1) fun ds => AS rfl (Ay Mn Aa AY (DH hr) (fun _ _ h => h)) <| Ao (Ae 3) <| A3 rfl <| AN EN rfl fun b2 hb2 nb2 => AV <| AQ Fr Aa Aa (i := 0) rfl rfl rfl rfl hr.ones (.here) <| As (Ae 1) <| Ac <| AI (Ae 2) <| Ad Aa (by rw [hc]; rfl) <| AL (i := 1) rfl hb1 (.next <| .here) fun F3 hF4 hz1 => ?_
 replace hr := hr.mono hF4
 refine AL (i := 0) rfl hb2 (.here) fun F5 hF6 hz5 => ?_
 replace hr := hr.mono hF6
 replace hz1 := hF6 _ _ hz1
 refine Aj <| Ab <| Ac <| Aw (Ae 1) fun ds => Af rfl (Ah AA Aa (AM hz1 rfl)) <| As (Ae 1) <| Ak ?_
 refine AJ [2, 3, 4, 6, 7, 8, 9, 10, 12, 13, 24, 25, 26, 27, 28, 29, 30, 31, 32, 33, 34, 35, 36, 37, 38, 39, 40, 41, 42, 43, 44, 45, 46, 47, 48, 49, 50, 51, 52, 53, 54, 55, 56, 57, 58, 59, 60, 61, 62, 63, 64, 65, 66, 67, 68, 69] (fun m e σ => ∃ G, F5.le G ∧ ∃ k : Nat, m + k = g ∧ Fct e 24 (.int .i64 (k : Int)) ∧ Fct e 2 (.int .i64 (askTo c k).1) ∧ Fct e 3 (.int .i64 (askTo c k).2) ∧ σ = ⟨G, []⟩) (g) ?_ ?_
 · exact ⟨_, Heap.le_refl _, 0, by omega, Bb, Bb, Bb, rfl⟩
 rintro m e _ ⟨G, hle1, k, hm, hs24, hs2, hs3, rfl⟩; replace hr := hr.mono hle1; replace hz1 := hle1 _ _ hz1; replace hz5 := hle1 _ _ hz5
 by_cases hltk : k < g
 ·refine AI (Ae 1) <| Ac <| Ag Aa (by first | rfl | exact dT (by omega)) ?_
  have hmn := Ob hv (g := (k : Int)) (l := truthsL c 0)
  have hb9 := GP (mayN c (k : Int) (truthsL c 0))
  have hse := hv.seen
  refine Aj <| Ab <| Ac <| Ak <| AI (Ae 2) <| Ac <| Al fun ds => Af rfl (AO Ch Aa rfl rfl (AZ hz5)) <| Ao (Ae 1) <| AS rfl (Ay bd_64 Aa AY (KZ hr hv hg hg5 (hin k hltk)) (fun _ _ h => h)) <| As (Ae 7) <| Ac <| AI (Ae 2) <| Ad Aa (by cases h : truthsL c 0 with | nil => exact absurd h hne | cons a l => rfl) <| Aj <| Ab <| AI (Ae 1) <| Ac <| Aw (Ae 1) fun ds => A3 rfl <| Be Mm Aa AY (FF (n := mayN c (k : Int) (truthsL c 0)) (by omega)) fun v8 F9 hr10 hF11 => ?_
  replace hr := hr.mono hF11
  replace hle1 := Heap.le_trans hle1 hF11
  replace hz1 := hF11 _ _ hz1
  replace hz5 := hF11 _ _ hz5
  have hml := hr10
  refine Af rfl (A6 A7 Aa hml.plain) <| As (Ae 1) <| Ak ?_
  refine AJ [10, 12, 13, 39, 40, 41, 42, 43, 44, 45, 46, 47, 48, 49, 50, 51, 52, 53, 54, 55, 56, 57, 58, 59] (fun m e σ => ∃ G2, F9.le G2 ∧ ∃ j : Nat, m + j = (bitsL (mayN c (k : Int) (truthsL c 0))).length ∧ Fct e 39 (.int .i64 (j : Int)) ∧ Fct e 10 (.int .i64 (worstTo c k (bitsL (mayN c (k : Int) (truthsL c 0))) j)) ∧ σ = ⟨G2, []⟩) ((bitsL (mayN c (k : Int) (truthsL c 0))).length) ?_ ?_
  · exact ⟨_, Heap.le_refl _, 0, by omega, Bb, Bb, rfl⟩
  rintro m2 e2 _ ⟨G2, hle2, j, hm2, ht39, ht10, rfl⟩; replace hle1 := Heap.le_trans hle1 hle2; replace hml := hml.mono hle2; replace hr := hr.mono hle2; replace hz1 := hle2 _ _ hz1; replace hz5 := hle2 _ _ hz5
  by_cases hlt : j < (bitsL (mayN c (k : Int) (truthsL c 0))).length
  ·refine AI (Ae 1) <| Ac <| Ag Aa (by first | rfl | exact dT (by omega)) ?_
   have hms := hmv k (bitsL (mayN c (k : Int) (truthsL c 0)))[j] hltk (List.getElem_mem hlt)
   have hmg : (moreP c k (bitsL (mayN c (k : Int) (truthsL c 0)))[j]).gats = (g : Int) := hg
   refine Aj <| Ab <| Ac <| Ak <| Ac <| Al fun ds => Af rfl (Ax (k := j) A7 Aa hml.plain Aa rfl hlt) <| Af rfl (Ah AA Aa (hml.cell1 hlt rfl)) <| As (Ae 1) <| Ac <| Al fun ds => Af rfl (AO Ch Aa rfl rfl (AZ hz5)) <| A3 rfl <| AN EN rfl fun b13 hb13 nb13 => AV <| AQ Fr Aa Aa (i := 0) rfl rfl rfl rfl hr.ones (.here) <| Am <| Ab <| Aw (Ae 1) fun ds => Af rfl (Ah NV Aa (AM hz1 rfl)) <| A3 rfl <| CH bd_68 Aa AY (Qa hr.seen (by omega)) fun v14 F15 R18 hr16 hF17 => ?_
   replace hr := hr.mono hF17
   replace hle2 := Heap.le_trans hle2 hF17
   have hcl := hr16
   refine Ao (Ae 2) <| Af rfl (BE bt_78 (.cons Aa rfl (.cons Aa rfl .nil)) (.cons rfl rfl (Nat.le_of_ble_eq_true rfl) (.cons (.here) .nil) (.cons rfl rfl (Nat.le_of_ble_eq_true rfl) (.cons (.next <| .here) .nil) .nil))) <| A3 rfl <| C2 (offs := [(0, 2)]) (zl := [.int .i64 0, .int .i64 0]) Cu FV rfl (.cons Aa rfl .nil) (by intro i p h; rcases i with _ | i <;> simp at h <;> subst h <;> rfl) (.cons rfl rfl (Nat.le_of_ble_eq_true rfl) (.cons (.here) (.cons (.next <| .here) .nil)) .nil) (by decide) (by decide) fun b19 hb19 nb19 => A3 rfl <| Bi Cu SB Aa hcl Aa (BA (s := 2) 0 rfl rfl (by simp [Value.oneCell'])) (by omega) (by omega) (.s <| .s <| .z) .last fun v20 R21 ho22 => ?_
   have hap : Own 78 2 v20 (c.seen ++ [(⟨(k : Int), ((bitsL (mayN c (k : Int) (truthsL c 0)))[j] : Int)⟩ : Sn)]).length ((c.seen ++ [(⟨(k : Int), ((bitsL (mayN c (k : Int) (truthsL c 0)))[j] : Int)⟩ : Sn)]).flatMap Sn.enc) R21 := Own.snoc ho22 rfl rfl
   obtain ⟨v51_, hv51⟩ : ∃ v, v = v20 := ⟨_, rfl⟩
   subst hv51
   refine Ao (Ae 2) <| AV <| AT UG Aa Aa (i := 1) rfl (.next <| .next <| .next <| .next <| .here) hap.one (.next <| .here) <| Am <| Ab <| Bm (σ := ⟨_, _⟩) (by rfl) hap (.s <| .s <| .z) .last fun F23 hF24 hz25 => ?_
   replace hr := hr.mono hF24
   replace hle2 := Heap.le_trans hle2 hF24
   have hseen := hap.sl (fun _ => rfl) hz25 (by simp; omega)
   refine AL (i := 1) rfl hb13 (.next <| .here) fun F26 hF27 hz13 => ?_
   replace hr := hr.mono hF27
   replace hle2 := Heap.le_trans hle2 hF27
   replace hseen := hseen.mono hF27
   have hrm : PapR F26 vs vr v51_ (moreP c k (bitsL (mayN c (k : Int) (truthsL c 0)))[j]) := ⟨hr.stocks, hr.reams, hseen⟩
   refine Al fun ds => Ao (Ae 1) <| Af rfl (AO Ch Aa rfl rfl (AZ hz13)) <| A3 rfl <| Be Wp Aa AY (NE (c := moreP c k (bitsL (mayN c (k : Int) (truthsL c 0)))[j]) hrm hms hmg hg5) fun v28 F29 hr30 hF31 => ?_
   replace hle2 := Heap.le_trans hle2 hF31
   obtain ⟨ps, hps, hpn, hpm⟩ := hr30
   refine Af rfl (A6 Bt Aa hps.plain) <| Ao (Ae 2) <| Am <| Az <| Ab ?_
   have hwl : (ps.length : Int) = ((waysL (moreP c k (bitsL (mayN c (k : Int) (truthsL c 0)))[j])).length : Int) := by rw [← hpm]; simp
   refine By (fun _ _ h => h.drop (kD <| .refl _)) <| Al fun ds => Af rfl (AE Aa Aa rfl (by omega) (by omega)) <| Ao (Ae 1) <| Am ?_
   refine Ab ⟨_, m2 - 1, Off.eq (B3 rfl <| BT rfl <| A2), by omega, ?_⟩
   exact ⟨_, hle2, j + 1, by omega, Bb, BN (congrArg (Value.int .i64) (by rw [QB hlt, hwl])), rfl⟩
  refine AI (Ae 1) <| Ac <| Ad Aa (by first | rfl | exact dF (by omega)) ?_
  obtain rfl : j = (bitsL (mayN c (k : Int) (truthsL c 0))).length := by omega
  by_cases h0 : k = 0
  ·refine AC ?_
   refine A0 <| A0 <| A4 <| Ab <| Aw (Ae 3) fun ds => Ar rfl rfl Aa (.inl (congrArg Value.bool (dT (by omega)))) rfl <| Ar rfl rfl Aa (.inl (congrArg Value.bool (dT (by omega)))) rfl <| Ar rfl rfl Aa (.inl (congrArg Value.bool (dT (by omega)))) rfl <| Af rfl (Au Aa (dT (by omega)) Aa) <| Am <| Ab <| Ag Aa rfl <| Al fun ds => Ao (Ae 4) <| Am <| Az <| Ab <| Al fun ds => Af rfl (AE Aa Aa rfl (by omega) (by omega)) <| Ao (Ae 1) <| Am ?_
   refine Ab ⟨_, m - 1, Off.eq (BT rfl <| Ci rfl <| Cw rfl <| BJ rfl <| B3 rfl <| Ci rfl <| A2), by omega, ?_⟩
   exact ⟨_, hle1, k + 1, by omega, Bb, BN (by rw [askTo, if_pos (.inl h0)]), BN (by rw [askTo, if_pos (.inl h0)]; rfl), rfl⟩
  refine AC ?_
  refine A0 <| A0 <| A4 <| Ab <| Aw (Ae 3) fun ds => Ap rfl rfl Aa (dF (by omega)) <| Ao (Ae 1) <| Ap rfl rfl Aa (dF (by omega)) <| Ao (Ae 1) <| Ap rfl rfl Aa (dF (by omega)) <| Ao (Ae 1) <| Af rfl (A5 Aa (dF (by omega)) Aa) <| Am <| Ab ?_
  by_cases hw : worstE c k < (askTo c k).2
  ·refine Ag Aa (dT hw) <| Al fun ds => Ao (Ae 4) <| Am <| Az <| Ab <| Al fun ds => Af rfl (AE Aa Aa rfl (by omega) (by omega)) <| Ao (Ae 1) <| Am ?_
   refine Ab ⟨_, m - 1, Off.eq (BT rfl <| Ci rfl <| Cw rfl <| BJ rfl <| B3 rfl <| Ci rfl <| A2), by omega, ?_⟩
   exact ⟨_, hle1, k + 1, by omega, Bb, BN (by rw [askTo, if_pos (.inr hw)]), BN (by rw [askTo, if_pos (.inr hw)]; rfl), rfl⟩
  refine Ad Aa (dF hw) <| Aj <| Az <| Ab <| Al fun ds => Af rfl (AE Aa Aa rfl (by omega) (by omega)) <| Ao (Ae 1) <| Am ?_
  refine Ab ⟨_, m - 1, Off.eq (BT rfl <| Cw rfl <| BJ rfl <| B3 rfl <| Ci rfl <| A2), by omega, ?_⟩
  exact ⟨_, hle1, k + 1, by omega, Bb, BN (by rw [askTo, if_neg (fun h => h.elim h0 hw)]), BN (by rw [askTo, if_neg (fun h => h.elim h0 hw)]), rfl⟩
 refine AI (Ae 1) <| Ac <| Ad Aa (by first | rfl | exact dF (by omega)) ?_
 obtain rfl : k = g := by omega
 refine AC ?_
 refine A0 <| A0 <| A4 <| Ab <| AI (Ae 5) <| At <| Aq rfl Bf ?_
 rfl
end
section
open Go.RowKit
def stkX : List Stk := [⟨⟨#[104, 111, 114, 110]⟩, 1600, 1602⟩, ⟨⟨#[112, 111, 116]⟩, 1605, 1605⟩, ⟨⟨#[103, 114, 97, 112, 101, 115]⟩, 1603, 1610⟩]
def remX : List Rem := [⟨0, 15, 16⟩, ⟨1, 10, 10⟩, ⟨2, 8, 9⟩]
def papX (more : List Sn) : Pap := ⟨10, stkX, remX, 3, [⟨0, 1⟩, ⟨1, 0⟩] ++ more⟩
def snX : List Sn := [⟨0, 0⟩, ⟨0, 2⟩]
theorem QZ : (checkP (papX [])).2.2 = 0 := by kernel_rfl
theorem Vo : (checkP (papX snX)).2.2 = 0 := by kernel_rfl
theorem pv : ValidP (papX []) := Eo QZ
theorem pv2 : ValidP (papX snX) := Eo Vo
theorem pe_len : (truthsL (papX []) 0).isEmpty = false := by kernel_rfl
theorem pe_cnt : Nat.blt (truthsL (papX []) 0).length 100000 = true := by kernel_rfl
theorem Sk : waysL (papX []) = [[1, 0, 2], [1, 2, 0], [2, 1, 0]] := by kernel_rfl
theorem Vn : waysL (papX snX) = [] := by kernel_rfl
theorem pe_bef : befE (papX []) 0 1 = 2 := by kernel_rfl
theorem pe_sure : sureZ (papX []) 1 (truthsL (papX []) 0) = ((1 : Nat) : Int) := by kernel_rfl
theorem pe_may : mayN (papX []) 1 (truthsL (papX []) 0) = 3 := by kernel_rfl
theorem Sm : ((endsE (leftP (papX []) (truthsL (papX []) 0))).1, (endsE (leftP (papX []) (truthsL (papX []) 0))).2.1) = (3, 5) := by kernel_rfl
theorem Pt : ((endsE (begunP (papX []) (truthsL (papX []) 0))).1, (endsE (begunP (papX []) (truthsL (papX []) 0))).2.1) = (3, 3) := by kernel_rfl
theorem Sj : ((endsE (yearsP (papX []) (truthsL (papX []) 0))).1, (endsE (yearsP (papX []) (truthsL (papX []) 0))).2.1) = (1605, 1610) := by kernel_rfl
theorem Vm : bestW (papX snX) (2 ^ (papX snX).seen.length) = ((4 : Nat) : Int) := by kernel_rfl
theorem pe_ask : askTo (papX []) 3 = (2, 2) := by kernel_rfl
theorem pe_in : ((truthsL (papX []) 0).all fun x => (List.range 3).all fun k => decide (0 ≤ ixN x.2 (k : Int)) && decide (ixN x.2 (k : Int) < 5)) = true := by kernel_rfl
theorem pe_more : ((List.range 3).all fun k => (bitsL (mayN (papX []) (k : Int) (truthsL (papX []) 0))).all fun s => decide ((checkP (moreP (papX []) k s)).2.2 = 0)) = true := by kernel_rfl
theorem Sg : truthsL (papX []) 0 ≠ [] := fun h => by have := pe_len; rw [h] at this; cases this
theorem Vj : (truthsL (papX []) 0).length < 100000 := by simpa using pe_cnt
theorem px_in {k : Nat} (hk : k < 3) : ∀ x ∈ truthsL (papX []) 0, 0 ≤ ixN x.2 (k : Int) ∧ ixN x.2 (k : Int) < 5 := fun x hx => by
 have h := List.all_eq_true.1 (List.all_eq_true.1 pe_in x hx) k (List.mem_range.2 hk)
 rw [Bool.and_eq_true] at h
 exact ⟨of_decide_eq_true h.1, of_decide_eq_true h.2⟩
theorem px_more (k s : Nat) (hk : k < 3) (hs : s ∈ bitsL (mayN (papX []) (k : Int) (truthsL (papX []) 0))) : ValidP (moreP (papX []) k s) :=
 Eo (of_decide_eq_true (List.all_eq_true.1 (List.all_eq_true.1 pe_more k (List.mem_range.2 hk)) s hs))
end
section
open Go.RowKit
def depG (o : Oper) (j : Nat) : Bool := o.after.any fun x => Region.binds .any x && x.on == j
def factGB (n : Nat) (ops : Array Oper) : Bool :=
 (List.range ops.size).all (fun i => match ops[i]? with
   | some o => (match o.dst with | some d => Nat.blt d n | none => false) && (match o.guard with | none => true | some (j, _) => Nat.blt j i && depG o j) && o.after.all (fun x => !(Region.binds .any x) || Nat.blt x.on i) && (List.range i).all (fun j => !(Nat.beq (dstB ops j) (dstB ops i)))
   | none => false)
section
variable {P : Program} {n : Nat} {B : Base} {e0 : Env} {σ : St}
def HopG (P : Program) (n : Nat) (B : Base) (ops : Array Oper) (k : Nat) (Φ : Nat → Heap → Value → Prop) (e0 : Env) (σ : St) (i : Nat) : Prop :=
 ∀ e F, σ.F.le F → (∀ t, (∀ j, j < k → t ≠ dstB ops j) → e t = e0 t) → (∀ j, depB ops i j = true → j < k → Φ j F (e (dstB ops j))) →
   ∃ d op ty pos af gd, ops[i]? = some ⟨some d, op, ty, pos, af, gd⟩ ∧ (∀ j b, gd = some (j, b) → e (dstB ops j) = .bool b) ∧ OpX P n B ⟨some d, op, ty, pos, af, none⟩ e ⟨F, σ.H⟩ fun v σ' => ∃ F', σ' = ⟨F', σ.H⟩ ∧ F.le F' ∧ Φ i F' v
theorem GI {ops : Array Oper} (hB : factGB n ops = true) {i : Nat} (hi : i < ops.size) : ∃ o d, ops[i]? = some o ∧ o.dst = some d ∧ d < n ∧ (∀ j b, o.guard = some (j, b) → j < i) ∧ (∀ x ∈ o.after, Region.binds .any x = true → x.on < i) ∧ ∀ j, j < i → dstB ops j ≠ dstB ops i := by
 unfold factGB at hB
 have h := List.all_eq_true.1 hB i (by simpa using hi)
 split at h
 · rename_i o ho
   simp only [Bool.and_eq_true] at h
   obtain ⟨⟨⟨h1, h2⟩, h3⟩, h4⟩ := h
   split at h1
   · rename_i d hd
     refine ⟨o, d, ho, hd, by simpa using h1, fun j b hg => ?_, fun x hx hb => ?_, fun j hj he => ?_⟩
     · rw [hg] at h2
       simp only [Bool.and_eq_true] at h2
       simpa using h2.1
     · have := Array.all_eq_true'.1 h3 x hx
       simpa [hb] using this
     have := List.all_eq_true.1 h4 j (by simpa using hj)
     rw [he] at this
     simp at this
   cases h1
 cases h
theorem NC {ops : Array Oper} {Φ : Nat → Heap → Value → Prop} {Q : Exit → Env → St → Prop} (hB : factGB n ops = true) (hm : ∀ i F F' v, F.le F' → Φ i F v → Φ i F' v)
   (hops : AllTo (HopG P n B ops ops.size Φ e0 σ) ops.size)
   (hend : ∀ e F, σ.F.le F → (∀ t, (∀ j, j < ops.size → t ≠ dstB ops j) → e t = e0 t) → (∀ j, j < ops.size → Φ j F (e (dstB ops j))) → Q .normal e ⟨F, σ.H⟩) : ∀ (fuel : Nat) (listed : Array Bool) (a : Act) (w : World) (e : Env) (F : Heap), Fits n B a e → Holds B ⟨F, σ.H⟩ w → σ.F.le F →
     (∀ t, (∀ j, j < ops.size → t ≠ dstB ops j) → e t = e0 t) → (∀ j, j < ops.size → listed.getD j false = true → Φ j F (e (dstB ops j))) → listed.size = ops.size → undone listed = fuel →
     wpAny P .any ops (lift n B Q) fuel listed a w := by
 have hready : ∀ (listed : Array Bool), listed.size = ops.size → undone listed ≠ 0 → ∃ i, i ∈ Region.ready .any ops listed := by
   intro listed hsz hun
   have hex : ∃ i, i < listed.size ∧ listed.getD i false = false := by
     have : false ∈ listed.toList := by
       rw [← List.count_pos_iff]; unfold undone at hun; omega
     obtain ⟨i, hi, he⟩ := List.mem_iff_getElem.1 this
     exact ⟨i, by simpa using hi, by simp at hi; simp [Array.getD, hi]; simpa using he⟩
   obtain ⟨i, ⟨hi, hli⟩, hmin⟩ := D4 hex
   refine ⟨i, mem_ready.2 ⟨by simp [Array.getD, hi] at hli ⊢; exact hli, ?_⟩⟩
   have hlt : ∀ j, j < i → listed.getD j false = true := fun j hj => by
     cases hc : listed.getD j false with
     | true => rfl
     | false => exact absurd (hmin j ⟨by omega, hc⟩) (by omega)
   obtain ⟨o, d, h1, -, -, -, h5, -⟩ := GI hB (i := i) (by omega)
   exact ⟨o, h1, fun x hx hb => hlt _ (h5 x hx hb)⟩
 intro fuel
 induction fuel with
 | zero =>
   intro listed a w e F hf hw hF he hΦ hsz hun
   have hall : ∀ j, j < listed.size → listed.getD j false = true := fun j hj => by
     cases hc : listed.getD j false with
     | true => rfl
     | false =>
       have h1 : false ∈ listed.toList := List.mem_iff_getElem.2 ⟨j, by simpa using hj, by simp [Array.getD, hj] at hc; simpa using hc⟩
       rw [← List.count_pos_iff] at h1
       unfold undone at hun; omega
   refine ⟨?_, B.ds, e, ⟨F, σ.H⟩, hf, hw, hend e F hF he fun j hj => hΦ j hj (hall j (by omega))⟩
   cases hr : Region.ready .any ops listed with
   | nil => rfl
   | cons i l =>
     have : i ∈ Region.ready .any ops listed := by rw [hr]; simp
     obtain ⟨h1, o, ho, -⟩ := mem_ready.1 this
     have hi : i < listed.size := by rw [hsz]; exact (Array.getElem?_eq_some_iff.1 ho).1
     have h2 := hall i hi
     simp [Array.getD, hi] at h1 h2
     rw [h1] at h2; cases h2
 | succ fuel ih =>
   intro listed a w e F hf hw hF he hΦ hsz hun
   obtain ⟨i0, hi0⟩ := hready listed hsz (by omega)
   refine ⟨fun h => (by rw [h] at hi0; cases hi0), fun i hi => ?_⟩
   obtain ⟨h1, o, ho, hdeps⟩ := mem_ready.1 hi
   have hik : i < ops.size := (Array.getElem?_eq_some_iff.1 ho).1
   have hil : i < listed.size := by rw [hsz]; exact hik
   have hun' := KP h1
   obtain ⟨o', d', h2, h3, h4, h5, h6, h7⟩ := GI hB hik
   obtain ⟨d, op, ty, pos, af, gd, q1, q3, q2⟩ := hops.get i hik e F hF he fun j hj hjk => by
     obtain ⟨x, hx, hb, rfl⟩ := Oq ho hj
     exact hΦ _ hjk (hdeps x hx hb)
   rw [q1] at ho
   cases ho
   rw [q1] at h2
   cases h2
   have hdd : dstB ops i = d := by unfold dstB; rw [q1]; rfl
   have hdn : d < n := by
     have : d = d' := by simpa using h3
     subst this; exact h4
   have hwant : Region.wanted (⟨some d, op, ty, pos, af, gd⟩ : Oper) (yielded ops a.tmps) = true := by
     cases gd with
     | none => simp [Region.wanted]
     | some p =>
       obtain ⟨j, b⟩ := p
       have hji := h5 j b rfl
       obtain ⟨oj, dj, r1, r2, r3, -⟩ := GI hB (i := j) (by omega)
       have hdj : dstB ops j = dj := by unfold dstB; rw [r1]; simp [r2]
       exact Fo hf (by rw [r1]; exact r2) (by simpa using r3) (by have := q3 j b rfl; rw [hdj] at this; exact this) rfl
   unfold wpOp
   simp only [q1]
   rw [if_pos hwant]
   refine .inl (q2 a w hf hw _ _ fun v σ' w' hK hw' => ?_)
   obtain ⟨F', rfl, hle, hφ⟩ := hK
   refine ih (listed.setIfInBounds i true) _ w' (upd e d v) F' (hf.put hdn v) hw' (Heap.le_trans hF hle) (fun t ht => ?_) (fun j hj hlj => ?_) (by simpa using hsz) (by omega)
   · unfold upd
     rw [if_neg (fun h => ht i hik (by rw [h, hdd]))]
     exact he t ht
   by_cases hji : j = i
   · subst hji
     rw [hdd]
     simp only [upd, if_true]
     exact hφ
   have hne : dstB ops j ≠ d := by
     rw [← hdd]
     rcases Nat.lt_or_ge j i with h | h
     · exact h7 j h
     obtain ⟨-, -, -, -, -, -, -, h8⟩ := GI hB hj
     exact (h8 i (by omega)).symm
   simp only [upd, if_neg hne]
   rw [getD_set_ne false (Ne.symm hji)] at hlj
   exact hm _ _ _ _ hle (hΦ j hj hlj)
theorem WT {id : Nat} {l : List Oper} {Q : Exit → Env → St → Prop} (k : Nat) (hk : l.toArray.size = k) (hp : Plainly B.ro l) (hO : ∀ e σ, Q .outgrown e σ → False) (hm : P.follows .mixedOrders = true) (hB : factGB n l.toArray = true)
   (φs : List (Heap → Value → Prop)) (hmono : AllMono φs)
   (hops : ∀ ds, AllTo (HopG P n (B.at ds) l.toArray k (phiOf φs) e0 σ) k)
   (hend : ∀ e F, σ.F.le F → (∀ t, (∀ j, j < k → t ≠ dstB l.toArray j) → e t = e0 t) → (∀ j, j < k → phiOf φs j F (e (dstB l.toArray j))) → Q .normal e ⟨F, σ.H⟩) : WC P n B (.region id l.toArray true) Q e0 σ := by
 intro ds a w ha hw
 subst hk
 refine wpIn_region_any hm (Ez (HX hO) (by simpa using hp.mem) _ _ _ _ ?_)
 exact NC (P := P) (e0 := e0) (σ := σ) (Q := Q) hB hmono.phi (hops ds) hend l.toArray.size (Array.replicate l.toArray.size false) a _ e0 σ.F ha hw.drew (Heap.le_refl _) (fun _ _ => rfl) (fun j _ h => by simp [Array.getD] at h) (by simp) (by simp [undone])
end
end
section
set_option maxRecDepth 100000
open Go.RowKit
theorem RQ : ZeroT Tryz.prog 26 (.agg #[.int .i64 0, .slice none 0 0, .slice none 0 0, .int .i64 0, .slice none 0 0]) := Bv (by kernel_rfl)
theorem Mo : Body Tryz.prog 28 := AF (by kernel_rfl)
theorem Jk : Body Tryz.prog 32 := AF (by kernel_rfl)
theorem bt_26 : BuildT Tryz.prog 26 [.int .i64 0, .slice none 0 0, .slice none 0 0, .int .i64 0, .slice none 0 0] [(0, 1), (1, 1), (2, 1), (3, 1), (4, 1)] := Cs RQ (by kernel_rfl) (by decide)
theorem Wd : BuildT Tryz.prog 73 [.string ⟨#[]⟩, .int .i64 0, .int .i64 0] [(0, 1), (1, 2)] := Cs RP (by kernel_rfl) (by decide)
theorem Wc : BuildT Tryz.prog 76 [.int .i64 0, .int .i64 0, .int .i64 0] [(0, 1), (1, 2)] := Cs Hw (by kernel_rfl) (by decide)
theorem RZ : SizeT Tryz.prog 26 5 := Bq (by kernel_rfl)
theorem Tm {F : Heap} {b T : Nat} (h : F b = some (bx T ((stkX : List Stk).flatMap Stk.enc))) : Sl F (.slice (some ⟨b, 0, none⟩) 3 3) 3 Stk.enc stkX := Dc h rfl rfl (fun _ => rfl) (by decide)
theorem Tv {F : Heap} {b T : Nat} (h : F b = some (bx T ((remX : List Rem).flatMap Rem.enc))) : Sl F (.slice (some ⟨b, 0, none⟩) 3 3) 3 Rem.enc remX := Dc h rfl rfl (fun _ => rfl) (by decide)
theorem Pa {F : Heap} {b T : Nat} (h : F b = some (bx T ((snX : List Sn).flatMap Sn.enc))) : Sl F (.slice (some ⟨b, 0, none⟩) 2 2) 2 Sn.enc snX := Dc h rfl rfl (fun _ => rfl) (by decide)
theorem Me {F : Heap} {v : Value} {xs : List Sn} (h : Sl F v 2 Sn.enc xs) (hn : xs.length ≤ 8) : Ok Tryz.prog 22 [v].toArray F fun u F' => ∃ vs vr vx, u = papV vs vr vx (papX xs) ∧ PapR F' vs vr vx (papX xs) := by
 refine Ok.intro Tryz.func22 rfl Tryz.ntmps22 rfl fun w0 => Ac <| Al fun ds => A3 rfl <| AN RQ rfl fun b1 hb1 nb1 => Am <| Ab <| Ac <| Al fun ds => AS rfl (Ay Jk Aa AY (D2 _ _) (fun _ _ h => h)) <| Af rfl (BE Wd (.cons Aa rfl (.cons Aa rfl .nil)) (.cons rfl rfl (Nat.le_of_ble_eq_true rfl) (.cons (.here) .nil) (.cons rfl rfl (Nat.le_of_ble_eq_true rfl) (.cons (.next <| .here) (.cons (.next <| .next <| .here) .nil)) .nil))) <| AS rfl (Ay Jk Aa AY (D2 _ _) (fun _ _ h => h)) <| Af rfl (BE Wd (.cons Aa rfl (.cons Aa rfl .nil)) (.cons rfl rfl (Nat.le_of_ble_eq_true rfl) (.cons (.here) .nil) (.cons rfl rfl (Nat.le_of_ble_eq_true rfl) (.cons (.next <| .here) (.cons (.next <| .next <| .here) .nil)) .nil))) <| AS rfl (Ay Jk Aa AY (D2 _ _) (fun _ _ h => h)) <| Af rfl (BE Wd (.cons Aa rfl (.cons Aa rfl .nil)) (.cons rfl rfl (Nat.le_of_ble_eq_true rfl) (.cons (.here) .nil) (.cons rfl rfl (Nat.le_of_ble_eq_true rfl) (.cons (.next <| .here) (.cons (.next <| .next <| .here) .nil)) .nil))) <| A3 rfl <| C2 (offs := [(0, 3), (3, 3), (6, 3)]) (zl := [.string ⟨#[]⟩, .int .i64 0, .int .i64 0, .string ⟨#[]⟩, .int .i64 0, .int .i64 0, .string ⟨#[]⟩, .int .i64 0, .int .i64 0]) Cd RP rfl (.cons Aa rfl (.cons Aa rfl (.cons Aa rfl .nil))) (by intro i p h; rcases i with _ | _ | _ | i <;> simp at h <;> subst h <;> rfl) (.cons rfl rfl (Nat.le_of_ble_eq_true rfl) (.cons (.here) (.cons (.next <| .here) (.cons (.next <| .next <| .here) .nil))) (.cons rfl rfl (Nat.le_of_ble_eq_true rfl) (.cons (.next <| .next <| .next <| .here) (.cons (.next <| .next <| .next <| .next <| .here) (.cons (.next <| .next <| .next <| .next <| .next <| .here) .nil))) (.cons rfl rfl (Nat.le_of_ble_eq_true rfl) (.cons (.next <| .next <| .next <| .next <| .next <| .next <| .here) (.cons (.next <| .next <| .next <| .next <| .next <| .next <| .next <| .here) (.cons (.next <| .next <| .next <| .next <| .next <| .next <| .next <| .next <| .here) .nil))) .nil))) (by decide) (by decide) fun b2 hb2 nb2 => ?_
 refine AW (i := 0) rfl hb2 .here fun F3 hF4 hz5 => ?_
 replace h := h.mono hF4
 have hsl6 := Tm hz5
 refine AS rfl (Ay Jk Aa AY (D2 _ _) (fun _ _ h => h)) <| Af rfl (BE Wc (.cons Aa rfl (.cons Aa rfl .nil)) (.cons rfl rfl (Nat.le_of_ble_eq_true rfl) (.cons (.here) .nil) (.cons rfl rfl (Nat.le_of_ble_eq_true rfl) (.cons (.next <| .here) (.cons (.next <| .next <| .here) .nil)) .nil))) <| AS rfl (Ay Jk Aa AY (D2 _ _) (fun _ _ h => h)) <| Af rfl (BE Wc (.cons Aa rfl (.cons Aa rfl .nil)) (.cons rfl rfl (Nat.le_of_ble_eq_true rfl) (.cons (.here) .nil) (.cons rfl rfl (Nat.le_of_ble_eq_true rfl) (.cons (.next <| .here) (.cons (.next <| .next <| .here) .nil)) .nil))) <| AS rfl (Ay Jk Aa AY (D2 _ _) (fun _ _ h => h)) <| Af rfl (BE Wc (.cons Aa rfl (.cons Aa rfl .nil)) (.cons rfl rfl (Nat.le_of_ble_eq_true rfl) (.cons (.here) .nil) (.cons rfl rfl (Nat.le_of_ble_eq_true rfl) (.cons (.next <| .here) (.cons (.next <| .next <| .here) .nil)) .nil))) <| A3 rfl <| C2 (offs := [(0, 3), (3, 3), (6, 3)]) (zl := [.int .i64 0, .int .i64 0, .int .i64 0, .int .i64 0, .int .i64 0, .int .i64 0, .int .i64 0, .int .i64 0, .int .i64 0]) CD Hw rfl (.cons Aa rfl (.cons Aa rfl (.cons Aa rfl .nil))) (by intro i p h; rcases i with _ | _ | _ | i <;> simp at h <;> subst h <;> rfl) (.cons rfl rfl (Nat.le_of_ble_eq_true rfl) (.cons (.here) (.cons (.next <| .here) (.cons (.next <| .next <| .here) .nil))) (.cons rfl rfl (Nat.le_of_ble_eq_true rfl) (.cons (.next <| .next <| .next <| .here) (.cons (.next <| .next <| .next <| .next <| .here) (.cons (.next <| .next <| .next <| .next <| .next <| .here) .nil))) (.cons rfl rfl (Nat.le_of_ble_eq_true rfl) (.cons (.next <| .next <| .next <| .next <| .next <| .next <| .here) (.cons (.next <| .next <| .next <| .next <| .next <| .next <| .next <| .here) (.cons (.next <| .next <| .next <| .next <| .next <| .next <| .next <| .next <| .here) .nil))) .nil))) (by decide) (by decide) fun b7 hb7 nb7 => ?_
 refine AW (i := 0) rfl hb7 .here fun F8 hF9 hz10 => ?_
 replace h := h.mono hF9
 replace hsl6 := hsl6.mono hF9
 have hsl11 := Tv hz10
 refine AS rfl (Ay Mo Aa AY (E2 _ _) (fun _ _ h => h)) <| AS rfl (Ay Mo Aa AY (E2 _ _) (fun _ _ h => h)) <| A3 rfl <| C2 (offs := [(0, 2), (2, 2)]) (zl := [.int .i64 0, .int .i64 0, .int .i64 0, .int .i64 0]) Cu FV rfl (.cons Aa rfl (.cons Aa rfl .nil)) (by intro i p h; rcases i with _ | _ | i <;> simp at h <;> subst h <;> rfl) (.cons rfl rfl (Nat.le_of_ble_eq_true rfl) (.cons (.here) (.cons (.next <| .here) .nil)) (.cons rfl rfl (Nat.le_of_ble_eq_true rfl) (.cons (.next <| .next <| .here) (.cons (.next <| .next <| .next <| .here) .nil)) .nil)) (by decide) (by decide) fun b12 hb12 nb12 => Ao (Ae 1) <| A3 rfl <| Bi Cu SB Aa (CR rfl) Aa (Sa h) (by omega) (by omega) (.z) .box fun v13 R14 ho15 => ?_
 have hap : Own 78 2 v13 ([⟨0, 1⟩, ⟨1, 0⟩] ++ xs : List Sn).length (([⟨0, 1⟩, ⟨1, 0⟩] ++ xs : List Sn).flatMap Sn.enc) R14 := (show Own 78 2 v13 (2 + xs.length) _ R14 from ho15).to (by simp; omega)
 refine Af rfl (BE bt_26 (.cons Aa rfl (.cons Aa rfl (.cons Aa rfl (.cons Aa rfl (.cons Aa (by rw [Cr hap.one]) .nil))))) (.cons rfl rfl (Nat.le_of_ble_eq_true rfl) (.cons (.here) .nil) (.cons rfl rfl (Nat.le_of_ble_eq_true rfl) (.cons (.next <| .here) .nil) (.cons rfl rfl (Nat.le_of_ble_eq_true rfl) (.cons (.next <| .next <| .here) .nil) (.cons rfl rfl (Nat.le_of_ble_eq_true rfl) (.cons (.next <| .next <| .next <| .here) .nil) (.cons rfl rfl (Nat.le_of_ble_eq_true rfl) (.cons (.next <| .next <| .next <| .next <| .here) .nil) .nil)))))) <| BP (.one (.lastS) <| .lastb (.last)) <| AV <| AQ RZ Aa Aa (i := 0) rfl rfl rfl rfl (by simp [Value.oneCell']; exact hap.one) (.here) <| Am <| Ab <| Bm (σ := ⟨_, _⟩) (by rfl) hap (.s <| .z) .last fun F16 hF17 hz18 => ?_
 replace hsl6 := hsl6.mono hF17
 replace hsl11 := hsl11.mono hF17
 have hsn := hap.sl (fun _ => rfl) hz18 (by simp; omega)
 refine At <| Aq rfl (.agg Eh Aa rfl rfl (Bg 0 rfl) .nil) ?_
 exact ⟨_, _, _, rfl, ⟨hsl6, hsl11, hsn⟩⟩
end
section
set_option maxHeartbeats 4000000
set_option maxRecDepth 100000
open Go.RowKit
theorem bd_11 : Body Tryz.prog 11 := AF (by kernel_rfl)
theorem Wu : Body Tryz.prog 22 := AF (by kernel_rfl)
theorem bd_23 : Body Tryz.prog 23 := AF (by kernel_rfl)
theorem bd_24 : Body Tryz.prog 24 := AF (by kernel_rfl)
theorem bd_25 : Body Tryz.prog 25 := AF (by kernel_rfl)
theorem bd_26 : Body Tryz.prog 26 := AF (by kernel_rfl)
theorem bd_27 : Body Tryz.prog 27 := AF (by kernel_rfl)
theorem bd_29 : Body Tryz.prog 29 := AF (by kernel_rfl)
theorem bd_30 : Body Tryz.prog 30 := AF (by kernel_rfl)
theorem E5 {e : Env} {v : Value} : ev e (.const v) = v := rfl
theorem QJ : Tryz.prog.stoodInHeld 54 = false := by kernel_rfl
theorem Rm : Tryz.prog.eqGuardType Tryz.prog.depth 54 = false := by kernel_rfl
theorem bits1 : bitsL 1 = [0] := by kernel_rfl
theorem bits3 : bitsL 3 = [0, 1] := by kernel_rfl
theorem bits4 : bitsL 4 = [2] := by kernel_rfl
theorem ordX {u : Value} {F : Heap} (h : ∃ v, ∃ ps : List (Value × List Nat), u = .tuple #[v, .int .i64 (if waysL (papX []) = [] then 8 else 0)] ∧ Sl F v 1 slE ps ∧ AllN F ps ∧ ps.map (·.2) = waysL (papX [])) :
   ∃ v, ∃ ps : List (Value × List Nat), u = .tuple #[v, .int .i64 0] ∧ Sl F v 1 slE ps ∧ AllN F ps ∧ ps.map (·.2) = [[1, 0, 2], [1, 2, 0], [2, 1, 0]] := by
 rw [Sk, if_neg (by decide)] at h; exact h
theorem ordX2 {u : Value} {F : Heap} (h : ∃ v, ∃ ps : List (Value × List Nat), u = .tuple #[v, .int .i64 (if waysL (papX snX) = [] then 8 else 0)] ∧ Sl F v 1 slE ps ∧ AllN F ps ∧ ps.map (·.2) = waysL (papX snX)) : ∃ v, u = .tuple #[v, .int .i64 8] := by
 rw [Vn, if_pos rfl] at h; obtain ⟨v, _, h, -⟩ := h; exact ⟨v, h⟩
theorem lists6 {F : Heap} {b T : Nat} {a0 a1 a2 : Value} {l0 l1 l2 : List Nat} (h : F b = some (bx T [a0, a1, a2])) (h0 : Nats F a0 l0) (h1 : Nats F a1 l1) (h2 : Nats F a2 l2) :
   ∃ qs : List (Value × List Nat), Sl F (.slice (some ⟨b, 0, none⟩) 3 3) 1 slE qs ∧ AllN F qs ∧ qs.map (·.2) = [l0, l1, l2] :=
 ⟨[(a0, l0), (a1, l1), (a2, l2)], Dc h rfl rfl (fun _ => rfl) (by decide), fun p hp => by
   simp only [List.mem_cons, List.not_mem_nil, or_false] at hp
   rcases hp with rfl | rfl | rfl
   · exact h0
   · exact h1
   exact h2, rfl⟩
theorem Fl {F : Heap} : Ok Tryz.prog 6 [].toArray F fun u _ => u = .bool true := by
 refine Ok.intro Tryz.func6 rfl Tryz.ntmps6 rfl fun w0 => AI (Ae 1) <| Ac <| Al fun ds => A3 rfl <| Be Wu Aa AY (Me (xs := []) Sl.nil (by decide)) fun v1 F2 hr3 hF4 => ?_
 obtain ⟨vs, vr, vx, rfl, hr⟩ := hr3
 refine A3 rfl <| AN RQ rfl fun b5 hb5 nb5 => AV <| AQ RZ Aa Aa (i := 0) rfl rfl rfl rfl hr.ones (.here) <| Am <| Ab <| AL (i := 0) rfl hb5 (.here) fun F6 hF7 hz1 => ?_
 replace hr := hr.mono hF7
 refine Ac <| Al fun ds => Af rfl (AO Eh Aa rfl rfl (AZ hz1)) <| A3 rfl <| Be bd_23 Aa AY ((Lx hr pv (g := 3) rfl (by decide) QZ).mono fun u F2 _ h => ordX h) fun v8 F9 hr10 hF11 => ?_
 replace hr := hr.mono hF11
 replace hz1 := hF11 _ _ hz1
 obtain ⟨vo, ps, rfl, hps, hpn, hpm⟩ := hr10
 refine As (Ae 5) <| Ac <| Al fun ds => Af rfl (AO Eh Aa rfl rfl (AZ hz1)) <| AS rfl (Ay bd_24 Aa AY (RF hr pv (g := 3) rfl (by decide) QZ (a := 0) (b := 1) ⟨by decide, by decide⟩ ⟨by decide, by decide⟩ (by decide) (by rw [Sk]; decide)) (fun _ _ h => h.trans (show _ = Value.tuple #[.int .i64 2, .int .i64 0] by rw [pe_bef]))) <| As (Ae 5) <| Ac <| Al fun ds => Af rfl (AO Eh Aa rfl rfl (AZ hz1)) <| A3 rfl <| Be bd_25 Aa AY (QK hr pv (g := 3) rfl (by decide) QZ (gz := 1) ⟨by decide, by decide⟩ (px_in (k := 1) (by decide)) Sg pe_sure (by decide)) fun v12 F13 hr14 hF15 => ?_
 replace hr := hr.mono hF15
 replace hps := hps.mono hF15
 replace hpn := hpn.mono hF15
 replace hz1 := hF15 _ _ hz1
 obtain ⟨va_, vb_, rfl, ha, hb⟩ := hr14
 rw [bits1] at ha
 rw [pe_may, bits3] at hb
 refine As (Ae 7) <| Ac <| Al fun ds => Af rfl (AO Eh Aa rfl rfl (AZ hz1)) <| AS rfl (Ay bd_26 Aa AY (V3 hr pv (g := 3) rfl (by decide) QZ Sg Vj) (fun _ _ h => h.trans (show _ = Value.tuple #[.agg #[.int .i64 3, .int .i64 5], .agg #[.int .i64 3, .int .i64 3], .int .i64 0] by rw [(Prod.mk.inj Sm).1, (Prod.mk.inj Sm).2, (Prod.mk.inj Pt).1, (Prod.mk.inj Pt).2]))) <| Ao (Ae 4) <| A3 rfl <| AN EE rfl fun b16 hb16 nb16 => A3 rfl <| AN EE rfl fun b17 hb17 nb17 => AV <| AQ EX Aa Aa (i := 1) rfl rfl rfl rfl (by simp [Value.oneCell']) (.next <| .here) <| AV <| AQ EX Aa Aa (i := 0) rfl rfl rfl rfl (by simp [Value.oneCell']) (.here) <| As (Ae 1) <| AL (i := 1) rfl hb16 (.next <| .here) fun F18 hF19 hz9 => ?_
 replace hr := hr.mono hF19
 replace hps := hps.mono hF19
 replace hpn := hpn.mono hF19
 replace ha := ha.mono hF19
 replace hb := hb.mono hF19
 replace hz1 := hF19 _ _ hz1
 refine AL (i := 0) rfl hb17 (.here) fun F20 hF21 hz10 => ?_
 replace hr := hr.mono hF21
 replace hps := hps.mono hF21
 replace hpn := hpn.mono hF21
 replace ha := ha.mono hF21
 replace hb := hb.mono hF21
 replace hz1 := hF21 _ _ hz1
 replace hz9 := hF21 _ _ hz9
 refine Ac <| Al fun ds => Af rfl (AO Eh Aa rfl rfl (AZ hz1)) <| AS rfl (Ay bd_11 Aa AY (O6 hr pv (g := 3) rfl (by decide) QZ Sg Vj) (fun _ _ h => h.trans (show _ = Value.tuple #[.agg #[.int .i64 1605, .int .i64 1610], .int .i64 0] by rw [(Prod.mk.inj Sj).1, (Prod.mk.inj Sj).2]))) <| Ao (Ae 3) <| A3 rfl <| AN EE rfl fun b22 hb22 nb22 => AV <| AQ EX Aa Aa (i := 0) rfl rfl rfl rfl (by simp [Value.oneCell']) (.here) <| As (Ae 1) <| AL (i := 0) rfl hb22 (.here) fun F23 hF24 hz12 => ?_
 replace hr := hr.mono hF24
 replace hps := hps.mono hF24
 replace hpn := hpn.mono hF24
 replace ha := ha.mono hF24
 replace hb := hb.mono hF24
 replace hz1 := hF24 _ _ hz1
 replace hz9 := hF24 _ _ hz9
 replace hz10 := hF24 _ _ hz10
 refine Ac <| Al fun ds => AS rfl (Ay Mo Aa AY (E2 _ _) (fun _ _ h => h)) <| AS rfl (Ay Mo Aa AY (E2 _ _) (fun _ _ h => h)) <| A3 rfl <| C2 (offs := [(0, 2), (2, 2)]) (zl := [.int .i64 0, .int .i64 0, .int .i64 0, .int .i64 0]) Cu FV rfl (.cons Aa rfl (.cons Aa rfl .nil)) (by intro i p h; rcases i with _ | _ | i <;> simp at h <;> subst h <;> rfl) (.cons rfl rfl (Nat.le_of_ble_eq_true rfl) (.cons (.here) (.cons (.next <| .here) .nil)) (.cons rfl rfl (Nat.le_of_ble_eq_true rfl) (.cons (.next <| .next <| .here) (.cons (.next <| .next <| .next <| .here) .nil)) .nil)) (by decide) (by decide) fun b25 hb25 nb25 => AW (i := 0) rfl hb25 .here fun F26 hF27 hz28 => ?_
 replace hr := hr.mono hF27
 replace hps := hps.mono hF27
 replace hpn := hpn.mono hF27
 replace ha := ha.mono hF27
 replace hb := hb.mono hF27
 replace hz1 := hF27 _ _ hz1
 replace hz9 := hF27 _ _ hz9
 replace hz10 := hF27 _ _ hz10
 replace hz12 := hF27 _ _ hz12
 have hsl29 := Pa hz28
 refine A3 rfl <| Be Wu Aa AY (Me hsl29 (by decide)) fun v30 F31 hr32 hF33 => ?_
 replace hr := hr.mono hF33
 replace hps := hps.mono hF33
 replace hpn := hpn.mono hF33
 replace ha := ha.mono hF33
 replace hb := hb.mono hF33
 replace hz1 := hF33 _ _ hz1
 replace hz9 := hF33 _ _ hz9
 replace hz10 := hF33 _ _ hz10
 replace hz12 := hF33 _ _ hz12
 obtain ⟨ws, wr, wx, rfl, hr2⟩ := hr32
 refine A3 rfl <| Be bd_27 Aa AY (SV hr2 pv2 (g := 3) rfl (by decide) Vo Vm (by decide)) fun v34 F35 hr36 hF37 => ?_
 replace hr := hr.mono hF37
 replace hps := hps.mono hF37
 replace hpn := hpn.mono hF37
 replace ha := ha.mono hF37
 replace hb := hb.mono hF37
 replace hz1 := hF37 _ _ hz1
 replace hz9 := hF37 _ _ hz9
 replace hz10 := hF37 _ _ hz10
 replace hz12 := hF37 _ _ hz12
 obtain ⟨vw_, rfl, hw⟩ := hr36
 rw [bits4] at hw
 refine As (Ae 5) <| Ac <| Al fun ds => Af rfl (AO Eh Aa rfl rfl (AZ hz1)) <| AS rfl (Ay bd_29 Aa AY (askP_ok hr pv (g := 3) rfl (by decide) QZ (fun k hk => px_in hk) Sg px_more) (fun _ _ h => h.trans (show _ = Value.tuple #[.int .i64 2, .int .i64 2, .int .i64 0] by rw [pe_ask]))) <| As (Ae 7) <| Ac <| Al fun ds => AS rfl (Ay Mo Aa AY (E2 _ _) (fun _ _ h => h)) <| AS rfl (Ay Mo Aa AY (E2 _ _) (fun _ _ h => h)) <| A3 rfl <| C2 (offs := [(0, 2), (2, 2)]) (zl := [.int .i64 0, .int .i64 0, .int .i64 0, .int .i64 0]) Cu FV rfl (.cons Aa rfl (.cons Aa rfl .nil)) (by intro i p h; rcases i with _ | _ | i <;> simp at h <;> subst h <;> rfl) (.cons rfl rfl (Nat.le_of_ble_eq_true rfl) (.cons (.here) (.cons (.next <| .here) .nil)) (.cons rfl rfl (Nat.le_of_ble_eq_true rfl) (.cons (.next <| .next <| .here) (.cons (.next <| .next <| .next <| .here) .nil)) .nil)) (by decide) (by decide) fun b38 hb38 nb38 => AW (i := 0) rfl hb38 .here fun F39 hF40 hz41 => ?_
 replace hr := hr.mono hF40
 replace hps := hps.mono hF40
 replace hpn := hpn.mono hF40
 replace ha := ha.mono hF40
 replace hb := hb.mono hF40
 replace hw := hw.mono hF40
 replace hz9 := hF40 _ _ hz9
 replace hz10 := hF40 _ _ hz10
 replace hz12 := hF40 _ _ hz12
 have hsl42 := Pa hz41
 refine A3 rfl <| Be Wu Aa AY (Me hsl42 (by decide)) fun v43 F44 hr45 hF46 => ?_
 replace hr := hr.mono hF46
 replace hps := hps.mono hF46
 replace hpn := hpn.mono hF46
 replace ha := ha.mono hF46
 replace hb := hb.mono hF46
 replace hw := hw.mono hF46
 replace hz9 := hF46 _ _ hz9
 replace hz10 := hF46 _ _ hz10
 replace hz12 := hF46 _ _ hz12
 obtain ⟨us, ur, ux, rfl, hr3⟩ := hr45
 refine A3 rfl <| Be bd_23 Aa AY ((Lx hr3 pv2 (g := 3) rfl (by decide) Vo).mono fun u F2 _ h => ordX2 h) fun v47 F48 hr49 hF50 => ?_
 replace hr := hr.mono hF50
 replace hps := hps.mono hF50
 replace hpn := hpn.mono hF50
 replace ha := ha.mono hF50
 replace hb := hb.mono hF50
 replace hw := hw.mono hF50
 replace hz9 := hF50 _ _ hz9
 replace hz10 := hF50 _ _ hz10
 replace hz12 := hF50 _ _ hz12
 obtain ⟨vz_, rfl⟩ := hr49
 refine As (Ae 5) <| Ac ?_
 refine WT 81 rfl (.inl rfl) (fun _ _ h => h) (by kernel_rfl) (by kernel_rfl) ([fun F v => v = Value.int .i64 0, fun F v => v = Value.bool true, fun F v => v = Value.bool true, fun F v => v = Value.int .i64 0, fun F v => v = Value.bool true, fun F v => v = Value.bool true, fun F v => v = Value.bool true, fun F v => v = Value.int .i64 0, fun F v => v = Value.bool true, fun F v => v = Value.bool true, fun F v => v = Value.bool true, fun F v => v = Value.int .i64 0, fun F v => v = Value.bool true, fun F v => v = Value.bool true, fun F v => v = Value.bool true, fun F v => v = Value.int .i64 0, fun F v => v = Value.bool true, fun F v => v = Value.bool true, fun F v => v = Value.bool true, fun F v => v = Value.int .i64 0, fun F v => v = Value.bool true, fun F v => v = Value.bool true, fun F v => v = Value.bool true, fun F v => v = Value.int .i64 0, fun F v => v = Value.bool true, fun F v => v = Value.bool true, fun F v => v = Value.bool true, fun F v => v = Value.int .i64 8, fun F v => v = Value.bool true, fun F v => v = Value.bool true, fun F v => v = Value.bool true, fun F v => v = vo, fun F v => Nats F v [1, 0, 2], fun F v => Nats F v [1, 2, 0], fun F v => Nats F v [2, 1, 0], fun F v => ∃ qs : List (Value × List Nat), Sl F v 1 slE qs ∧ AllN F qs ∧ qs.map (·.2) = [[1, 0, 2], [1, 2, 0], [2, 1, 0]], fun F v => v = Value.bool true, fun F v => v = Value.bool true, fun F v => v = Value.bool true, fun F v => v = Value.int .i64 2, fun F v => v = Value.bool true, fun F v => v = Value.bool true, fun F v => v = Value.bool true, fun F v => v = va_, fun F v => Ints F v [0], fun F v => v = Value.bool true, fun F v => v = Value.bool true, fun F v => v = Value.bool true, fun F v => v = vb_, fun F v => Ints F v [0, 1], fun F v => v = Value.bool true, fun F v => v = Value.bool true, fun F v => v = Value.bool true, fun F v => v = Value.agg #[.int .i64 3, .int .i64 5], fun F v => v = Value.agg #[.int .i64 3, .int .i64 5], fun F v => v = Value.bool true, fun F v => v = Value.bool true, fun F v => v = Value.bool true, fun F v => v = Value.agg #[.int .i64 3, .int .i64 3], fun F v => v = Value.agg #[.int .i64 3, .int .i64 3], fun F v => v = Value.bool true, fun F v => v = Value.bool true, fun F v => v = Value.bool true, fun F v => v = Value.agg #[.int .i64 1605, .int .i64 1610], fun F v => v = Value.agg #[.int .i64 1605, .int .i64 1610], fun F v => v = Value.bool true, fun F v => v = Value.bool true, fun F v => v = Value.bool true, fun F v => v = vw_, fun F v => Ints F v [2], fun F v => v = Value.bool true, fun F v => v = Value.bool true, fun F v => v = Value.bool true, fun F v => v = Value.int .i64 2, fun F v => v = Value.bool true, fun F v => v = Value.bool true, fun F v => v = Value.bool true, fun F v => v = Value.int .i64 2, fun F v => v = Value.bool true, fun F v => v = Value.bool true, fun F v => v = Value.bool true]) (⟨fun F F2 v hF h => h, fun F F2 v hF h => h, fun F F2 v hF h => h, fun F F2 v hF h => h, fun F F2 v hF h => h, fun F F2 v hF h => h, fun F F2 v hF h => h, fun F F2 v hF h => h, fun F F2 v hF h => h, fun F F2 v hF h => h, fun F F2 v hF h => h, fun F F2 v hF h => h, fun F F2 v hF h => h, fun F F2 v hF h => h, fun F F2 v hF h => h, fun F F2 v hF h => h, fun F F2 v hF h => h, fun F F2 v hF h => h, fun F F2 v hF h => h, fun F F2 v hF h => h, fun F F2 v hF h => h, fun F F2 v hF h => h, fun F F2 v hF h => h, fun F F2 v hF h => h, fun F F2 v hF h => h, fun F F2 v hF h => h, fun F F2 v hF h => h, fun F F2 v hF h => h, fun F F2 v hF h => h, fun F F2 v hF h => h, fun F F2 v hF h => h, fun F F2 v hF h => h, fun F F2 v hF h => h.mono hF, fun F F2 v hF h => h.mono hF, fun F F2 v hF h => h.mono hF, fun F F2 v hF h => (by obtain ⟨qs, h1, h2, h3⟩ := h; exact ⟨qs, h1.mono hF, h2.mono hF, h3⟩), fun F F2 v hF h => h, fun F F2 v hF h => h, fun F F2 v hF h => h, fun F F2 v hF h => h, fun F F2 v hF h => h, fun F F2 v hF h => h, fun F F2 v hF h => h, fun F F2 v hF h => h, fun F F2 v hF h => h.mono hF, fun F F2 v hF h => h, fun F F2 v hF h => h, fun F F2 v hF h => h, fun F F2 v hF h => h, fun F F2 v hF h => h.mono hF, fun F F2 v hF h => h, fun F F2 v hF h => h, fun F F2 v hF h => h, fun F F2 v hF h => h, fun F F2 v hF h => h, fun F F2 v hF h => h, fun F F2 v hF h => h, fun F F2 v hF h => h, fun F F2 v hF h => h, fun F F2 v hF h => h, fun F F2 v hF h => h, fun F F2 v hF h => h, fun F F2 v hF h => h, fun F F2 v hF h => h, fun F F2 v hF h => h, fun F F2 v hF h => h, fun F F2 v hF h => h, fun F F2 v hF h => h, fun F F2 v hF h => h, fun F F2 v hF h => h.mono hF, fun F F2 v hF h => h, fun F F2 v hF h => h, fun F F2 v hF h => h, fun F F2 v hF h => h, fun F F2 v hF h => h, fun F F2 v hF h => h, fun F F2 v hF h => h, fun F F2 v hF h => h, fun F F2 v hF h => h, fun F F2 v hF h => h, fun F F2 v hF h => h, trivial⟩) (fun ds => ?_) ?_
 ·refine ⟨⟨⟨⟨⟨⟨⟨⟨⟨⟨⟨⟨⟨⟨⟨⟨⟨⟨⟨⟨⟨⟨⟨⟨⟨⟨⟨⟨⟨⟨⟨⟨⟨⟨⟨⟨⟨⟨⟨⟨⟨⟨⟨⟨⟨⟨⟨⟨⟨⟨⟨⟨⟨⟨⟨⟨⟨⟨⟨⟨⟨⟨⟨⟨⟨⟨⟨⟨⟨⟨⟨⟨⟨⟨⟨⟨⟨⟨⟨⟨⟨trivial, ?_⟩, ?_⟩, ?_⟩, ?_⟩, ?_⟩, ?_⟩, ?_⟩, ?_⟩, ?_⟩, ?_⟩, ?_⟩, ?_⟩, ?_⟩, ?_⟩, ?_⟩, ?_⟩, ?_⟩, ?_⟩, ?_⟩, ?_⟩, ?_⟩, ?_⟩, ?_⟩, ?_⟩, ?_⟩, ?_⟩, ?_⟩, ?_⟩, ?_⟩, ?_⟩, ?_⟩, ?_⟩, ?_⟩, ?_⟩, ?_⟩, ?_⟩, ?_⟩, ?_⟩, ?_⟩, ?_⟩, ?_⟩, ?_⟩, ?_⟩, ?_⟩, ?_⟩, ?_⟩, ?_⟩, ?_⟩, ?_⟩, ?_⟩, ?_⟩, ?_⟩, ?_⟩, ?_⟩, ?_⟩, ?_⟩, ?_⟩, ?_⟩, ?_⟩, ?_⟩, ?_⟩, ?_⟩, ?_⟩, ?_⟩, ?_⟩, ?_⟩, ?_⟩, ?_⟩, ?_⟩, ?_⟩, ?_⟩, ?_⟩, ?_⟩, ?_⟩, ?_⟩, ?_⟩, ?_⟩, ?_⟩, ?_⟩, ?_⟩, ?_⟩
  ·intro e1 F1 hF1 he hj
   refine ⟨_, _, _, _, _, _, rfl, (fun _ _ h => nomatch h), ?_⟩
   refine AP (A9 (BW (C7 he (by kernel_rfl)) <| M5 rfl <| HW rfl <| Q5 rfl <| L5 rfl <| K5 rfl <| JF)).quiet ⟨_, rfl, Heap.le_refl _, rfl⟩
  ·intro e1 F1 hF1 he hj
   have g71 : (e1 71) = .int .i64 0 := hj 0 (by kernel_rfl) (by decide)
   refine ⟨_, _, _, _, _, _, rfl, (fun _ _ h => nomatch h), ?_⟩
   refine AP (Cm (Bh g71) E5).quiet ⟨_, rfl, Heap.le_refl _, rfl⟩
  ·intro e1 F1 hF1 he hj
   have g72 : (e1 72) = .bool true := hj 1 (by kernel_rfl) (by decide)
   refine ⟨_, _, _, _, _, _, rfl, (fun _ _ h => nomatch h), ?_⟩
   refine AP (A9 (Bh g72)).quiet ⟨_, rfl, Heap.le_refl _, rfl⟩
  ·intro e1 F1 hF1 he hj
   have g73 : (e1 73) = .bool true := hj 2 (by kernel_rfl) (by decide)
   refine ⟨_, _, _, _, _, _, rfl, (fun _ _ h => by cases h; exact g73), ?_⟩
   refine AP (A9 (BW (C7 he (by kernel_rfl)) <| M5 rfl <| HW rfl <| L5 rfl <| L6 rfl <| JF)).quiet ⟨_, rfl, Heap.le_refl _, rfl⟩
  ·intro e1 F1 hF1 he hj
   have g73 : (e1 73) = .bool true := hj 2 (by kernel_rfl) (by decide)
   have g74 : (e1 74) = .int .i64 0 := hj 3 (by kernel_rfl) (by decide)
   refine ⟨_, _, _, _, _, _, rfl, (fun _ _ h => by cases h; exact g73), ?_⟩
   refine AP (Cm (Bh g74) E5).quiet ⟨_, rfl, Heap.le_refl _, rfl⟩
  ·intro e1 F1 hF1 he hj
   have g73 : (e1 73) = .bool true := hj 2 (by kernel_rfl) (by decide)
   have g75 : (e1 75) = .bool true := hj 4 (by kernel_rfl) (by decide)
   refine ⟨_, _, _, _, _, _, rfl, (fun _ _ h => nomatch h), ?_⟩
   refine AP (Au (Bh g73) rfl (Bh g75)).quiet ⟨_, rfl, Heap.le_refl _, rfl⟩
  ·intro e1 F1 hF1 he hj
   have g76 : (e1 76) = .bool true := hj 5 (by kernel_rfl) (by decide)
   refine ⟨_, _, _, _, _, _, rfl, (fun _ _ h => nomatch h), ?_⟩
   refine AP (A9 (Bh g76)).quiet ⟨_, rfl, Heap.le_refl _, rfl⟩
  ·intro e1 F1 hF1 he hj
   have g77 : (e1 77) = .bool true := hj 6 (by kernel_rfl) (by decide)
   refine ⟨_, _, _, _, _, _, rfl, (fun _ _ h => by cases h; exact g77), ?_⟩
   refine AP (A9 (BW (C7 he (by kernel_rfl)) <| M5 rfl <| Q5 rfl <| L5 rfl <| K5 rfl <| JF)).quiet ⟨_, rfl, Heap.le_refl _, rfl⟩
  ·intro e1 F1 hF1 he hj
   have g77 : (e1 77) = .bool true := hj 6 (by kernel_rfl) (by decide)
   have g78 : (e1 78) = .int .i64 0 := hj 7 (by kernel_rfl) (by decide)
   refine ⟨_, _, _, _, _, _, rfl, (fun _ _ h => by cases h; exact g77), ?_⟩
   refine AP (Cm (Bh g78) E5).quiet ⟨_, rfl, Heap.le_refl _, rfl⟩
  ·intro e1 F1 hF1 he hj
   have g77 : (e1 77) = .bool true := hj 6 (by kernel_rfl) (by decide)
   have g79 : (e1 79) = .bool true := hj 8 (by kernel_rfl) (by decide)
   refine ⟨_, _, _, _, _, _, rfl, (fun _ _ h => nomatch h), ?_⟩
   refine AP (Au (Bh g77) rfl (Bh g79)).quiet ⟨_, rfl, Heap.le_refl _, rfl⟩
  ·intro e1 F1 hF1 he hj
   have g80 : (e1 80) = .bool true := hj 9 (by kernel_rfl) (by decide)
   refine ⟨_, _, _, _, _, _, rfl, (fun _ _ h => nomatch h), ?_⟩
   refine AP (A9 (Bh g80)).quiet ⟨_, rfl, Heap.le_refl _, rfl⟩
  ·intro e1 F1 hF1 he hj
   have g81 : (e1 81) = .bool true := hj 10 (by kernel_rfl) (by decide)
   refine ⟨_, _, _, _, _, _, rfl, (fun _ _ h => by cases h; exact g81), ?_⟩
   refine AP (A9 (BW (C7 he (by kernel_rfl)) <| M5 rfl <| L5 rfl <| JF)).quiet ⟨_, rfl, Heap.le_refl _, rfl⟩
  ·intro e1 F1 hF1 he hj
   have g81 : (e1 81) = .bool true := hj 10 (by kernel_rfl) (by decide)
   have g82 : (e1 82) = .int .i64 0 := hj 11 (by kernel_rfl) (by decide)
   refine ⟨_, _, _, _, _, _, rfl, (fun _ _ h => by cases h; exact g81), ?_⟩
   refine AP (Cm (Bh g82) E5).quiet ⟨_, rfl, Heap.le_refl _, rfl⟩
  ·intro e1 F1 hF1 he hj
   have g81 : (e1 81) = .bool true := hj 10 (by kernel_rfl) (by decide)
   have g83 : (e1 83) = .bool true := hj 12 (by kernel_rfl) (by decide)
   refine ⟨_, _, _, _, _, _, rfl, (fun _ _ h => nomatch h), ?_⟩
   refine AP (Au (Bh g81) rfl (Bh g83)).quiet ⟨_, rfl, Heap.le_refl _, rfl⟩
  ·intro e1 F1 hF1 he hj
   have g84 : (e1 84) = .bool true := hj 13 (by kernel_rfl) (by decide)
   refine ⟨_, _, _, _, _, _, rfl, (fun _ _ h => nomatch h), ?_⟩
   refine AP (A9 (Bh g84)).quiet ⟨_, rfl, Heap.le_refl _, rfl⟩
  ·intro e1 F1 hF1 he hj
   have g85 : (e1 85) = .bool true := hj 14 (by kernel_rfl) (by decide)
   refine ⟨_, _, _, _, _, _, rfl, (fun _ _ h => by cases h; exact g85), ?_⟩
   refine AP (A9 (BW (C7 he (by kernel_rfl)) <| HW rfl <| Q5 rfl <| L5 rfl <| K5 rfl <| JF)).quiet ⟨_, rfl, Heap.le_refl _, rfl⟩
  ·intro e1 F1 hF1 he hj
   have g85 : (e1 85) = .bool true := hj 14 (by kernel_rfl) (by decide)
   have g86 : (e1 86) = .int .i64 0 := hj 15 (by kernel_rfl) (by decide)
   refine ⟨_, _, _, _, _, _, rfl, (fun _ _ h => by cases h; exact g85), ?_⟩
   refine AP (Cm (Bh g86) E5).quiet ⟨_, rfl, Heap.le_refl _, rfl⟩
  ·intro e1 F1 hF1 he hj
   have g85 : (e1 85) = .bool true := hj 14 (by kernel_rfl) (by decide)
   have g87 : (e1 87) = .bool true := hj 16 (by kernel_rfl) (by decide)
   refine ⟨_, _, _, _, _, _, rfl, (fun _ _ h => nomatch h), ?_⟩
   refine AP (Au (Bh g85) rfl (Bh g87)).quiet ⟨_, rfl, Heap.le_refl _, rfl⟩
  ·intro e1 F1 hF1 he hj
   have g88 : (e1 88) = .bool true := hj 17 (by kernel_rfl) (by decide)
   refine ⟨_, _, _, _, _, _, rfl, (fun _ _ h => nomatch h), ?_⟩
   refine AP (A9 (Bh g88)).quiet ⟨_, rfl, Heap.le_refl _, rfl⟩
  ·intro e1 F1 hF1 he hj
   have g89 : (e1 89) = .bool true := hj 18 (by kernel_rfl) (by decide)
   refine ⟨_, _, _, _, _, _, rfl, (fun _ _ h => by cases h; exact g89), ?_⟩
   refine AP (A9 (BW (C7 he (by kernel_rfl)) <| HW rfl <| L6 rfl <| K5 rfl <| JF)).quiet ⟨_, rfl, Heap.le_refl _, rfl⟩
  ·intro e1 F1 hF1 he hj
   have g89 : (e1 89) = .bool true := hj 18 (by kernel_rfl) (by decide)
   have g90 : (e1 90) = .int .i64 0 := hj 19 (by kernel_rfl) (by decide)
   refine ⟨_, _, _, _, _, _, rfl, (fun _ _ h => by cases h; exact g89), ?_⟩
   refine AP (Cm (Bh g90) E5).quiet ⟨_, rfl, Heap.le_refl _, rfl⟩
  ·intro e1 F1 hF1 he hj
   have g89 : (e1 89) = .bool true := hj 18 (by kernel_rfl) (by decide)
   have g91 : (e1 91) = .bool true := hj 20 (by kernel_rfl) (by decide)
   refine ⟨_, _, _, _, _, _, rfl, (fun _ _ h => nomatch h), ?_⟩
   refine AP (Au (Bh g89) rfl (Bh g91)).quiet ⟨_, rfl, Heap.le_refl _, rfl⟩
  ·intro e1 F1 hF1 he hj
   have g92 : (e1 92) = .bool true := hj 21 (by kernel_rfl) (by decide)
   refine ⟨_, _, _, _, _, _, rfl, (fun _ _ h => nomatch h), ?_⟩
   refine AP (A9 (Bh g92)).quiet ⟨_, rfl, Heap.le_refl _, rfl⟩
  ·intro e1 F1 hF1 he hj
   have g93 : (e1 93) = .bool true := hj 22 (by kernel_rfl) (by decide)
   refine ⟨_, _, _, _, _, _, rfl, (fun _ _ h => by cases h; exact g93), ?_⟩
   refine AP (A9 (BW (C7 he (by kernel_rfl)) <| Q5 rfl <| L6 rfl <| JF)).quiet ⟨_, rfl, Heap.le_refl _, rfl⟩
  ·intro e1 F1 hF1 he hj
   have g93 : (e1 93) = .bool true := hj 22 (by kernel_rfl) (by decide)
   have g94 : (e1 94) = .int .i64 0 := hj 23 (by kernel_rfl) (by decide)
   refine ⟨_, _, _, _, _, _, rfl, (fun _ _ h => by cases h; exact g93), ?_⟩
   refine AP (Cm (Bh g94) E5).quiet ⟨_, rfl, Heap.le_refl _, rfl⟩
  ·intro e1 F1 hF1 he hj
   have g93 : (e1 93) = .bool true := hj 22 (by kernel_rfl) (by decide)
   have g95 : (e1 95) = .bool true := hj 24 (by kernel_rfl) (by decide)
   refine ⟨_, _, _, _, _, _, rfl, (fun _ _ h => nomatch h), ?_⟩
   refine AP (Au (Bh g93) rfl (Bh g95)).quiet ⟨_, rfl, Heap.le_refl _, rfl⟩
  ·intro e1 F1 hF1 he hj
   have g96 : (e1 96) = .bool true := hj 25 (by kernel_rfl) (by decide)
   refine ⟨_, _, _, _, _, _, rfl, (fun _ _ h => nomatch h), ?_⟩
   refine AP (A9 (Bh g96)).quiet ⟨_, rfl, Heap.le_refl _, rfl⟩
  ·intro e1 F1 hF1 he hj
   have g97 : (e1 97) = .bool true := hj 26 (by kernel_rfl) (by decide)
   refine ⟨_, _, _, _, _, _, rfl, (fun _ _ h => by cases h; exact g97), ?_⟩
   refine AP (A9 (BW (C7 he (by kernel_rfl)) <| JF)).quiet ⟨_, rfl, Heap.le_refl _, rfl⟩
  ·intro e1 F1 hF1 he hj
   have g97 : (e1 97) = .bool true := hj 26 (by kernel_rfl) (by decide)
   have g98 : (e1 98) = .int .i64 8 := hj 27 (by kernel_rfl) (by decide)
   refine ⟨_, _, _, _, _, _, rfl, (fun _ _ h => by cases h; exact g97), ?_⟩
   refine AP (Cm (Bh g98) E5).quiet ⟨_, rfl, Heap.le_refl _, rfl⟩
  ·intro e1 F1 hF1 he hj
   have g97 : (e1 97) = .bool true := hj 26 (by kernel_rfl) (by decide)
   have g99 : (e1 99) = .bool true := hj 28 (by kernel_rfl) (by decide)
   refine ⟨_, _, _, _, _, _, rfl, (fun _ _ h => nomatch h), ?_⟩
   refine AP (Au (Bh g97) rfl (Bh g99)).quiet ⟨_, rfl, Heap.le_refl _, rfl⟩
  ·intro e1 F1 hF1 he hj
   have g100 : (e1 100) = .bool true := hj 29 (by kernel_rfl) (by decide)
   refine ⟨_, _, _, _, _, _, rfl, (fun _ _ h => nomatch h), ?_⟩
   refine AP (A9 (Bh g100)).quiet ⟨_, rfl, Heap.le_refl _, rfl⟩
  ·intro e1 F1 hF1 he hj
   have g101 : (e1 101) = .bool true := hj 30 (by kernel_rfl) (by decide)
   refine ⟨_, _, _, _, _, _, rfl, (fun _ _ h => by cases h; exact g101), ?_⟩
   refine AP (A9 (BW (C7 he (by kernel_rfl)) <| M5 rfl <| HW rfl <| Q5 rfl <| L5 rfl <| L6 rfl <| JF)).quiet ⟨_, rfl, Heap.le_refl _, rfl⟩
  ·intro e1 F1 hF1 he hj
   have g101 : (e1 101) = .bool true := hj 30 (by kernel_rfl) (by decide)
   replace hb := hb.mono hF1
   refine ⟨_, _, _, _, _, _, rfl, (fun _ _ h => by cases h; exact g101), ?_⟩
   refine Dl (AU A7 B1 rfl (.cons Aa (.cons Aa (.cons Aa .nil))) rfl rfl (by decide) (by simp [Value.oneCell']) fun b hb nb => ⟨b, _, hb, rfl, fun F2 hF2 hz => ⟨F2, rfl, hF2, HS (l := [1, 0, 2]) hz rfl (by decide)⟩⟩)
  ·intro e1 F1 hF1 he hj
   have g101 : (e1 101) = .bool true := hj 30 (by kernel_rfl) (by decide)
   replace hb := hb.mono hF1
   refine ⟨_, _, _, _, _, _, rfl, (fun _ _ h => by cases h; exact g101), ?_⟩
   refine Dl (AU A7 B1 rfl (.cons Aa (.cons Aa (.cons Aa .nil))) rfl rfl (by decide) (by simp [Value.oneCell']) fun b hb nb => ⟨b, _, hb, rfl, fun F2 hF2 hz => ⟨F2, rfl, hF2, HS (l := [1, 2, 0]) hz rfl (by decide)⟩⟩)
  ·intro e1 F1 hF1 he hj
   have g101 : (e1 101) = .bool true := hj 30 (by kernel_rfl) (by decide)
   replace hb := hb.mono hF1
   refine ⟨_, _, _, _, _, _, rfl, (fun _ _ h => by cases h; exact g101), ?_⟩
   refine Dl (AU A7 B1 rfl (.cons Aa (.cons Aa (.cons Aa .nil))) rfl rfl (by decide) (by simp [Value.oneCell']) fun b hb nb => ⟨b, _, hb, rfl, fun F2 hF2 hz => ⟨F2, rfl, hF2, HS (l := [2, 1, 0]) hz rfl (by decide)⟩⟩)
  ·intro e1 F1 hF1 he hj
   have g101 : (e1 101) = .bool true := hj 30 (by kernel_rfl) (by decide)
   have g103 : Nats F1 (e1 103) [1, 0, 2] := hj 32 (by kernel_rfl) (by decide)
   have g104 : Nats F1 (e1 104) [1, 2, 0] := hj 33 (by kernel_rfl) (by decide)
   have g105 : Nats F1 (e1 105) [2, 1, 0] := hj 34 (by kernel_rfl) (by decide)
   replace hb := hb.mono hF1
   refine ⟨_, _, _, _, _, _, rfl, (fun _ _ h => by cases h; exact g101), ?_⟩
   refine Dl (AU Bt FS rfl (.cons (Bh rfl) (.cons (Bh rfl) (.cons (Bh rfl) .nil))) rfl rfl (by decide) (by simp; exact ⟨g103.plain.one, g104.plain.one, g105.plain.one⟩) fun b hb nb => ⟨b, _, hb, rfl, fun F2 hF2 hz => ⟨F2, rfl, hF2, lists6 hz (g103.mono hF2) (g104.mono hF2) (g105.mono hF2)⟩⟩)
  ·intro e1 F1 hF1 he hj
   have g101 : (e1 101) = .bool true := hj 30 (by kernel_rfl) (by decide)
   have g102 : (e1 102) = vo := hj 31 (by kernel_rfl) (by decide)
   have g106 : ∃ qs : List (Value × List Nat), Sl F1 (e1 106) 1 slE qs ∧ AllN F1 qs ∧ qs.map (·.2) = [[1, 0, 2], [1, 2, 0], [2, 1, 0]] := hj 35 (by kernel_rfl) (by decide)
   replace hr := hr.mono hF1
   replace hps := hps.mono hF1
   replace hpn := hpn.mono hF1
   obtain ⟨qs, hq1, hq2, hq3⟩ := g106
   refine ⟨_, _, _, _, _, _, rfl, (fun _ _ h => by cases h; exact g101), ?_⟩
   refine Be bd_30 Aa (.cons (Bh g102) (.cons (Bh rfl) .nil)) (same_ok hps hpn hq1 hq2) fun v2 F2 hr hF2 => ⟨F2, rfl, hF2, (hr.trans (congrArg Value.bool (dT (hpm.trans hq3.symm))))⟩
  ·intro e1 F1 hF1 he hj
   have g101 : (e1 101) = .bool true := hj 30 (by kernel_rfl) (by decide)
   have g107 : (e1 107) = .bool true := hj 36 (by kernel_rfl) (by decide)
   refine ⟨_, _, _, _, _, _, rfl, (fun _ _ h => nomatch h), ?_⟩
   refine AP (Au (Bh g101) rfl (Bh g107)).quiet ⟨_, rfl, Heap.le_refl _, rfl⟩
  ·intro e1 F1 hF1 he hj
   have g108 : (e1 108) = .bool true := hj 37 (by kernel_rfl) (by decide)
   refine ⟨_, _, _, _, _, _, rfl, (fun _ _ h => nomatch h), ?_⟩
   refine AP (A9 (Bh g108)).quiet ⟨_, rfl, Heap.le_refl _, rfl⟩
  ·intro e1 F1 hF1 he hj
   have g109 : (e1 109) = .bool true := hj 38 (by kernel_rfl) (by decide)
   refine ⟨_, _, _, _, _, _, rfl, (fun _ _ h => by cases h; exact g109), ?_⟩
   refine AP (A9 (BW (C7 he (by kernel_rfl)) <| M5 rfl <| HW rfl <| L5 rfl <| L6 rfl <| K5 rfl <| JF)).quiet ⟨_, rfl, Heap.le_refl _, rfl⟩
  ·intro e1 F1 hF1 he hj
   have g109 : (e1 109) = .bool true := hj 38 (by kernel_rfl) (by decide)
   have g110 : (e1 110) = .int .i64 2 := hj 39 (by kernel_rfl) (by decide)
   refine ⟨_, _, _, _, _, _, rfl, (fun _ _ h => by cases h; exact g109), ?_⟩
   refine AP (Cm (Bh g110) E5).quiet ⟨_, rfl, Heap.le_refl _, rfl⟩
  ·intro e1 F1 hF1 he hj
   have g109 : (e1 109) = .bool true := hj 38 (by kernel_rfl) (by decide)
   have g111 : (e1 111) = .bool true := hj 40 (by kernel_rfl) (by decide)
   refine ⟨_, _, _, _, _, _, rfl, (fun _ _ h => nomatch h), ?_⟩
   refine AP (Au (Bh g109) rfl (Bh g111)).quiet ⟨_, rfl, Heap.le_refl _, rfl⟩
  ·intro e1 F1 hF1 he hj
   have g112 : (e1 112) = .bool true := hj 41 (by kernel_rfl) (by decide)
   refine ⟨_, _, _, _, _, _, rfl, (fun _ _ h => nomatch h), ?_⟩
   refine AP (A9 (Bh g112)).quiet ⟨_, rfl, Heap.le_refl _, rfl⟩
  ·intro e1 F1 hF1 he hj
   have g113 : (e1 113) = .bool true := hj 42 (by kernel_rfl) (by decide)
   refine ⟨_, _, _, _, _, _, rfl, (fun _ _ h => by cases h; exact g113), ?_⟩
   refine AP (A9 (BW (C7 he (by kernel_rfl)) <| M5 rfl <| Q5 rfl <| L5 rfl <| L6 rfl <| K5 rfl <| JF)).quiet ⟨_, rfl, Heap.le_refl _, rfl⟩
  ·intro e1 F1 hF1 he hj
   have g113 : (e1 113) = .bool true := hj 42 (by kernel_rfl) (by decide)
   replace hb := hb.mono hF1
   refine ⟨_, _, _, _, _, _, rfl, (fun _ _ h => by cases h; exact g113), ?_⟩
   refine Dl (AU A7 B1 rfl (.cons Aa .nil) rfl rfl (by decide) (by simp [Value.oneCell']) fun b hb nb => ⟨b, _, hb, rfl, fun F2 hF2 hz => ⟨F2, rfl, hF2, Bk hz⟩⟩)
  ·intro e1 F1 hF1 he hj
   have g113 : (e1 113) = .bool true := hj 42 (by kernel_rfl) (by decide)
   have g114 : (e1 114) = va_ := hj 43 (by kernel_rfl) (by decide)
   have g115 : Ints F1 (e1 115) [0] := hj 44 (by kernel_rfl) (by decide)
   replace hr := hr.mono hF1
   replace ha := ha.mono hF1
   refine ⟨_, _, _, _, _, _, rfl, (fun _ _ h => by cases h; exact g113), ?_⟩
   refine Be Jl Aa (.cons (Bh g114) (.cons (Bh rfl) .nil)) (CJ (Nats.ints ha) g115) fun v2 F2 hr hF2 => ⟨F2, rfl, hF2, (hr.trans (congrArg Value.bool (dT rfl)))⟩
  ·intro e1 F1 hF1 he hj
   have g113 : (e1 113) = .bool true := hj 42 (by kernel_rfl) (by decide)
   have g116 : (e1 116) = .bool true := hj 45 (by kernel_rfl) (by decide)
   refine ⟨_, _, _, _, _, _, rfl, (fun _ _ h => nomatch h), ?_⟩
   refine AP (Au (Bh g113) rfl (Bh g116)).quiet ⟨_, rfl, Heap.le_refl _, rfl⟩
  ·intro e1 F1 hF1 he hj
   have g117 : (e1 117) = .bool true := hj 46 (by kernel_rfl) (by decide)
   refine ⟨_, _, _, _, _, _, rfl, (fun _ _ h => nomatch h), ?_⟩
   refine AP (A9 (Bh g117)).quiet ⟨_, rfl, Heap.le_refl _, rfl⟩
  ·intro e1 F1 hF1 he hj
   have g118 : (e1 118) = .bool true := hj 47 (by kernel_rfl) (by decide)
   refine ⟨_, _, _, _, _, _, rfl, (fun _ _ h => by cases h; exact g118), ?_⟩
   refine AP (A9 (BW (C7 he (by kernel_rfl)) <| M5 rfl <| Q5 rfl <| L5 rfl <| L6 rfl <| JF)).quiet ⟨_, rfl, Heap.le_refl _, rfl⟩
  ·intro e1 F1 hF1 he hj
   have g118 : (e1 118) = .bool true := hj 47 (by kernel_rfl) (by decide)
   replace hb := hb.mono hF1
   refine ⟨_, _, _, _, _, _, rfl, (fun _ _ h => by cases h; exact g118), ?_⟩
   refine Dl (AU A7 B1 rfl (.cons Aa (.cons Aa .nil)) rfl rfl (by decide) (by simp [Value.oneCell']) fun b hb nb => ⟨b, _, hb, rfl, fun F2 hF2 hz => ⟨F2, rfl, hF2, Cp hz⟩⟩)
  ·intro e1 F1 hF1 he hj
   have g118 : (e1 118) = .bool true := hj 47 (by kernel_rfl) (by decide)
   have g119 : (e1 119) = vb_ := hj 48 (by kernel_rfl) (by decide)
   have g120 : Ints F1 (e1 120) [0, 1] := hj 49 (by kernel_rfl) (by decide)
   replace hr := hr.mono hF1
   replace hb := hb.mono hF1
   refine ⟨_, _, _, _, _, _, rfl, (fun _ _ h => by cases h; exact g118), ?_⟩
   refine Be Jl Aa (.cons (Bh g119) (.cons (Bh rfl) .nil)) (CJ (Nats.ints hb) g120) fun v2 F2 hr hF2 => ⟨F2, rfl, hF2, (hr.trans (congrArg Value.bool (dT rfl)))⟩
  ·intro e1 F1 hF1 he hj
   have g118 : (e1 118) = .bool true := hj 47 (by kernel_rfl) (by decide)
   have g121 : (e1 121) = .bool true := hj 50 (by kernel_rfl) (by decide)
   refine ⟨_, _, _, _, _, _, rfl, (fun _ _ h => nomatch h), ?_⟩
   refine AP (Au (Bh g118) rfl (Bh g121)).quiet ⟨_, rfl, Heap.le_refl _, rfl⟩
  ·intro e1 F1 hF1 he hj
   have g122 : (e1 122) = .bool true := hj 51 (by kernel_rfl) (by decide)
   refine ⟨_, _, _, _, _, _, rfl, (fun _ _ h => nomatch h), ?_⟩
   refine AP (A9 (Bh g122)).quiet ⟨_, rfl, Heap.le_refl _, rfl⟩
  ·intro e1 F1 hF1 he hj
   have g123 : (e1 123) = .bool true := hj 52 (by kernel_rfl) (by decide)
   replace hz9 := hF1 _ _ hz9
   refine ⟨_, _, _, _, _, _, rfl, (fun _ _ h => by cases h; exact g123), ?_⟩
   refine AP (AO Cg (BW (C7 he (by kernel_rfl)) <| M5 rfl <| L5 rfl <| L6 rfl <| JF) rfl rfl (AZ hz9)).quiet ⟨_, rfl, Heap.le_refl _, rfl⟩
  ·intro e1 F1 hF1 he hj
   have g123 : (e1 123) = .bool true := hj 52 (by kernel_rfl) (by decide)
   replace hr := hr.mono hF1
   refine ⟨_, _, _, _, _, _, rfl, (fun _ _ h => by cases h; exact g123), ?_⟩
   refine Be Jk Aa AY (D2 _ _) fun v2 F2 hr hF2 => ⟨F2, rfl, hF2, hr⟩
  ·intro e1 F1 hF1 he hj
   have g123 : (e1 123) = .bool true := hj 52 (by kernel_rfl) (by decide)
   have g124 : (e1 124) = .agg #[.int .i64 3, .int .i64 5] := hj 53 (by kernel_rfl) (by decide)
   have g125 : (e1 125) = .agg #[.int .i64 3, .int .i64 5] := hj 54 (by kernel_rfl) (by decide)
   refine ⟨_, _, _, _, _, _, rfl, (fun _ _ h => by cases h; exact g123), ?_⟩
   refine AP (Kz Tryz.underlying54 QJ Rm (by decide) (by decide) rfl rfl Tryz.underlying3 Tryz.underlying3 AA AA (Bh g124) (Bh g125)).quiet ⟨_, rfl, Heap.le_refl _, rfl⟩
  ·intro e1 F1 hF1 he hj
   have g123 : (e1 123) = .bool true := hj 52 (by kernel_rfl) (by decide)
   have g126 : (e1 126) = .bool true := hj 55 (by kernel_rfl) (by decide)
   refine ⟨_, _, _, _, _, _, rfl, (fun _ _ h => nomatch h), ?_⟩
   refine AP (Au (Bh g123) rfl (Bh g126)).quiet ⟨_, rfl, Heap.le_refl _, rfl⟩
  ·intro e1 F1 hF1 he hj
   have g127 : (e1 127) = .bool true := hj 56 (by kernel_rfl) (by decide)
   refine ⟨_, _, _, _, _, _, rfl, (fun _ _ h => nomatch h), ?_⟩
   refine AP (A9 (Bh g127)).quiet ⟨_, rfl, Heap.le_refl _, rfl⟩
  ·intro e1 F1 hF1 he hj
   have g128 : (e1 128) = .bool true := hj 57 (by kernel_rfl) (by decide)
   replace hz10 := hF1 _ _ hz10
   refine ⟨_, _, _, _, _, _, rfl, (fun _ _ h => by cases h; exact g128), ?_⟩
   refine AP (AO Cg (BW (C7 he (by kernel_rfl)) <| M5 rfl <| L5 rfl <| K5 rfl <| JF) rfl rfl (AZ hz10)).quiet ⟨_, rfl, Heap.le_refl _, rfl⟩
  ·intro e1 F1 hF1 he hj
   have g128 : (e1 128) = .bool true := hj 57 (by kernel_rfl) (by decide)
   replace hr := hr.mono hF1
   refine ⟨_, _, _, _, _, _, rfl, (fun _ _ h => by cases h; exact g128), ?_⟩
   refine Be Jk Aa AY (D2 _ _) fun v2 F2 hr hF2 => ⟨F2, rfl, hF2, hr⟩
  ·intro e1 F1 hF1 he hj
   have g128 : (e1 128) = .bool true := hj 57 (by kernel_rfl) (by decide)
   have g129 : (e1 129) = .agg #[.int .i64 3, .int .i64 3] := hj 58 (by kernel_rfl) (by decide)
   have g130 : (e1 130) = .agg #[.int .i64 3, .int .i64 3] := hj 59 (by kernel_rfl) (by decide)
   refine ⟨_, _, _, _, _, _, rfl, (fun _ _ h => by cases h; exact g128), ?_⟩
   refine AP (Kz Tryz.underlying54 QJ Rm (by decide) (by decide) rfl rfl Tryz.underlying3 Tryz.underlying3 AA AA (Bh g129) (Bh g130)).quiet ⟨_, rfl, Heap.le_refl _, rfl⟩
  ·intro e1 F1 hF1 he hj
   have g128 : (e1 128) = .bool true := hj 57 (by kernel_rfl) (by decide)
   have g131 : (e1 131) = .bool true := hj 60 (by kernel_rfl) (by decide)
   refine ⟨_, _, _, _, _, _, rfl, (fun _ _ h => nomatch h), ?_⟩
   refine AP (Au (Bh g128) rfl (Bh g131)).quiet ⟨_, rfl, Heap.le_refl _, rfl⟩
  ·intro e1 F1 hF1 he hj
   have g132 : (e1 132) = .bool true := hj 61 (by kernel_rfl) (by decide)
   refine ⟨_, _, _, _, _, _, rfl, (fun _ _ h => nomatch h), ?_⟩
   refine AP (A9 (Bh g132)).quiet ⟨_, rfl, Heap.le_refl _, rfl⟩
  ·intro e1 F1 hF1 he hj
   have g133 : (e1 133) = .bool true := hj 62 (by kernel_rfl) (by decide)
   replace hz12 := hF1 _ _ hz12
   refine ⟨_, _, _, _, _, _, rfl, (fun _ _ h => by cases h; exact g133), ?_⟩
   refine AP (AO Cg (BW (C7 he (by kernel_rfl)) <| HW rfl <| Q5 rfl <| L5 rfl <| L6 rfl <| JF) rfl rfl (AZ hz12)).quiet ⟨_, rfl, Heap.le_refl _, rfl⟩
  ·intro e1 F1 hF1 he hj
   have g133 : (e1 133) = .bool true := hj 62 (by kernel_rfl) (by decide)
   replace hr := hr.mono hF1
   refine ⟨_, _, _, _, _, _, rfl, (fun _ _ h => by cases h; exact g133), ?_⟩
   refine Be Jk Aa AY (D2 _ _) fun v2 F2 hr hF2 => ⟨F2, rfl, hF2, hr⟩
  ·intro e1 F1 hF1 he hj
   have g133 : (e1 133) = .bool true := hj 62 (by kernel_rfl) (by decide)
   have g134 : (e1 134) = .agg #[.int .i64 1605, .int .i64 1610] := hj 63 (by kernel_rfl) (by decide)
   have g135 : (e1 135) = .agg #[.int .i64 1605, .int .i64 1610] := hj 64 (by kernel_rfl) (by decide)
   refine ⟨_, _, _, _, _, _, rfl, (fun _ _ h => by cases h; exact g133), ?_⟩
   refine AP (Kz Tryz.underlying54 QJ Rm (by decide) (by decide) rfl rfl Tryz.underlying3 Tryz.underlying3 AA AA (Bh g134) (Bh g135)).quiet ⟨_, rfl, Heap.le_refl _, rfl⟩
  ·intro e1 F1 hF1 he hj
   have g133 : (e1 133) = .bool true := hj 62 (by kernel_rfl) (by decide)
   have g136 : (e1 136) = .bool true := hj 65 (by kernel_rfl) (by decide)
   refine ⟨_, _, _, _, _, _, rfl, (fun _ _ h => nomatch h), ?_⟩
   refine AP (Au (Bh g133) rfl (Bh g136)).quiet ⟨_, rfl, Heap.le_refl _, rfl⟩
  ·intro e1 F1 hF1 he hj
   have g137 : (e1 137) = .bool true := hj 66 (by kernel_rfl) (by decide)
   refine ⟨_, _, _, _, _, _, rfl, (fun _ _ h => nomatch h), ?_⟩
   refine AP (A9 (Bh g137)).quiet ⟨_, rfl, Heap.le_refl _, rfl⟩
  ·intro e1 F1 hF1 he hj
   have g138 : (e1 138) = .bool true := hj 67 (by kernel_rfl) (by decide)
   refine ⟨_, _, _, _, _, _, rfl, (fun _ _ h => by cases h; exact g138), ?_⟩
   refine AP (A9 (BW (C7 he (by kernel_rfl)) <| HW rfl <| L5 rfl <| JF)).quiet ⟨_, rfl, Heap.le_refl _, rfl⟩
  ·intro e1 F1 hF1 he hj
   have g138 : (e1 138) = .bool true := hj 67 (by kernel_rfl) (by decide)
   replace hb := hb.mono hF1
   refine ⟨_, _, _, _, _, _, rfl, (fun _ _ h => by cases h; exact g138), ?_⟩
   refine Dl (AU A7 B1 rfl (.cons Aa .nil) rfl rfl (by decide) (by simp [Value.oneCell']) fun b hb nb => ⟨b, _, hb, rfl, fun F2 hF2 hz => ⟨F2, rfl, hF2, Bk hz⟩⟩)
  ·intro e1 F1 hF1 he hj
   have g138 : (e1 138) = .bool true := hj 67 (by kernel_rfl) (by decide)
   have g139 : (e1 139) = vw_ := hj 68 (by kernel_rfl) (by decide)
   have g140 : Ints F1 (e1 140) [2] := hj 69 (by kernel_rfl) (by decide)
   replace hr := hr.mono hF1
   replace hw := hw.mono hF1
   refine ⟨_, _, _, _, _, _, rfl, (fun _ _ h => by cases h; exact g138), ?_⟩
   refine Be Jl Aa (.cons (Bh g139) (.cons (Bh rfl) .nil)) (CJ (Nats.ints hw) g140) fun v2 F2 hr hF2 => ⟨F2, rfl, hF2, (hr.trans (congrArg Value.bool (dT rfl)))⟩
  ·intro e1 F1 hF1 he hj
   have g138 : (e1 138) = .bool true := hj 67 (by kernel_rfl) (by decide)
   have g141 : (e1 141) = .bool true := hj 70 (by kernel_rfl) (by decide)
   refine ⟨_, _, _, _, _, _, rfl, (fun _ _ h => nomatch h), ?_⟩
   refine AP (Au (Bh g138) rfl (Bh g141)).quiet ⟨_, rfl, Heap.le_refl _, rfl⟩
  ·intro e1 F1 hF1 he hj
   have g142 : (e1 142) = .bool true := hj 71 (by kernel_rfl) (by decide)
   refine ⟨_, _, _, _, _, _, rfl, (fun _ _ h => nomatch h), ?_⟩
   refine AP (A9 (Bh g142)).quiet ⟨_, rfl, Heap.le_refl _, rfl⟩
  ·intro e1 F1 hF1 he hj
   have g143 : (e1 143) = .bool true := hj 72 (by kernel_rfl) (by decide)
   refine ⟨_, _, _, _, _, _, rfl, (fun _ _ h => by cases h; exact g143), ?_⟩
   refine AP (A9 (BW (C7 he (by kernel_rfl)) <| Q5 rfl <| L5 rfl <| JF)).quiet ⟨_, rfl, Heap.le_refl _, rfl⟩
  ·intro e1 F1 hF1 he hj
   have g143 : (e1 143) = .bool true := hj 72 (by kernel_rfl) (by decide)
   have g144 : (e1 144) = .int .i64 2 := hj 73 (by kernel_rfl) (by decide)
   refine ⟨_, _, _, _, _, _, rfl, (fun _ _ h => by cases h; exact g143), ?_⟩
   refine AP (Cm (Bh g144) E5).quiet ⟨_, rfl, Heap.le_refl _, rfl⟩
  ·intro e1 F1 hF1 he hj
   have g143 : (e1 143) = .bool true := hj 72 (by kernel_rfl) (by decide)
   have g145 : (e1 145) = .bool true := hj 74 (by kernel_rfl) (by decide)
   refine ⟨_, _, _, _, _, _, rfl, (fun _ _ h => nomatch h), ?_⟩
   refine AP (Au (Bh g143) rfl (Bh g145)).quiet ⟨_, rfl, Heap.le_refl _, rfl⟩
  ·intro e1 F1 hF1 he hj
   have g146 : (e1 146) = .bool true := hj 75 (by kernel_rfl) (by decide)
   refine ⟨_, _, _, _, _, _, rfl, (fun _ _ h => nomatch h), ?_⟩
   refine AP (A9 (Bh g146)).quiet ⟨_, rfl, Heap.le_refl _, rfl⟩
  ·intro e1 F1 hF1 he hj
   have g147 : (e1 147) = .bool true := hj 76 (by kernel_rfl) (by decide)
   refine ⟨_, _, _, _, _, _, rfl, (fun _ _ h => by cases h; exact g147), ?_⟩
   refine AP (A9 (BW (C7 he (by kernel_rfl)) <| Q5 rfl <| L6 rfl <| K5 rfl <| JF)).quiet ⟨_, rfl, Heap.le_refl _, rfl⟩
  ·intro e1 F1 hF1 he hj
   have g147 : (e1 147) = .bool true := hj 76 (by kernel_rfl) (by decide)
   have g148 : (e1 148) = .int .i64 2 := hj 77 (by kernel_rfl) (by decide)
   refine ⟨_, _, _, _, _, _, rfl, (fun _ _ h => by cases h; exact g147), ?_⟩
   refine AP (Cm (Bh g148) E5).quiet ⟨_, rfl, Heap.le_refl _, rfl⟩
  ·intro e1 F1 hF1 he hj
   have g147 : (e1 147) = .bool true := hj 76 (by kernel_rfl) (by decide)
   have g149 : (e1 149) = .bool true := hj 78 (by kernel_rfl) (by decide)
   refine ⟨_, _, _, _, _, _, rfl, (fun _ _ h => nomatch h), ?_⟩
   refine AP (Au (Bh g147) rfl (Bh g149)).quiet ⟨_, rfl, Heap.le_refl _, rfl⟩
  intro e1 F1 hF1 he hj
  have g150 : (e1 150) = .bool true := hj 79 (by kernel_rfl) (by decide)
  refine ⟨_, _, _, _, _, _, rfl, (fun _ _ h => nomatch h), ?_⟩
  refine AP (Bz (Bh g150)).quiet ⟨_, rfl, Heap.le_refl _, rfl⟩
 intro e54 F51 hF52 he53 hj
 have g0 : (e54 0) = .bool true := hj 80 (by decide)
 refine Ab <| At <| Aq rfl (.tmp (Bh g0) .nil) ?_
 rfl
end
section
open Go.RowKit
@[reducible] def slI (p : Value × List Int) : List Value := [p.1]
def AllI (F : Heap) (ps : List (Value × List Int)) : Prop := ∀ p ∈ ps, Ints F p.1 p.2
theorem AllI.mono {F F' : Heap} {ps : List (Value × List Int)} (h : AllI F ps) (hF : F.le F') : AllI F' ps := fun p hp => (h p hp).mono hF
theorem AllI.snoc {F : Heap} {ps : List (Value × List Int)} {p : Value × List Int} (h : AllI F ps) (hp : Ints F p.1 p.2) : AllI F (ps ++ [p]) := fun q hq => (List.mem_append.1 hq).elim (h q) fun hq => by obtain rfl := List.mem_singleton.1 hq; exact hp
def PileTo (c : Pap) (i : Nat) (l : List Int) : Prop := l.length = i ∧ ∀ j, (hj : j < l.length) → (c.rm j).lo ≤ l[j] ∧ l[j] ≤ (c.rm j).hi
theorem PileTo.nil {c : Pap} : PileTo c 0 [] := ⟨rfl, fun j hj => absurd hj (by simp)⟩
theorem PileTo.snoc {c : Pap} {i : Nat} {l : List Int} {z : Int} (h : PileTo c i l) (h1 : (c.rm i).lo ≤ z) (h2 : z ≤ (c.rm i).hi) : PileTo c (i + 1) (l ++ [z]) := by
 refine ⟨by simp [h.1], fun j hj => ?_⟩
 rw [List.getElem_append]
 split
 · rename_i hl; exact h.2 j hl
 rename_i hl
 have : j = i := by simp at hj; have := h.1; omega
 subst this
 simp [h1, h2]
def GoodPile (c : Pap) (l : List Int) : Prop := PileTo c c.reams.length l ∧ c.run * c.gats ≤ sumTo l l.length
def extTo (b : List Nat) (n : Nat) : List (List Nat) := ((List.range n).filter fun x => !b.contains x).map fun x => b ++ [x]
def lev (g : Nat) : Nat → List (List Nat)
 | 0 => [[]]
 | i + 1 => (lev g i).flatMap fun b => extTo b g
theorem Nm {b : List Nat} {n : Nat} : (extTo b n).length ≤ n := by
 unfold extTo
 rw [List.length_map]
 have := List.length_filter_le (fun x => !b.contains x) (List.range n)
 rw [List.length_range] at this; exact this
theorem VM {b : List Nat} {n : Nat} (h : n ∈ b) : extTo b (n + 1) = extTo b n := by unfold extTo; rw [List.range_succ, List.filter_append]; simp [h]
theorem Ua {b : List Nat} {n : Nat} (h : n ∉ b) : extTo b (n + 1) = extTo b n ++ [b ++ [n]] := by unfold extTo; rw [List.range_succ, List.filter_append]; simp [h]
def nextTo (g : Nat) (l : List (List Nat)) (k : Nat) : List (List Nat) := (l.take k).flatMap fun b => extTo b g
theorem Px {g : Nat} {l : List (List Nat)} {k : Nat} (h : k < l.length) : nextTo g l (k + 1) = nextTo g l k ++ extTo l[k] g := by unfold nextTo; rw [List.take_succ_eq_append_getElem h, List.flatMap_append]; simp
theorem JH {g : Nat} : ∀ (l : List (List Nat)), (l.flatMap fun b => extTo b g).length ≤ l.length * g
 | [] => by simp
 | b :: l => by
   rw [List.flatMap_cons, List.length_append, List.length_cons, Nat.add_mul, Nat.one_mul]
   have h1 := JH (g := g) l
   have h2 := Nm (b := b) (n := g)
   omega
theorem L1 {g : Nat} (hg : g ≤ 5) {l : List (List Nat)} {k : Nat} (hk : k ≤ l.length) : (nextTo g l k).length ≤ 5 * k := by
 have h1 := JH (g := g) (l.take k)
 rw [List.length_take, Nat.min_eq_left hk] at h1
 have : k * g ≤ k * 5 := Nat.mul_le_mul_left k hg
 unfold nextTo; omega
theorem Sy {g : Nat} (hg : g ≤ 5) : ∀ i, (lev g i).length ≤ 5 ^ i
 | 0 => by simp [lev]
 | i + 1 => by
   have h1 := JH (g := g) (lev g i)
   have h2 := Sy hg i
   have h3 : (lev g i).length * g ≤ 5 ^ i * 5 := Nat.mul_le_mul h2 hg
   show ((lev g i).flatMap fun b => extTo b g).length ≤ _
   rw [Nat.pow_succ]; omega
theorem lev_1 : lev 1 1 = allOrds 1 := by kernel_rfl
theorem lev_2 : lev 2 2 = allOrds 2 := by kernel_rfl
theorem lev_3 : lev 3 3 = allOrds 3 := by kernel_rfl
theorem lev_4 : lev 4 4 = allOrds 4 := by kernel_rfl
theorem lev_5 : lev 5 5 = allOrds 5 := by kernel_rfl
theorem lev_all {g : Nat} (h1 : 1 ≤ g) (h5 : g ≤ 5) : lev g g = allOrds g := by
 have : g = 1 ∨ g = 2 ∨ g = 3 ∨ g = 4 ∨ g = 5 := by omega
 rcases this with rfl | rfl | rfl | rfl | rfl
 · exact lev_1
 · exact lev_2
 · exact lev_3
 · exact lev_4
 exact lev_5
theorem RI {g : Nat} (h1 : 1 ≤ g) (h5 : g ≤ 5) : 0 < (allOrds g).length := by
 have : g = 1 ∨ g = 2 ∨ g = 3 ∨ g = 4 ∨ g = 5 := by omega
 rcases this with rfl | rfl | rfl | rfl | rfl
 · have h : (allOrds 1).length = 1 := by kernel_rfl
   omega
 · have h : (allOrds 2).length = 2 := by kernel_rfl
   omega
 · have h : (allOrds 3).length = 6 := by kernel_rfl
   omega
 · have h : (allOrds 4).length = 24 := by kernel_rfl
   omega
 have h : (allOrds 5).length = 120 := by kernel_rfl
 omega
theorem M9 {g : Nat} (h1 : 1 ≤ g) (h5 : g ≤ 5) {b : List Nat} (hb : b ∈ allOrds g) : b.Nodup := by
 have key : ∀ g : Nat, ((allOrds g).all fun b => decide b.Nodup) = true → b ∈ allOrds g → b.Nodup := fun g h hb => of_decide_eq_true (List.all_eq_true.1 h b hb)
 have : g = 1 ∨ g = 2 ∨ g = 3 ∨ g = 4 ∨ g = 5 := by omega
 rcases this with rfl | rfl | rfl | rfl | rfl <;> exact key _ (by kernel_rfl) hb
end
end Go.Proofs.YtkjfmibiinfhfabGreat
