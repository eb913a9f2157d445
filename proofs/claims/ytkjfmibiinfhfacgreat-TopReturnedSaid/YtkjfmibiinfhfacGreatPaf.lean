/-
  A part of a proof: TopReturned returns true of any copy, any sale, any lot and any ring, and leaves what it is handed as it was. No conditions.
-/
import Derived.Test.YtkjfmibiinfhfacGreatPae
namespace Go.Proofs.YtkjfmibiinfhfacGreat
set_option synthInstance.maxSize 4000
set_option synthInstance.maxHeartbeats 1000000
section
open Go.RowKit
section
variable {P : Program} {n : Nat} {B : Base} {e : Env} {σ : St}
def IterZ {α : Type} (P : Program) (gf : FuncId) (cs : List Value) (F0 : Heap) (E : Nat) (ord : α → List Int) (arg : α → Value → Value) (xs : List α) : Prop :=
 ∀ (L : Nat) (J : List α → Heap → List (Nat × Obj) → Prop) (Jx : Heap → List (Nat × Obj) → Prop) (F : Heap) (H : List (Nat × Obj)), F0.le F →
   (∀ pre F F' H, F.le F' → J pre F H → J pre F' H) → (∀ F F' H, F.le F' → Jx F H → Jx F' H) →
   (∀ pre x rest F H v R, xs = pre ++ x :: rest → F0.le F → J pre F H → Own E 1 v (ord x).length ((ord x).flatMap intE) R → OkYG P L [arg x v] F (R ++ H) fun u F' H' => ∃ H2, H' = R ++ H2 ∧ (u = .bool true ∧ J (pre ++ [x]) F' H2 ∨ u = .bool false ∧ Jx F' H2)) →
   J [] F H → OkG P gf (.func (.yield L) #[] #[] :: cs).toArray F H fun _ F' H' => J xs F' H' ∨ Jx F' H'
theorem P2 {α : Type} {ord : α → List Int} {arg : α → Value → Value} {Q : Exit → Env → St → Prop} {g : Operand} {ps : List Tmp} {assign body : Code} {gf : FuncId} {cs : List Value} {F0 : Heap} {E : Nat} {xs : List α} {L0 : Nat} {r0 : Loop}
   (hro : B.ro = some L0) (hL0 : (L0, Obj.loop r0) ∈ σ.H) (hg : ev e g = .func (.func gf) #[] cs.toArray) (hb : Body P gf) (hit : IterZ P gf cs F0 E ord arg xs) (hF : F0.le σ.F)
   (J : List α → Heap → List (Nat × Obj) → Prop) (Jx : Code → Heap → List (Nat × Obj) → Prop) (hm : ∀ pre F F' H, F.le F' → J pre F H → J pre F' H) (hmx : ∀ c F F' H, F.le F' → Jx c F H → Jx c F' H)
   (h0 : J [] σ.F σ.H)
   (hround : ∀ L fn tm pre x rest G H1 v R, xs = pre ++ x :: rest → σ.F.le G → J pre G H1 → Own E 1 v (ord x).length ((ord x).flatMap intE) R → [arg x v].length = ps.length ∧ (ps.zip [arg x v]).all (fun p => Nat.blt p.1 n) = true ∧
     ∀ w0, WC P n ⟨w0, L :: keys (R ++ H1), G, [], some L⟩ assign (thenE (fun e' σ' => ∃ H2, σ'.H = (L, loopO fn tm ps.toArray assign body r0.defers .ready none) :: H2 ∧
       WC P n ⟨w0, L :: keys (R ++ H1), G, [], some L⟩ body (RoundEG ⟨w0, L :: keys (R ++ H1), G, [], some L⟩ L (loopO fn tm ps.toArray assign body r0.defers) (RoundRN σ.F L (loopO fn tm ps.toArray assign body r0.defers) (Ahead R J) (Ahead R Jx) (pre ++ [x]))) e' ⟨σ'.F, (L, loopO fn tm ps.toArray assign body r0.defers .busy none) :: H2⟩) (fun _ _ _ => False))
     (updL e (ps.zip [arg x v])) ⟨G, (L, loopO fn tm ps.toArray assign body r0.defers .ready none) :: (R ++ H1)⟩)
   (hx : ∀ c F' H1, σ.F.le F' → Jx c F' H1 → WC P n B c Q e ⟨F', H1⟩)
   (hn : ∀ F' H1, σ.F.le F' → J xs F' H1 → Q .normal e ⟨F', H1⟩) : WC P n B (.rangeFunc g ps.toArray assign body) Q e σ := by
 refine Mb hro hL0 hg hb (J xs) Jx (fun L fn tm hsz htm => ?_) hx hn
 refine OkG.mono (hit L (fun pre F H => σ.F.le F ∧ ∃ H1, H = (L, loopO fn tm ps.toArray assign body r0.defers .ready none) :: H1 ∧ J pre F H1)
   (fun F H => σ.F.le F ∧ ∃ c H1, H = (L, loopO fn tm ps.toArray assign body r0.defers .done (some c)) :: H1 ∧ Jx c F H1) σ.F _ hF ?_ ?_ ?_ ⟨Heap.le_refl _, _, rfl, h0⟩) ?_
 · rintro pre F F' H hFF ⟨h1, H1, h2, h3⟩
   exact ⟨Heap.le_trans h1 hFF, H1, h2, hm _ _ _ _ hFF h3⟩
 · rintro F F' H hFF ⟨h1, c, H1, h2, h3⟩
   exact ⟨Heap.le_trans h1 hFF, c, H1, h2, hmx _ _ _ _ hFF h3⟩
 · rintro pre x rest G H v R hxs hG ⟨h1, H1, rfl, h3⟩ hO
   obtain ⟨q1, q2, q3⟩ := hround L fn tm pre x rest G H1 v R hxs h1 h3 hO
   refine (Hu (R := RoundRN σ.F L (loopO fn tm ps.toArray assign body r0.defers) (Ahead R J) (Ahead R Jx) (pre ++ [x])) hsz htm q1 q2 q3).perm Hq fun u F' H' hR => ?_
   rcases hR with ⟨rfl, H2, k1, k2, H3, rfl, k3⟩ | ⟨rfl, c, H2, k1, k2, H3, rfl, k3⟩
   · subst k1
     exact ⟨_, Hq, _, rfl, .inl ⟨rfl, k2, H3, rfl, k3⟩⟩
   subst k1
   exact ⟨_, Hq, _, rfl, .inr ⟨rfl, k2, c, H3, rfl, k3⟩⟩
 rintro v F' H' _ (⟨h1, H1, rfl, h3⟩ | ⟨h1, c, H1, rfl, h3⟩)
 · exact ⟨H1, .inl ⟨rfl, h3⟩⟩
 exact ⟨H1, .inr ⟨c, rfl, h3⟩⟩
theorem FK {α : Type} {ord : α → List Int} {arg : α → Value → Value} {Q : Exit → Env → St → Prop} {g : Operand} {ps : List Tmp} {assign body : Code} {gf : FuncId} {cs : List Value} {F0 : Heap} {E : Nat} {xs : List α}
   (hro : B.ro = none) (hg : ev e g = .func (.func gf) #[] cs.toArray) (hb : Body P gf) (hit : IterZ P gf cs F0 E ord arg xs) (hF : F0.le σ.F)
   (J : List α → Heap → List (Nat × Obj) → Prop) (Jx : Code → Heap → List (Nat × Obj) → Prop) (hm : ∀ pre F F' H, F.le F' → J pre F H → J pre F' H) (hmx : ∀ c F F' H, F.le F' → Jx c F H → Jx c F' H)
   (h0 : J [] σ.F σ.H)
   (hround : ∀ L D fn tm pre x rest G H1 v R, xs = pre ++ x :: rest → σ.F.le G → J pre G H1 → Own E 1 v (ord x).length ((ord x).flatMap intE) R → [arg x v].length = ps.length ∧ (ps.zip [arg x v]).all (fun p => Nat.blt p.1 n) = true ∧
     ∀ w0, WC P n ⟨w0, L :: D :: keys (R ++ H1), G, [], some L⟩ assign (thenE (fun e' σ' => ∃ H2, σ'.H = (L, loopO fn tm ps.toArray assign body D .ready none) :: H2 ∧
       WC P n ⟨w0, L :: D :: keys (R ++ H1), G, [], some L⟩ body (RoundEG ⟨w0, L :: D :: keys (R ++ H1), G, [], some L⟩ L (loopO fn tm ps.toArray assign body D) (RoundR σ.F L D (loopO fn tm ps.toArray assign body D) (Ahead R J) (Ahead R Jx) (pre ++ [x]))) e' ⟨σ'.F, (L, loopO fn tm ps.toArray assign body D .busy none) :: H2⟩) (fun _ _ _ => False))
     (updL e (ps.zip [arg x v])) ⟨G, (L, loopO fn tm ps.toArray assign body D .ready none) :: (D, openO) :: (R ++ H1)⟩)
   (hx : ∀ c F' H1, σ.F.le F' → Jx c F' H1 → WC P n B c Q e ⟨F', H1⟩)
   (hn : ∀ F' H1, σ.F.le F' → J xs F' H1 → Q .normal e ⟨F', H1⟩) : WC P n B (.rangeFunc g ps.toArray assign body) Q e σ := by
 refine Hb hro hg hb (J xs) Jx (fun L D fn tm hsz htm => ?_) hx hn
 refine OkG.mono (hit L (fun pre F H => σ.F.le F ∧ ∃ H1, H = (L, loopO fn tm ps.toArray assign body D .ready none) :: (D, openO) :: H1 ∧ J pre F H1)
   (fun F H => σ.F.le F ∧ ∃ c H1, H = (L, loopO fn tm ps.toArray assign body D .done (some c)) :: (D, openO) :: H1 ∧ Jx c F H1) σ.F _ hF ?_ ?_ ?_ ⟨Heap.le_refl _, _, rfl, h0⟩) ?_
 · rintro pre F F' H hFF ⟨h1, H1, h2, h3⟩
   exact ⟨Heap.le_trans h1 hFF, H1, h2, hm _ _ _ _ hFF h3⟩
 · rintro F F' H hFF ⟨h1, c, H1, h2, h3⟩
   exact ⟨Heap.le_trans h1 hFF, c, H1, h2, hmx _ _ _ _ hFF h3⟩
 · rintro pre x rest G H v R hxs hG ⟨h1, H1, rfl, h3⟩ hO
   obtain ⟨q1, q2, q3⟩ := hround L D fn tm pre x rest G H1 v R hxs h1 h3 hO
   refine (Hu (R := RoundR σ.F L D (loopO fn tm ps.toArray assign body D) (Ahead R J) (Ahead R Jx) (pre ++ [x])) hsz htm q1 q2 q3).perm Gb fun u F' H' hR => ?_
   rcases hR with ⟨rfl, H2, k1, k2, H3, rfl, k3⟩ | ⟨rfl, c, H2, k1, k2, H3, rfl, k3⟩
   · subst k1
     exact ⟨_, Gb, _, rfl, .inl ⟨rfl, k2, H3, rfl, k3⟩⟩
   subst k1
   exact ⟨_, Gb, _, rfl, .inr ⟨rfl, k2, c, H3, rfl, k3⟩⟩
 rintro v F' H' _ (⟨h1, H1, rfl, h3⟩ | ⟨h1, c, H1, rfl, h3⟩)
 · exact ⟨H1, .inl ⟨rfl, h3⟩⟩
 exact ⟨H1, .inr ⟨c, rfl, h3⟩⟩
end
end
section
def trL : List (List Int) → List (List Int)
 | [] => [[]]
 | x :: xs => (if x = [] then [-1] else x).flatMap fun n => (trL xs).map (n :: ·)
def trP (b ns : List Int) (r : List (List Int)) : List (List Int) := (ns.flatMap fun n => (trL r).map (n :: ·)).map (b ++ ·)
theorem KT {b x : List Int} {r : List (List Int)} : (trL (x :: r)).map (b ++ ·) = trP b (if x = [] then [-1] else x) r := rfl
theorem K6 {b : List Int} {n : Int} {r : List (List Int)} : trP b [n] r = (trL r).map ((b ++ [n]) ++ ·) := by
 unfold trP
 simp
theorem Nr {b ns ms : List Int} {r : List (List Int)} : trP b (ns ++ ms) r = trP b ns r ++ trP b ms r := by
 unfold trP
 rw [List.flatMap_append, List.map_append]
theorem trP_nil {b : List Int} {r : List (List Int)} : trP b [] r = [] := rfl
theorem RL {b ns : List Int} {r : List (List Int)} {k : Nat} (hk : k < ns.length) : trP b ns r = trP b (ns.take k) r ++ ((trL r).map ((b ++ [ns[k]]) ++ ·) ++ trP b (ns.drop (k + 1)) r) := by
 rw [← K6, ← Nr, ← Nr]
 congr 1
 have h1 := (List.take_append_drop k ns).symm
 rw [List.drop_eq_getElem_cons hk] at h1
 exact h1
theorem TA {b ns : List Int} {r : List (List Int)} {k : Nat} (hk : k < ns.length) : trP b (ns.take (k + 1)) r = trP b (ns.take k) r ++ (trL r).map ((b ++ [ns[k]]) ++ ·) := by
 rw [List.take_succ_eq_append_getElem hk, Nr, K6]
theorem QC {b : List Int} : (trL []).map (b ++ ·) = [b] := by simp [trL]
theorem SQ {l : List (List Int)} {i : Nat} (h : i < l.length) : l.drop i = l[i] :: l.drop (i + 1) := List.drop_eq_getElem_cons h
theorem Nx {T : List Int} {i : Nat} {z : Int} : (T.flatMap intE).set (0 + i * 1) (.int .i64 z) = (T.set i z).flatMap intE := by
 have hf : ∀ l : List Int, l.flatMap intE = l.map fun z => Go.Value.int .i64 z := fun l => by
   induction l with
   | nil => rfl
   | cons x l ih => rw [List.flatMap_cons, ih]; rfl
 rw [hf, hf, List.map_set, show 0 + i * 1 = i by omega]
theorem Mp {T b : List Int} {z : Int} (h : T.take b.length = b) (hb : b.length < T.length) : (T.set b.length z).take (b ++ [z]).length = b ++ [z] := by
 rw [List.length_append, List.length_singleton, List.take_succ_eq_append_getElem (by rw [List.length_set]; exact hb), List.getElem_set_self, List.take_set_of_le (Nat.le_refl _), h]
theorem J6 {T b : List Int} {z : Int} (h : T.take (b ++ [z]).length = b ++ [z]) : T.take b.length = b := by
 have h2 := congrArg (List.take b.length) h
 rw [List.take_take, Nat.min_eq_left (by simp), List.take_left] at h2
 exact h2
theorem Cf {T : List Int} : (T.flatMap intE).length = T.length := by
 induction T with
 | nil => rfl
 | cons x l ih => rw [List.flatMap_cons, List.length_append, ih]; simp [intE]; omega
def truC (c : Cpc) : List (List Int) := trL c.items
theorem QD : ∀ {l : List (List Int)} {t : List Int}, t ∈ trL l → t.length = l.length ∧ ∀ i (h : i < t.length), t[i] = -1 ∨ ∃ x ∈ l, t[i] ∈ x
 | [], t, h => by
   obtain rfl : t = [] := by simpa [trL] using h
   exact ⟨rfl, fun i h => absurd h (by simp)⟩
 | x :: l, t, h => by
   unfold trL at h
   obtain ⟨n, hn, h⟩ := List.mem_flatMap.1 h
   obtain ⟨u, hu, rfl⟩ := List.mem_map.1 h
   obtain ⟨h1, h2⟩ := QD hu
   refine ⟨by simp [h1], fun i hi => ?_⟩
   cases i with
   | zero =>
     simp only [List.getElem_cons_zero]
     split at hn
     · left; simpa using hn
     right; exact ⟨x, by simp, hn⟩
   | succ i =>
     simp only [List.getElem_cons_succ]
     rcases h2 i (by simpa using hi) with h3 | ⟨y, hy, h3⟩
     · exact .inl h3
     exact .inr ⟨y, by simp [hy], h3⟩
theorem On {c : Cpc} (hv : ValidC c) {t : List Int} (h : t ∈ truC c) : t.length = c.items.length ∧ ∀ i (_ : i < t.length), -1 ≤ t[i] ∧ t[i] < (allQ c.book).length := by
 obtain ⟨h1, h2⟩ := QD h
 refine ⟨h1, fun i hi => ?_⟩
 rcases h2 i hi with h3 | ⟨x, hx, h3⟩
 · omega
 obtain ⟨j, hj, h4⟩ := List.mem_iff_getElem.1 h3
 have := (hv.item x hx).range j hj
 unfold Cpc.n at this
 omega
theorem TD : ∀ {l : List (List Int)}, trL l ≠ []
 | [] => by simp [trL]
 | x :: l => by
   unfold trL
   intro h
   rw [List.flatMap_eq_nil_iff] at h
   have ih := TD (l := l)
   split at h
   · have := h (-1) (by simp); simp at this; exact ih this
   rename_i hx
   obtain ⟨n, hn⟩ := List.exists_mem_of_ne_nil _ hx
   have := h n hn; simp at this; exact ih this
end
section
open Go.RowKit
section
variable {P : Program} {n : Nat} {B : Base} {e : Env} {σ : St} {ty : TypeId} {pos : String} {af : Array Edge}
theorem Sq {fn : Func} {R : Value → Heap → List (Nat × Obj) → Prop} {rs : List ResultVar} {vs : List Value} {H' : List (Nat × Obj)} (hr : fn.results = rs.toArray) (hv : Rv P e σ rs vs) (hp : H'.Sublist σ.H) (hR : R (outOf vs) σ.F H') :
   PostG P fn B R .normal e σ := ⟨rs, vs, σ.F, H', hr, hv, fun _ _ h => h.drop hp, hR⟩
end
end
section
set_option maxHeartbeats 2000000
set_option maxRecDepth 100000
open Go.RowKit
theorem Vy : Body Tryz.prog 89 := AE (by kernel_rfl)
theorem L9 : FieldT Tryz.prog 135 0 0 := AU (by kernel_rfl)
instance : FieldI Tryz.prog 135 0 0 := ⟨L9⟩
theorem Cm : OneT Tryz.prog 103 := BE (by kernel_rfl)
instance : OneI Tryz.prog 103 := ⟨Cm⟩
theorem KD : OneT Tryz.prog 164 := BE (by kernel_rfl)
instance : OneI Tryz.prog 164 := ⟨KD⟩
theorem QO : OneT Tryz.prog 172 := BE (by kernel_rfl)
instance : OneI Tryz.prog 172 := ⟨QO⟩
structure TruC (L : Nat) (F : Heap) (c : Cpc) (p bt d1 d2 d3 d4 : Nat) : Prop where
 me : F d1 = some (bx 44 [.slice (some ⟨bt, 0, none⟩) c.items.length c.items.length])
 yield : F d2 = some (bx 172 [.func (.yield L) #[] #[]])
 cop : F d3 = some (bx 103 [.pointer (some ⟨p, 0, none⟩)])
 next : F d4 = some (bx 164 [.func (.func 89) #[] #[.pointer (some ⟨d1, 0, none⟩), .pointer (some ⟨d2, 0, none⟩), .pointer (some ⟨d3, 0, none⟩), .pointer (some ⟨d4, 0, none⟩)]])
theorem TruC.mono {L : Nat} {F F' : Heap} {c : Cpc} {p bt d1 d2 d3 d4 : Nat} (h : TruC L F c p bt d1 d2 d3 d4) (hF : F.le F') : TruC L F' c p bt d1 d2 d3 d4 := ⟨hF _ _ h.me, hF _ _ h.yield, hF _ _ h.cop, hF _ _ h.next⟩
def TruOk (c : Cpc) (L : Nat) (F0 : Heap) (xs : List (List Int)) (J : List (List Int) → Heap → List (Nat × Obj) → Prop) (Jx : Heap → List (Nat × Obj) → Prop) (p bt d1 d2 d3 d4 d : Nat) : Prop :=
 ∀ {F : Heap} {RH : List (Nat × Obj)} {T b : List Int} {z : Int} {pre rest : List (List Int)}, F0.le F → TruC L F c p bt d1 d2 d3 d4 → z = (b.length : Int) → b.length + d = c.items.length → T.length = c.items.length → T.take b.length = b →
   xs = pre ++ (trL (c.items.drop b.length)).map (b ++ ·) ++ rest → J pre F RH →
   OkG Tryz.prog 89 [.int .i64 z, .pointer (some ⟨d1, 0, none⟩), .pointer (some ⟨d2, 0, none⟩), .pointer (some ⟨d3, 0, none⟩), .pointer (some ⟨d4, 0, none⟩)].toArray F ((bt, bx 3 (T.flatMap intE)) :: RH) fun u F' H' => ∃ (T' : List Int) (RH' : List (Nat × Obj)), H' = (bt, bx 3 (T'.flatMap intE)) :: RH' ∧ T'.length = c.items.length ∧ T'.take b.length = b ∧ (u = .bool true ∧ J (pre ++ (trL (c.items.drop b.length)).map (b ++ ·)) F' RH' ∨ u = .bool false ∧ Jx F' RH')
def YieldZ (P : Program) (L : Nat) (F0 : Heap) (xs : List (List Int)) (J : List (List Int) → Heap → List (Nat × Obj) → Prop) (Jx : Heap → List (Nat × Obj) → Prop) : Prop :=
 ∀ pre x rest F H v R, xs = pre ++ x :: rest → F0.le F → J pre F H → Own 3 1 v x.length (x.flatMap intE) R → OkYG P L [v] F (R ++ H) fun u F' H' => ∃ H2, H' = R ++ H2 ∧ (u = .bool true ∧ J (pre ++ [x]) F' H2 ∨ u = .bool false ∧ Jx F' H2)
theorem tru_nil {F0 : Heap} {vg : Value} {qs : List (Value × Gth)} {vi : Value} {is : List (Value × List Int)} {c : Cpc} {vl vm : Value} {p : Nat} (hX0 : CopR F0 135 p vg qs vi is c vl vm) (hv : ValidC c) {L : Nat} {xs : List (List Int)} {J : List (List Int) → Heap → List (Nat × Obj) → Prop} {Jx : Heap → List (Nat × Obj) → Prop} {bt d1 d2 d3 d4 : Nat}
   (hm : ∀ pre F F' H, F.le F' → J pre F H → J pre F' H) (hmx : ∀ F F' H, F.le F' → Jx F H → Jx F' H) (hy : YieldZ Tryz.prog L F0 xs J Jx) : TruOk c L F0 xs J Jx p bt d1 d2 d3 d4 0 := by
 intro F RH T b z pre rest hF hC hz hlen hT htk hxs hJ
 subst hz
 have hX := hX0.mono hF
 have hvm := hv.many
 have hlq := hX.cse.len
 refine OkG.intro Tryz.func89 rfl Tryz.ntmps89 rfl fun w0 => ?_
 have hTb : T = b := by rw [← htk, List.take_of_length_le (by omega)]
 have hdr : c.items.drop b.length = [] := List.drop_of_length_le (by omega)
 have hbt : T.flatMap intE = b.flatMap intE := by rw [hTb]
 rw [hdr, QC] at hxs
 refine AD (Af 1) <| Ac <| Az (Af 1) fun ds => Ag rfl (Ak Bq Aa (AA hC.me rfl)) <| Ag rfl (A4 A9 Aa (Ck (Nat.le_refl _) (by omega))) <| Aw (Af 1) <| Ai Aa (dT (by omega)) <| Ac <| DN fun ds => Du rfl rfl (Ak QO Aa (AA hC.yield rfl)) <| Du rfl rfl (Ak Bq Aa (AA hC.me rfl)) <| P1 rfl Aa AW rfl (hy pre T rest F RH _ [(bt, bx 3 (T.flatMap intE))] (by rw [hxs, hTb]; simp) hF hJ (by rw [hT]; exact GA (by rw [Cf, hT]; omega))) fun v5 F6 RH9 hr7 hF8 => ?_
 replace hJ := hm _ _ _ _ hF8 hJ
 obtain ⟨RH2, rfl, hyb⟩ := hr7
 rw [hTb] at hyb
 refine Du rfl rfl (Bk Aa) <| JU <| Ab <| At <| Ax <| C1 rfl Bd .all ?_
 rw [hdr, QC]
 exact ⟨T, RH2, rfl, hT, htk, hyb⟩
theorem T6 {F0 : Heap} {vg : Value} {qs : List (Value × Gth)} {vi : Value} {is : List (Value × List Int)} {c : Cpc} {vl vm : Value} {p : Nat} (hX0 : CopR F0 135 p vg qs vi is c vl vm) (hv : ValidC c) {L : Nat} {xs : List (List Int)} {J : List (List Int) → Heap → List (Nat × Obj) → Prop} {Jx : Heap → List (Nat × Obj) → Prop} {bt d1 d2 d3 d4 : Nat}
   (hm : ∀ pre F F' H, F.le F' → J pre F H → J pre F' H) (hmx : ∀ F F' H, F.le F' → Jx F H → Jx F' H) (hy : YieldZ Tryz.prog L F0 xs J Jx) {d : Nat} (ih : TruOk c L F0 xs J Jx p bt d1 d2 d3 d4 d) : TruOk c L F0 xs J Jx p bt d1 d2 d3 d4 (d + 1) := by
 intro F RH T b z pre rest hF hC hz hlen hT htk hxs hJ
 subst hz
 have hX := hX0.mono hF
 have hvm := hv.many
 have hlq := hX.cse.len
 refine OkG.intro Tryz.func89 rfl Tryz.ntmps89 rfl fun w0 => ?_
 have hbl : b.length < c.items.length := by omega
 have hcl := hX.cse.could _ (List.getElem_mem (show b.length < is.length by omega))
 have hL4 := hcl.plain.lt
 have hie : is[b.length].2 = c.items[b.length] := by simp only [← hX.cse.eqs, List.getElem_map]
 have hdi := SQ hbl
 rw [← hie] at hdi
 rw [hdi, KT] at hxs
 have hio := hv.item _ (hX.cse.mem (List.getElem_mem (show b.length < is.length by omega)))
 have hi4 := hio.many
 refine AD (Af 1) <| Ac <| Az (Af 1) fun ds => Ag rfl (Ak Bq Aa (AA hC.me rfl)) <| Ag rfl (A4 A9 Aa (Ck (Nat.le_refl _) (by omega))) <| Aw (Af 1) <| Ad Aa (dF (by omega)) ?_
 by_cases h0 : is[b.length].2.length = 0
 ·have hnil : is[b.length].2 = [] := List.length_eq_zero_iff.1 h0
  rw [if_pos hnil, K6] at hxs
  refine Al <| Ab <| Ac <| Ac <| Am fun ds => Ag rfl (Ak Bq Aa (AA hC.me rfl)) <| Aj (Af 1) <| Ag rfl (A1 (k := b.length) A9 Aa (Ck (Nat.le_refl _) (by omega)) Aa rfl (by omega)) <| AS <| Df (k := 0 + b.length * 1) DA Aa rfl Aa (i := 0) rfl (by rw [Cf]; omega) rfl .here <| Ao <| Ab <| Ac ?_
  rw [Nx]
  refine Am fun ds => Ag rfl (Ak Cm Aa (AA hC.cop rfl)) <| Ag rfl (Bb Aa) <| Aj (Af 2) <| Ag rfl (Ak C7 Aa (AA hX.blk rfl)) <| Aj (Af 1) <| Ag rfl (A1 (k := b.length) Cj Aa hX.cse.items.plain Aa rfl (by omega)) <| Aj (Af 1) <| Ag rfl (Ak Bq Aa (hX.cse.items.cell1 (by omega) rfl)) <| Ag rfl (A4 A9 Aa hcl.plain) <| Aw (Af 1) <| Ai Aa (dT (by omega)) <| Ac <| Am fun ds => Ag rfl (Ak KD Aa (AA hC.next rfl)) <| Aj (Af 1) <| Ag rfl (AG Aa Aa rfl (by omega) (by omega)) <| A5 rfl <| EI Vy Aa AW rfl (ih (T := T.set b.length (-1)) (b := b ++ [-1]) (z := (b.length : Int) + 1) (pre := pre) (rest := rest) hF hC (by simp) (by simp; omega) (by simp [hT]) (Mp htk (by omega)) (by simpa using hxs) hJ) fun v5 F6 H9 hr7 hF8 => ?_
  replace hJ := hm _ _ _ _ hF8 hJ
  obtain ⟨T3, RH3, rfl, hT3, htk3, hyb0⟩ := hr7
  refine Aw (Af 1) <| At <| Ax <| C1 rfl Bd .all ?_
  rw [hdi, KT, if_pos hnil, K6]
  exact ⟨T3, RH3, rfl, hT3, J6 htk3, by rw [List.length_append, List.length_singleton] at hyb0; exact hyb0⟩
 have hnil : is[b.length].2 ≠ [] := fun h => h0 (by rw [h]; rfl)
 rw [if_neg hnil] at hxs
 refine Al <| Ab <| Ac <| Ac <| Am fun ds => Ag rfl (Ak Bq Aa (AA hC.me rfl)) <| Aj (Af 1) <| Ag rfl (A1 (k := b.length) A9 Aa (Ck (Nat.le_refl _) (by omega)) Aa rfl (by omega)) <| AS <| Df (k := 0 + b.length * 1) DA Aa rfl Aa (i := 0) rfl (by rw [Cf]; omega) rfl .here <| Ao <| Ab <| Ac ?_
 rw [Nx]
 refine Am fun ds => Ag rfl (Ak Cm Aa (AA hC.cop rfl)) <| Ag rfl (Bb Aa) <| Aj (Af 2) <| Ag rfl (Ak C7 Aa (AA hX.blk rfl)) <| Aj (Af 1) <| Ag rfl (A1 (k := b.length) Cj Aa hX.cse.items.plain Aa rfl (by omega)) <| Aj (Af 1) <| Ag rfl (Ak Bq Aa (hX.cse.items.cell1 (by omega) rfl)) <| Ag rfl (A4 A9 Aa hcl.plain) <| Aw (Af 1) <| Ad Aa (dF (by omega)) <| Al <| Ab <| Ac <| Ac <| Am fun ds => Ag rfl (Ak Cm Aa (AA hC.cop rfl)) <| Ag rfl (Bb Aa) <| Aj (Af 2) <| Ag rfl (Ak C7 Aa (AA hX.blk rfl)) <| Aj (Af 1) <| Ag rfl (A1 (k := b.length) Cj Aa hX.cse.items.plain Aa rfl (by omega)) <| Aj (Af 1) <| Ag rfl (Ak Bq Aa (hX.cse.items.cell1 (by omega) rfl)) <| Ag rfl (A4 A9 Aa hcl.plain) <| Aw (Af 1) <| Aq ?_
 refine AL [6, 8, 44, 45, 46, 47, 48, 49, 50, 51, 52, 53, 54, 55, 56, 57] (fun m e σ => ∃ (G : Heap) (T' : List Int) (RH' : List (Nat × Obj)), F0.le G ∧ F.le G ∧ ∃ k : Nat, m + k = is[b.length].2.length ∧ Fct e 44 (.int .i64 (k : Int)) ∧ T'.length = c.items.length ∧ T'.take b.length = b ∧ J (pre ++ trP b (is[b.length].2.take k) (c.items.drop (b.length + 1))) G RH' ∧ σ = ⟨G, (bt, bx 3 (T'.flatMap intE)) :: RH'⟩) (is[b.length].2.length) ?_ ?_
 · exact ⟨_, _, _, hF, Heap.le_refl _, 0, by omega, AX, by simp [hT], by rw [List.take_set_of_le (Nat.le_refl _)]; exact htk, by simpa [trP_nil] using hJ, rfl⟩
 rintro m e _ ⟨G, T', RH', hG, hFG, k, hm1, hs44, hT2, htk2, hJ, rfl⟩; replace hC := hC.mono hFG; replace hX := hX.mono hFG; replace hcl := hcl.mono hFG
 by_cases hk : k < is[b.length].2.length
 ·have hsp := RL (b := b) (r := c.items.drop (b.length + 1)) hk
  refine AD (Af 1) <| Ac <| Ai Aa (by first | rfl | exact dT (by omega)) <| Al <| Ab <| Ac <| Aq <| Ac <| Am fun ds => Ag rfl (A1 (k := k) A9 Aa hcl.plain Aa rfl hk) <| Ag rfl (Ak AF Aa (hcl.cell1 hk rfl)) <| Aw (Af 1) <| Ac <| Am fun ds => Ag rfl (Ak Bq Aa (AA hC.me rfl)) <| Aj (Af 2) <| Ag rfl (A1 (k := b.length) A9 Aa (Ck (Nat.le_refl _) (by omega)) Aa rfl (by omega)) <| AS <| Df (k := 0 + b.length * 1) DA Aa rfl Aa (i := 0) rfl (by rw [Cf]; omega) rfl .here <| Ao <| Ab <| Ac ?_
  rw [Nx]
  refine Am fun ds => Ag rfl (Ak KD Aa (AA hC.next rfl)) <| Aj (Af 1) <| Ag rfl (AG Aa Aa rfl (by omega) (by omega)) <| A5 rfl <| EI Vy Aa AW rfl (ih (T := T'.set b.length is[b.length].2[k]) (b := b ++ [is[b.length].2[k]]) (z := (b.length : Int) + 1) (pre := pre ++ trP b (is[b.length].2.take k) (c.items.drop (b.length + 1))) (rest := trP b (is[b.length].2.drop (k + 1)) (c.items.drop (b.length + 1)) ++ rest) hG hC (by simp) (by simp; omega) (by simp [hT2]) (Mp htk2 (by omega)) (by rw [hxs, hsp]; simp) hJ) fun v16 F17 H20 hr18 hF19 => ?_
  replace hG := Heap.le_trans hG hF19
  replace hFG := Heap.le_trans hFG hF19
  replace hJ := hm _ _ _ _ hF19 hJ
  obtain ⟨T3, RH3, rfl, hT3, htk3, hyb0⟩ := hr18
  obtain ⟨yb, rfl, hyb⟩ := He hyb0
  refine Aw (Af 1) ?_
  rcases hyb with ⟨rfl, hJ2⟩ | ⟨rfl, hJx⟩
  ·refine Ad Aa rfl <| Al <| A0 <| Ab <| Am fun ds => Ag rfl (AG Aa Aa rfl (by omega) (by omega)) <| Aj (Af 1) <| Ao ?_
   refine Ab ⟨_, m - 1, Off.eq (BR rfl <| Ca rfl <| BM rfl <| BX rfl <| A2), by omega, ?_⟩
   refine ⟨_, _, _, hG, hFG, k + 1, by omega, AX, hT3, J6 htk3, ?_, rfl⟩
   rw [TA hk, ← List.append_assoc]; simpa using hJ2
  refine Ai Aa rfl <| AD (Af 1) <| At ?_
  refine A7 (Ax (Ax (A7 (Ax ?_))))
  refine C1 rfl Bd .all ?_
  exact ⟨_, _, rfl, hT3, J6 htk3, .inr ⟨rfl, hJx⟩⟩
 refine AD (Af 1) <| Ac <| Ad Aa (by first | rfl | exact dF (by omega)) ?_
 rw [List.take_of_length_le (show is[b.length].2.length ≤ k by omega)] at hJ
 refine AH ?_
 refine A8 <| A8 <| AB <| Ab <| AD (Af 1) <| At <| C1 rfl Bd .all ?_
 rw [hdi, KT, if_neg hnil]
 exact ⟨_, _, rfl, hT2, htk2, .inl ⟨rfl, hJ⟩⟩
theorem T7 {F0 : Heap} {vg : Value} {qs : List (Value × Gth)} {vi : Value} {is : List (Value × List Int)} {c : Cpc} {vl vm : Value} {p : Nat} (hX0 : CopR F0 135 p vg qs vi is c vl vm) (hv : ValidC c) {L : Nat} {xs : List (List Int)} {J : List (List Int) → Heap → List (Nat × Obj) → Prop} {Jx : Heap → List (Nat × Obj) → Prop} {bt d1 d2 d3 d4 : Nat}
   (hm : ∀ pre F F' H, F.le F' → J pre F H → J pre F' H) (hmx : ∀ F F' H, F.le F' → Jx F H → Jx F' H) (hy : YieldZ Tryz.prog L F0 xs J Jx) : ∀ d, TruOk c L F0 xs J Jx p bt d1 d2 d3 d4 d
 | 0 => tru_nil hX0 hv hm hmx hy
 | d + 1 => T6 hX0 hv hm hmx hy (T7 hX0 hv hm hmx hy d)
end
section
set_option maxRecDepth 100000
open Go.RowKit
theorem zr_164 : ZeroT Tryz.prog 164 (.nilFunc) := Br (by kernel_rfl)
theorem sz_164 : SizeT Tryz.prog 164 1 := Bx (by kernel_rfl)
theorem TZ {n : Nat} : (List.replicate n (0 : Int)).flatMap intE = List.replicate n (Value.int .i64 0) := by
 induction n with
 | zero => rfl
 | succ n ih => rw [List.replicate_succ, List.flatMap_cons, ih]; rfl
theorem Dw {F0 : Heap} {vg : Value} {qs : List (Value × Gth)} {vi : Value} {is : List (Value × List Int)} {c : Cpc} {vl vm : Value} {p : Nat} (hX0 : CopR F0 135 p vg qs vi is c vl vm) (hv : ValidC c) {d3 : Nat} (z0 : F0 d3 = some (bx 103 [.pointer (some ⟨p, 0, none⟩)])) : IterZ Tryz.prog 88 [.pointer (some ⟨d3, 0, none⟩)] F0 3 (fun t => t) (fun _ v => v) (truC c) := by
 intro L J Jx F RH hF hm hmx hy h0
 have hX := hX0.mono hF
 have z1 := hF _ _ z0
 have hvm := hv.many
 have hlq := hX.cse.len
 refine OkG.intro Tryz.func88 rfl Tryz.ntmps88 rfl fun w0 => Ac <| Am fun ds => A5 rfl <| Bg Aa rfl fun b1 hb1 nb1 => Ao <| Ab <| Ac <| Am fun ds => Ag rfl (Ak Cm Aa (AA z1 rfl)) <| Ag rfl (Bb Aa) <| Aj (Af 2) <| Ag rfl (Ak C7 Aa (AA hX.blk rfl)) <| Ag rfl (A4 Cj Aa hX.cse.items.plain) <| A5 rfl <| Ft (k := c.items.length) A9 Di rfl rfl Aa Aa (by omega) (by omega) (by omega) fun b2 hb2 nb2 => A5 rfl <| AO JX rfl fun b3 hb3 nb3 => AS <| Bf Dg Aa Aa (i := 0) rfl (.here) rfl (.here) <| Ao <| Ab <| Ac <| AK (i := 2) rfl hb1 (.next <| .next <| .here) fun F4 hF5 hz2 => ?_
 replace h0 := hm _ _ _ _ hF5 h0
 replace hF := Heap.le_trans hF hF5
 refine AK (i := 0) rfl hb3 (.here) fun F6 hF7 hz3 => ?_
 replace h0 := hm _ _ _ _ hF7 h0
 replace hF := Heap.le_trans hF hF7
 refine Am fun ds => A5 rfl <| AO zr_164 rfl fun b8 hb8 nb8 => Ao <| Ab <| Ac <| Am fun ds => Ag rfl (Bt AW) <| AS <| Bf sz_164 Aa Aa (i := 0) rfl (.here) rfl (.here) <| Ao <| Ab <| AK (i := 0) rfl hb8 (.here) fun F9 hF10 hz4 => ?_
 replace h0 := hm _ _ _ _ hF10 h0
 replace hF := Heap.le_trans hF hF10
 replace z1 := (Heap.le_trans hF5 (Heap.le_trans hF7 hF10)) _ _ z1
 replace hz2 := (Heap.le_trans hF7 hF10) _ _ hz2
 replace hz3 := hF10 _ _ hz3
 rw [← TZ]
 refine Am fun ds => Ag rfl (Ak KD Aa (AA hz4 rfl)) <| A5 rfl <| EI Vy Aa AW rfl (T7 hX0 hv hm hmx hy c.items.length (T := List.replicate c.items.length 0) (b := []) (z := 0) (pre := []) (rest := []) hF ⟨hz3, hz2, z1, hz4⟩ rfl (by simp) (by simp) rfl (by simp [truC]) h0) fun v15 F16 H19 hr17 hF18 => ?_
 replace hX := hX.mono (Heap.le_trans hF5 (Heap.le_trans hF7 (Heap.le_trans hF10 hF18)))
 replace h0 := hm _ _ _ _ hF18 h0
 obtain ⟨T9, RH9, rfl, hT9, -, hyb0⟩ := hr17
 obtain ⟨yb, rfl, hyb⟩ := He hyb0
 refine Ao <| Sq rfl .nil (.cons _ (.refl _)) ?_
 rcases hyb with ⟨-, h⟩ | ⟨-, h⟩
 · exact .inl (by simpa [truC] using h)
 exact .inr h
theorem Fc {F : Heap} {vg : Value} {qs : List (Value × Gth)} {vi : Value} {is : List (Value × List Int)} {c : Cpc} {vl vm : Value} {p : Nat} (hX : CopR F 135 p vg qs vi is c vl vm) : Ok Tryz.prog 53 [.pointer (some ⟨p, 0, none⟩)].toArray F fun u F' => ∃ d, u = .func (.func 88) #[] #[.pointer (some ⟨d, 0, none⟩)] ∧ F' d = some (bx 103 [.pointer (some ⟨p, 0, none⟩)]) := by
 refine Ok.intro Tryz.func53 rfl Tryz.ntmps53 rfl fun w0 => Ac <| Am fun ds => A5 rfl <| Bg Aa rfl fun b1 hb1 nb1 => Aw (Af 1) <| Ac <| AK (i := 0) rfl hb1 (.here) fun F2 hF3 hz => ?_
 refine Am fun ds => Ag rfl (Bt AW) <| Aw (Af 1) <| At <| Ap rfl Bd ?_
 exact ⟨_, rfl, hz⟩
end
section
open Go.RowKit
structure MapZ (P : Program) (K : Nat) (es : List (Value × Value)) (f : Int → Int) : Prop where
 all : ∀ p ∈ es, IsK P K p.1
 nd : (es.map (·.1)).Nodup
 no : ∀ z : Int, (∀ p ∈ es, p.1 ≠ Value.int .i64 z) → f z = 0
 is : ∀ (z : Int) (j : Nat) (u : Value), es[j]? = some (Value.int .i64 z, u) → u = Value.int .i64 (f z)
def setZ (f : Int → Int) (z v : Int) : Int → Int := fun y => if y = z then v else f y
theorem Lr {P : Program} {K : Nat} : MapZ P K [] (fun _ => 0) := ⟨(fun _ h => nomatch h), List.nodup_nil, fun _ _ => rfl, fun _ _ _ h => by simp at h⟩
theorem MapZ.congr {P : Program} {K : Nat} {es : List (Value × Value)} {f g : Int → Int} (h : MapZ P K es f) (hfg : f = g) : MapZ P K es g := hfg ▸ h
section
variable {P : Program} {n : Nat} {B : Base} {e : Env} {σ : St} {d : Option Nat} {ty : TypeId} {pos : String} {af : Array Edge} {gd : Option (Nat × Bool)}
theorem RF {M K E i b j : Nat} {x y y2 : Operand} {z k u v : Value} {es : List (Value × Value)} {H' : List (Nat × Obj)} {Q : Value → St → Prop} (hT : MapT P M K E z) (hx : ev e x = .map (some b)) (hy : ev e y = k) (hy2 : ev e y2 = v) (hi : σ.H[i]? = some (b, mapO es)) (hk : IsK P K k) (hall : ∀ p ∈ es, IsK P K p.1) (hd : (es.map (·.1)).Nodup) (hj : es[j]? = some (k, u))
   (hH : SetL σ.H i (b, mapO (es.set j (k, v))) H') (hn : Q undef ⟨σ.F, H'⟩) : OpX P n B ⟨d, .mapUpdate M x y y2, ty, pos, af, gd⟩ e σ Q := .run fun w hw => by
 have hb := (hw.own _ (List.mem_of_getElem? hi)).1
 obtain ⟨l, hl⟩ := hk
 have hc := fun em => hT.keyed.check w em hl
 have hf : (Instr.findKey K k (es.zipIdx.map entryO)).run P w = .ok (some (j, u)) w := by
   rcases Gn hT.keyed ⟨l, hl⟩ hall w with ⟨-, h⟩ | ⟨i, v, h1, h2⟩
   · exact absurd rfl (h _ (List.mem_of_getElem? hj))
   have := JD hd h2 hj
   subst this
   rw [h2] at hj
   simp only [Option.some.injEq, Prod.mk.injEq] at hj
   rw [h1, hj.2]
 have hjl := (List.getElem?_eq_some_iff.1 hj).1
 have hat : (es.zipIdx.map entryO).toArray[j]? = some ⟨k, u, j⟩ := by
   simp [List.getElem?_zipIdx, hj, entryO]
 have hobj : Obj.map ((es.zipIdx.map entryO).toArray.modify j fun e => { e with key := k, val := v }) es.length = mapO (es.set j (k, v)) := by
   unfold mapO
   congr 1
   · apply Array.ext'
     apply List.ext_getElem?
     intro m
     rw [Array.getElem?_toList, Array.getElem?_modify]
     simp only [List.getElem?_toArray, List.getElem?_map, List.getElem?_zipIdx, List.getElem?_set]
     by_cases hm : j = m
     · subst hm; rw [if_pos rfl, hj]; simp [hjl, entryO]
     rw [if_neg hm]; simp [hm]
   simp
 have hst := hT.keyed.stays w hl
 rw [hH.eq.1] at hn
 refine ⟨_, _, _, .inr ⟨?_, rfl⟩, hw.setObj hi (o' := mapO (es.set j (k, v))), hn⟩
 have hg := DC (P := P) hb
 have hs := Fx (P := P) (es' := es.set j (k, v)) hb
 simp only [execOp, hx, hy, hy2, Instr.mapUpdate, Sem.run_bind, Bo hT.under, Result.andThen_ok, hg]
 simp only [mapO, hc, Result.andThen_ok, hf, Sem.run_bind, hat, Option.map_some, Option.getD_some, hst]
 rw [hobj, hs]
 simp [mapO]
theorem BG {M K E i b : Nat} {x y : Operand} {z : Int} {es : List (Value × Value)} {f : Int → Int} (hT : MapT P M K E (.int .i64 0)) (hx : ev e x = .map (some b)) (hy : ev e y = .int .i64 z) (hi : σ.H[i]? = some (b, mapO es)) (hk : IsK P K (.int .i64 z)) (hZ : MapZ P K es f) :
   OpR P B ⟨d, .lookup M x y false, ty, pos, af, gd⟩ e σ (.int .i64 (f z)) := by
 rcases NG (es := es) (.int .i64 z) with hno | ⟨j, u, hj⟩
 · have h := My (P := P) (B := B) (d := d) (ty := ty) (pos := pos) (af := af) (gd := gd) hT hx hy hi hk hZ.all hno
   rw [hZ.no z hno]; exact h
 have h := JB (P := P) (B := B) (d := d) (ty := ty) (pos := pos) (af := af) (gd := gd) hT hx hy hi hk hZ.all hZ.nd hj
 rw [hZ.is z j u hj] at h; exact h
theorem MapZ.new {K : Nat} {es : List (Value × Value)} {f : Int → Int} (h : MapZ P K es f) {z v : Int} (hk : IsK P K (.int .i64 z)) (hno : ∀ p ∈ es, p.1 ≠ Value.int .i64 z) : MapZ P K (es ++ [(.int .i64 z, .int .i64 v)]) (setZ f z v) := by
 refine ⟨LZ h.all hk, KF h.nd hno, fun y hy => ?_, fun y j u hj => ?_⟩
 · have hne : y ≠ z := fun q => hy (.int .i64 z, .int .i64 v) (by simp) (by rw [q])
   unfold setZ; rw [if_neg hne]
   exact h.no y fun p hp => hy p (by simp [hp])
 rcases Nat.lt_or_ge j es.length with hl | hl
 · rw [List.getElem?_append_left hl] at hj
   have hne : y ≠ z := fun q => hno _ (List.mem_of_getElem? hj) (by rw [q])
   unfold setZ; rw [if_neg hne]
   exact h.is y j u hj
 rw [List.getElem?_append_right hl, List.getElem?_singleton] at hj
 split at hj
 · simp only [Option.some.injEq, Prod.mk.injEq, Value.int.injEq, true_and] at hj
   unfold setZ; rw [if_pos hj.1.symm]; exact hj.2.symm
 cases hj
theorem MapZ.set {K : Nat} {es : List (Value × Value)} {f : Int → Int} (h : MapZ P K es f) {z v : Int} {j : Nat} {u : Value} (hj : es[j]? = some (Value.int .i64 z, u)) : MapZ P K (es.set j (.int .i64 z, .int .i64 v)) (setZ f z v) := by
 refine ⟨all_set h.all hj, nd_set h.nd hj, fun y hy => ?_, fun y m w hm => ?_⟩
 · have hne : y ≠ z := fun q => hy (.int .i64 z, .int .i64 v) (List.mem_of_getElem? (TO hj)) (by rw [q])
   unfold setZ; rw [if_neg hne]
   refine h.no y fun p hp hpe => ?_
   obtain ⟨m, hm⟩ := List.getElem?_of_mem hp
   have hmj : j ≠ m := fun q => by
     subst q; rw [hm] at hj
     simp only [Option.some.injEq] at hj
     rw [hj] at hpe
     simp only [Value.int.injEq, true_and] at hpe
     exact hne hpe.symm
   exact hy p (List.mem_of_getElem? (i := m) (by rw [List.getElem?_set_ne hmj]; exact hm)) hpe
 by_cases hmj : j = m
 · subst hmj
   rw [TO hj] at hm
   simp only [Option.some.injEq, Prod.mk.injEq, Value.int.injEq, true_and] at hm
   unfold setZ; rw [if_pos hm.1.symm]; exact hm.2.symm
 rw [List.getElem?_set_ne hmj] at hm
 have hne : y ≠ z := fun q => by
   subst q
   exact hmj (JD h.nd hj hm)
 unfold setZ; rw [if_neg hne]
 exact h.is y m w hm
theorem J3 {M K E i b : Nat} {x y y2 : Operand} {z v : Int} {es : List (Value × Value)} {f : Int → Int} {Hf : Obj → List (Nat × Obj)} {Q : Value → St → Prop} (hT : MapT P M K E (.int .i64 0)) (hx : ev e x = .map (some b)) (hy : ev e y = .int .i64 z) (hy2 : ev e y2 = .int .i64 v) (hi : σ.H[i]? = some (b, mapO es)) (hk : IsK P K (.int .i64 z)) (hZ : MapZ P K es f)
   (hH : ∀ o, SetL σ.H i (b, o) (Hf o)) (hn : ∀ es', MapZ P K es' (setZ f z v) → Q undef ⟨σ.F, Hf (mapO es')⟩) : OpX P n B ⟨d, .mapUpdate M x y y2, ty, pos, af, gd⟩ e σ Q := by
 rcases NG (es := es) (.int .i64 z) with hno | ⟨j, u, hj⟩
 · exact Ml hT hx hy hy2 hi hk hZ.all hno (hH _) (hn _ (hZ.new hk hno))
 exact RF hT hx hy hy2 hi hk hZ.all hZ.nd hj (hH _) (hn _ (hZ.set hj))
theorem isK_i64 {T : Nat} (hu : P.underlying T = some (.int .i64)) {z : Int} (h1 : -9223372036854775808 ≤ z) (h2 : z ≤ 9223372036854775807) : IsK P T (.int .i64 z) := by
 refine ⟨.int .i64 z, ?_⟩
 unfold keyOf mapKey
 rw [hu]
 simp [wf64 h1 h2]
theorem Ew {g : FuncId} {f : Operand} {cs vs : List Value} {xs : List Operand} {at_ : Array TypeId} {R : Value → List (Nat × Obj) → Prop} {K : Value → St → Prop} (hg : Body P g) (hf : ev e f = .func (.func g) #[] cs.toArray) (hx : Av e xs vs)
   (hok : ∀ G, σ.F.le G → (∀ p ∈ σ.H, G p.1 = some p.2) → OkN P g (vs ++ cs).toArray G fun v _ Hn => R v Hn) (hn : ∀ v Hn, R v Hn → K v ⟨σ.F, Hn ++ σ.H⟩) :
   OpX P n B ⟨d, .call ⟨.value f, xs.toArray, at_⟩, ty, pos, af, none⟩ e σ K := by
 intro a w ha hw next Qx hnext
 unfold Oper.wp
 rw [ha.ev, E1 hg hf hx, Oper.upon_enter]
 refine (hok (joined σ) (GG hw) (fun p hp => Hz hw hp) w (Hy hw)).mono fun r w' hq => ?_
 obtain ⟨v, F', Hn, rfl, hg', hH', hnd, hR⟩ := hq
 have hold : ∀ b, b < w.heap.size → w'.heap[b]? = w.heap[b]? := fun b hb => hg'.old b hb (by simp)
 refine hnext v _ w' (hn v Hn hR) ⟨hg'.os.trans hw.os, hg'.tape.trans hw.tape, hg'.output.trans hw.output, Nat.le_trans hw.size hg'.size, fun b hb hM => ?_, fun b o hb => ?_, fun p hp => ?_, ?_, hw.ext, hw.le, fun D hD => ?_, hw.dnodup⟩
 · rw [hold b (by have := hw.size; omega)]; exact hw.old b hb hM
 · have := hw.sub b o hb
   rw [hold b (Array.getElem?_eq_some_iff.1 this).1]; exact this
 · rcases List.mem_append.1 hp with hp | hp
   · obtain ⟨k1, k2, k3⟩ := hH' p hp
     refine ⟨k1, ?_, .inl (by have := hw.size; omega)⟩
     cases hq : σ.F p.1 with
     | none => rfl
     | some o =>
       have := hg'.le _ _ (GG hw _ _ hq)
       rw [k2] at this; cases this
   obtain ⟨h1, h2, h3⟩ := hw.own p hp
   exact ⟨by rw [hold _ (hw.lt hp)]; exact h1, h2, h3⟩
 · rw [List.map_append, List.nodup_append]
   refine ⟨hnd, hw.nodup, fun a ha b hb he => ?_⟩
   obtain ⟨q, hq, rfl⟩ := List.mem_map.1 ha
   obtain ⟨p, hp, rfl⟩ := List.mem_map.1 hb
   have h1 := hw.lt hp
   have h2 := (hH' q hq).2.2
   omega
 obtain ⟨h1, h2, h3, h4⟩ := hw.marks D hD
 refine ⟨by rw [hold _ (Array.getElem?_eq_some_iff.1 h1).1]; exact h1, h2, h3, fun hm => ?_⟩
 rw [List.map_append] at hm
 rcases List.mem_append.1 hm with hm | hm
 · obtain ⟨q, hq, rfl⟩ := List.mem_map.1 hm
   have k1 := (Array.getElem?_eq_some_iff.1 h1).1
   have k2 := (hH' q hq).2.2
   omega
 exact h4 hm
theorem RI {g : FuncId} {f : Operand} {cs vs : List Value} {xs : List Operand} {at_ : Array TypeId} {R : Value → List (Nat × Obj) → Prop} {K : Value → St → Prop} (hg : Body P g) (hf : ev e f = .func (.func g) #[] cs.toArray) (hx : Av e xs vs)
   (hok : ∀ G, σ.F.le G → (∀ p ∈ σ.H, G p.1 = some p.2) → OkN P g (vs ++ cs).toArray G fun v _ Hn => R v Hn) (hn : ∀ v Hn, R v Hn → K v σ) :
   OpX P n B ⟨d, .call ⟨.value f, xs.toArray, at_⟩, ty, pos, af, none⟩ e σ K := by
 intro a w ha hw next Qx hnext
 refine Ew hg hf hx hok (K := fun v σ' => K v σ ∧ ∃ Hn, σ' = ⟨σ.F, Hn ++ σ.H⟩) (fun v Hn h => ⟨hn v Hn h, Hn, rfl⟩) a w ha hw next Qx fun v σ' w' hK hw' => ?_
 obtain ⟨h1, Hn, rfl⟩ := hK
 exact hnext v σ w' h1 (hw'.drop (List.sublist_append_right _ _))
end
end
section
def cnt (t : List Int) (z : Int) : Int := (t.filter fun x => decide (x = z)).length
theorem NO : cnt [] = fun _ => 0 := rfl
theorem Ph {t : List Int} {x : Int} : cnt (t ++ [x]) = setZ (cnt t) x (cnt t x + 1) := by
 funext z
 unfold cnt setZ
 rw [List.filter_append, List.length_append]
 by_cases h : z = x
 · subst h; simp
 have h2 : ¬ x = z := fun q => h q.symm
 simp [h, h2]
theorem NP {t : List Int} {z : Int} : 0 ≤ cnt t z ∧ cnt t z ≤ t.length := by
 unfold cnt
 have := List.length_filter_le (fun x => decide (x = z)) t
 omega
theorem Gt {t : List Int} {k : Nat} (h : k < t.length) : cnt (t.take (k + 1)) = setZ (cnt (t.take k)) t[k] (cnt (t.take k) t[k] + 1) := by
 rw [List.take_succ_eq_append_getElem h, Ph]
structure TrB (n : Int) (t : List Int) : Prop where
 len : t.length ≤ 120
 at_ : ∀ i (_ : i < t.length), -1 ≤ t[i] ∧ t[i] < n
def lostTo (t : List Int) (n : Nat) : List Int := ((List.range n).filter fun (i : Nat) => decide (cnt t (i : Int) = 0)).map fun (i : Nat) => (i : Int)
theorem PY {t : List Int} {n : Nat} (h : cnt t (n : Int) = 0) : lostTo t (n + 1) = lostTo t n ++ [(n : Int)] := by
 unfold lostTo; rw [List.range_succ, List.filter_append]; simp [h]
theorem S6 {t : List Int} {n : Nat} (h : ¬ cnt t (n : Int) = 0) : lostTo t (n + 1) = lostTo t n := by
 unfold lostTo; rw [List.range_succ, List.filter_append]; simp [h]
theorem FD {t : List Int} {n : Nat} : (lostTo t n).length ≤ n := by
 unfold lostTo; rw [List.length_map]; have := List.length_filter_le (fun (i : Nat) => decide (cnt t (i : Int) = 0)) (List.range n); rwa [List.length_range] at this
theorem M5 {t : List Int} {n i : Nat} (h : i < (lostTo t n).length) : 0 ≤ (lostTo t n)[i] ∧ (lostTo t n)[i] < n := by
 have h1 := List.getElem_mem h
 have h2 : ∀ x ∈ lostTo t n, 0 ≤ x ∧ x < n := fun x hx => by
   unfold lostTo at hx
   obtain ⟨j, hj, rfl⟩ := List.mem_map.1 hx
   have := List.mem_range.1 (List.mem_filter.1 hj).1
   omega
 exact h2 _ h1
def lostL (c : Cpc) (t : List Int) : List Int := lostTo t (allQ c.book).length
def looseB (b : Qbk) (t : List Int) (n : Nat) : Bool := decide (0 < cnt t (n : Int)) && (decide (0 ≤ mateZ b n) && decide (cnt t (mateZ b n) = 0))
def looseTo (b : Qbk) (t : List Int) (n : Nat) : List Int := ((List.range n).filter (looseB b t)).map fun (i : Nat) => (i : Int)
theorem OK {b : Qbk} {t : List Int} {n : Nat} (h : looseB b t n = true) : looseTo b t (n + 1) = looseTo b t n ++ [(n : Int)] := by
 unfold looseTo; rw [List.range_succ, List.filter_append]; simp [h]
theorem Hx {b : Qbk} {t : List Int} {n : Nat} (h : looseB b t n = false) : looseTo b t (n + 1) = looseTo b t n := by
 unfold looseTo; rw [List.range_succ, List.filter_append]; simp [h]
theorem Kp {b : Qbk} {t : List Int} {n : Nat} : (looseTo b t n).length ≤ n := by
 unfold looseTo; rw [List.length_map]; have := List.length_filter_le (looseB b t) (List.range n); rwa [List.length_range] at this
theorem PZ {b : Qbk} {t : List Int} {n i : Nat} (h : i < (looseTo b t n).length) : 0 ≤ (looseTo b t n)[i] ∧ (looseTo b t n)[i] < n := by
 have h1 := List.getElem_mem h
 have h2 : ∀ x ∈ looseTo b t n, 0 ≤ x ∧ x < n := fun x hx => by
   unfold looseTo at hx
   obtain ⟨j, hj, rfl⟩ := List.mem_map.1 hx
   have := List.mem_range.1 (List.mem_filter.1 hj).1
   omega
 exact h2 _ h1
def looseL (c : Cpc) (t : List Int) : List Int := looseTo c.book t (allQ c.book).length
end
section
set_option maxRecDepth 100000
open Go.RowKit
theorem Ry : Body Tryz.prog 64 := AE (by kernel_rfl)
theorem L8 : FieldT Tryz.prog 135 1 3 := AU (by kernel_rfl)
instance : FieldI Tryz.prog 135 1 3 := ⟨L8⟩
theorem E7 : MapT Tryz.prog 139 3 3 (.int .i64 0) := ⟨Tryz.underlying139, Br (by kernel_rfl), Go.Maps.int_keyed Tryz.underlying3⟩
theorem E8 {z : Int} (h1 : -100000 ≤ z) (h2 : z ≤ 100000) : IsK Tryz.prog 3 (.int .i64 z) := isK_i64 Tryz.underlying3 (by omega) (by omega)
theorem HM {F : Heap} {vx : Value} {vT : Value} {t : List Int} (ht : Ints F vT t) (hT : TrB 1000 t) : OkN Tryz.prog 64 [vx, vT].toArray F fun u _ Hn => ∃ b es, u = .map (some b) ∧ Hn = [(b, mapO es)] ∧ MapZ Tryz.prog 3 es (cnt t) := by
 have hL1 := ht.plain.lt
 refine OkN.intro Tryz.func64 rfl Tryz.ntmps64 rfl fun w0 => AD (Af 1) <| Ac <| Am fun ds => A5 rfl <| Fa fun b1 hb1 nb1 => Aw (Af 1) <| Ac <| Az (Af 1) fun ds => Ag rfl (A4 A9 Aa ht.plain) <| Aw (Af 1) <| Aq ?_
 refine AL [7, 11, 12, 13, 14, 15, 16, 17, 18, 19] (fun m e σ => ∃ (k : Nat) (es : List (Value × Value)), m + k = t.length ∧ Fct e 11 (.int .i64 (k : Int)) ∧ MapZ Tryz.prog 3 es (cnt (t.take k)) ∧ σ = ⟨F, [(b1, mapO es)]⟩) (t.length) ?_ ?_
 · exact ⟨0, [], by omega, AX, Lr.congr (by rw [List.take_zero, NO]), rfl⟩
 rintro m e _ ⟨k, es, hm, hs11, hZ, rfl⟩
 by_cases hk : k < t.length
 ·refine AD (Af 1) <| Ac <| Ai Aa (by first | rfl | exact dT (by omega)) ?_
  have hta := hT.at_ k hk
  have hcl := NP (t := t.take k) (z := t[k])
  have hlk := List.length_take_le k t
  have hl2 := hT.len
  refine Al <| Ab <| Ac <| Aq <| Ac <| Am fun ds => Ag rfl (A1 (k := k) A9 Aa ht.plain Aa rfl hk) <| Ag rfl (Ak AF Aa (ht.cell1 hk rfl)) <| Aw (Af 1) <| Am fun ds => Aj (Af 2) <| Ag rfl (BG E7 Aa Aa (i := 0) rfl (E8 (by omega) (by omega)) hZ) <| Ag rfl (AG Aa Aa rfl (by omega) (by omega)) <| AS <| J3 E7 Aa Aa Aa (i := 0) rfl (E8 (by omega) (by omega)) hZ (fun _ => .here) fun es2 hZ2 => Ao <| A0 <| Ab <| Am fun ds => Ag rfl (AG Aa Aa rfl (by omega) (by omega)) <| Aj (Af 1) <| Ao ?_
  refine Ab ⟨_, m - 1, Off.eq (BR rfl <| BM rfl <| A2), by omega, ?_⟩
  exact ⟨k + 1, es2, by omega, AX, by rw [Gt hk]; exact hZ2, rfl⟩
 refine AD (Af 1) <| Ac <| Ad Aa (by first | rfl | exact dF (by omega)) <| AH ?_
 refine A8 <| A8 <| AB <| Ab <| AD (Af 2) <| At <| BK rfl Bd (.refl _) ?_
 rw [List.take_of_length_le (by omega)] at hZ
 exact ⟨_, es, rfl, rfl, hZ⟩
theorem QU {F : Heap} {vg : Value} {qs : List (Value × Gth)} {vi : Value} {is : List (Value × List Int)} {c : Cpc} {vl vm : Value} {p : Nat} (hX : CopR F 135 p vg qs vi is c vl vm) (hv : ValidC c) {vT : Value} {t : List Int} (ht : Ints F vT t) (hT : TrB 1000 t) : OkN Tryz.prog 56 [.pointer (some ⟨p, 0, none⟩), vT].toArray F fun u _ Hn => Own 3 1 u (lostL c t).length ((lostL c t).flatMap intE) Hn := by
 have hL1 := ht.plain.lt
 have hvl := hv.leaves
 refine OkN.intro Tryz.func56 rfl Tryz.ntmps56 rfl fun w0 => AD (Af 1) <| Az (Af 2) fun ds => A5 rfl <| BY Ry Aa AW (HM ht hT) fun v1 F2 R5 hr3 hF4 => ?_
 replace hX := hX.mono hF4
 obtain ⟨bm, es, rfl, rfl, hZ⟩ := hr3
 refine Aw (Af 1) <| Ac <| Az (Af 1) fun ds => Ag rfl (Bb Aa) <| Aj (Af 1) <| Ag rfl (Ak Gf Aa (AA hX.blk rfl)) <| Ag rfl (A4 Cq Aa hX.leaves.plain) <| Aw (Af 1) <| Aq ?_
 refine AL [4, 6, 15, 16, 17, 18, 19, 20, 21, 22, 23, 24, 25, 26] (fun m e σ => ∃ (k : Nat) (v : Value) (R : List (Nat × Obj)), m + k = (allQ c.book).length ∧ Fct e 15 (.int .i64 (k : Int)) ∧ Fct e 4 v ∧ Own 3 1 v (lostTo t k).length ((lostTo t k).flatMap intE) R ∧ σ = ⟨F2, (bm, mapO es) :: R⟩) ((allQ c.book).length) ?_ ?_
 · exact ⟨0, _, [], by omega, AX, AX, BZ, rfl⟩
 rintro m e _ ⟨k, v4, R4, hm, hs15, hs4, ho, rfl⟩
 by_cases hk : k < (allQ c.book).length
 ·refine AD (Af 1) <| Ac <| Ai Aa (by first | rfl | exact dT (by omega)) ?_
  have hll := FD (t := t) (n := k)
  by_cases h0 : cnt t (k : Int) = 0
  ·refine Al <| Ab <| Ac <| Aq <| AD (Af 2) <| Az (Af 2) fun ds => Ag rfl (BG E7 Aa Aa (i := 0) rfl (E8 (by omega) (by omega)) hZ) <| Aw (Af 1) <| Ai Aa (dT h0) <| Am fun ds => Aj (Af 2) <| A5 rfl <| AM A9 B2 rfl (.cons Aa .nil) rfl rfl (by decide) (by simp [Value.oneCell']) fun b7 hb7 nb7 => A5 rfl <| Bp A9 Di Aa ho Aa (B1 (s := 1) 0 rfl rfl (by simp [Value.oneCell'])) (by omega) (by omega) (.s <| .s <| .z) .last fun v8 R9 ho10 => ?_
   have ho2 : Own 3 1 v8 (lostTo t (k + 1)).length ((lostTo t (k + 1)).flatMap intE) R9 := by rw [PY h0]; exact Own.snoc ho10 rfl rfl
   refine Aj (Af 1) <| Ao <| A0 <| Ab <| Bn (fun _ _ h => h.drop (kD <| kK <| .refl _)) <| Am fun ds => Ag rfl (AG Aa Aa rfl (by omega) (by omega)) <| Aj (Af 1) <| Ao ?_
   refine Ab ⟨_, m - 1, Off.eq (BR rfl <| Ca rfl <| BM rfl <| A2), by omega, ?_⟩
   exact ⟨k + 1, _, _, by omega, AX, AX, ho2, rfl⟩
  refine Al <| Ab <| Ac <| Aq <| AD (Af 2) <| Az (Af 2) fun ds => Ag rfl (BG E7 Aa Aa (i := 0) rfl (E8 (by omega) (by omega)) hZ) <| Aw (Af 1) <| Ad Aa (dF h0) <| Al <| A0 <| Ab <| Am fun ds => Ag rfl (AG Aa Aa rfl (by omega) (by omega)) <| Aj (Af 1) <| Ao ?_
  refine Ab ⟨_, m - 1, Off.eq (BR rfl <| BX rfl <| A2), by omega, ?_⟩
  exact ⟨k + 1, _, _, by omega, AX, AX, by rw [S6 h0]; exact ho, rfl⟩
 refine AD (Af 1) <| Ac <| Ad Aa (by first | rfl | exact dF (by omega)) ?_
 obtain rfl : k = (allQ c.book).length := by omega
 refine AH ?_
 refine A8 <| A8 <| AB <| Ab <| AD (Af 2) <| At <| BK rfl Bd (.cons _ (.refl _)) ?_
 exact ho
theorem U7 {F : Heap} {vg : Value} {qs : List (Value × Gth)} {vi : Value} {is : List (Value × List Int)} {c : Cpc} {vl vm : Value} {p : Nat} (hX : CopR F 135 p vg qs vi is c vl vm) (hv : ValidC c) {vT : Value} {t : List Int} (ht : Ints F vT t) (hT : TrB 1000 t) : OkN Tryz.prog 57 [.pointer (some ⟨p, 0, none⟩), vT].toArray F fun u _ Hn => Own 3 1 u (looseL c t).length ((looseL c t).flatMap intE) Hn := by
 have hL1 := ht.plain.lt
 have hvl := hv.leaves
 refine OkN.intro Tryz.func57 rfl Tryz.ntmps57 rfl fun w0 => ?_
 have hML := Ce (b := c.book)
 refine AD (Af 1) <| Az (Af 2) fun ds => A5 rfl <| BY Ry Aa AW (HM ht hT) fun v1 F2 R5 hr3 hF4 => ?_
 replace hX := hX.mono hF4
 obtain ⟨bm, es, rfl, rfl, hZ⟩ := hr3
 refine Aw (Af 1) <| Ac <| Az (Af 1) fun ds => Ag rfl (Bb Aa) <| Aj (Af 1) <| Ag rfl (Ak Bq Aa (AA hX.blk rfl)) <| Ag rfl (A4 A9 Aa hX.mates.plain) <| Aw (Af 1) <| Aq ?_
 refine AL [4, 6, 7, 16, 17, 18, 19, 20, 21, 22, 23, 24, 25, 26, 27, 28, 29, 30, 31, 32, 33, 34, 35, 36, 37, 38, 39] (fun m e σ => ∃ (k : Nat) (v : Value) (R : List (Nat × Obj)), m + k = (allQ c.book).length ∧ Fct e 16 (.int .i64 (k : Int)) ∧ Fct e 4 v ∧ Own 3 1 v (looseTo c.book t k).length ((looseTo c.book t k).flatMap intE) R ∧ σ = ⟨F2, (bm, mapO es) :: R⟩) ((allQ c.book).length) ?_ ?_
 · exact ⟨0, _, [], by omega, AX, AX, BZ, rfl⟩
 rintro m e _ ⟨k, v4, R4, hm, hs16, hs4, ho, rfl⟩
 by_cases hk : k < (allQ c.book).length
 ·refine AD (Af 1) <| Ac <| Ai Aa (by first | rfl | exact dT (by omega)) ?_
  have hll := Kp (b := c.book) (t := t) (n := k)
  have hma : (matesL c.book)[k]'(by rw [Ce]; exact hk) = mateZ c.book k := JF _
  have hmr := EM (b := c.book) (n := k)
  refine Al <| Ab <| Ac <| Aq <| Az (Af 1) fun ds => Ag rfl (A1 (k := k) A9 Aa hX.mates.plain Aa rfl (by rw [Ce]; exact hk)) <| Ag rfl (Ak AF Aa (hX.mates.cell1 (by rw [Ce]; exact hk) rfl)) <| Aw (Af 2) <| Ac ?_
  rw [hma]
  by_cases h0 : 0 < cnt t (k : Int)
  ·refine Am fun ds => Aj (Af 2) <| Ag rfl (BG E7 Aa Aa (i := 0) rfl (E8 (by omega) (by omega)) hZ) <| Aj (Af 2) <| Ae rfl rfl Aa (dT h0) <| Aj (Af 1) <| Ae rfl rfl Aa (dT h0) <| Aj (Af 1) <| Ag rfl (Ar Aa (dT h0) Aa) <| Aj (Af 1) ?_
   by_cases h1 : 0 ≤ mateZ c.book k
   ·refine Ae rfl rfl Aa (dT h1) <| Aj (Af 1) <| Ae rfl rfl Aa (dT h1) <| Aj (Af 1) <| Ae rfl rfl Aa (dT h1) <| Ag rfl (BG E7 Aa Aa (i := 0) rfl (E8 (by omega) (by omega)) hZ) <| Ae rfl rfl Aa (dT h1) <| Aj (Af 1) <| Ag rfl (Ar Aa (dT h1) Aa) <| Ao <| Ab ?_
    by_cases h2 : cnt t (mateZ c.book k) = 0
    ·refine Ai Aa (dT h2) <| Am fun ds => Aj (Af 2) <| A5 rfl <| AM A9 B2 rfl (.cons Aa .nil) rfl rfl (by decide) (by simp [Value.oneCell']) fun b7 hb7 nb7 => A5 rfl <| Bp A9 Di Aa ho Aa (B1 (s := 1) 0 rfl rfl (by simp [Value.oneCell'])) (by omega) (by omega) (.s <| .s <| .z) .last fun v8 R9 ho10 => ?_
     have ho2 : Own 3 1 v8 (looseTo c.book t (k + 1)).length ((looseTo c.book t (k + 1)).flatMap intE) R9 := by rw [OK (by unfold looseB; simp [h0, h1, h2])]; exact Own.snoc ho10 rfl rfl
     refine Aj (Af 1) <| Ao <| A0 <| Ab <| Bn (fun _ _ h => h.drop (kD <| kK <| .refl _)) <| Am fun ds => Ag rfl (AG Aa Aa rfl (by omega) (by omega)) <| Aj (Af 1) <| Ao ?_
     refine Ab ⟨_, m - 1, Off.eq (B3 rfl <| BR rfl <| BM rfl <| BX rfl <| A2), by omega, ?_⟩
     exact ⟨k + 1, _, _, by omega, AX, AX, ho2, rfl⟩
    refine Ad Aa (dF h2) <| Al <| A0 <| Ab <| Am fun ds => Ag rfl (AG Aa Aa rfl (by omega) (by omega)) <| Aj (Af 1) <| Ao ?_
    refine Ab ⟨_, m - 1, Off.eq (B3 rfl <| Ca rfl <| BM rfl <| A2), by omega, ?_⟩
    exact ⟨k + 1, _, _, by omega, AX, AX, by rw [Hx (by unfold looseB; simp [h2])]; exact ho, rfl⟩
   refine Ah rfl rfl Aa (.inl (congrArg Value.bool (dF h1))) rfl <| Ah rfl rfl Aa (.inl (congrArg Value.bool (dF h1))) rfl <| Ah rfl rfl Aa (.inl (congrArg Value.bool (dF h1))) rfl <| Ah rfl rfl Aa (.inl (congrArg Value.bool (dF h1))) rfl <| Ag rfl (As Aa (dF h1) Aa) <| Ao <| Ab <| Ad Aa rfl <| Al <| A0 <| Ab <| Am fun ds => Ag rfl (AG Aa Aa rfl (by omega) (by omega)) <| Aj (Af 1) <| Ao ?_
   refine Ab ⟨_, m - 1, Off.eq (B3 rfl <| Ca rfl <| BM rfl <| A2), by omega, ?_⟩
   exact ⟨k + 1, _, _, by omega, AX, AX, by rw [Hx (by unfold looseB; simp [h1])]; exact ho, rfl⟩
  refine Am fun ds => Aj (Af 2) <| Ag rfl (BG E7 Aa Aa (i := 0) rfl (E8 (by omega) (by omega)) hZ) <| Aj (Af 2) <| Ah rfl rfl Aa (.inl (congrArg Value.bool (dF h0))) rfl <| Ah rfl rfl Aa (.inl (congrArg Value.bool (dF h0))) rfl <| Ag rfl (As Aa (dF h0) Aa) <| Aj (Af 1) <| Ah rfl rfl Aa (.inl (congrArg Value.bool rfl)) rfl <| Ah rfl rfl Aa (.inl (congrArg Value.bool rfl)) rfl <| Ah rfl rfl Aa (.inl (congrArg Value.bool rfl)) rfl <| Ah rfl rfl Aa (.inl (congrArg Value.bool rfl)) rfl <| Ag rfl (As Aa rfl C4) <| Ao <| Ab <| Ad Aa rfl <| Al <| A0 <| Ab <| Am fun ds => Ag rfl (AG Aa Aa rfl (by omega) (by omega)) <| Aj (Af 1) <| Ao ?_
  refine Ab ⟨_, m - 1, Off.eq (B3 rfl <| Ca rfl <| BM rfl <| A2), by omega, ?_⟩
  exact ⟨k + 1, _, _, by omega, AX, AX, by rw [Hx (by unfold looseB; simp [h0])]; exact ho, rfl⟩
 refine AD (Af 1) <| Ac <| Ad Aa (by first | rfl | exact dF (by omega)) ?_
 obtain rfl : k = (allQ c.book).length := by omega
 refine AH ?_
 refine A8 <| A8 <| AB <| Ab <| AD (Af 2) <| At <| BK rfl Bd (.cons _ (.refl _)) ?_
 exact ho
end
section
structure Rn where
 item : Int
 first : Int
 last : Int
deriving DecidableEq
@[reducible] def Rn.enc (x : Rn) : List Go.Value := [.int .i64 x.item, .int .i64 x.first, .int .i64 x.last]
theorem Rn.enc_one {b : Rn} : ∀ u ∈ b.enc, u.oneCell' = true := by simp [Rn.enc, Value.oneCell']
def rnAt (l : List Rn) (j : Nat) : Rn := l[j]?.getD ⟨0, 0, 0⟩
theorem QK {l : List Rn} {j : Nat} (h : j < l.length) : l[j] = rnAt l j := by simp [rnAt, h]
def rowN (n : Nat) (f : Nat → Int) : List Go.Value := (List.range n).map fun i => .int .i64 (f i)
theorem KY {n : Nat} {f : Nat → Int} : (rowN n f).length = n := by simp [rowN]
theorem D1 {n : Nat} {f : Nat → Int} {i : Nat} (h : i < n) : (rowN n f)[0 + i * 1]? = some (.int .i64 (f i)) := by simp [rowN, h]
def setN (f : Nat → Int) (i : Nat) (v : Int) : Nat → Int := fun j => if j = i then v else f j
theorem KX {n : Nat} {f : Nat → Int} {i : Nat} {v : Int} : (rowN n f).set (0 + i * 1) (.int .i64 v) = rowN n (setN f i v) := by
 rw [show 0 + i * 1 = i by omega]
 apply List.ext_getElem
 · simp [rowN]
 intro j h1 h2
 rw [List.getElem_set]
 simp only [rowN, List.getElem_map, List.getElem_range, setN]
 by_cases h : i = j
 · rw [if_pos h, if_pos h.symm]
 rw [if_neg h, if_neg (fun q => h q.symm)]
theorem Mt {f : Nat → Int} {i : Nat} {v w : Int} : setN (setN f i v) i w = setN f i w := by
 funext j; unfold setN; split <;> rfl
theorem G4 {f : Nat → Int} {i : Nat} {v : Int} : setN f i v i = v := if_pos rfl
theorem QI {f : Nat → Int} {i j : Nat} {v : Int} (h : j ≠ i) : setN f i v j = f j := if_neg h
theorem RT {f : Nat → Int} {i : Nat} (h : f i = 0) : setN f i 0 = f := by
 funext j; unfold setN; split
 · rename_i q; rw [q, h]
 rfl
def follow (l : List Rn) (f : Nat → Int) (i : Nat) : Nat → Int
 | 0 => 0
 | q + 1 => if (rnAt l i).last < (rnAt l (i + 1 + q)).first then max (follow l f i q) (f (i + 1 + q)) else follow l f i q
def manyD (l : List Rn) : Nat → Nat → Int
 | 0 => fun _ => 0
 | d + 1 => setN (manyD l d) (l.length - 1 - d) (follow l (manyD l d) (l.length - 1 - d) d + 1)
def bestD (l : List Rn) : Nat → Int
 | 0 => 0
 | d + 1 => max (bestD l d) (follow l (manyD l d) (l.length - 1 - d) d + 1)
def many (l : List Rn) : Nat → Int := manyD l l.length
theorem Gj {l : List Rn} {f : Nat → Int} {i : Nat} {b : Int} (hb : 0 ≤ b) (hf : ∀ j, 0 ≤ f j ∧ f j ≤ b) : ∀ q, 0 ≤ follow l f i q ∧ follow l f i q ≤ b
 | 0 => by unfold follow; omega
 | q + 1 => by
   have ih := Gj (l := l) (i := i) hb hf q
   have h1 := hf (i + 1 + q)
   unfold follow
   split <;> omega
theorem FC {l : List Rn} : ∀ d j, 0 ≤ manyD l d j ∧ manyD l d j ≤ d
 | 0, j => by simp [manyD]
 | d + 1, j => by
   have ih := FC (l := l) d j
   have h1 := Gj (l := l) (i := l.length - 1 - d) (f := manyD l d) (b := (d : Int)) (by omega) (FC (l := l) d) d
   unfold manyD setN
   split <;> omega
theorem NS {l : List Rn} : ∀ d, 0 ≤ bestD l d ∧ bestD l d ≤ d
 | 0 => by simp [bestD]
 | d + 1 => by
   have ih := NS (l := l) d
   have h1 := Gj (l := l) (i := l.length - 1 - d) (f := manyD l d) (b := (d : Int)) (by omega) (FC (l := l) d) d
   unfold bestD
   omega
theorem M4 {l : List Rn} : ∀ {d j : Nat}, d ≤ l.length → j + d < l.length → manyD l d j = 0
 | 0, j, _, _ => rfl
 | d + 1, j, h1, h2 => by
   unfold manyD
   rw [QI (by omega), M4 (by omega) (by omega)]
def keepTo (l : List Rn) : Nat → Rn × Int × List Int
 | 0 => (⟨-1, -1, -1⟩, bestD l l.length, [])
 | i + 1 => if many l i = (keepTo l i).2.1 ∧ ((keepTo l i).1 = ⟨-1, -1, -1⟩ ∨ (keepTo l i).1.last < (rnAt l i).first) then (rnAt l i, (keepTo l i).2.1 - 1, (keepTo l i).2.2) else ((keepTo l i).1, (keepTo l i).2.1, (keepTo l i).2.2 ++ [(rnAt l i).item])
def movedL (l : List Rn) : List Int := (keepTo l l.length).2.2
theorem Je {l : List Rn} {i : Nat} (h : many l i = (keepTo l i).2.1 ∧ ((keepTo l i).1 = ⟨-1, -1, -1⟩ ∨ (keepTo l i).1.last < (rnAt l i).first)) : keepTo l (i + 1) = (rnAt l i, (keepTo l i).2.1 - 1, (keepTo l i).2.2) := if_pos h
theorem KH {l : List Rn} {i : Nat} (h : ¬ (many l i = (keepTo l i).2.1 ∧ ((keepTo l i).1 = ⟨-1, -1, -1⟩ ∨ (keepTo l i).1.last < (rnAt l i).first))) : keepTo l (i + 1) = ((keepTo l i).1, (keepTo l i).2.1, (keepTo l i).2.2 ++ [(rnAt l i).item]) := if_neg h
theorem UD {l : List Rn} : ∀ i : Nat, -(i : Int) ≤ (keepTo l i).2.1 ∧ (keepTo l i).2.1 ≤ l.length
 | 0 => by have := NS (l := l) l.length; unfold keepTo; simp only; omega
 | i + 1 => by
   have ih := UD (l := l) i
   by_cases h : many l i = (keepTo l i).2.1 ∧ ((keepTo l i).1 = ⟨-1, -1, -1⟩ ∨ (keepTo l i).1.last < (rnAt l i).first)
   · rw [Je h]; simp only; omega
   rw [KH h]; simp only; omega
theorem Ly {l : List Rn} : ∀ i : Nat, (keepTo l i).2.2.length ≤ i
 | 0 => by simp [keepTo]
 | i + 1 => by
   have ih := Ly (l := l) i
   by_cases h : many l i = (keepTo l i).2.1 ∧ ((keepTo l i).1 = ⟨-1, -1, -1⟩ ∨ (keepTo l i).1.last < (rnAt l i).first)
   · rw [Je h]; simp only; omega
   rw [KH h]; simp only [List.length_append, List.length_singleton]; omega
end
section
set_option maxHeartbeats 1000000
set_option maxRecDepth 100000
open Go.RowKit
theorem J1 : ZeroT Tryz.prog 175 (.agg #[.int .i64 0, .int .i64 0, .int .i64 0]) := Br (by kernel_rfl)
theorem zr_209 : ZeroT Tryz.prog 209 (.agg #[.int .i64 0, .int .i64 0, .int .i64 0, .int .i64 0, .int .i64 0, .int .i64 0, .int .i64 0, .int .i64 0, .int .i64 0, .int .i64 0, .int .i64 0, .int .i64 0, .int .i64 0, .int .i64 0, .int .i64 0, .int .i64 0, .int .i64 0, .int .i64 0, .int .i64 0, .int .i64 0, .int .i64 0, .int .i64 0, .int .i64 0, .int .i64 0, .int .i64 0, .int .i64 0, .int .i64 0, .int .i64 0, .int .i64 0, .int .i64 0, .int .i64 0, .int .i64 0, .int .i64 0, .int .i64 0, .int .i64 0, .int .i64 0, .int .i64 0, .int .i64 0, .int .i64 0, .int .i64 0, .int .i64 0, .int .i64 0, .int .i64 0, .int .i64 0, .int .i64 0, .int .i64 0, .int .i64 0, .int .i64 0, .int .i64 0, .int .i64 0, .int .i64 0, .int .i64 0, .int .i64 0, .int .i64 0, .int .i64 0, .int .i64 0, .int .i64 0, .int .i64 0, .int .i64 0, .int .i64 0, .int .i64 0, .int .i64 0, .int .i64 0, .int .i64 0, .int .i64 0, .int .i64 0, .int .i64 0, .int .i64 0, .int .i64 0, .int .i64 0, .int .i64 0, .int .i64 0, .int .i64 0, .int .i64 0, .int .i64 0, .int .i64 0, .int .i64 0, .int .i64 0, .int .i64 0, .int .i64 0, .int .i64 0, .int .i64 0, .int .i64 0, .int .i64 0, .int .i64 0, .int .i64 0, .int .i64 0, .int .i64 0, .int .i64 0, .int .i64 0, .int .i64 0, .int .i64 0, .int .i64 0, .int .i64 0, .int .i64 0, .int .i64 0, .int .i64 0, .int .i64 0, .int .i64 0, .int .i64 0, .int .i64 0, .int .i64 0, .int .i64 0, .int .i64 0, .int .i64 0, .int .i64 0, .int .i64 0, .int .i64 0, .int .i64 0, .int .i64 0, .int .i64 0, .int .i64 0, .int .i64 0, .int .i64 0, .int .i64 0, .int .i64 0, .int .i64 0, .int .i64 0, .int .i64 0, .int .i64 0]) := Br (by kernel_rfl)
theorem FH : AggT Tryz.prog 175 3 := Cu (by kernel_rfl)
instance : AggI Tryz.prog 175 3 := ⟨FH⟩
theorem EZ : ArrT Tryz.prog 209 120 3 1 := KN (by kernel_rfl)
theorem H8 : BuildT Tryz.prog 175 [.int .i64 0, .int .i64 0, .int .i64 0] [(0, 1), (1, 1), (2, 1)] := BD J1 (by kernel_rfl) (by decide)
instance : FieldI Tryz.prog 175 0 0 := ⟨AU (by kernel_rfl)⟩
instance : FieldI Tryz.prog 175 1 1 := ⟨AU (by kernel_rfl)⟩
instance : FieldI Tryz.prog 175 2 2 := ⟨AU (by kernel_rfl)⟩
theorem Cx : SliceT Tryz.prog 173 175 3 := Ci (by kernel_rfl)
instance : SliceI Tryz.prog 173 := ⟨_, _, Cx⟩
theorem Ns : SizeT Tryz.prog 175 3 := Bx (by kernel_rfl)
theorem PL {B : Base} {e : Env} {σ : St} {d : Option Nat} {ty : TypeId} {pos : String} {af : Array Edge} {gd : Option (Nat × Bool)} {x y : Operand} {u : TypeId} {a b : Rn} (hx : ev e x = .agg a.enc.toArray) (hy : ev e y = .agg b.enc.toArray) :
   OpR Tryz.prog B ⟨d, .binOp .eql 175 x y u, ty, pos, af, gd⟩ e σ (.bool (decide (a = b))) := by
 have h := Ui (P := Tryz.prog) (B := B) (σ := σ) (d := d) (u := u) (ty := ty) (pos := pos) (af := af) (gd := gd) Tryz.underlying175 (show Tryz.prog.stoodInHeld 175 = false by kernel_rfl) (show Tryz.prog.eqGuardType Tryz.prog.depth 175 = false by kernel_rfl) (.int (by decide) Tryz.underlying3 (AF) rfl rfl (.int (by decide) Tryz.underlying3 (AF) rfl rfl (.int (by decide) Tryz.underlying3 (AF) rfl rfl .nil))) hx hy
 refine cast (congrArg _ (congrArg Value.bool ?_)) h
 rw [Bool.eq_iff_iff, decide_eq_true_iff]
 cases a; cases b
 simp [Rn.mk.injEq]
theorem Uz {F : Heap} {v : Value} {l : List Rn} (h : Sl F v 3 Rn.enc l) (hl : l.length ≤ 120) : OkN Tryz.prog 90 [v].toArray F fun u _ Hn => Own 3 1 u (movedL l).length ((movedL l).flatMap intE) Hn := by
 have hL1 := h.plain.lt
 refine OkN.intro Tryz.func90 rfl Tryz.ntmps90 rfl fun w0 => AD (Af 1) <| Ac <| Am fun ds => A5 rfl <| AO zr_209 rfl fun b1 hb1 nb1 => Ao <| Ab <| AD (Af 1) <| Ac <| Az (Af 1) fun ds => Ag rfl (A4 Cx Aa h.plain) <| Ag rfl (B4 Aa Aa rfl (by omega) (by omega)) <| Aw (Af 1) <| Aq ?_
 refine AL [4, 5, 6, 13, 14, 15, 16, 17, 18, 19, 20, 21, 22, 23, 24, 25, 26, 27, 28, 29, 30, 31, 32, 33, 34, 35, 36, 37, 38, 39, 40, 41, 42, 43, 44, 45, 46, 47, 48, 49, 50, 51, 52, 53, 54] (fun m e σ => ∃ d : Nat, m + d = l.length ∧ Fct e 5 (.int .i64 ((l.length : Int) - 1 - (d : Int))) ∧ Fct e 4 (.int .i64 (bestD l d)) ∧ σ = ⟨F, [(b1, bx 209 (rowN 120 (manyD l d)))]⟩) (l.length) ?_ ?_
 · exact ⟨0, by omega, Cr (congrArg (Value.int .i64) (by omega)), AX, rfl⟩
 rintro m e _ ⟨d, hm, hs5, hs4, rfl⟩
 by_cases hd : d < l.length
 ·obtain ⟨i, hi⟩ : ∃ i : Nat, i = l.length - 1 - d := ⟨_, rfl⟩
  have hil : i < l.length := by omega
  replace hs5 : Fct e 5 (.int .i64 (i : Int)) := ⟨hs5.eq.trans (congrArg (Value.int .i64) (by omega))⟩
  refine Ac <| AD (Af 2) <| Ai Aa (by first | rfl | exact dT (by omega)) <| Al <| Ab <| Ac <| Aq <| Ac <| Az (Af 1) fun ds => Ag rfl (AG Aa Aa rfl (by omega) (by omega)) <| Aw (Af 1) <| Aq ?_
  refine AL [6, 19, 20, 21, 22, 23, 24, 25, 26, 27, 28, 29, 30, 31, 32, 33, 34, 35, 36, 37, 38, 39, 40, 41, 42, 43, 44] (fun m e σ => ∃ q : Nat, m + q = d ∧ Fct e 6 (.int .i64 ((i : Int) + 1 + (q : Int))) ∧ σ = ⟨F, [(b1, bx 209 (rowN 120 (setN (manyD l d) i (follow l (manyD l d) i q))))]⟩) (d) ?_ ?_
  · exact ⟨0, by omega, Cr (congrArg (Value.int .i64) (by omega)), by rw [show follow l (manyD l d) i 0 = 0 from rfl, RT (M4 (by omega) (by omega))]⟩
  rintro m2 e2 _ ⟨q, hm2, ht6, rfl⟩
  by_cases hq : q < d
  ·refine Ac <| Az (Af 2) fun ds => Ag rfl (A4 Cx Aa h.plain) <| Aw (Af 1) <| Ai Aa (dT (by omega)) ?_
   have hkl : i + 1 + q < l.length := by omega
   have hrk := QK hkl
   have hri := QK hil
   have hfb := Gj (l := l) (f := manyD l d) (i := i) (b := (d : Int)) (by omega) (FC (l := l) d) q
   have hmk := FC (l := l) d (i + 1 + q)
   by_cases hf : (rnAt l i).last < (rnAt l (i + 1 + q)).first
   ·refine Al <| Ab <| Ac <| Aq <| Ac <| Bs (.inl rfl) (fun _ _ h => h) (by kernel_rfl) (by kernel_rfl) fun ds => AR (Af 2) <| AT rfl (A1 (k := i + 1 + q) Cx Aa h.plain Aa (by push_cast; omega) hkl) <| AR (Af 1) <| AT rfl (Ak AF Aa (h.cell hkl rfl)) <| AR (Af 2) <| AT rfl (A1 (k := i) Cx Aa h.plain Aa rfl hil) <| AR (Af 1) <| AT rfl (Ak AF Aa (h.cell hil rfl)) <| AR (Af 1) <| B0 <| Ab <| Ai Aa (dT (by rw [hrk, hri]; exact hf)) <| BO (.inl rfl) (fun _ _ h => h) (kK <| .refl _) [9] (by kernel_rfl) fun ds => Au 0 rfl (kK <| .refl _) (AI Aa) <| Au 1 rfl (kK <| .refl _) (AI Aa) <| Au 2 rfl (kK <| .refl _) (AZ (k := i) EZ Aa Aa rfl (by omega)) <| Au 3 rfl (kK <| .refl _) (Ak AF Aa (Cell.own 0 rfl (D1 (by omega)))) <| Au 4 rfl (kK <| .refl _) (AI Aa) ?_
    refine Au 5 rfl (kK <| .refl _) (AZ (k := i + 1 + q) EZ Aa Aa (by push_cast; omega) (by omega)) <| Au 6 rfl (kK <| .refl _) (Ak AF Aa (Cell.own 0 rfl (D1 (by omega)))) <| Au 7 rfl (kK <| .refl _) (Uf Aa Aa) <| Au 8 rfl (kK <| .refl _) (AZ (k := i) EZ Aa Aa rfl (by omega)) ?_
    refine Eg 9 rfl (by kernel_rfl) (Df DA Aa rfl Aa (i := 0) rfl (by rw [KY]; omega) rfl .here ⟨(fun h => nomatch h), ?_⟩)
    refine BC (by kernel_rfl) ?_ _
    refine A0 <| Ab <| Am fun ds => Aj (Af 1) <| Ag rfl (AG Aa Aa rfl (by omega) (by omega)) <| Aj (Af 1) <| Ao ?_
    refine Ab ⟨_, m2 - 1, Off.eq (B3 rfl <| BR rfl <| BM rfl <| BX rfl <| A2), by omega, ?_⟩
    refine ⟨q + 1, by omega, Cr (congrArg (Value.int .i64) (by push_cast; omega)), ?_⟩
    rw [KX, Mt, G4, QI (by omega), show follow l (manyD l d) i (q + 1) = max (follow l (manyD l d) i q) (manyD l d (i + 1 + q)) from if_pos hf]
   refine Al <| Ab <| Ac <| Aq <| Ac <| Bs (.inl rfl) (fun _ _ h => h) (by kernel_rfl) (by kernel_rfl) fun ds => AR (Af 2) <| AT rfl (A1 (k := i + 1 + q) Cx Aa h.plain Aa (by push_cast; omega) hkl) <| AR (Af 1) <| AT rfl (Ak AF Aa (h.cell hkl rfl)) <| AR (Af 2) <| AT rfl (A1 (k := i) Cx Aa h.plain Aa rfl hil) <| AR (Af 1) <| AT rfl (Ak AF Aa (h.cell hil rfl)) <| AR (Af 1) <| B0 <| Ab <| Ad Aa (dF (by rw [hrk, hri]; exact hf)) <| Al <| A0 <| Ab <| Am fun ds => Aj (Af 1) <| Ag rfl (AG Aa Aa rfl (by omega) (by omega)) <| Aj (Af 1) <| Ao ?_
   refine Ab ⟨_, m2 - 1, Off.eq (B3 rfl <| BM rfl <| A2), by omega, ?_⟩
   refine ⟨q + 1, by omega, Cr (congrArg (Value.int .i64) (by push_cast; omega)), ?_⟩
   rw [show follow l (manyD l d) i (q + 1) = follow l (manyD l d) i q from if_neg hf]
  refine Ac <| Az (Af 2) fun ds => Ag rfl (A4 Cx Aa h.plain) <| Aw (Af 1) <| Ad Aa (dF (by omega)) ?_
  obtain rfl : q = d := by omega
  have hfb := Gj (l := l) (f := manyD l q) (i := i) (b := (q : Int)) (by omega) (FC (l := l) q) q
  have hbb := NS (l := l) q
  refine AH ?_
  refine A8 <| A8 <| AB <| Ab <| Az (Af 1) fun ds => Ag rfl (AZ (k := i) EZ Aa Aa rfl (by omega)) <| Ag rfl (Ak AF Aa (Cell.own 0 rfl (D1 (by omega)))) <| Ag rfl (AG Aa Aa (show setN (manyD l q) i (follow l (manyD l q) i q) i + 1 = follow l (manyD l q) i q + 1 by rw [G4]) (by omega) (by omega)) <| Ag rfl (AZ (k := i) EZ Aa Aa rfl (by omega)) <| AS <| Df DA Aa rfl Aa (i := 0) rfl (by rw [KY]; omega) rfl .here <| Ao <| Ab ?_
  rw [KX, Mt, G4]
  have hmd : manyD l (q + 1) = setN (manyD l q) i (follow l (manyD l q) i q + 1) := by subst hi; rfl
  have hbd : bestD l (q + 1) = max (bestD l q) (follow l (manyD l q) i q + 1) := by subst hi; rfl
  rw [← hmd]
  refine Am fun ds => Aj (Af 2) <| Ag rfl (AZ (k := i) EZ Aa Aa rfl (by omega)) <| Ag rfl (Ak AF Aa (Cell.own 0 rfl (D1 (by omega)))) <| Aj (Af 2) <| Ao <| A0 <| Ab <| Am fun ds => Aj (Af 1) <| Ag rfl (B4 Aa Aa rfl (by omega) (by omega)) <| Aj (Af 1) <| Ao ?_
  refine Ab ⟨_, m - 1, Off.eq (B3 rfl <| BM rfl <| Cg rfl <| Ca rfl <| BX rfl <| A2), by omega, ?_⟩
  exact ⟨q + 1, by omega, Cr (congrArg (Value.int .i64) (by push_cast; omega)), Cr (congrArg (Value.int .i64) (by rw [hbd, hmd, G4])), rfl⟩
 refine Ac <| AD (Af 2) <| Ad Aa (by first | rfl | exact dF (by omega)) ?_
 obtain rfl : d = l.length := by omega
 refine AK (i := 0) rfl hb1 (.here) fun F4 hF5 hz3 => ?_
 replace h := h.mono hF5
 refine AH ?_
 refine A8 <| A8 <| AB <| Ab <| Ac <| Am fun ds => Ag rfl (Bm H8 (.cons Aa rfl (.cons Aa rfl (.cons Aa rfl .nil))) (.cons rfl rfl (Nat.le_of_ble_eq_true rfl) (.cons (.here) .nil) (.cons rfl rfl (Nat.le_of_ble_eq_true rfl) (.cons (.next <| .here) .nil) (.cons rfl rfl (Nat.le_of_ble_eq_true rfl) (.cons (.next <| .next <| .here) .nil) .nil)))) <| A5 rfl <| AO J1 rfl fun b6 hb6 nb6 => AS <| AP Ns Aa Aa (i := 0) rfl rfl rfl rfl (by simp [Value.oneCell']) (.here) <| Ao <| Ab <| Ac <| Az (Af 1) fun ds => Ag rfl (A4 Cx Aa h.plain) <| Aw (Af 1) <| Aq ?_
 refine AL [2, 4, 8, 9, 58, 59, 60, 61, 62, 63, 64, 65, 66, 67, 68, 69, 70, 71, 72, 73, 74, 75, 76, 77, 78, 79, 80, 81, 82, 83, 84, 85, 86, 87, 88] (fun m e σ => ∃ (j : Nat) (v : Value) (R : List (Nat × Obj)), m + j = l.length ∧ Fct e 58 (.int .i64 (j : Int)) ∧ Fct e 2 v ∧ Fct e 4 (.int .i64 (keepTo l j).2.1) ∧ Own 3 1 v ((keepTo l j).2.2).length (((keepTo l j).2.2).flatMap intE) R ∧ σ = ⟨F4, (b6, bx 175 (keepTo l (j)).1.enc) :: R⟩) (l.length) ?_ ?_
 · exact ⟨0, _, [], by omega, AX, AX, AX, BZ, rfl⟩
 rintro m1 e1 _ ⟨j, v2, R2, hm1, hs58, hs2, hs4, ho, rfl⟩
 by_cases hj : j < l.length
 ·refine AD (Af 1) <| Ac <| Ai Aa (by first | rfl | exact dT (by omega)) ?_
  have hrj := QK hj
  have hkb := UD (l := l) j
  have hkl := Ly (l := l) j
  have hmb := FC (l := l) l.length j
  refine Al <| Ab <| Ac <| Aq <| Az (Af 1) fun ds => Ag rfl (A1 (k := j) Cx Aa h.plain Aa rfl hj) <| Ag rfl (AC (vs := (Rn.enc l[j])) FH Aa rfl rfl (h.whole hj)) <| A5 rfl <| AO J1 rfl fun b8 hb8 nb8 => Aj (Af 1) <| AS <| AP Ns Aa Aa (i := 0) rfl rfl rfl rfl Rn.enc_one (.here) <| Ao <| Ab <| Ac ?_
  by_cases h1 : many l j = (keepTo l j).2.1
  ·by_cases h2 : (keepTo l j).1 = ⟨-1, -1, -1⟩
   ·refine Am fun ds => Aj (Af 1) <| Ag rfl (AZ (k := j) EZ Aa Aa rfl (by omega)) <| Ag rfl (Ak AF Aa (CellF.own hz3 (D1 (by omega))).cell) <| Aj (Af 3) <| Ae rfl rfl Aa (dT h1) <| Ag rfl (AC (vs := (keepTo l j).1.enc) FH Aa rfl rfl (Bz 1 rfl)) <| Ae rfl rfl Aa (dT h1) <| Ag rfl (Bm H8 (.cons Aa rfl (.cons Aa rfl (.cons Aa rfl .nil))) (.cons rfl rfl (Nat.le_of_ble_eq_true rfl) (.cons (.here) .nil) (.cons rfl rfl (Nat.le_of_ble_eq_true rfl) (.cons (.next <| .here) .nil) (.cons rfl rfl (Nat.le_of_ble_eq_true rfl) (.cons (.next <| .next <| .here) .nil) .nil)))) <| Ae rfl rfl Aa (dT h1) <| Ag rfl (PL (b := ⟨-1, -1, -1⟩) Aa Aa) <| Ae rfl rfl Aa (dT h1) <| Aj (Af 1) <| Ah rfl rfl Aa (.inl (congrArg Value.bool (dT h2))) rfl <| Ah rfl rfl Aa (.inl (congrArg Value.bool (dT h2))) rfl <| Ah rfl rfl Aa (.inl (congrArg Value.bool (dT h2))) rfl <| Ah rfl rfl Aa (.inl (congrArg Value.bool (dT h2))) rfl <| Ah rfl rfl Aa (.inl (congrArg Value.bool (dT h2))) rfl <| Ae rfl rfl Aa (dT h1) <| Ag rfl (Ar Aa (dT h2) Aa) <| Ag rfl (Ar Aa (dT h1) Aa) <| Ao <| Ab <| Ai Aa rfl ?_
    have hky := Je (l := l) (i := j) ⟨h1, .inl h2⟩
    refine Ac <| Am fun ds => Ag rfl (AC (vs := (Rn.enc l[j])) FH Aa rfl rfl (Bz 0 rfl)) <| AS <| AP Ns Aa Aa (i := 1) rfl rfl rfl rfl Rn.enc_one (.next <| .here) <| Ao <| Ab <| Am fun ds => Aj (Af 1) <| Ag rfl (B4 Aa Aa rfl (by omega) (by omega)) <| Aj (Af 1) <| Ao <| A0 <| Ab <| Bn (fun _ _ h => h.drop (kD <| kK <| .refl _)) <| Am fun ds => Ag rfl (AG Aa Aa rfl (by omega) (by omega)) <| Aj (Af 1) <| Ao ?_
    refine Ab ⟨_, m1 - 1, Off.eq (B3 rfl <| BR rfl <| Ca rfl <| BX rfl <| A2), by omega, ?_⟩
    refine ⟨j + 1, _, _, by omega, AX, AX, Cr (congrArg (Value.int .i64) (by rw [hky])), by rw [hky]; exact ho, by rw [hky, ← hrj]⟩
   by_cases h3 : (keepTo l j).1.last < (rnAt l j).first
   ·refine Am fun ds => Aj (Af 1) <| Ag rfl (AZ (k := j) EZ Aa Aa rfl (by omega)) <| Ag rfl (Ak AF Aa (CellF.own hz3 (D1 (by omega))).cell) <| Aj (Af 3) <| Ae rfl rfl Aa (dT h1) <| Ag rfl (AC (vs := (keepTo l j).1.enc) FH Aa rfl rfl (Bz 1 rfl)) <| Ae rfl rfl Aa (dT h1) <| Ag rfl (Bm H8 (.cons Aa rfl (.cons Aa rfl (.cons Aa rfl .nil))) (.cons rfl rfl (Nat.le_of_ble_eq_true rfl) (.cons (.here) .nil) (.cons rfl rfl (Nat.le_of_ble_eq_true rfl) (.cons (.next <| .here) .nil) (.cons rfl rfl (Nat.le_of_ble_eq_true rfl) (.cons (.next <| .next <| .here) .nil) .nil)))) <| Ae rfl rfl Aa (dT h1) <| Ag rfl (PL (b := ⟨-1, -1, -1⟩) Aa Aa) <| Ae rfl rfl Aa (dT h1) <| Aj (Af 1) <| Ae rfl rfl Aa (dF h2) <| Aj (Af 1) <| Ae rfl rfl Aa (dF h2) <| Aj (Af 1) <| Ae rfl rfl Aa (dF h2) <| Aj (Af 1) <| Ae rfl rfl Aa (dF h2) <| Aj (Af 1) <| Ae rfl rfl Aa (dF h2) <| Aj (Af 1) <| Ae rfl rfl Aa (dT h1) <| Ag rfl (As Aa (dF h2) Aa) <| Ag rfl (Ar Aa (dT h1) Aa) <| Ao <| Ab <| Ai Aa (dT (by rw [hrj]; exact h3)) ?_
    have hky := Je (l := l) (i := j) ⟨h1, .inr h3⟩
    refine Ac <| Am fun ds => Ag rfl (AC (vs := (Rn.enc l[j])) FH Aa rfl rfl (Bz 0 rfl)) <| AS <| AP Ns Aa Aa (i := 1) rfl rfl rfl rfl Rn.enc_one (.next <| .here) <| Ao <| Ab <| Am fun ds => Aj (Af 1) <| Ag rfl (B4 Aa Aa rfl (by omega) (by omega)) <| Aj (Af 1) <| Ao <| A0 <| Ab <| Bn (fun _ _ h => h.drop (kD <| kK <| .refl _)) <| Am fun ds => Ag rfl (AG Aa Aa rfl (by omega) (by omega)) <| Aj (Af 1) <| Ao ?_
    refine Ab ⟨_, m1 - 1, Off.eq (B3 rfl <| BR rfl <| Ca rfl <| BX rfl <| A2), by omega, ?_⟩
    refine ⟨j + 1, _, _, by omega, AX, AX, Cr (congrArg (Value.int .i64) (by rw [hky])), by rw [hky]; exact ho, by rw [hky, ← hrj]⟩
   have hkn := KH (l := l) (i := j) (fun h => h.2.elim h2 h3)
   refine Am fun ds => Aj (Af 1) <| Ag rfl (AZ (k := j) EZ Aa Aa rfl (by omega)) <| Ag rfl (Ak AF Aa (CellF.own hz3 (D1 (by omega))).cell) <| Aj (Af 3) <| Ae rfl rfl Aa (dT h1) <| Ag rfl (AC (vs := (keepTo l j).1.enc) FH Aa rfl rfl (Bz 1 rfl)) <| Ae rfl rfl Aa (dT h1) <| Ag rfl (Bm H8 (.cons Aa rfl (.cons Aa rfl (.cons Aa rfl .nil))) (.cons rfl rfl (Nat.le_of_ble_eq_true rfl) (.cons (.here) .nil) (.cons rfl rfl (Nat.le_of_ble_eq_true rfl) (.cons (.next <| .here) .nil) (.cons rfl rfl (Nat.le_of_ble_eq_true rfl) (.cons (.next <| .next <| .here) .nil) .nil)))) <| Ae rfl rfl Aa (dT h1) <| Ag rfl (PL (b := ⟨-1, -1, -1⟩) Aa Aa) <| Ae rfl rfl Aa (dT h1) <| Aj (Af 1) <| Ae rfl rfl Aa (dF h2) <| Aj (Af 1) <| Ae rfl rfl Aa (dF h2) <| Aj (Af 1) <| Ae rfl rfl Aa (dF h2) <| Aj (Af 1) <| Ae rfl rfl Aa (dF h2) <| Aj (Af 1) <| Ae rfl rfl Aa (dF h2) <| Aj (Af 1) <| Ae rfl rfl Aa (dT h1) <| Ag rfl (As Aa (dF h2) Aa) <| Ag rfl (Ar Aa (dT h1) Aa) <| Ao <| Ab <| Ad Aa (dF (by rw [hrj]; exact h3)) <| Am fun ds => Aj (Af 3) <| A5 rfl <| AM A9 B2 rfl (.cons Aa .nil) rfl rfl (by decide) (by simp [Value.oneCell']) fun b9 hb9 nb9 => ?_
   refine A5 rfl <| Bp A9 Di Aa ho Aa (B1 (s := 1) 0 rfl rfl (by simp [Value.oneCell'])) (by omega) (by omega) (.s <| .s <| .s <| .z) .last fun v10 R11 ho12 => ?_
   have ho2 : Own 3 1 v10 ((keepTo l (j + 1)).2.2).length (((keepTo l (j + 1)).2.2).flatMap intE) R11 := by rw [hkn]; exact Own.snoc ho12 rfl (by rw [hrj]; first | done | rfl)
   refine Aj (Af 1) <| Ao <| A0 <| Ab <| Bn (fun _ _ h => h.drop (kD <| kD <| kK <| .refl _)) <| Am fun ds => Ag rfl (AG Aa Aa rfl (by omega) (by omega)) <| Aj (Af 1) <| Ao ?_
   refine Ab ⟨_, m1 - 1, Off.eq (B3 rfl <| BR rfl <| Ca rfl <| BM rfl <| BX rfl <| A2), by omega, ?_⟩
   exact ⟨j + 1, _, _, by omega, AX, AX, Cr (congrArg (Value.int .i64) (by rw [hkn])), ho2, by rw [hkn]⟩
  have hkn := KH (l := l) (i := j) (fun h => h1 h.1)
  refine Am fun ds => Aj (Af 1) <| Ag rfl (AZ (k := j) EZ Aa Aa rfl (by omega)) <| Ag rfl (Ak AF Aa (CellF.own hz3 (D1 (by omega))).cell) <| Aj (Af 3) <| Ah rfl rfl Aa (.inl (congrArg Value.bool (dF h1))) rfl <| Ah rfl rfl Aa (.inl (congrArg Value.bool (dF h1))) rfl <| Ah rfl rfl Aa (.inl (congrArg Value.bool (dF h1))) rfl <| Ah rfl rfl Aa (.inl (congrArg Value.bool (dF h1))) rfl <| Ah rfl rfl Aa (.inr rfl) rfl <| Ah rfl rfl Aa (.inr rfl) rfl <| Ah rfl rfl Aa (.inr rfl) rfl <| Ah rfl rfl Aa (.inr rfl) rfl <| Ah rfl rfl Aa (.inr rfl) rfl <| Ah rfl rfl Aa (.inl (congrArg Value.bool (dF h1))) rfl <| Ag rfl (As Aa (dF h1) Aa) <| Ao <| Ab <| Ad Aa rfl <| Am fun ds => Aj (Af 3) <| A5 rfl <| AM A9 B2 rfl (.cons Aa .nil) rfl rfl (by decide) (by simp [Value.oneCell']) fun b13 hb13 nb13 => A5 rfl <| Bp A9 Di Aa ho Aa (B1 (s := 1) 0 rfl rfl (by simp [Value.oneCell'])) (by omega) (by omega) (.s <| .s <| .s <| .z) .last fun v14 R15 ho16 => ?_
  have ho2 : Own 3 1 v14 ((keepTo l (j + 1)).2.2).length (((keepTo l (j + 1)).2.2).flatMap intE) R15 := by rw [hkn]; exact Own.snoc ho16 rfl (by rw [hrj]; first | done | rfl)
  refine Aj (Af 1) <| Ao <| A0 <| Ab <| Bn (fun _ _ h => h.drop (kD <| kD <| kK <| .refl _)) <| Am fun ds => Ag rfl (AG Aa Aa rfl (by omega) (by omega)) <| Aj (Af 1) <| Ao ?_
  refine Ab ⟨_, m1 - 1, Off.eq (B3 rfl <| BR rfl <| Ca rfl <| BM rfl <| BX rfl <| A2), by omega, ?_⟩
  exact ⟨j + 1, _, _, by omega, AX, AX, Cr (congrArg (Value.int .i64) (by rw [hkn])), ho2, by rw [hkn]⟩
 refine AD (Af 1) <| Ac <| Ad Aa (by first | rfl | exact dF (by omega)) ?_
 obtain rfl : j = l.length := by omega
 refine AH ?_
 refine A8 <| A8 <| AB <| Ab <| AD (Af 2) <| At <| BK rfl Bd (.cons _ (.refl _)) ?_
 exact ho
end
section
def mateI (b : Qbk) (z : Int) : Int := mateZ b z.toNat
def piecesTo (b : Qbk) (g : List Int) : Nat → Int
 | 0 => 0
 | k + 1 => if mateI b (g[k]?.getD 0) < 0 ∨ cnt (g.take (k + 1)) (mateI b (g[k]?.getD 0)) = 0 then piecesTo b g k + 1 else piecesTo b g k
def pieces (b : Qbk) (g : List Int) : Int := piecesTo b g g.length
theorem E4 {b : Qbk} {g : List Int} : ∀ k : Nat, 0 ≤ piecesTo b g k ∧ piecesTo b g k ≤ k
 | 0 => by simp [piecesTo]
 | k + 1 => by
   have ih := E4 (b := b) (g := g) k
   unfold piecesTo
   split <;> omega
theorem Lm {b : Qbk} {g : List Int} {k : Nat} (hk : k < g.length) (h : mateI b g[k] < 0 ∨ cnt (g.take (k + 1)) (mateI b g[k]) = 0) : piecesTo b g (k + 1) = piecesTo b g k + 1 := by
 have he : g[k]?.getD 0 = g[k] := by simp [hk]
 rw [← he] at h
 exact if_pos h
theorem Sv {b : Qbk} {g : List Int} {k : Nat} (hk : k < g.length) (h : ¬ (mateI b g[k] < 0 ∨ cnt (g.take (k + 1)) (mateI b g[k]) = 0)) : piecesTo b g (k + 1) = piecesTo b g k := by
 have he : g[k]?.getD 0 = g[k] := by simp [hk]
 rw [← he] at h
 exact if_neg h
def seenF (t : List Int) (i : Nat) : Int → Int := fun z => if 0 ≤ z then cnt (t.take i) z else 0
theorem RX {t : List Int} : seenF t 0 = fun _ => 0 := by
 funext z; unfold seenF; rw [List.take_zero, NO]; split <;> rfl
theorem TQ {t : List Int} {i : Nat} (hi : i < t.length) (h : 0 ≤ t[i]) : seenF t (i + 1) = setZ (seenF t i) t[i] (seenF t i t[i] + 1) := by
 funext z
 unfold seenF
 rw [Gt hi, if_pos h]
 unfold setZ
 by_cases hz : z = t[i]
 · subst hz; rw [if_pos h, if_pos rfl, if_pos rfl]
 rw [if_neg hz, if_neg hz]
theorem seen_no {t : List Int} {i : Nat} (hi : i < t.length) (h : t[i] < 0) : seenF t (i + 1) = seenF t i := by
 funext z
 unfold seenF
 split
 · rw [Gt hi]; unfold setZ; rw [if_neg (by omega)]
 rfl
def gathI (b : Qbk) (z : Int) : Int := (b.l z.toNat).gath
def lastR (l : List Rn) : Rn := rnAt l (l.length - 1)
def goes (b : Qbk) (l : List Rn) (n : Int) : Bool := decide (0 < l.length) && (decide ((lastR l).last < n) && decide (gathI b (lastR l).last = gathI b n))
def runStep (b : Qbk) (l : List Rn) (i : Nat) (n : Int) : List Rn := if goes b l n = true then l.set (l.length - 1) ⟨(lastR l).item, (lastR l).first, n⟩ else l ++ [⟨(i : Int), n, n⟩]
def fltTo (b : Qbk) (t : List Int) : Nat → List Int × List Int × List Rn
 | 0 => ([], [], [])
 | i + 1 => if t[i]?.getD 0 < 0 then ((fltTo b t i).1 ++ [(i : Int)], (fltTo b t i).2.1, (fltTo b t i).2.2)
   else if 0 < cnt (t.take i) (t[i]?.getD 0) then ((fltTo b t i).1, (fltTo b t i).2.1 ++ [(i : Int)], (fltTo b t i).2.2)
   else ((fltTo b t i).1, (fltTo b t i).2.1, runStep b (fltTo b t i).2.2 i (t[i]?.getD 0))
theorem Gk {b : Qbk} {t : List Int} {i : Nat} (hi : i < t.length) (h : t[i] < 0) : fltTo b t (i + 1) = ((fltTo b t i).1 ++ [(i : Int)], (fltTo b t i).2.1, (fltTo b t i).2.2) := by
 have he : t[i]?.getD 0 = t[i] := by simp [hi]
 rw [← he] at h
 exact if_pos h
theorem JJ {b : Qbk} {t : List Int} {i : Nat} (hi : i < t.length) (h : ¬ t[i] < 0) (h2 : 0 < cnt (t.take i) t[i]) : fltTo b t (i + 1) = ((fltTo b t i).1, (fltTo b t i).2.1 ++ [(i : Int)], (fltTo b t i).2.2) := by
 have he : t[i]?.getD 0 = t[i] := by simp [hi]
 rw [← he] at h h2
 exact (if_neg h).trans (if_pos h2)
theorem NI {b : Qbk} {t : List Int} {i : Nat} (hi : i < t.length) (h : ¬ t[i] < 0) (h2 : ¬ 0 < cnt (t.take i) t[i]) : fltTo b t (i + 1) = ((fltTo b t i).1, (fltTo b t i).2.1, runStep b (fltTo b t i).2.2 i t[i]) := by
 have he : t[i]?.getD 0 = t[i] := by simp [hi]
 rw [← he] at h h2 ⊢
 exact (if_neg h).trans (if_neg h2)
theorem Ox {b : Qbk} {l : List Rn} {i : Nat} {n : Int} : (runStep b l i n).length ≤ l.length + 1 := by
 unfold runStep; split <;> simp
theorem KI {b : Qbk} {t : List Int} : ∀ {i : Nat}, i ≤ t.length → (fltTo b t i).1.length ≤ i ∧ (fltTo b t i).2.1.length ≤ i ∧ (fltTo b t i).2.2.length ≤ i
 | 0, _ => by simp [fltTo]
 | i + 1, hi => by
   have ih := KI (b := b) (t := t) (i := i) (by omega)
   by_cases h : t[i] < 0
   · rw [Gk (by omega) h]; simp; omega
   by_cases h2 : 0 < cnt (t.take i) t[i]
   · rw [JJ (by omega) h h2]; simp; omega
   rw [NI (by omega) h h2]
   have := Ox (b := b) (l := (fltTo b t i).2.2) (i := i) (n := t[i])
   simp only
   omega
theorem OW {b : Qbk} {t : List Int} {N : Int} (ht : ∀ i (_ : i < t.length), t[i] < N) : ∀ {i : Nat}, i ≤ t.length → ∀ r ∈ (fltTo b t i).2.2, 0 ≤ r.last ∧ r.last < N
 | 0, _ => by simp [fltTo]
 | i + 1, hi => by
   have ih := OW (b := b) (t := t) ht (i := i) (by omega)
   have hti := ht i (by omega)
   by_cases h : t[i] < 0
   · rw [Gk (by omega) h]; exact ih
   by_cases h2 : 0 < cnt (t.take i) t[i]
   · rw [JJ (by omega) h h2]; exact ih
   rw [NI (by omega) h h2]
   intro r hr
   unfold runStep at hr
   split at hr
   · rcases List.mem_or_eq_of_mem_set hr with h3 | h3
     · exact ih r h3
     subst h3; simp only; omega
   rcases List.mem_append.1 hr with h3 | h3
   · exact ih r h3
   rw [List.mem_singleton] at h3; subst h3; simp only; omega
def strangeL (c : Cpc) (t : List Int) : List Int := (fltTo c.book t t.length).1
def twiceL (c : Cpc) (t : List Int) : List Int := (fltTo c.book t t.length).2.1
def runsL (c : Cpc) (t : List Int) : List Rn := (fltTo c.book t t.length).2.2
def movedC (c : Cpc) (t : List Int) : List Int := movedL (runsL c t)
def piecesC (c : Cpc) (t : List Int) : Int := pieces c.book (lostL c t)
def allZ (c : Cpc) (t : List Int) : Int := piecesC c t + (strangeL c t).length + (twiceL c t).length + (movedC c t).length
theorem RZ {l : List Rn} {k : Nat} {n : Int} (hk : k < l.length) : (l.flatMap Rn.enc).set (k * 3 + 2) (.int .i64 n) = (l.set k ⟨(rnAt l k).item, (rnAt l k).first, n⟩).flatMap Rn.enc := by
 induction l generalizing k with
 | nil => simp at hk
 | cons r l ih =>
   cases k with
   | zero => simp [Rn.enc, rnAt]
   | succ k =>
     have h1 : (k + 1) * 3 + 2 = (k * 3 + 2) + 3 := by omega
     rw [h1]
     have := ih (k := k) (by simpa using hk)
     simp only [List.flatMap_cons, List.set_cons_succ]
     rw [show rnAt (r :: l) (k + 1) = rnAt l k by simp [rnAt], ← this]
     simp [Rn.enc]
theorem Lo {l : List Rn} : (movedL l).length ≤ l.length := Ly _
theorem Ey {c : Cpc} (hv : ValidC c) {t : List Int} (h : t ∈ truC c) : TrB (allQ c.book).length t := by
 obtain ⟨h1, h2⟩ := On hv h
 exact ⟨by rw [h1]; exact hv.many, h2⟩
end
section
set_option maxHeartbeats 4000000
set_option maxRecDepth 100000
open Go.RowKit
theorem JW : ZeroT Tryz.prog 75 (.agg #[.slice none 0 0, .slice none 0 0, .int .i64 0, .slice none 0 0, .slice none 0 0, .slice none 0 0, .int .i64 0]) := Br (by kernel_rfl)
theorem HD : AggT Tryz.prog 75 7 := Cu (by kernel_rfl)
instance : AggI Tryz.prog 75 7 := ⟨HD⟩
theorem bd_56 : Body Tryz.prog 56 := AE (by kernel_rfl)
theorem bd_90 : Body Tryz.prog 90 := AE (by kernel_rfl)
theorem Qp : ElemT Tryz.prog 175 3 24 (.agg #[.int .i64 0, .int .i64 0, .int .i64 0]) := D6 (by kernel_rfl) rfl (by decide)
instance : FieldI Tryz.prog 75 1 1 := ⟨AU (by kernel_rfl)⟩
theorem Rf : FieldT Tryz.prog 75 2 2 := AU (by kernel_rfl)
instance : FieldI Tryz.prog 75 2 2 := ⟨Rf⟩
instance : FieldI Tryz.prog 75 3 3 := ⟨AU (by kernel_rfl)⟩
instance : FieldI Tryz.prog 75 4 4 := ⟨AU (by kernel_rfl)⟩
instance : FieldI Tryz.prog 75 5 5 := ⟨AU (by kernel_rfl)⟩
theorem Re : FieldT Tryz.prog 75 6 6 := AU (by kernel_rfl)
instance : FieldI Tryz.prog 75 6 6 := ⟨Re⟩
theorem HN : SizeT Tryz.prog 75 7 := Bx (by kernel_rfl)
theorem L1 {xs : List Int} {i : Nat} (h : i < xs.length) : (xs.flatMap intE)[i * 1]? = some (.int .i64 xs[i]) := Jj (enc := intE) (s := 1) (fun _ => rfl) (j := 0) xs i h rfl
def FltR (u : Value) (Hn : List (Nat × Obj)) (c : Cpc) (t : List Int) : Prop := ∃ (v1 v3 v4 v5 : Value) (R1 R3 R4 R5 : List (Nat × Obj)), u = .agg #[.slice none 0 0, v1, .int .i64 (piecesC c t), v3, v4, v5, .int .i64 (allZ c t)] ∧ Own 3 1 v1 (lostL c t).length ((lostL c t).flatMap intE) R1 ∧ Own 3 1 v3 (strangeL c t).length ((strangeL c t).flatMap intE) R3 ∧ Own 3 1 v4 (twiceL c t).length ((twiceL c t).flatMap intE) R4 ∧ Own 3 1 v5 (movedC c t).length ((movedC c t).flatMap intE) R5 ∧ Hn = R1 ++ (R3 ++ (R4 ++ R5))
theorem JK {F : Heap} {vg : Value} {qs : List (Value × Gth)} {vi : Value} {is : List (Value × List Int)} {c : Cpc} {vl vm : Value} {p : Nat} (hX : CopR F 135 p vg qs vi is c vl vm) (hv : ValidC c) {vT : Value} {t : List Int} (ht : Ints F vT t) (hB : TrB (allQ c.book).length t) : OkN Tryz.prog 54 [.pointer (some ⟨p, 0, none⟩), vT].toArray F fun u _ Hn => FltR u Hn c t := by
 have hL1 := ht.plain.lt
 have hvl := hv.leaves
 have hT : TrB 1000 t := ⟨hB.len, fun i hi => by have := hB.at_ i hi; omega⟩
 have hBl := hB.len
 have hML := Ce (b := c.book)
 have hll : (lostL c t).length ≤ (allQ c.book).length := FD
 refine OkN.intro Tryz.func54 rfl Tryz.ntmps54 rfl fun w0 => Ac <| Am fun ds => A5 rfl <| AO JW rfl fun b1 hb1 nb1 => Ao <| Ab <| Az (Af 2) fun ds => A5 rfl <| BY bd_56 Aa AW (QU hX hv ht hT) fun v2 F3 R6 hr4 hF5 => ?_
 replace hX := hX.mono hF5
 replace ht := ht.mono hF5
 have ho1 : Own 3 1 v2 (lostL c t).length ((lostL c t).flatMap intE) R6 := hr4
 obtain ⟨v1, hv1⟩ : ∃ y, y = v2 := ⟨_, rfl⟩
 subst hv1
 refine Aj (Af 1) <| AS <| Bf Dg Aa Aa (i := 0) rfl (.next <| .here) ho1.one (.here) <| Ao <| Ab <| Ac <| Am fun ds => A5 rfl <| Fa fun b7 hb7 nb7 => Aw (Af 1) <| Ac <| Az (Af 2) fun ds => Ag rfl (A4 A9 Aa (ho1.plain (by omega))) <| Aw (Af 1) <| Aq ?_
 refine AL [7, 8, 22, 23, 24, 25, 26, 27, 28, 29, 30, 31, 32, 33, 34, 35, 36, 37, 38, 39, 40, 41, 42, 43, 44, 45, 46, 47, 48, 49] (fun m e σ => ∃ (k : Nat) (es : List (Value × Value)), m + k = (lostL c t).length ∧ Fct e 22 (.int .i64 (k : Int)) ∧ MapZ Tryz.prog 3 es (cnt ((lostL c t).take k)) ∧ σ = ⟨F3, (b7, mapO es) :: (b1, bx 75 [.slice none 0 0, v1, .int .i64 (piecesTo c.book (lostL c t) k), .slice none 0 0, .slice none 0 0, .slice none 0 0, .int .i64 0]) :: R6⟩) ((lostL c t).length) ?_ ?_
 · exact ⟨0, [], by omega, AX, Lr.congr (by rw [List.take_zero, NO]), rfl⟩
 rintro m e _ ⟨k, es, hm, hs22, hZ, rfl⟩
 by_cases hk : k < (lostL c t).length
 ·have hla := M5 (t := t) (n := (allQ c.book).length) (i := k) hk
  change 0 ≤ (lostL c t)[k] ∧ (lostL c t)[k] < _ at hla
  have htn : (lostL c t)[k].toNat < (allQ c.book).length := by omega
  have hma : (matesL c.book)[(lostL c t)[k].toNat]'(by rw [Ce]; exact htn) = mateI c.book (lostL c t)[k] := JF _
  have hmr : -1 ≤ mateI c.book (lostL c t)[k] ∧ mateI c.book (lostL c t)[k] < (allQ c.book).length ∨ mateI c.book (lostL c t)[k] = -1 := EM
  have hcl := NP (t := (lostL c t).take k) (z := (lostL c t)[k])
  have hlk := List.length_take_le k (lostL c t)
  have hpb := E4 (b := c.book) (g := lostL c t) k
  refine AD (Af 1) <| Ac <| Ai Aa (by first | rfl | exact dT (by omega)) <| Al <| Ab <| Ac <| Aq <| Ac <| Am fun ds => Ag rfl (A1 (k := k) A9 Aa (ho1.plain (by omega)) Aa rfl hk) <| Ag rfl (Ak AF Aa (CI ho1 (fun p hp => .tail _ (.tail _ (hp))) (L1 hk))) <| Aw (Af 1) <| Az (Af 1) fun ds => Ag rfl (Bb Aa) <| Aj (Af 1) <| Ag rfl (Ak Bq Aa (AA hX.blk rfl)) <| Aj (Af 1) <| Ag rfl (A1 (k := (lostL c t)[k].toNat) A9 Aa hX.mates.plain Aa (by omega) (by rw [Ce]; exact htn)) <| Ag rfl (Ak AF Aa (hX.mates.cell1 (by rw [Ce]; exact htn) rfl)) <| Aw (Af 1) <| Ac ?_
  rw [hma]
  refine Am fun ds => Aj (Af 2) <| Ag rfl (BG E7 Aa Aa (i := 0) rfl (E8 (by omega) (by omega)) hZ) <| Ag rfl (AG Aa Aa rfl (by omega) (by omega)) <| AS <| J3 E7 Aa Aa Aa (i := 0) rfl (E8 (by omega) (by omega)) hZ (fun _ => .here) fun es2 hZ2 => Ao <| Ab <| Ac ?_
  rw [← Gt hk] at hZ2
  by_cases h0 : mateI c.book (lostL c t)[k] < 0
  ·refine Am fun ds => Aj (Af 3) <| Ah rfl rfl Aa (.inl (congrArg Value.bool (dT h0))) rfl <| Ah rfl rfl Aa (.inl (congrArg Value.bool (dT h0))) rfl <| Ah rfl rfl Aa (.inl (congrArg Value.bool (dT h0))) rfl <| Ah rfl rfl Aa (.inl (congrArg Value.bool (dT h0))) rfl <| Ag rfl (Ar Aa (dT h0) Aa) <| Ao <| Ab <| Ai Aa rfl <| Am fun ds => Aj (Af 2) <| Ag rfl (AG Aa Aa rfl (by omega) (by omega)) <| Aj (Af 1) <| AS <| Bf DA Aa Aa (i := 1) rfl (.next <| .next <| .here) rfl (.next <| .here) <| Ao <| A0 <| Ab <| Am fun ds => Ag rfl (AG Aa Aa rfl (by omega) (by omega)) <| Aj (Af 1) <| Ao ?_
   refine Ab ⟨_, m - 1, Off.eq (B3 rfl <| BR rfl <| Ca rfl <| BM rfl <| A2), by omega, ?_⟩
   exact ⟨k + 1, es2, by omega, AX, hZ2, by rw [Lm hk (.inl h0)]⟩
  by_cases h1 : cnt ((lostL c t).take (k + 1)) (mateI c.book (lostL c t)[k]) = 0
  ·refine Am fun ds => Aj (Af 3) <| Ae rfl rfl Aa (dF h0) <| Aj (Af 1) <| Ae rfl rfl Aa (dF h0) <| Aj (Af 1) <| Ae rfl rfl Aa (dF h0) <| Ag rfl (BG E7 Aa Aa (i := 0) rfl (E8 (by omega) (by omega)) hZ2) <| Ae rfl rfl Aa (dF h0) <| Aj (Af 1) <| Ag rfl (As Aa (dF h0) Aa) <| Ao <| Ab <| Ai Aa (dT h1) <| Am fun ds => Aj (Af 2) <| Ag rfl (AG Aa Aa rfl (by omega) (by omega)) <| Aj (Af 1) <| AS <| Bf DA Aa Aa (i := 1) rfl (.next <| .next <| .here) rfl (.next <| .here) <| Ao <| A0 <| Ab <| Am fun ds => Ag rfl (AG Aa Aa rfl (by omega) (by omega)) <| Aj (Af 1) <| Ao ?_
   refine Ab ⟨_, m - 1, Off.eq (B3 rfl <| BR rfl <| Ca rfl <| BM rfl <| A2), by omega, ?_⟩
   exact ⟨k + 1, es2, by omega, AX, hZ2, by rw [Lm hk (.inr h1)]⟩
  refine Am fun ds => Aj (Af 3) <| Ae rfl rfl Aa (dF h0) <| Aj (Af 1) <| Ae rfl rfl Aa (dF h0) <| Aj (Af 1) <| Ae rfl rfl Aa (dF h0) <| Ag rfl (BG E7 Aa Aa (i := 0) rfl (E8 (by omega) (by omega)) hZ2) <| Ae rfl rfl Aa (dF h0) <| Aj (Af 1) <| Ag rfl (As Aa (dF h0) Aa) <| Ao <| Ab <| Ad Aa (dF h1) <| Al <| A0 <| Ab <| Am fun ds => Ag rfl (AG Aa Aa rfl (by omega) (by omega)) <| Aj (Af 1) <| Ao ?_
  refine Ab ⟨_, m - 1, Off.eq (B3 rfl <| BR rfl <| BM rfl <| A2), by omega, ?_⟩
  exact ⟨k + 1, es2, by omega, AX, hZ2, by rw [Sv hk (fun h => h.elim h0 h1)]⟩
 refine AD (Af 1) <| Ac <| Ad Aa (by first | rfl | exact dF (by omega)) ?_
 obtain rfl : k = (lostL c t).length := by omega
 have hpc : piecesTo c.book (lostL c t) (lostL c t).length = piecesC c t := rfl
 rw [hpc]
 have hpb2 := E4 (b := c.book) (g := lostL c t) (lostL c t).length
 rw [hpc] at hpb2
 refine Bn (fun _ _ h => h.drop (kD <| kK <| .refl _)) <| AH ?_
 refine A8 <| A8 <| AB <| Ab <| AD (Af 1) <| Ac <| Am fun ds => A5 rfl <| Fa fun b9 hb9 nb9 => Aw (Af 1) <| Ac <| Az (Af 1) fun ds => Ag rfl (A4 A9 Aa ht.plain) <| Aw (Af 1) <| Aq ?_
 refine AL [9, 11, 12, 13, 53, 54, 55, 56, 57, 58, 59, 60, 61, 62, 63, 64, 65, 66, 67, 68, 69, 70, 71, 72, 73, 74, 75, 76, 77, 78, 79, 80, 81, 82, 83, 84, 85, 86, 87, 88, 89, 90, 91, 92, 93, 94, 95, 96, 97, 98, 99, 100, 101, 102, 103, 104, 105, 106, 107, 108, 109, 110, 111, 112, 113, 114, 115, 116, 117, 118, 119, 120, 121, 122, 123, 124, 125, 126, 127, 128, 129] (fun m e σ => ∃ (i : Nat) (es : List (Value × Value)) (v3 v4 v9 : Value) (R3 R4 R9 : List (Nat × Obj)), m + i = t.length ∧ Fct e 53 (.int .i64 (i : Int)) ∧ Fct e 9 v9 ∧ MapZ Tryz.prog 3 es (seenF t i) ∧ Own 3 1 v3 ((fltTo c.book t i).1).length (((fltTo c.book t i).1).flatMap intE) R3 ∧ Own 3 1 v4 ((fltTo c.book t i).2.1).length (((fltTo c.book t i).2.1).flatMap intE) R4 ∧ Own 175 3 v9 ((fltTo c.book t i).2.2).length (((fltTo c.book t i).2.2).flatMap Rn.enc) R9 ∧ σ = ⟨F3, (b9, mapO es) :: (b1, bx 75 [.slice none 0 0, v1, .int .i64 (piecesC c t), v3, v4, .slice none 0 0, .int .i64 0]) :: (R6 ++ (R3 ++ (R4 ++ R9)))⟩) (t.length) ?_ ?_
 · exact ⟨0, [], _, _, _, [], [], [], by omega, AX, AX, Lr.congr RX.symm, BZ, BZ, BZ, by simp⟩
 rintro m1 e1 _ ⟨i, es, v3, v4, v9, R3, R4, R9, hm1, hs53, hs9, hZ, ho3, ho4, ho9, rfl⟩
 by_cases hi : i < t.length
 ·refine AD (Af 1) <| Ac <| Ai Aa (by first | rfl | exact dT (by omega)) ?_
  have hta := hB.at_ i hi
  have hfl := KI (b := c.book) (t := t) (i := i) (by omega)
  have hcl := NP (t := t.take i) (z := t[i])
  have hlk := List.length_take_le i t
  refine Al <| Ab <| Ac <| Aq <| Az (Af 1) fun ds => Ag rfl (A1 (k := i) A9 Aa ht.plain Aa rfl hi) <| Ag rfl (Ak AF Aa (ht.cell1 hi rfl)) <| Aw (Af 2) <| Ac <| Ac ?_
  by_cases h0 : t[i] < 0
  ·have hfe := Gk (b := c.book) hi h0
   refine Am fun ds => Aw (Af 2) <| Ai Aa (dT h0) <| Az (Af 3) fun ds => A5 rfl <| AM A9 B2 rfl (.cons Aa .nil) rfl rfl (by decide) (by simp [Value.oneCell']) fun b11 hb11 nb11 => A5 rfl <| Bp A9 Di Aa ho3 Aa (B1 (s := 1) 0 rfl rfl (by simp [Value.oneCell'])) (by omega) (by omega) (.s <| .s <| .s <| .k <| .z) .more fun v12 R13 ho14 => ?_
   have ho3b : Own 3 1 v12 ((fltTo c.book t (i + 1)).1).length (((fltTo c.book t (i + 1)).1).flatMap intE) R13 := by rw [hfe]; exact Own.snoc ho14 rfl rfl
   refine Aj (Af 1) <| AS <| Bf Dg Aa Aa (i := 2) rfl (.next <| .next <| .next <| .here) ho3b.one (.next <| .next <| .here) <| Ao <| Ab <| AH <| A8 <| AB <| Ab <| Bn (fun _ _ h => h.drop (kD <| kK <| kK <| .refl _)) <| Am fun ds => Ag rfl (AG Aa Aa rfl (by omega) (by omega)) <| Aj (Af 1) <| Ao ?_
   refine Ab ⟨_, m1 - 1, Off.eq (B3 rfl <| A2), by omega, ?_⟩
   exact ⟨i + 1, _, _, _, _, _, _, _, by omega, AX, AX, by rw [seen_no hi h0]; exact hZ, ho3b, by rw [hfe]; exact ho4, by rw [hfe]; exact ho9, rfl⟩
  have hse : seenF t (i + 1) t[i] = cnt (t.take i) t[i] + 1 := by unfold seenF; rw [if_pos (by omega), Gt hi]; unfold setZ; rw [if_pos rfl]
  have hsb : seenF t i t[i] = cnt (t.take i) t[i] := by unfold seenF; rw [if_pos (by omega)]
  refine Am fun ds => Aw (Af 2) <| Ad Aa (dF h0) <| Al <| Ab <| Ac <| Az (Af 2) fun ds => Ag rfl (BG E7 Aa Aa (i := 0) rfl (E8 (by omega) (by omega)) hZ) <| Ag rfl (AG Aa Aa rfl (by omega) (by omega)) <| AS <| J3 E7 Aa Aa Aa (i := 0) rfl (E8 (by omega) (by omega)) hZ (fun _ => .here) fun es2 hZ2 => Ao <| Ab <| Ac ?_
  rw [← TQ hi (by omega)] at hZ2
  by_cases h1 : 0 < cnt (t.take i) t[i]
  ·have hfe := JJ (b := c.book) hi h0 h1
   refine Am fun ds => Aj (Af 2) <| Ag rfl (BG E7 Aa Aa (i := 0) rfl (E8 (by omega) (by omega)) hZ2) <| Aw (Af 1) <| Ai Aa (dT (by rw [hse]; omega)) <| Az (Af 3) fun ds => A5 rfl <| AM A9 B2 rfl (.cons Aa .nil) rfl rfl (by decide) (by simp [Value.oneCell']) fun b15 hb15 nb15 => A5 rfl <| Bp A9 Di Aa ho4 Aa (B1 (s := 1) 0 rfl rfl (by simp [Value.oneCell'])) (by omega) (by omega) (.s <| .s <| .s <| .k <| .k <| .z) .more fun v16 R17 ho18 => ?_
   have ho4b : Own 3 1 v16 ((fltTo c.book t (i + 1)).2.1).length (((fltTo c.book t (i + 1)).2.1).flatMap intE) R17 := by rw [hfe]; exact Own.snoc ho18 rfl rfl
   refine Aj (Af 1) <| AS <| Bf Dg Aa Aa (i := 2) rfl (.next <| .next <| .next <| .next <| .here) ho4b.one (.next <| .next <| .here) <| Ao <| Ab <| AH <| A8 <| AB <| Ab <| Bn (fun _ _ h => h.drop (kD <| kK <| kK <| .refl _)) <| Am fun ds => Ag rfl (AG Aa Aa rfl (by omega) (by omega)) <| Aj (Af 1) <| Ao ?_
   refine Ab ⟨_, m1 - 1, Off.eq (B3 rfl <| BR rfl <| A2), by omega, ?_⟩
   exact ⟨i + 1, _, _, _, _, _, _, _, by omega, AX, AX, hZ2, by rw [hfe]; exact ho3, ho4b, by rw [hfe]; exact ho9, rfl⟩
  have hfe := NI (b := c.book) hi h0 h1
  refine Am fun ds => Aj (Af 2) <| Ag rfl (BG E7 Aa Aa (i := 0) rfl (E8 (by omega) (by omega)) hZ2) <| Aw (Af 1) <| Ad Aa (dF (by rw [hse]; omega)) <| Al <| Ab <| Ac <| Az (Af 1) fun ds => Ag rfl (A4 Cx Aa (ho9.plain (by omega))) <| Ag rfl (B4 Aa Aa rfl (by omega) (by omega)) <| Aw (Af 1) <| Ac ?_
  by_cases hl0 : 0 < (fltTo c.book t i).2.2.length
  ·have hK : (fltTo c.book t i).2.2.length - 1 < (fltTo c.book t i).2.2.length := by omega
   have hlr : (fltTo c.book t i).2.2[(fltTo c.book t i).2.2.length - 1] = lastR (fltTo c.book t i).2.2 := QK hK
   have hla := OW (b := c.book) (t := t) (N := (allQ c.book).length) (fun j hj => (hB.at_ j hj).2) (i := i) (by omega) _ (List.getElem_mem hK)
   have htn2 : (fltTo c.book t i).2.2[(fltTo c.book t i).2.2.length - 1].last.toNat < (allQ c.book).length := by omega
   have htn3 : t[i].toNat < (allQ c.book).length := by omega
   have hg1 : ((allQ c.book)[(fltTo c.book t i).2.2[(fltTo c.book t i).2.2.length - 1].last.toNat]).gath = gathI c.book (lastR (fltTo c.book t i).2.2).last := by rw [← hlr]; unfold gathI; rw [← l_at htn2]
   have hg2 : ((allQ c.book)[t[i].toNat]).gath = gathI c.book t[i] := by unfold gathI; rw [← l_at htn3]
   by_cases h2 : (lastR (fltTo c.book t i).2.2).last < t[i]
   ·by_cases h3 : gathI c.book (lastR (fltTo c.book t i).2.2).last = gathI c.book t[i]
    ·have hre : runStep c.book ((fltTo c.book t i).2.2) i t[i] = (fltTo c.book t i).2.2.set ((fltTo c.book t i).2.2.length - 1) ⟨(lastR (fltTo c.book t i).2.2).item, (lastR (fltTo c.book t i).2.2).first, t[i]⟩ := if_pos (by unfold goes; simp [hl0, h2, h3])
     rw [hre] at hfe
     refine Bs (.inl rfl) (fun _ _ h => h) (by kernel_rfl) (by kernel_rfl) fun ds => AR (Af 3) <| A3 rfl rfl Aa (dT (by omega)) <| AR (Af 1) <| A3 rfl rfl Aa (dT (by omega)) <| AR (Af 1) <| A3 rfl rfl Aa (dT (by omega)) <| AT rfl (A1 (k := (fltTo c.book t i).2.2.length - 1) Cx Aa (ho9.plain (by omega)) Aa (by omega) hK) <| A3 rfl rfl Aa (dT (by omega)) <| AR (Af 1) <| A3 rfl rfl Aa (dT (by omega)) <| AT rfl (Ak AF Aa (Gc (enc := Rn.enc) (s := 3) (fun _ => rfl) ho9 (fun p hp => .tail _ (.tail _ (List.mem_append_right _ (List.mem_append_right _ (List.mem_append_right _ (hp)))))) hK 2 _ rfl)) <| A3 rfl rfl Aa (dT (by omega)) <| AR (Af 1) <| A3 rfl rfl Aa (dT (by omega)) <| AR (Af 1) <| AT rfl (Ar Aa (dT (by omega)) Aa) <| AR (Af 1) <| A3 rfl rfl Aa (dT (by rw [hlr]; exact h2)) <| AR (Af 1) <| A3 rfl rfl Aa (dT (by rw [hlr]; exact h2)) <| AT rfl (Bb Aa) <| A3 rfl rfl Aa (dT (by rw [hlr]; exact h2)) <| AR (Af 1) <| A3 rfl rfl Aa (dT (by rw [hlr]; exact h2)) <| AT rfl (Ak Gf Aa (AA hX.blk rfl)) <| A3 rfl rfl Aa (dT (by rw [hlr]; exact h2)) <| AR (Af 1) <| A3 rfl rfl Aa (dT (by rw [hlr]; exact h2)) <| AR (Af 1) <| A3 rfl rfl Aa (dT (by rw [hlr]; exact h2)) ?_
     refine AT rfl (A1 (k := (fltTo c.book t i).2.2.length - 1) Cx Aa (ho9.plain (by omega)) Aa (by omega) hK) <| A3 rfl rfl Aa (dT (by rw [hlr]; exact h2)) <| AR (Af 1) <| A3 rfl rfl Aa (dT (by rw [hlr]; exact h2)) <| AT rfl (Ak AF Aa (Gc (enc := Rn.enc) (s := 3) (fun _ => rfl) ho9 (fun p hp => .tail _ (.tail _ (List.mem_append_right _ (List.mem_append_right _ (List.mem_append_right _ (hp)))))) hK 2 _ rfl)) <| A3 rfl rfl Aa (dT (by rw [hlr]; exact h2)) <| AT rfl (A1 (k := (fltTo c.book t i).2.2[(fltTo c.book t i).2.2.length - 1].last.toNat) Cq Aa hX.leaves.plain Aa (by omega) htn2) <| A3 rfl rfl Aa (dT (by rw [hlr]; exact h2)) <| AR (Af 1) <| A3 rfl rfl Aa (dT (by rw [hlr]; exact h2)) <| AT rfl (Ak AF Aa (hX.leaves.cell htn2 rfl)) <| A3 rfl rfl Aa (dT (by rw [hlr]; exact h2)) <| AR (Af 1) <| A3 rfl rfl Aa (dT (by rw [hlr]; exact h2)) <| AT rfl (Bb Aa) <| A3 rfl rfl Aa (dT (by rw [hlr]; exact h2)) <| AR (Af 1) <| A3 rfl rfl Aa (dT (by rw [hlr]; exact h2)) <| AT rfl (Ak Gf Aa (AA hX.blk rfl)) <| A3 rfl rfl Aa (dT (by rw [hlr]; exact h2)) <| AR (Af 1) <| A3 rfl rfl Aa (dT (by rw [hlr]; exact h2)) <| AT rfl (A1 (k := t[i].toNat) Cq Aa hX.leaves.plain Aa (by omega) htn3) <| A3 rfl rfl Aa (dT (by rw [hlr]; exact h2)) ?_
     refine AR (Af 1) <| A3 rfl rfl Aa (dT (by rw [hlr]; exact h2)) <| AT rfl (Ak AF Aa (hX.leaves.cell htn3 rfl)) <| A3 rfl rfl Aa (dT (by rw [hlr]; exact h2)) <| AR (Af 1) <| AT rfl (Ar Aa (dT (by rw [hlr]; exact h2)) Aa) <| B0 <| Ab <| Ai Aa (dT (by rw [hg1, hg2]; exact h3)) <| Az (Af 3) fun ds => Ag rfl (A1 (k := (fltTo c.book t i).2.2.length - 1) Cx Aa (ho9.plain (by omega)) Aa (by omega) hK) <| Aj (Af 1) <| AS <| Dv (j := ((fltTo c.book t i).2.2.length - 1) * 3 + 2) DA Aa Aa ho9 (by rw [MH (s := 3) (fun _ => rfl)]; omega) rfl (.s <| .s <| .k <| .k <| .k <| .z) .last fun R10 ho10 => Ao <| Ab <| AH <| A8 <| AB <| Ab ?_
     rw [RZ hK] at ho10
     have ho9b : Own 175 3 v9 ((fltTo c.book t (i + 1)).2.2).length (((fltTo c.book t (i + 1)).2.2).flatMap Rn.enc) R10 := by rw [hfe]; exact ho10.to (by rw [List.length_set])
     refine Am fun ds => Ag rfl (AG Aa Aa rfl (by omega) (by omega)) <| Aj (Af 1) <| Ao ?_
     refine Ab ⟨_, m1 - 1, Off.eq (DT rfl <| B3 rfl <| BR rfl <| Ca rfl <| BX rfl <| A2), by omega, ?_⟩
     exact ⟨i + 1, _, _, _, _, _, _, _, by omega, AX, AX, hZ2, by rw [hfe]; exact ho3, by rw [hfe]; exact ho4, ho9b, rfl⟩
    have hre : runStep c.book ((fltTo c.book t i).2.2) i t[i] = (fltTo c.book t i).2.2 ++ [⟨(i : Int), t[i], t[i]⟩] := if_neg (by unfold goes; simp [h3])
    rw [hre] at hfe
    refine Bs (.inl rfl) (fun _ _ h => h) (by kernel_rfl) (by kernel_rfl) fun ds => AR (Af 3) <| A3 rfl rfl Aa (dT (by omega)) <| AR (Af 1) <| A3 rfl rfl Aa (dT (by omega)) <| AR (Af 1) <| A3 rfl rfl Aa (dT (by omega)) <| AT rfl (A1 (k := (fltTo c.book t i).2.2.length - 1) Cx Aa (ho9.plain (by omega)) Aa (by omega) hK) <| A3 rfl rfl Aa (dT (by omega)) <| AR (Af 1) <| A3 rfl rfl Aa (dT (by omega)) <| AT rfl (Ak AF Aa (Gc (enc := Rn.enc) (s := 3) (fun _ => rfl) ho9 (fun p hp => .tail _ (.tail _ (List.mem_append_right _ (List.mem_append_right _ (List.mem_append_right _ (hp)))))) hK 2 _ rfl)) <| A3 rfl rfl Aa (dT (by omega)) <| AR (Af 1) <| A3 rfl rfl Aa (dT (by omega)) <| AR (Af 1) <| AT rfl (Ar Aa (dT (by omega)) Aa) <| AR (Af 1) <| A3 rfl rfl Aa (dT (by rw [hlr]; exact h2)) <| AR (Af 1) <| A3 rfl rfl Aa (dT (by rw [hlr]; exact h2)) <| AT rfl (Bb Aa) <| A3 rfl rfl Aa (dT (by rw [hlr]; exact h2)) <| AR (Af 1) <| A3 rfl rfl Aa (dT (by rw [hlr]; exact h2)) <| AT rfl (Ak Gf Aa (AA hX.blk rfl)) <| A3 rfl rfl Aa (dT (by rw [hlr]; exact h2)) <| AR (Af 1) <| A3 rfl rfl Aa (dT (by rw [hlr]; exact h2)) <| AR (Af 1) <| A3 rfl rfl Aa (dT (by rw [hlr]; exact h2)) ?_
    refine AT rfl (A1 (k := (fltTo c.book t i).2.2.length - 1) Cx Aa (ho9.plain (by omega)) Aa (by omega) hK) <| A3 rfl rfl Aa (dT (by rw [hlr]; exact h2)) <| AR (Af 1) <| A3 rfl rfl Aa (dT (by rw [hlr]; exact h2)) <| AT rfl (Ak AF Aa (Gc (enc := Rn.enc) (s := 3) (fun _ => rfl) ho9 (fun p hp => .tail _ (.tail _ (List.mem_append_right _ (List.mem_append_right _ (List.mem_append_right _ (hp)))))) hK 2 _ rfl)) <| A3 rfl rfl Aa (dT (by rw [hlr]; exact h2)) <| AT rfl (A1 (k := (fltTo c.book t i).2.2[(fltTo c.book t i).2.2.length - 1].last.toNat) Cq Aa hX.leaves.plain Aa (by omega) htn2) <| A3 rfl rfl Aa (dT (by rw [hlr]; exact h2)) <| AR (Af 1) <| A3 rfl rfl Aa (dT (by rw [hlr]; exact h2)) <| AT rfl (Ak AF Aa (hX.leaves.cell htn2 rfl)) <| A3 rfl rfl Aa (dT (by rw [hlr]; exact h2)) <| AR (Af 1) <| A3 rfl rfl Aa (dT (by rw [hlr]; exact h2)) <| AT rfl (Bb Aa) <| A3 rfl rfl Aa (dT (by rw [hlr]; exact h2)) <| AR (Af 1) <| A3 rfl rfl Aa (dT (by rw [hlr]; exact h2)) <| AT rfl (Ak Gf Aa (AA hX.blk rfl)) <| A3 rfl rfl Aa (dT (by rw [hlr]; exact h2)) <| AR (Af 1) <| A3 rfl rfl Aa (dT (by rw [hlr]; exact h2)) <| AT rfl (A1 (k := t[i].toNat) Cq Aa hX.leaves.plain Aa (by omega) htn3) <| A3 rfl rfl Aa (dT (by rw [hlr]; exact h2)) ?_
    refine AR (Af 1) <| A3 rfl rfl Aa (dT (by rw [hlr]; exact h2)) <| AT rfl (Ak AF Aa (hX.leaves.cell htn3 rfl)) <| A3 rfl rfl Aa (dT (by rw [hlr]; exact h2)) <| AR (Af 1) <| AT rfl (Ar Aa (dT (by rw [hlr]; exact h2)) Aa) <| B0 <| Ab <| Ad Aa (dF (by rw [hg1, hg2]; exact h3)) <| Al <| Ab <| Am fun ds => Aj (Af 4) <| Ag rfl (Bm H8 (.cons Aa rfl (.cons Aa rfl (.cons Aa rfl .nil))) (.cons rfl rfl (Nat.le_of_ble_eq_true rfl) (.cons (.here) .nil) (.cons rfl rfl (Nat.le_of_ble_eq_true rfl) (.cons (.next <| .here) .nil) (.cons rfl rfl (Nat.le_of_ble_eq_true rfl) (.cons (.next <| .next <| .here) .nil) .nil)))) <| A5 rfl <| B5 (offs := [(0, 3)]) (zl := [.int .i64 0, .int .i64 0, .int .i64 0]) Cx J1 rfl (.cons Aa rfl .nil) (by intro i p h; rcases i with _ | i <;> simp at h <;> subst h <;> rfl) (.cons rfl rfl (Nat.le_of_ble_eq_true rfl) (.cons (.here) (.cons (.next <| .here) (.cons (.next <| .next <| .here) .nil))) .nil) (by decide) (by decide) fun b19 hb19 nb19 => A5 rfl <| Bp Cx Qp Aa ho9 Aa (B1 (s := 3) 0 rfl rfl (by simp [Value.oneCell'])) (by omega) (by omega) (.s <| .s <| .s <| .k <| .k <| .k <| .z) .last fun v20 R21 ho22 => ?_
    have ho9b : Own 175 3 v20 ((fltTo c.book t (i + 1)).2.2).length (((fltTo c.book t (i + 1)).2.2).flatMap Rn.enc) R21 := by rw [hfe]; exact Own.snoc ho22 rfl rfl
    refine Aj (Af 1) <| Ao <| A0 <| Ab <| Bn (fun _ _ h => h.drop (kD <| kK <| kK <| .refl _)) <| Am fun ds => Ag rfl (AG Aa Aa rfl (by omega) (by omega)) <| Aj (Af 1) <| Ao ?_
    refine Ab ⟨_, m1 - 1, Off.eq (DT rfl <| DT rfl <| A2), by omega, ?_⟩
    exact ⟨i + 1, _, _, _, _, _, _, _, by omega, AX, AX, hZ2, by rw [hfe]; exact ho3, by rw [hfe]; exact ho4, ho9b, rfl⟩
   have hre : runStep c.book ((fltTo c.book t i).2.2) i t[i] = (fltTo c.book t i).2.2 ++ [⟨(i : Int), t[i], t[i]⟩] := if_neg (by unfold goes; simp [h2])
   rw [hre] at hfe
   refine Bs (.inl rfl) (fun _ _ h => h) (by kernel_rfl) (by kernel_rfl) fun ds => AR (Af 3) <| A3 rfl rfl Aa (dT (by omega)) <| AR (Af 1) <| A3 rfl rfl Aa (dT (by omega)) <| AR (Af 1) <| A3 rfl rfl Aa (dT (by omega)) <| AT rfl (A1 (k := (fltTo c.book t i).2.2.length - 1) Cx Aa (ho9.plain (by omega)) Aa (by omega) hK) <| A3 rfl rfl Aa (dT (by omega)) <| AR (Af 1) <| A3 rfl rfl Aa (dT (by omega)) <| AT rfl (Ak AF Aa (Gc (enc := Rn.enc) (s := 3) (fun _ => rfl) ho9 (fun p hp => .tail _ (.tail _ (List.mem_append_right _ (List.mem_append_right _ (List.mem_append_right _ (hp)))))) hK 2 _ rfl)) <| A3 rfl rfl Aa (dT (by omega)) <| AR (Af 1) <| A3 rfl rfl Aa (dT (by omega)) <| AR (Af 1) <| AT rfl (Ar Aa (dT (by omega)) Aa) <| AR (Af 1) <| A6 rfl rfl Aa (.inl (congrArg Value.bool (dF (by rw [hlr]; exact h2)))) rfl <| A6 rfl rfl Aa (.inl (congrArg Value.bool (dF (by rw [hlr]; exact h2)))) rfl <| A6 rfl rfl Aa (.inl (congrArg Value.bool (dF (by rw [hlr]; exact h2)))) rfl <| A6 rfl rfl Aa (.inl (congrArg Value.bool (dF (by rw [hlr]; exact h2)))) rfl <| A6 rfl rfl Aa (.inl (congrArg Value.bool (dF (by rw [hlr]; exact h2)))) rfl <| A6 rfl rfl Aa (.inl (congrArg Value.bool (dF (by rw [hlr]; exact h2)))) rfl ?_
   refine A6 rfl rfl Aa (.inl (congrArg Value.bool (dF (by rw [hlr]; exact h2)))) rfl <| A6 rfl rfl Aa (.inl (congrArg Value.bool (dF (by rw [hlr]; exact h2)))) rfl <| A6 rfl rfl Aa (.inl (congrArg Value.bool (dF (by rw [hlr]; exact h2)))) rfl <| A6 rfl rfl Aa (.inl (congrArg Value.bool (dF (by rw [hlr]; exact h2)))) rfl <| A6 rfl rfl Aa (.inl (congrArg Value.bool (dF (by rw [hlr]; exact h2)))) rfl <| A6 rfl rfl Aa (.inl (congrArg Value.bool (dF (by rw [hlr]; exact h2)))) rfl <| A6 rfl rfl Aa (.inl (congrArg Value.bool (dF (by rw [hlr]; exact h2)))) rfl <| A6 rfl rfl Aa (.inl (congrArg Value.bool (dF (by rw [hlr]; exact h2)))) rfl <| A6 rfl rfl Aa (.inl (congrArg Value.bool (dF (by rw [hlr]; exact h2)))) rfl <| A6 rfl rfl Aa (.inl (congrArg Value.bool (dF (by rw [hlr]; exact h2)))) rfl <| A6 rfl rfl Aa (.inl (congrArg Value.bool (dF (by rw [hlr]; exact h2)))) rfl <| A6 rfl rfl Aa (.inl (congrArg Value.bool (dF (by rw [hlr]; exact h2)))) rfl <| A6 rfl rfl Aa (.inl (congrArg Value.bool (dF (by rw [hlr]; exact h2)))) rfl <| A6 rfl rfl Aa (.inl (congrArg Value.bool (dF (by rw [hlr]; exact h2)))) rfl <| A6 rfl rfl Aa (.inl (congrArg Value.bool (dF (by rw [hlr]; exact h2)))) rfl <| AT rfl (As Aa (dF (by rw [hlr]; exact h2)) Aa) ?_
   refine B0 <| Ab <| Ad Aa rfl <| Al <| Ab <| Am fun ds => Aj (Af 4) <| Ag rfl (Bm H8 (.cons Aa rfl (.cons Aa rfl (.cons Aa rfl .nil))) (.cons rfl rfl (Nat.le_of_ble_eq_true rfl) (.cons (.here) .nil) (.cons rfl rfl (Nat.le_of_ble_eq_true rfl) (.cons (.next <| .here) .nil) (.cons rfl rfl (Nat.le_of_ble_eq_true rfl) (.cons (.next <| .next <| .here) .nil) .nil)))) <| A5 rfl <| B5 (offs := [(0, 3)]) (zl := [.int .i64 0, .int .i64 0, .int .i64 0]) Cx J1 rfl (.cons Aa rfl .nil) (by intro i p h; rcases i with _ | i <;> simp at h <;> subst h <;> rfl) (.cons rfl rfl (Nat.le_of_ble_eq_true rfl) (.cons (.here) (.cons (.next <| .here) (.cons (.next <| .next <| .here) .nil))) .nil) (by decide) (by decide) fun b23 hb23 nb23 => A5 rfl <| Bp Cx Qp Aa ho9 Aa (B1 (s := 3) 0 rfl rfl (by simp [Value.oneCell'])) (by omega) (by omega) (.s <| .s <| .s <| .k <| .k <| .k <| .z) .last fun v24 R25 ho26 => ?_
   have ho9b : Own 175 3 v24 ((fltTo c.book t (i + 1)).2.2).length (((fltTo c.book t (i + 1)).2.2).flatMap Rn.enc) R25 := by rw [hfe]; exact Own.snoc ho26 rfl rfl
   refine Aj (Af 1) <| Ao <| A0 <| Ab <| Bn (fun _ _ h => h.drop (kD <| kK <| kK <| .refl _)) <| Am fun ds => Ag rfl (AG Aa Aa rfl (by omega) (by omega)) <| Aj (Af 1) <| Ao ?_
   refine Ab ⟨_, m1 - 1, Off.eq (DT rfl <| DT rfl <| A2), by omega, ?_⟩
   exact ⟨i + 1, _, _, _, _, _, _, _, by omega, AX, AX, hZ2, by rw [hfe]; exact ho3, by rw [hfe]; exact ho4, ho9b, rfl⟩
  have hre : runStep c.book ((fltTo c.book t i).2.2) i t[i] = (fltTo c.book t i).2.2 ++ [⟨(i : Int), t[i], t[i]⟩] := if_neg (by unfold goes; simp [hl0])
  rw [hre] at hfe
  refine Bs (.inl rfl) (fun _ _ h => h) (by kernel_rfl) (by kernel_rfl) fun ds => AR (Af 3) <| A6 rfl rfl Aa (.inl (congrArg Value.bool (dF (by omega)))) rfl <| A6 rfl rfl Aa (.inl (congrArg Value.bool (dF (by omega)))) rfl <| A6 rfl rfl Aa (.inl (congrArg Value.bool (dF (by omega)))) rfl <| A6 rfl rfl Aa (.inl (congrArg Value.bool (dF (by omega)))) rfl <| A6 rfl rfl Aa (.inl (congrArg Value.bool (dF (by omega)))) rfl <| A6 rfl rfl Aa (.inl (congrArg Value.bool (dF (by omega)))) rfl <| A6 rfl rfl Aa (.inl (congrArg Value.bool (dF (by omega)))) rfl <| AT rfl (As Aa (dF (by omega)) Aa) <| AR (Af 1) <| A6 rfl rfl Aa (.inl (congrArg Value.bool rfl)) rfl <| A6 rfl rfl Aa (.inl (congrArg Value.bool rfl)) rfl <| A6 rfl rfl Aa (.inl (congrArg Value.bool rfl)) rfl <| A6 rfl rfl Aa (.inl (congrArg Value.bool rfl)) rfl <| A6 rfl rfl Aa (.inl (congrArg Value.bool rfl)) rfl <| A6 rfl rfl Aa (.inl (congrArg Value.bool rfl)) rfl <| A6 rfl rfl Aa (.inl (congrArg Value.bool rfl)) rfl <| A6 rfl rfl Aa (.inl (congrArg Value.bool rfl)) rfl <| A6 rfl rfl Aa (.inl (congrArg Value.bool rfl)) rfl <| A6 rfl rfl Aa (.inl (congrArg Value.bool rfl)) rfl <| A6 rfl rfl Aa (.inl (congrArg Value.bool rfl)) rfl <| A6 rfl rfl Aa (.inl (congrArg Value.bool rfl)) rfl <| A6 rfl rfl Aa (.inl (congrArg Value.bool rfl)) rfl ?_
  refine A6 rfl rfl Aa (.inl (congrArg Value.bool rfl)) rfl <| A6 rfl rfl Aa (.inl (congrArg Value.bool rfl)) rfl <| A6 rfl rfl Aa (.inl (congrArg Value.bool rfl)) rfl <| A6 rfl rfl Aa (.inl (congrArg Value.bool rfl)) rfl <| A6 rfl rfl Aa (.inl (congrArg Value.bool rfl)) rfl <| A6 rfl rfl Aa (.inl (congrArg Value.bool rfl)) rfl <| A6 rfl rfl Aa (.inl (congrArg Value.bool rfl)) rfl <| A6 rfl rfl Aa (.inl (congrArg Value.bool rfl)) rfl <| AT rfl (As Aa rfl C4) <| B0 <| Ab <| Ad Aa rfl <| Al <| Ab <| Am fun ds => Aj (Af 4) <| Ag rfl (Bm H8 (.cons Aa rfl (.cons Aa rfl (.cons Aa rfl .nil))) (.cons rfl rfl (Nat.le_of_ble_eq_true rfl) (.cons (.here) .nil) (.cons rfl rfl (Nat.le_of_ble_eq_true rfl) (.cons (.next <| .here) .nil) (.cons rfl rfl (Nat.le_of_ble_eq_true rfl) (.cons (.next <| .next <| .here) .nil) .nil)))) <| A5 rfl <| B5 (offs := [(0, 3)]) (zl := [.int .i64 0, .int .i64 0, .int .i64 0]) Cx J1 rfl (.cons Aa rfl .nil) (by intro i p h; rcases i with _ | i <;> simp at h <;> subst h <;> rfl) (.cons rfl rfl (Nat.le_of_ble_eq_true rfl) (.cons (.here) (.cons (.next <| .here) (.cons (.next <| .next <| .here) .nil))) .nil) (by decide) (by decide) fun b27 hb27 nb27 => A5 rfl <| Bp Cx Qp Aa ho9 Aa (B1 (s := 3) 0 rfl rfl (by simp [Value.oneCell'])) (by omega) (by omega) (.s <| .s <| .s <| .k <| .k <| .k <| .z) .last fun v28 R29 ho30 => ?_
  have ho9b : Own 175 3 v28 ((fltTo c.book t (i + 1)).2.2).length (((fltTo c.book t (i + 1)).2.2).flatMap Rn.enc) R29 := by rw [hfe]; exact Own.snoc ho30 rfl rfl
  refine Aj (Af 1) <| Ao <| A0 <| Ab <| Bn (fun _ _ h => h.drop (kD <| kK <| kK <| .refl _)) <| Am fun ds => Ag rfl (AG Aa Aa rfl (by omega) (by omega)) <| Aj (Af 1) <| Ao ?_
  refine Ab ⟨_, m1 - 1, Off.eq (DT rfl <| DT rfl <| A2), by omega, ?_⟩
  exact ⟨i + 1, _, _, _, _, _, _, _, by omega, AX, AX, hZ2, by rw [hfe]; exact ho3, by rw [hfe]; exact ho4, ho9b, rfl⟩
 refine AD (Af 1) <| Ac <| Ad Aa (by first | rfl | exact dF (by omega)) ?_
 obtain rfl : i = t.length := by omega
 have hfl := KI (b := c.book) (t := t) (i := t.length) (by omega)
 have hml := Lo (l := runsL c t)
 change (movedC c t).length ≤ _ at hml
 skip
 have hs1 : (strangeL c t).length ≤ t.length := hfl.1
 have hs2 : (twiceL c t).length ≤ t.length := hfl.2.1
 have hs3 : (runsL c t).length ≤ t.length := hfl.2.2
 replace ho3 : Own 3 1 v3 (strangeL c t).length ((strangeL c t).flatMap intE) R3 := ho3
 replace ho4 : Own 3 1 v4 (twiceL c t).length ((twiceL c t).flatMap intE) R4 := ho4
 replace ho9 : Own 175 3 v9 (runsL c t).length ((runsL c t).flatMap Rn.enc) R9 := ho9
 refine AH ?_
 refine A8 <| A8 <| AB <| Ab <| Az (Af 1) fun ds => A5 rfl <| Ew bd_90 Aa AW (fun G hG hGo => (Uz (ho9.sl (fun _ => rfl) (fun p hp => hGo p (by simp [hp])) (by omega)) (by omega))) fun v31 R35 hr33 => ?_
 have ho5 : Own 3 1 v31 (movedC c t).length ((movedC c t).flatMap intE) R35 := hr33
 obtain ⟨v5, hv5⟩ : ∃ y, y = v31 := ⟨_, rfl⟩
 subst hv5
 refine Aj (Af 1) <| Fr (.one (.skip <| .here) <| .one (.skip <| .here) <| .blk (.skip <| .here) <| .blk (.skip <| .here) <| .blk (.skip <| .here) <| .blk (.lastS) <| .lastb (.last)) <| AS <| Bf Dg Aa Aa (i := 1) rfl (.next <| .next <| .next <| .next <| .next <| .here) ho5.one (.next <| .here) <| Ao <| Ab <| Az (Af 4) fun ds => Ag rfl (A4 A9 Aa (ho3.plain (by omega))) <| Ag rfl (AG Aa Aa rfl (by omega) (by omega)) <| Aj (Af 2) <| Ag rfl (A4 A9 Aa (ho4.plain (by omega))) <| Ag rfl (AG Aa Aa rfl (by omega) (by omega)) <| Aj (Af 2) <| Ag rfl (A4 A9 Aa (ho5.plain (by omega))) <| Ag rfl (AG Aa Aa rfl (by omega) (by omega)) <| Aj (Af 1) <| AS <| Bf DA Aa Aa (i := 1) rfl (.next <| .next <| .next <| .next <| .next <| .next <| .here) rfl (.next <| .here) <| Ao <| Ab <| Az (Af 1) fun ds => AS <| AP HN Aa Aa (i := 1) rfl rfl rfl rfl (by intro u hu; simp only [List.mem_cons, List.not_mem_nil, or_false] at hu; rcases hu with rfl | rfl | rfl | rfl | rfl | rfl | rfl <;> first | rfl | exact ho1.one | exact ho3.one | exact ho4.one | exact ho5.one) (.next <| .here) <| Ao <| Ab <| At <| BK rfl (.agg HD Aa rfl rfl (Bz 1 rfl) .nil) (.cons _ (.cons _ (.append (.refl _) (.append (.refl _) (.append (.refl _) (List.sublist_append_right _ _)))))) ?_
 exact ⟨v1, v3, v4, v5, _, _, _, _, rfl, ho1, ho3, ho4, ho5, rfl⟩
end
section
def wideTo (c : Cpc) (ts : List (List Int)) : Int × Int := ts.foldl (fun s t => (min s.1 (allZ c t), max s.2 (allZ c t))) ((allQ c.book).length + 2 * c.items.length, 0)
def wideC (c : Cpc) : Int × Int := wideTo c (truC c)
theorem Om {c : Cpc} {ts : List (List Int)} {t : List Int} : wideTo c (ts ++ [t]) = (min (wideTo c ts).1 (allZ c t), max (wideTo c ts).2 (allZ c t)) := by
 unfold wideTo; rw [List.foldl_append]; rfl
theorem VW {c : Cpc} {t : List Int} : 0 ≤ allZ c t := by
 have h := E4 (b := c.book) (g := lostL c t) (lostL c t).length
 change 0 ≤ piecesC c t ∧ _ at h
 unfold allZ
 omega
theorem Mm {c : Cpc} : ∀ (ts : List (List Int)) (s : Int × Int), 0 ≤ s.1 → 0 ≤ (ts.foldl (fun s t => (min s.1 (allZ c t), max s.2 (allZ c t))) s).1
 | [], _, h => h
 | t :: ts, s, h => by
   have := VW (c := c) (t := t)
   exact Mm ts _ (by simp only; omega)
theorem P8 {c : Cpc} (ts : List (List Int)) : 0 ≤ (wideTo c ts).1 := Mm ts _ (by simp only; omega)
theorem Mn {c : Cpc} : 0 ≤ (wideC c).1 := P8 _
end
section
set_option maxRecDepth 100000
open Go.RowKit
theorem Nh : Body Tryz.prog 42 := AE (by kernel_rfl)
theorem bd_43 : Body Tryz.prog 43 := AE (by kernel_rfl)
theorem Pw : Body Tryz.prog 53 := AE (by kernel_rfl)
theorem V2 : Body Tryz.prog 54 := AE (by kernel_rfl)
theorem Pu : Body Tryz.prog 88 := AE (by kernel_rfl)
theorem pt_75_6 : PartT Tryz.prog 75 6 6 3 := Um (by kernel_rfl)
theorem QA {F : Heap} {vg : Value} {qs : List (Value × Gth)} {vi : Value} {is : List (Value × List Int)} {c : Cpc} {vl vm : Value} {p : Nat} (hX : CopR F 135 p vg qs vi is c vl vm) (hv : ValidC c) : Ok Tryz.prog 43 [.pointer (some ⟨p, 0, none⟩)].toArray F fun r _ => r = .agg #[.int .i64 (wideC c).1, .int .i64 (wideC c).2] := by
 have hvl := hv.leaves
 have hvm := hv.many
 have hlq := hX.cse.len
 refine Ok.intro Tryz.func43 rfl Tryz.ntmps43 rfl fun w0 => Ac <| Am fun ds => A5 rfl <| Bg Aa rfl fun b1 hb1 nb1 => A5 rfl <| AO JY rfl fun b2 hb2 nb2 => Ao <| Ab <| AK (i := 1) rfl hb1 (.next <| .here) fun F3 hF4 hz1 => ?_
 replace hX := hX.mono hF4
 refine Ac <| BO (.inl rfl) (fun _ _ h => h) (kK <| .refl _) [14] (by kernel_rfl) fun ds => Au 0 rfl (kK <| .refl _) (Ak Cm Aa (AA hz1 rfl)) <| Au 1 rfl (kK <| .refl _) (Bb Aa) <| Au 2 rfl (kK <| .refl _) (AV L8 Aa) <| Au 3 rfl (kK <| .refl _) (Ak Gf Aa (AA hX.blk rfl)) <| Au 4 rfl (kK <| .refl _) (A4 Cq Aa hX.leaves.plain) <| Au 5 rfl (kK <| .refl _) (Ak Cm Aa (AA hz1 rfl)) <| Au 6 rfl (kK <| .refl _) (Bb Aa) <| Au 7 rfl (kK <| .refl _) (AV L9 Aa) ?_
 refine Au 8 rfl (kK <| .refl _) (AV NL Aa) <| Au 9 rfl (kK <| .refl _) (Ak C7 Aa (AA hX.blk rfl)) <| Au 10 rfl (kK <| .refl _) (A4 Cj Aa hX.cse.items.plain) <| Au 11 rfl (kK <| .refl _) (Mx Aa Aa rfl (by omega) (by omega)) <| Au 12 rfl (kK <| .refl _) (AG Aa Aa rfl (by omega) (by omega)) <| Au 13 rfl (kK <| .refl _) (AV Rh Aa) ?_
 refine Eg 14 rfl (by kernel_rfl) (Bf DA Aa Aa (i := 0) rfl (.here) rfl (.here) ⟨(fun h => nomatch h), ?_⟩)
 refine BC (by kernel_rfl) ?_ _
 refine Ab <| Ac <| Ac <| Am fun ds => Ag rfl (Ak Cm Aa (AA hz1 rfl)) <| A5 rfl <| Bi Pw Aa AW (Fc hX) fun v5 F6 hr7 hF8 => ?_
 replace hX := hX.mono hF8
 replace hz1 := hF8 _ _ hz1
 obtain ⟨dt, rfl, hzt⟩ := hr7
 refine Ao <| Ab <| Aq ?_
 refine FK rfl Aa (Pu) (Dw hX hv hzt) (Heap.le_refl _) (fun pre _ H => H = [(b2, bx 41 [.int .i64 (wideTo c pre).1, .int .i64 (wideTo c pre).2])]) (fun _ _ _ => False) (fun _ _ _ _ _ h => h) (fun _ _ _ _ _ h => h) (by rw [hlq]; rfl) (fun L D fn tm pre x rest G1 H1 v R1 hxs hle1 hJ hO => ?_) (fun _ _ _ _ h => h.elim) (fun F2 H1 hF2 hJ => ?_)
 ·replace hX := hX.mono hle1
  replace hz1 := hle1 _ _ hz1
  obtain rfl := hJ
  have hO : Own 3 1 v x.length (x.flatMap intE) R1 := hO
  have htb := Ey hv (show x ∈ truC c by rw [hxs]; simp)
  refine ⟨rfl, rfl, fun w1 => ?_⟩
  refine Jz (e' := (upd _ 21 v)) rfl rfl <| AQ (.inr (by kernel_rfl)) (fun _ _ h => h) fun ds => Aj (Af 1) <| Ao ?_
  refine Ab ⟨_, rfl, ?_⟩
  refine Cs (.one (.next <| .next <| .lastS) <| .one (.here) <| .one (.here) <| .lastb (.last)) <| Aq <| Ac <| AQ (.inr (by kernel_rfl)) (fun _ _ h => h) fun ds => Ag rfl (Ak Cm Aa (AA hz1 rfl)) <| Aj (Af 1) <| A5 rfl <| RI V2 Aa AW (fun G hG hGo => JK (hX.mono hG) hv (hO.sl (fun _ => rfl) (fun p hp => hGo p (by simp [hp])) (by have := htb.len; omega)) htb) fun v9 R13 hr11 => ?_
  obtain ⟨v1, v3, v4, v5, R3, R4, R5, R6, rfl, -, -, -, -, -⟩ := hr11
  refine Ag rfl (Ug pt_75_6 AF Aa rfl) <| Aw (Af 1) <| AQ (.inr (by kernel_rfl)) (fun _ _ h => h) fun ds => Aj (Af 8) <| Ag rfl (Bm Ps (.cons Aa rfl (.cons Aa rfl .nil)) (.cons rfl rfl (Nat.le_of_ble_eq_true rfl) (.cons (.here) .nil) (.cons rfl rfl (Nat.le_of_ble_eq_true rfl) (.cons (.next <| .here) .nil) .nil))) <| AS <| AP Kd Aa Aa (i := 0) rfl rfl rfl rfl (by simp [Value.oneCell']) (.here) <| Ao <| A0 <| C3 (.one (.next <| .here) <| .one (.next <| .here) <| .blk (.next <| .last) <| .one (.here) <| .nil) ?_
  refine .inl ⟨rfl, _, rfl, hle1, ⟨_, rfl, ?_⟩⟩
  show (_ : List (Nat × Obj)) = _
  rw [Om]
 obtain rfl := hJ
 refine A0 <| Ab <| Az (Af 1) fun ds => AS <| AP Kd Aa Aa (i := 0) rfl rfl rfl rfl (by simp [Value.oneCell']) (.here) <| Ao <| Ab <| At <| Ap rfl (.agg Gy Aa rfl rfl (Bz 0 rfl) .nil) ?_
 rfl
theorem Mu {F : Heap} {vg vi : Value} {qs : List (Value × Gth)} {is : List (Value × List Int)} {c : Cpc} (hc : CpcR F vg qs vi is c) (hv : ValidC c) : Ok Tryz.prog 8 [.agg #[.int .i64 c.book.signed, vg, vi]].toArray F fun r _ => r = .tuple #[.agg #[.int .i64 (wideC c).1, .int .i64 (wideC c).2], .int .i64 0] := by
 refine Ok.intro Tryz.func8 rfl Tryz.ntmps8 rfl fun w0 => Ac <| Am fun ds => A5 rfl <| Bg Aa rfl fun b1 hb1 nb1 => A5 rfl <| AO JY rfl fun b2 hb2 nb2 => Aw (Af 1) <| AK (i := 1) rfl hb1 (.next <| .here) fun F3 hF4 hz1 => ?_
 replace hc := hc.mono hF4
 refine Ac <| Am fun ds => Ag rfl (AC (vs := [.int .i64 c.book.signed, vg, vi]) CP Aa rfl rfl (Ba hz1)) <| A5 rfl <| Bi Nh Aa AW (Fh hc hv) fun v5 F6 hr7 hF8 => ?_
 obtain ⟨p, vl, vm, rfl, hX⟩ := hr7
 refine Aw (Af 9) <| Ac <| AD (Af 2) <| Ad Aa (dF (fun h => h rfl)) <| Al <| Ab <| Az (Af 1) fun ds => AN rfl (Ay bd_43 Aa AW (QA hX hv) (fun _ _ h => h)) <| AS <| AP Kd Aa Aa (i := 0) rfl rfl rfl rfl (by simp [Value.oneCell']) (.here) <| Aw (Af 1) <| At <| Ap rfl (.agg Gy Aa rfl rfl (Bz 0 rfl) Bd) ?_
 rfl
end
section
open Go.RowKit
theorem Own.srcR {E s k : Nat} {v : Value} {cs : List Value} {R H : List (Nat × Obj)} {F : Heap} (h : Own E s v k cs R) (hR : ∀ p ∈ R, p ∈ H) (h1 : ∀ u ∈ cs, u.oneCell' = true) : Src ⟨F, H⟩ v k cs s := by
 match R, h, hR with
 | [], ⟨h2, h3, h4⟩, _ =>
   subst h2; subst h3; subst h4
   exact ⟨by simp, by simp, none, 0, rfl, (fun _ => rfl), (fun x hx => nomatch hx)⟩
 | [(b, o)], h, hR =>
   obtain ⟨cap, spare, h2, h3, h4, h5, h6⟩ := id h
   subst h2
   refine ⟨h4, h1, some ⟨b, 0, none⟩, cap, rfl, (fun h => nomatch h), fun x hx => ?_⟩
   obtain rfl := Option.some.inj hx
   exact ⟨fun _ => rfl, fun j u hj => h.cell hR hj⟩
structure FltF (F : Heap) (v0 v1 v3 v4 v5 : Value) (c : Cpc) (t : List Int) : Prop where
 leaves : Ints F v0 t
 lost : Ints F v1 (lostL c t)
 strange : Ints F v3 (strangeL c t)
 twice : Ints F v4 (twiceL c t)
 moved : Ints F v5 (movedC c t)
theorem FltF.mono {F F' : Heap} {v0 v1 v3 v4 v5 : Value} {c : Cpc} {t : List Int} (h : FltF F v0 v1 v3 v4 v5 c t) (hF : F.le F') : FltF F' v0 v1 v3 v4 v5 c t := ⟨h.leaves.mono hF, h.lost.mono hF, h.strange.mono hF, h.twice.mono hF, h.moved.mono hF⟩
@[reducible] def fltV (v0 v1 v3 v4 v5 : Value) (c : Cpc) (t : List Int) : List Value := [v0, v1, .int .i64 (piecesC c t), v3, v4, v5, .int .i64 (allZ c t)]
theorem FltF.ones {F : Heap} {v0 v1 v3 v4 v5 : Value} {c : Cpc} {t : List Int} (h : FltF F v0 v1 v3 v4 v5 c t) : ∀ u ∈ fltV v0 v1 v3 v4 v5 c t, u.oneCell' = true := fun u hu => by
 simp only [fltV, List.mem_cons, List.not_mem_nil, or_false] at hu
 rcases hu with rfl | rfl | rfl | rfl | rfl | rfl | rfl <;> first | rfl | exact h.leaves.plain.one | exact h.lost.plain.one | exact h.strange.plain.one | exact h.twice.plain.one | exact h.moved.plain.one
def bestT (c : Cpc) (ts : List (List Int)) : Option (List Int) := ts.foldl (fun b t => match b with
 | none => some t
 | some u => if allZ c u ≤ allZ c t then some u else some t) none
theorem LV {c : Cpc} {ts : List (List Int)} {t : List Int} : bestT c (ts ++ [t]) = match bestT c ts with
 | none => some t
 | some u => if allZ c u ≤ allZ c t then some u else some t := by unfold bestT; rw [List.foldl_append]; rfl
theorem Q2 {c : Cpc} {t : List Int} : bestT c ([] ++ [t]) = some t := rfl
theorem Tg {c : Cpc} {ts : List (List Int)} {t u : List Int} (h : bestT c ts = some u) (hle : allZ c u ≤ allZ c t) : bestT c (ts ++ [t]) = some u := by rw [LV, h]; exact if_pos hle
theorem Tf {c : Cpc} {ts : List (List Int)} {t u : List Int} (h : bestT c ts = some u) (hle : ¬ allZ c u ≤ allZ c t) : bestT c (ts ++ [t]) = some t := by rw [LV, h]; exact if_neg hle
theorem GT {T : List Int} : ∀ u ∈ T.flatMap intE, u.oneCell' = true := fun u hu => by
 obtain ⟨x, -, hx⟩ := List.mem_flatMap.1 hu
 simp only [intE, List.mem_singleton] at hx
 subst hx; rfl
theorem Gi {F : Heap} {b T n c : Nat} {xs : List Int} (hF : F b = some (bx T (xs.flatMap intE))) (hn : xs.length = n) (hc : n ≤ c) (hb : n < 281474976710656) : Ints F (.slice (some ⟨b, 0, none⟩) n c) xs := Sl.box hF hn hc hb fun i hi j u h => Jj (enc := intE) (s := 1) (fun _ => rfl) xs i hi h
theorem Rc {c : Cpc} {t : List Int} : (lostL c t).length ≤ (allQ c.book).length ∧ (strangeL c t).length ≤ t.length ∧ (twiceL c t).length ≤ t.length ∧ (movedC c t).length ≤ t.length := by
 have h := KI (b := c.book) (t := t) (i := t.length) (Nat.le_refl _)
 have h2 := Lo (l := runsL c t)
 exact ⟨FD, h.1, h.2.1, Nat.le_trans h2 h.2.2⟩
end
section
set_option maxHeartbeats 2000000
set_option maxRecDepth 100000
open Go.RowKit
theorem Nm : ZeroT Tryz.prog 103 (.pointer none) := Br (by kernel_rfl)
instance : FieldI Tryz.prog 75 0 0 := ⟨AU (by kernel_rfl)⟩
theorem Nu : SizeT Tryz.prog 103 1 := Bx (by kernel_rfl)
theorem H4 {F : Heap} {vg vi : Value} {qs : List (Value × Gth)} {is : List (Value × List Int)} {c : Cpc} (hc : CpcR F vg qs vi is c) (hv : ValidC c) : Ok Tryz.prog 22 [.agg #[.int .i64 c.book.signed, vg, vi]].toArray F fun r F' => ∃ (v0 v1 v3 v4 v5 : Value) (t : List Int), r = .tuple #[.agg (fltV v0 v1 v3 v4 v5 c t).toArray, .int .i64 0] ∧ bestT c (truC c) = some t ∧ FltF F' v0 v1 v3 v4 v5 c t := by
 have hvl := hv.leaves
 have hvm := hv.many
 refine Ok.intro Tryz.func22 rfl Tryz.ntmps22 rfl fun w0 => Ac <| Am fun ds => A5 rfl <| Bg Aa rfl fun b1 hb1 nb1 => A5 rfl <| AO JW rfl fun b2 hb2 nb2 => Aw (Af 1) <| AK (i := 1) rfl hb1 (.next <| .here) fun F3 hF4 hz1 => ?_
 replace hc := hc.mono hF4
 refine Ma <| Ac <| Am fun ds => Ag rfl (AC (vs := [.int .i64 c.book.signed, vg, vi]) CP Aa rfl rfl (Ba hz1)) <| A5 rfl <| Bi Nh Aa AW (Fh hc hv) fun v5 F6 hr7 hF8 => ?_
 obtain ⟨p, vl, vm, rfl, hX⟩ := hr7
 refine Aj (Af 5) <| A5 rfl <| AO Nm rfl fun b9 hb9 nb9 => AS <| Bf Nu Aa Aa (i := 0) rfl (.here) rfl (.here) <| Aw (Af 3) <| Ac <| AD (Af 2) <| Ad Aa (dF (fun h => h rfl)) <| Al <| Ab <| Ac <| AK (i := 0) rfl hb9 (.here) fun F10 hF11 hz4 => ?_
 replace hX := hX.mono hF11
 refine Am fun ds => A5 rfl <| AO zr_4 rfl fun b12 hb12 nb12 => AS <| Bf Or Aa Aa (i := 0) rfl (.here) rfl (.here) <| Ao <| Ab <| Ac <| Mc <| Ab <| Ac <| Ac <| Am fun ds => Ag rfl (Ak Cm Aa (AA hz4 rfl)) <| A5 rfl <| Bi Pw Aa AW (Fc hX) fun v13 F14 hr15 hF16 => ?_
 have hU28 := Heap.le_trans hF8 (Heap.le_trans hF11 hF16)
 replace hX := hX.mono hF16
 replace hz4 := hF16 _ _ hz4
 obtain ⟨dt, rfl, hzt⟩ := hr15
 refine Ao <| Ab <| Aq ?_
 refine FK rfl Aa (Pu) (Dw hX hv hzt) (Heap.le_refl _) (fun pre F H => ∃ (fi : Bool) (bv : List Value), H = [(b12, bx 4 [.bool fi]), (b2, bx 75 bv)] ∧ (pre = [] ∧ fi = true ∧ bv = [.slice none 0 0, .slice none 0 0, .int .i64 0, .slice none 0 0, .slice none 0 0, .slice none 0 0, .int .i64 0] ∨ ∃ (u : List Int) (v0 v1 v3 v4 v5 : Value), bestT c pre = some u ∧ fi = false ∧ bv = fltV v0 v1 v3 v4 v5 c u ∧ FltF F v0 v1 v3 v4 v5 c u)) (fun _ _ _ => False) (fun _ _ _ _ hF h => by obtain ⟨fi, bv, h1, h2⟩ := h; refine ⟨fi, bv, h1, h2.imp id ?_⟩; rintro ⟨u, v0, v1, v3, v4, v5, k1, k2, k3, k4⟩; exact ⟨u, v0, v1, v3, v4, v5, k1, k2, k3, k4.mono hF⟩) (fun _ _ _ _ _ h => h) ⟨true, _, rfl, .inl ⟨rfl, rfl, rfl⟩⟩ (fun L D fn tm pre x rest G1 H1 v R1 hxs hle1 hJ hO => ?_) (fun _ _ _ _ h => h.elim) (fun F2 H1 hF2 hJ => ?_)
 ·replace hX := hX.mono hle1
  replace hz4 := hle1 _ _ hz4
  obtain ⟨fi, bv, rfl, hbest⟩ := hJ
  have hO : Own 3 1 v x.length (x.flatMap intE) R1 := hO
  have htb := Ey hv (show x ∈ truC c by rw [hxs]; simp)
  have htl := htb.len
  have hfb := Rc (c := c) (t := x)
  refine ⟨rfl, rfl, fun w1 => ?_⟩
  refine Jz (e' := (upd _ 23 v)) rfl rfl <| AQ (.inr (by kernel_rfl)) (fun _ _ h => h) fun ds => Aj (Af 1) <| Ao ?_
  refine Ab ⟨_, rfl, ?_⟩
  rcases hbest with ⟨rfl, rfl, rfl⟩ | ⟨u, v0, v1, v3, v4, v5, hb, rfl, rfl, hFu⟩
  ·refine Cs (.one (.next <| .next <| .skip <| .here) <| .one (.next <| .next <| .lastS) <| .one (.here) <| .one (.here) <| .lastb (.last)) <| Aq <| Ac <| AQ (.inr (by kernel_rfl)) (fun _ _ h => h) fun ds => Ag rfl (Ak Cm Aa (AA hz4 rfl)) <| Aj (Af 1) <| A5 rfl <| Ew V2 Aa AW (fun G hG hGo => JK (hX.mono hG) hv (hO.sl (fun _ => rfl) (fun p hp => hGo p (by simp [hp])) (by have := htb.len; omega)) htb) fun v17 R21 hr19 => ?_
   obtain ⟨w1, w3, w4, w5, R3, R4, R5, R6, rfl, h1, h3, h4, h5, rfl⟩ := hr19
   simp only [List.append_assoc]
   refine A5 rfl <| AO JW rfl fun b22 hb22 nb22 => AS <| AP HN Aa Aa (i := 0) rfl rfl rfl rfl (by intro u hu; simp only [List.mem_cons, List.not_mem_nil, or_false] at hu; rcases hu with rfl | rfl | rfl | rfl | rfl | rfl | rfl <;> first | rfl | exact h1.one | exact h3.one | exact h4.one | exact h5.one) (.here) <| Ao <| Ab <| Ac <| Ac <| Ch (σ := ⟨_, _⟩) (by intro m hm; simp [keys] at hm ⊢; rcases hm with h | h | h | h | h <;> simp [h]) h1 (.s <| .z) .more fun F23 hF24 hz25 => ?_
   refine Cs (.one (.here) <| .blk (.skip <| .here) <| .blk (.skip <| .here) <| .blk (.skip <| .here) <| .one (.skip <| .here) <| .one (.skip <| .here) <| .one (.skip <| .here) <| .one (.skip <| .here) <| .lastb (.lastS)) ?_
   have g1 := h1.sl (fun _ => rfl) hz25 (by omega)
   refine Ch (σ := ⟨_, _⟩) (by intro m hm; simp [keys] at hm ⊢; rcases hm with h | h | h | h | h <;> simp [h]) h3 (.s <| .z) .more fun F26 hF27 hz28 => ?_
   refine Cs (.one (.here) <| .blk (.skip <| .here) <| .blk (.skip <| .here) <| .one (.skip <| .here) <| .one (.skip <| .here) <| .one (.skip <| .here) <| .one (.skip <| .here) <| .lastb (.lastS)) ?_
   have g3 := h3.sl (fun _ => rfl) hz28 (by omega)
   refine Ch (σ := ⟨_, _⟩) (by intro m hm; simp [keys] at hm ⊢; rcases hm with h | h | h | h | h <;> simp [h]) h4 (.s <| .z) .more fun F29 hF30 hz31 => ?_
   refine Cs (.one (.here) <| .blk (.skip <| .here) <| .one (.skip <| .here) <| .one (.skip <| .here) <| .one (.skip <| .here) <| .one (.skip <| .here) <| .lastb (.lastS)) ?_
   have g4 := h4.sl (fun _ => rfl) hz31 (by omega)
   refine Ch (σ := ⟨_, _⟩) (by intro m hm; simp [keys] at hm ⊢; rcases hm with h | h | h | h | h <;> simp [h]) h5 (.s <| .z) .more fun F32 hF33 hz34 => ?_
   replace g1 := g1.mono (Heap.le_trans hF27 (Heap.le_trans hF30 hF33))
   replace g3 := g3.mono (Heap.le_trans hF30 hF33)
   replace g4 := g4.mono hF33
   refine Cs (.one (.here) <| .one (.skip <| .here) <| .one (.skip <| .here) <| .one (.skip <| .here) <| .one (.skip <| .here) <| .lastb (.lastS)) ?_
   have g5 := h5.sl (fun _ => rfl) hz34 (by omega)
   refine AQ (.inr (by kernel_rfl)) (fun _ _ h => h) fun ds => Aj (Af 3) <| Ah rfl rfl Aa (.inl (congrArg Value.bool rfl)) rfl <| Ah rfl rfl Aa (.inl (congrArg Value.bool rfl)) rfl <| Ah rfl rfl Aa (.inl (congrArg Value.bool rfl)) rfl <| Ah rfl rfl Aa (.inl (congrArg Value.bool rfl)) rfl <| Ah rfl rfl Aa (.inl (congrArg Value.bool rfl)) rfl <| Ag rfl (As Aa rfl C4) <| Ao <| Ab <| Ad Aa rfl <| Al <| Ab <| Ac <| AQ (.inr (by kernel_rfl)) (fun _ _ h => h) fun ds => Ag rfl (AC (vs := [.slice none 0 0, w1, .int .i64 (piecesC c x), w3, w4, w5, .int .i64 (allZ c x)]) HD Aa rfl rfl (Bz 0 rfl)) <| AS <| AP HN Aa Aa (i := 2) rfl rfl rfl rfl (by intro u hu; simp only [List.mem_cons, List.not_mem_nil, or_false] at hu; rcases hu with rfl | rfl | rfl | rfl | rfl | rfl | rfl <;> first | rfl | exact g1.plain.one | exact g3.plain.one | exact g4.plain.one | exact g5.plain.one) (.next <| .next <| .here) <| AS <| Bf Or Aa Aa (i := 1) rfl (.here) rfl (.next <| .here) <| Ao <| Ab <| Ac <| AQ (.inr (by kernel_rfl)) (fun _ _ h => h) fun ds => Aj (Af 1) <| Ag rfl (A4 A9 Aa (hO.plain (by omega))) <| A5 rfl <| Ft (k := x.length) A9 Di rfl rfl Aa Aa rfl (by omega) (by omega) fun b35 hb35 nb35 => Aj (Af 1) <| AS <| Bf Dg Aa Aa (i := 3) rfl (.here) rfl (.next <| .next <| .next <| .here) <| Ao <| Ab <| AQ (.inr (by kernel_rfl)) (fun _ _ h => h) fun ds => ?_
   refine Aj (Af 3) <| A5 rfl <| Nn (s := 1) rfl A9 Aa Aa (i := 0) rfl (by simp) (hO.srcR (fun p hp => .tail _ (.tail _ (.tail _ (.tail _ (.tail _ (.tail _ (hp))))))) GT) (.here) <| AJ (i := 0) rfl hb35 (.here) fun F36 hF37 hz39 => ?_
   have hU93 := Heap.le_trans hF24 (Heap.le_trans hF27 (Heap.le_trans hF30 (Heap.le_trans hF33 hF37)))
   replace hle1 := hle1.mono hU93
   replace g1 := g1.mono hF37
   replace g3 := g3.mono hF37
   replace g4 := g4.mono hF37
   replace g5 := g5.mono hF37
   refine Ao <| A0 <| C3 (.one (.next <| .next <| .next <| .here) <| .one (.next <| .next <| .next <| .here) <| .blk (.next <| .next <| .next <| .last) <| .one (.next <| .here) <| .one (.next <| .here) <| .nil) ?_
   refine .inl ⟨rfl, _, rfl, hle1, ⟨_, rfl, ?_⟩⟩
   exact ⟨false, _, rfl, .inr ⟨x, _, _, _, _, _, Q2, rfl, rfl, ⟨Gi hz39 rfl (Nat.le_refl _) (by omega), g1, g3, g4, g5⟩⟩⟩
  refine Cs (.one (.next <| .next <| .skip <| .here) <| .one (.next <| .next <| .lastS) <| .one (.here) <| .one (.here) <| .lastb (.last)) <| Aq <| Ac <| AQ (.inr (by kernel_rfl)) (fun _ _ h => h) fun ds => Ag rfl (Ak Cm Aa (AA hz4 rfl)) <| Aj (Af 1) <| A5 rfl <| Ew V2 Aa AW (fun G hG hGo => JK (hX.mono hG) hv (hO.sl (fun _ => rfl) (fun p hp => hGo p (by simp [hp])) (by have := htb.len; omega)) htb) fun v38 R42 hr40 => ?_
  obtain ⟨w1, w3, w4, w5, R3, R4, R5, R6, rfl, h1, h3, h4, h5, rfl⟩ := hr40
  simp only [List.append_assoc]
  refine A5 rfl <| AO JW rfl fun b43 hb43 nb43 => AS <| AP HN Aa Aa (i := 0) rfl rfl rfl rfl (by intro u hu; simp only [List.mem_cons, List.not_mem_nil, or_false] at hu; rcases hu with rfl | rfl | rfl | rfl | rfl | rfl | rfl <;> first | rfl | exact h1.one | exact h3.one | exact h4.one | exact h5.one) (.here) <| Ao <| Ab <| Ac <| Ac <| Ch (σ := ⟨_, _⟩) (by intro m hm; simp [keys] at hm ⊢; rcases hm with h | h | h | h | h <;> simp [h]) h1 (.s <| .z) .more fun F44 hF45 hz46 => ?_
  refine Cs (.one (.here) <| .blk (.skip <| .here) <| .blk (.skip <| .here) <| .blk (.skip <| .here) <| .one (.skip <| .here) <| .one (.skip <| .here) <| .one (.skip <| .here) <| .one (.skip <| .here) <| .lastb (.lastS)) ?_
  have g1 := h1.sl (fun _ => rfl) hz46 (by omega)
  refine Ch (σ := ⟨_, _⟩) (by intro m hm; simp [keys] at hm ⊢; rcases hm with h | h | h | h | h <;> simp [h]) h3 (.s <| .z) .more fun F47 hF48 hz49 => ?_
  refine Cs (.one (.here) <| .blk (.skip <| .here) <| .blk (.skip <| .here) <| .one (.skip <| .here) <| .one (.skip <| .here) <| .one (.skip <| .here) <| .one (.skip <| .here) <| .lastb (.lastS)) ?_
  have g3 := h3.sl (fun _ => rfl) hz49 (by omega)
  refine Ch (σ := ⟨_, _⟩) (by intro m hm; simp [keys] at hm ⊢; rcases hm with h | h | h | h | h <;> simp [h]) h4 (.s <| .z) .more fun F50 hF51 hz52 => ?_
  refine Cs (.one (.here) <| .blk (.skip <| .here) <| .one (.skip <| .here) <| .one (.skip <| .here) <| .one (.skip <| .here) <| .one (.skip <| .here) <| .lastb (.lastS)) ?_
  have g4 := h4.sl (fun _ => rfl) hz52 (by omega)
  refine Ch (σ := ⟨_, _⟩) (by intro m hm; simp [keys] at hm ⊢; rcases hm with h | h | h | h | h <;> simp [h]) h5 (.s <| .z) .more fun F53 hF54 hz55 => ?_
  have hU140 := Heap.le_trans hF45 (Heap.le_trans hF48 (Heap.le_trans hF51 hF54))
  replace hle1 := hle1.mono hU140
  replace hFu := hFu.mono hU140
  replace g1 := g1.mono (Heap.le_trans hF48 (Heap.le_trans hF51 hF54))
  replace g3 := g3.mono (Heap.le_trans hF51 hF54)
  replace g4 := g4.mono hF54
  refine Cs (.one (.here) <| .one (.skip <| .here) <| .one (.skip <| .here) <| .one (.skip <| .here) <| .one (.skip <| .here) <| .lastb (.lastS)) ?_
  have g5 := h5.sl (fun _ => rfl) hz55 (by omega)
  by_cases hle : allZ c u ≤ allZ c x
  ·refine AQ (.inr (by kernel_rfl)) (fun _ _ h => h) fun ds => Aj (Af 3) <| Ae rfl rfl Aa rfl <| Aj (Af 1) <| Ae rfl rfl Aa rfl <| Aj (Af 1) <| Ae rfl rfl Aa rfl <| Aj (Af 1) <| Ae rfl rfl Aa rfl <| Aj (Af 1) <| Ae rfl rfl Aa rfl <| Aj (Af 1) <| Ag rfl (Ar Aa rfl Aa) <| Ao <| Ab <| Ai Aa (dT (by omega)) <| AH <| A8 <| AB <| C3 (.one (.next <| .next <| .next <| .here) <| .one (.next <| .next <| .next <| .here) <| .blk (.next <| .next <| .next <| .last) <| .one (.next <| .here) <| .one (.next <| .here) <| .nil) ?_
   refine .inl ⟨rfl, _, rfl, hle1, ⟨_, rfl, ?_⟩⟩
   exact ⟨false, _, rfl, .inr ⟨u, _, _, _, _, _, Tg hb hle, rfl, rfl, hFu⟩⟩
  refine AQ (.inr (by kernel_rfl)) (fun _ _ h => h) fun ds => Aj (Af 3) <| Ae rfl rfl Aa rfl <| Aj (Af 1) <| Ae rfl rfl Aa rfl <| Aj (Af 1) <| Ae rfl rfl Aa rfl <| Aj (Af 1) <| Ae rfl rfl Aa rfl <| Aj (Af 1) <| Ae rfl rfl Aa rfl <| Aj (Af 1) <| Ag rfl (Ar Aa rfl Aa) <| Ao <| Ab <| Ad Aa (dF (by omega)) <| Al <| Ab <| Ac <| AQ (.inr (by kernel_rfl)) (fun _ _ h => h) fun ds => Ag rfl (AC (vs := [.slice none 0 0, w1, .int .i64 (piecesC c x), w3, w4, w5, .int .i64 (allZ c x)]) HD Aa rfl rfl (Bz 0 rfl)) <| AS <| AP HN Aa Aa (i := 2) rfl rfl rfl rfl (by intro u hu; simp only [List.mem_cons, List.not_mem_nil, or_false] at hu; rcases hu with rfl | rfl | rfl | rfl | rfl | rfl | rfl <;> first | rfl | exact g1.plain.one | exact g3.plain.one | exact g4.plain.one | exact g5.plain.one) (.next <| .next <| .here) <| AS <| Bf Or Aa Aa (i := 1) rfl (.here) rfl (.next <| .here) <| Ao <| Ab <| Ac <| AQ (.inr (by kernel_rfl)) (fun _ _ h => h) fun ds => Aj (Af 1) <| Ag rfl (A4 A9 Aa (hO.plain (by omega))) <| A5 rfl <| Ft (k := x.length) A9 Di rfl rfl Aa Aa rfl (by omega) (by omega) fun b56 hb56 nb56 => Aj (Af 1) <| AS <| Bf Dg Aa Aa (i := 3) rfl (.here) rfl (.next <| .next <| .next <| .here) <| Ao <| Ab <| AQ (.inr (by kernel_rfl)) (fun _ _ h => h) fun ds => Aj (Af 3) ?_
  refine A5 rfl <| Nn (s := 1) rfl A9 Aa Aa (i := 0) rfl (by simp) (hO.srcR (fun p hp => .tail _ (.tail _ (.tail _ (.tail _ (.tail _ (.tail _ (hp))))))) GT) (.here) <| AJ (i := 0) rfl hb56 (.here) fun F57 hF58 hz39 => ?_
  replace hle1 := hle1.mono hF58
  replace g1 := g1.mono hF58
  replace g3 := g3.mono hF58
  replace g4 := g4.mono hF58
  replace g5 := g5.mono hF58
  refine Ao <| A0 <| C3 (.one (.next <| .next <| .next <| .here) <| .one (.next <| .next <| .next <| .here) <| .blk (.next <| .next <| .next <| .last) <| .one (.next <| .here) <| .one (.next <| .here) <| .nil) ?_
  refine .inl ⟨rfl, _, rfl, hle1, ⟨_, rfl, ?_⟩⟩
  exact ⟨false, _, rfl, .inr ⟨x, _, _, _, _, _, (Tf hb hle), rfl, rfl, ⟨Gi hz39 rfl (Nat.le_refl _) (by omega), g1, g3, g4, g5⟩⟩⟩
 obtain ⟨fi, bv, rfl, hbest⟩ := hJ
 have hne : truC c ≠ [] := TD
 obtain ⟨u, v0, v1, v3, v4, v5, hb, rfl, rfl, hFu⟩ := hbest.resolve_left (fun h => hne h.1)
 refine A0 <| Ab <| Ac <| Am fun ds => Ag rfl (AC (vs := (fltV v0 v1 v3 v4 v5 c u)) HD Aa rfl rfl (Bz 1 rfl)) <| AS <| AP HN Aa Aa (i := 1) rfl rfl rfl rfl hFu.ones (.next <| .here) <| Aw (Af 1) <| At <| KA <| Ap rfl (.agg HD Aa rfl rfl (Bz 1 rfl) Bd) ?_
 exact ⟨v0, v1, v3, v4, v5, u, rfl, hb, hFu⟩
end
section
theorem QE : ∀ {l : List (List Int)}, (∀ x ∈ l, x.length ≤ 4) → (trL l).length ≤ 4 ^ doubts l
 | [], _ => by simp [trL, doubts]
 | x :: l, h => by
   have ih := QE (l := l) fun y hy => h y (by simp [hy])
   have hx := h x (by simp)
   have hd : doubts (x :: l) = (if 1 < x.length then 1 else 0) + doubts l := by
     unfold doubts
     by_cases h1 : 1 < x.length
     · simp [h1]; omega
     simp [h1]
   have hl : (trL (x :: l)).length = (if x = [] then [-1] else x).length * (trL l).length := by
     show (((if x = [] then [-1] else x) : List Int).flatMap fun n => (trL l).map (n :: ·)).length = _
     generalize (if x = [] then [-1] else x) = y
     induction y with
     | nil => simp
     | cons a y ih => rw [List.flatMap_cons, List.length_append, ih, List.length_map, List.length_cons, Nat.add_mul, Nat.one_mul]; omega
   rw [hl, hd]
   by_cases h1 : 1 < x.length
   · rw [if_pos h1, Nat.pow_add]
     refine Nat.mul_le_mul ?_ ih
     split
     · simp
     simpa using hx
   rw [if_neg h1, Nat.zero_add]
   have h2 : (if x = [] then [-1] else x).length ≤ 1 := by
     split
     · simp
     omega
   have h3 := Nat.mul_le_mul h2 ih
   omega
theorem T8 {c : Cpc} (hv : ValidC c) : (truC c).length ≤ 64 := by
 have h := QE (l := c.items) fun x hx => (hv.item x hx).many
 have h2 := hv.few
 unfold truC
 refine Nat.le_trans h ?_
 have : (4 : Nat) ^ doubts c.items ≤ 4 ^ 3 := Nat.pow_le_pow_right (by omega) h2
 simpa using this
def gotT (q : List Int → List Int) (ts : List (List Int)) : List Int := ts.flatMap q
theorem SK {q : List Int → List Int} {ts : List (List Int)} {t : List Int} : gotT q (ts ++ [t]) = gotT q ts ++ q t := by simp [gotT]
theorem L5 {q : List Int → List Int} {m : Nat} (h : ∀ t, (q t).length ≤ m) : ∀ ts : List (List Int), (gotT q ts).length ≤ ts.length * m
 | [] => by simp [gotT]
 | t :: ts => by
   have ih := L5 h ts
   have h1 := h t
   show ((q t) ++ gotT q ts).length ≤ _
   rw [List.length_append, List.length_cons, Nat.add_mul]
   omega
def manyF (l : List Int) (j : Nat) : Int := cnt l (j : Int)
theorem PX {l : List Int} {x : Int} (h : 0 ≤ x) : manyF (l ++ [x]) = setN (manyF l) x.toNat (manyF l x.toNat + 1) := by
 funext j
 unfold manyF setN
 rw [Ph]
 unfold setZ
 have hx : (x.toNat : Int) = x := by omega
 by_cases hj : j = x.toNat
 · subst hj; rw [if_pos hx, if_pos rfl, hx]
 rw [if_neg (by omega), if_neg hj]
theorem U4 {l : List Int} {j : Nat} : 0 ≤ manyF l j ∧ manyF l j ≤ l.length := NP
theorem S3 : manyF [] = fun _ => 0 := by funext j; rfl
def pickTo (p : Nat → Bool) (n : Nat) : List Int := ((List.range n).filter p).map fun (i : Nat) => (i : Int)
theorem E5 {p : Nat → Bool} {n : Nat} (h : p n = true) : pickTo p (n + 1) = pickTo p n ++ [(n : Int)] := by
 unfold pickTo; rw [List.range_succ, List.filter_append]; simp [h]
theorem DE {p : Nat → Bool} {n : Nat} (h : p n = false) : pickTo p (n + 1) = pickTo p n := by
 unfold pickTo; rw [List.range_succ, List.filter_append]; simp [h]
theorem DF {p : Nat → Bool} {n : Nat} : (pickTo p n).length ≤ n := by
 unfold pickTo; rw [List.length_map]; have := List.length_filter_le p (List.range n); rwa [List.length_range] at this
def sureB (f : Nat → Int) (times : Int) (j : Nat) : Bool := decide (f j = times)
def mayF (f : Nat → Int) (j : Nat) : Bool := decide (0 < f j)
def sureT (q : List Int → List Int) (ts : List (List Int)) (n : Nat) : List Int := pickTo (sureB (manyF (gotT q ts)) ts.length) n
def mayT (q : List Int → List Int) (ts : List (List Int)) (n : Nat) : List Int := pickTo (mayF (manyF (gotT q ts))) n
theorem Sa {n : Nat} : List.replicate n (Go.Value.int .i64 0) = rowN n fun _ => 0 := by
 unfold rowN
 induction n with
 | zero => rfl
 | succ n ih => rw [List.replicate_succ', List.range_succ, List.map_append, ih]; rfl
end
section
set_option maxRecDepth 100000
open Go.RowKit
theorem bd_55 : Body Tryz.prog 55 := AE (by kernel_rfl)
theorem bd_57 : Body Tryz.prog 57 := AE (by kernel_rfl)
theorem bd_91 : Body Tryz.prog 91 := AE (by kernel_rfl)
theorem bd_92 : Body Tryz.prog 92 := AE (by kernel_rfl)
theorem QR : OneT Tryz.prog 130 := BE (by kernel_rfl)
instance : OneI Tryz.prog 130 := ⟨QR⟩
theorem QQ : OneT Tryz.prog 131 := BE (by kernel_rfl)
instance : OneI Tryz.prog 131 := ⟨QQ⟩
theorem TF {F : Heap} {gf ga : FuncId} {cs csa : List Value} {xs : List (List Int)} {N : Nat} {M : Int} {q : List Int → List Int} (hgf : Body Tryz.prog gf) (hit : IterZ Tryz.prog gf cs F 3 (fun t => t) (fun _ v => v) xs) (hga : Body Tryz.prog ga) (hask : ∀ G t v, F.le G → Ints G v t → TrB M t → OkN Tryz.prog ga ([v] ++ csa).toArray G fun u _ Hn => Own 3 1 u (q t).length ((q t).flatMap intE) Hn) (hq : ∀ t ∈ xs, ∀ z ∈ q t, 0 ≤ z ∧ z < N) (hql : ∀ t, (q t).length ≤ 120) (hxl : xs.length ≤ 64) (hN : N ≤ 120) (htb : ∀ t ∈ xs, TrB M t) : Ok Tryz.prog 91 [.func (.func gf) #[] cs.toArray, .func (.func ga) #[] csa.toArray, .int .i64 (N : Int)].toArray F fun u F' => ∃ v1 v2, u = .tuple #[v1, v2] ∧ Ints F' v1 (sureT q xs N) ∧ Ints F' v2 (mayT q xs N) := by
 have hle0 : F.le F := Heap.le_refl _
 refine Ok.intro Tryz.func91 rfl Tryz.ntmps91 rfl fun w0 => Ac <| Am fun ds => A5 rfl <| Bg Aa rfl fun b1 hb1 nb1 => Aw (Af 2) <| AK (i := 0) rfl hb1 (.here) fun F2 hF3 hz4 => ?_
 replace hle0 := Heap.le_trans hle0 hF3
 refine Az (Af 1) fun ds => A5 rfl <| Ft (k := N) A9 Di rfl rfl Aa Aa rfl (by omega) (by omega) fun b4 hb4 nb4 => A5 rfl <| AO JX rfl fun b5 hb5 nb5 => A5 rfl <| AO B2 rfl fun b6 hb6 nb6 => AS <| Bf Dg Aa Aa (i := 1) rfl (.here) rfl (.next <| .here) <| AS <| Bf DA Aa Aa (i := 0) rfl (.here) rfl (.here) <| Ao <| Ab <| Ac <| Ac <| AK (i := 1) rfl hb5 (.next <| .here) fun F7 hF8 hz8 => ?_
 replace hle0 := Heap.le_trans hle0 hF8
 replace hz4 := hF8 _ _ hz4
 refine Am fun ds => Aw (Af 1) <| Aq ?_
 refine FK rfl Aa hgf hit hle0 (fun pre _ H => H = [(b6, bx 3 [.int .i64 ((pre.length : Int))]), (b4, bx 3 (rowN N (manyF (gotT q pre))))]) (fun _ _ _ => False) (fun _ _ _ _ _ h => h) (fun _ _ _ _ _ h => h) (by rw [Sa, ← S3]; rfl) (fun L D fn tm pre x rest G1 H1 v R1 hxs hle1 hJ hO => ?_) (fun _ _ _ _ h => h.elim) (fun F2 H1 hF2 hJ => ?_)
 ·replace hle0 := Heap.le_trans hle0 hle1
  replace hz4 := hle1 _ _ hz4
  replace hz8 := hle1 _ _ hz8
  obtain rfl := hJ
  have hO : Own 3 1 v x.length (x.flatMap intE) R1 := hO
  have hxm : x ∈ xs := by rw [hxs]; simp
  have htl := (htb x hxm).len
  have hqm := hq x hxm
  have hql1 := hql x
  have hgl := L5 hql pre
  have hpl : pre.length + 1 ≤ 64 := by rw [hxs] at hxl; simp only [List.length_append, List.length_cons] at hxl; omega
  refine ⟨rfl, rfl, fun w1 => ?_⟩
  refine Jz (e' := (upd _ 18 v)) rfl rfl <| AQ (.inr (by kernel_rfl)) (fun _ _ h => h) fun ds => Aj (Af 1) <| Ao ?_
  refine Ab ⟨_, rfl, ?_⟩
  refine Cs (.one (.next <| .next <| .skip <| .here) <| .one (.next <| .next <| .lastS) <| .one (.here) <| .one (.here) <| .lastb (.last)) <| Aq <| Ac <| AQ (.inr (by kernel_rfl)) (fun _ _ h => h) fun ds => Aj (Af 1) <| Ag rfl (AG Aa Aa rfl (by omega) (by omega)) <| AS <| Bf DA Aa Aa (i := 0) rfl (.here) rfl (.here) <| Ao <| Ab <| Ac <| AQ (.inr (by kernel_rfl)) (fun _ _ h => h) fun ds => Ag rfl (Ak QQ Aa (AA hz4 rfl)) <| Aj (Af 1) <| A5 rfl <| Ew hga Aa AW (fun G hG hGo => hask G x v (Heap.le_trans hle0 hG) (hO.sl (fun _ => rfl) (fun p hp => hGo p (by simp [hp])) (by omega)) (htb x hxm)) fun v9 R13 hr11 => ?_
  have ho23 : Own 3 1 v9 (q x).length ((q x).flatMap intE) R13 := hr11
  refine Ag rfl (A4 A9 Aa (ho23.plain (by omega))) <| Aw (Af 1) <| Ch (σ := ⟨_, _⟩) (by intro m hm; simp [keys] at hm ⊢; rcases hm with h | h | h | h | h <;> simp [h]) ho23 (.z) .more fun F14 hF15 hz16 => ?_
  replace hle1 := hle1.mono hF15
  replace hz8 := hF15 _ _ hz8
  refine Cs (.one (.skip <| .here) <| .one (.skip <| .here) <| .one (.skip <| .here) <| .one (.skip <| .here) <| .lastb (.lastS)) ?_
  have hq1 := ho23.sl (fun _ => rfl) hz16 (by omega)
  refine Jy (i := 2) rfl (fun _ => .next <| .next <| .here) fun oL hoL => Aq ?_
  refine AL [12, 25, 26, 27, 28, 29, 30, 31, 32, 33, 34, 35] (fun m e σ => ∃ k : Nat, m + k = (q x).length ∧ Fct e 25 (.int .i64 (k : Int)) ∧ σ = ⟨F14, [(b6, bx 3 [.int .i64 ((pre.length : Int) + 1)]), (b4, bx 3 (rowN N (manyF (gotT q pre ++ (q x).take k)))), (L, oL), (D, openO)] ++ R1⟩) ((q x).length) ?_ ?_
  · exact ⟨0, by omega, AX, by rw [List.take_zero, List.append_nil]; rfl⟩
  rintro m e _ ⟨k, hm, hs25, rfl⟩
  by_cases hk : k < (q x).length
  ·refine Ac <| AQ (.inr (by kernel_rfl)) (fun _ _ h => h) fun ds => Aw (Af 1) <| Ac <| Ai Aa (by first | rfl | exact dT (by omega)) ?_
   have hkq := hqm _ (List.getElem_mem hk)
   have hmb := U4 (l := gotT q pre ++ (q x).take k) (j := ((q x)[k]).toNat)
   have hml : (gotT q pre ++ (q x).take k).length ≤ 10000 := by rw [List.length_append]; have := List.length_take_le k (q x); omega
   refine Al <| Ab <| Ac <| Aq <| Ac <| AQ (.inr (by kernel_rfl)) (fun _ _ h => h) fun ds => Ag rfl (A1 (k := k) A9 Aa hq1.plain Aa rfl hk) <| Ag rfl (Ak AF Aa (hq1.cell1 hk rfl)) <| Aw (Af 1) <| AQ (.inr (by kernel_rfl)) (fun _ _ h => h) fun ds => Ag rfl (Ak Bq Aa (AA hz8 rfl)) <| Aj (Af 1) <| Ag rfl (A1 (k := ((q x)[k]).toNat) A9 Aa (Ck (Nat.le_refl _) (by omega)) Aa (by omega) (by omega)) <| Ag rfl (Ak AF Aa (Cell.own 1 rfl (D1 (by omega)))) <| Ag rfl (AG Aa Aa rfl (by omega) (by omega)) <| Ag rfl (A1 (k := ((q x)[k]).toNat) A9 Aa (Ck (Nat.le_refl _) (by omega)) Aa (by omega) (by omega)) <| AS <| Df DA Aa rfl Aa (i := 1) rfl (by rw [KY]; show 0 + ((q x)[k]).toNat * 1 < N; omega) rfl (.next .here) <| Ao <| A0 <| Ab <| AQ (.inr (by kernel_rfl)) (fun _ _ h => h) fun ds => Ag rfl (AG Aa Aa rfl (by omega) (by omega)) <| Aj (Af 1) <| Ao ?_
   refine Ab ⟨_, m - 1, Off.eq (BR rfl <| Ca rfl <| A2), by omega, ?_⟩
   have hst := KX (n := N) (f := manyF (gotT q pre ++ (q x).take k)) (i := ((q x)[k]).toNat) (v := manyF (gotT q pre ++ (q x).take k) ((q x)[k]).toNat + 1)
   rw [← PX hkq.1, List.append_assoc, ← List.take_succ_eq_append_getElem hk] at hst
   exact ⟨k + 1, by omega, AX, congrArg (fun z => (⟨F14, (b6, bx 3 [.int .i64 ((pre.length : Int) + 1)]) :: (b4, bx 3 z) :: (L, oL) :: (D, openO) :: R1⟩ : St)) hst⟩
  refine Ac <| AQ (.inr (by kernel_rfl)) (fun _ _ h => h) fun ds => Aw (Af 1) <| Ac <| Ad Aa (by first | rfl | exact dF (by omega)) ?_
  obtain rfl : k = (q x).length := by omega
  subst hoL
  refine AH ?_
  refine A8 <| A8 <| AB <| A0 <| C3 (.one (.next <| .next <| .here) <| .one (.next <| .next <| .here) <| .blk (.next <| .next <| .last) <| .one (.here) <| .one (.here) <| .nil) ?_
  refine .inl ⟨rfl, _, rfl, hle1, ⟨_, rfl, ?_⟩⟩
  show (_ : List (Nat × Obj)) = _
  rw [SK, List.take_length, List.length_append]; rfl
 replace hz8 := hF2 _ _ hz8
 obtain rfl := hJ
 have hgl := L5 hql xs
 refine A0 <| Ab <| Ac <| Ac <| Am fun ds => Ag rfl (Ak Bq Aa (AA hz8 rfl)) <| Ag rfl (A4 A9 Aa (Ck (Nat.le_refl _) (by omega))) <| Aw (Af 1) <| Aq ?_
 refine AL [6, 7, 13, 14, 38, 39, 40, 41, 42, 43, 44, 45, 46, 47, 48, 49, 50, 51, 52, 53, 54, 55, 56] (fun m e σ => ∃ (k : Nat) (v6 v7 : Value) (R6 R7 : List (Nat × Obj)), m + k = N ∧ Fct e 38 (.int .i64 (k : Int)) ∧ Fct e 6 v6 ∧ Fct e 7 v7 ∧ Own 3 1 v6 (pickTo (sureB (manyF (gotT q xs)) xs.length) k).length ((pickTo (sureB (manyF (gotT q xs)) xs.length) k).flatMap intE) R6 ∧ Own 3 1 v7 (pickTo (mayF (manyF (gotT q xs))) k).length ((pickTo (mayF (manyF (gotT q xs))) k).flatMap intE) R7 ∧ σ = ⟨F2, (b6, bx 3 [.int .i64 ((xs.length : Int))]) :: (b4, bx 3 (rowN N (manyF (gotT q xs)))) :: (R6 ++ R7)⟩) (N) ?_ ?_
 · exact ⟨0, _, _, [], [], by omega, AX, AX, AX, BZ, BZ, rfl⟩
 rintro m e _ ⟨k, v6, v7, R6, R7, hm, hs38, hs6, hs7, ho6, ho7, rfl⟩
 by_cases hk : k < N
 ·refine AD (Af 1) <| Ac <| Ai Aa (by first | rfl | exact dT (by omega)) ?_
  have hlS := DF (p := sureB (manyF (gotT q xs)) xs.length) (n := k)
  have hlM := DF (p := mayF (manyF (gotT q xs))) (n := k)
  by_cases h0 : (manyF (gotT q xs)) k = (xs.length : Int)
  ·refine Al <| Ab <| Ac <| Aq <| Az (Af 1) fun ds => Ag rfl (A1 (k := k) A9 Aa (Ck (Nat.le_refl _) (by omega)) Aa rfl hk) <| Ag rfl (Ak AF Aa (Cell.own 1 rfl (D1 hk))) <| Aw (Af 2) <| Ac <| AD (Af 3) <| Ai Aa (dT h0) ?_
   by_cases h1 : 0 < (manyF (gotT q xs)) k
   ·refine Am fun ds => Aj (Af 2) <| A5 rfl <| AM A9 B2 rfl (.cons Aa .nil) rfl rfl (by decide) (by simp [Value.oneCell']) fun b19 hb19 nb19 => A5 rfl <| Bp A9 Di Aa ho6 Aa (B1 (s := 1) 0 rfl rfl (by simp [Value.oneCell'])) (by omega) (by omega) (.s <| .s <| .s <| .z) .more fun v20 R21 ho22 => ?_
    have ho6b : Own 3 1 v20 (pickTo (sureB (manyF (gotT q xs)) xs.length) (k + 1)).length ((pickTo (sureB (manyF (gotT q xs)) xs.length) (k + 1)).flatMap intE) R21 := by rw [E5 (dT h0)]; exact Own.snoc ho22 rfl rfl
    refine Aw (Af 1) <| AD (Af 2) <| Ai Aa (dT h1) <| Am fun ds => Aj (Af 2) <| A5 rfl <| AM A9 B2 rfl (.cons Aa .nil) rfl rfl (by decide) (by simp [Value.oneCell']) fun b23 hb23 nb23 => A5 rfl <| Bp A9 Di Aa ho7 Aa (B1 (s := 1) 0 rfl rfl (by simp [Value.oneCell'])) (by omega) (by omega) (.s <| .s <| .s <| .s <| .k <| .z) .last fun v24 R25 ho26 => ?_
    have ho7b : Own 3 1 v24 (pickTo (mayF (manyF (gotT q xs))) (k + 1)).length ((pickTo (mayF (manyF (gotT q xs))) (k + 1)).flatMap intE) R25 := by rw [E5 (dT h1)]; exact Own.snoc ho26 rfl rfl
    refine Aj (Af 1) <| Ao <| A0 <| Ab <| Bn (fun _ _ h => h.drop (kD <| kD <| kK <| kK <| .refl _)) <| Am fun ds => Ag rfl (AG Aa Aa rfl (by omega) (by omega)) <| Aj (Af 1) <| Ao ?_
    refine Ab ⟨_, m - 1, Off.eq (B3 rfl <| Ca rfl <| BM rfl <| BX rfl <| A2), by omega, ?_⟩
    exact ⟨k + 1, _, _, _, _, by omega, AX, AX, AX, ho6b, ho7b, rfl⟩
   refine Am fun ds => Aj (Af 2) <| A5 rfl <| AM A9 B2 rfl (.cons Aa .nil) rfl rfl (by decide) (by simp [Value.oneCell']) fun b27 hb27 nb27 => A5 rfl <| Bp A9 Di Aa ho6 Aa (B1 (s := 1) 0 rfl rfl (by simp [Value.oneCell'])) (by omega) (by omega) (.s <| .s <| .s <| .z) .more fun v28 R29 ho30 => ?_
   have ho6b : Own 3 1 v28 (pickTo (sureB (manyF (gotT q xs)) xs.length) (k + 1)).length ((pickTo (sureB (manyF (gotT q xs)) xs.length) (k + 1)).flatMap intE) R29 := by rw [E5 (dT h0)]; exact Own.snoc ho30 rfl rfl
   refine Aw (Af 1) <| AD (Af 2) <| Ad Aa (dF h1) <| Al <| A0 <| Ab <| Bn (fun _ _ h => h.drop (kD <| kK <| kK <| .refl _)) <| Am fun ds => Ag rfl (AG Aa Aa rfl (by omega) (by omega)) <| Aj (Af 1) <| Ao ?_
   refine Ab ⟨_, m - 1, Off.eq (B3 rfl <| BM rfl <| A2), by omega, ?_⟩
   exact ⟨k + 1, _, _, _, _, by omega, AX, AX, AX, ho6b, (by rw [DE (dF h1)]; exact ho7), rfl⟩
  refine Al <| Ab <| Ac <| Aq <| Az (Af 1) fun ds => Ag rfl (A1 (k := k) A9 Aa (Ck (Nat.le_refl _) (by omega)) Aa rfl hk) <| Ag rfl (Ak AF Aa (Cell.own 1 rfl (D1 hk))) <| Aw (Af 2) <| Ac <| AD (Af 3) <| Ad Aa (dF h0) ?_
  by_cases h1 : 0 < (manyF (gotT q xs)) k
  ·refine Al <| Ab <| AD (Af 2) <| Ai Aa (dT h1) <| Am fun ds => Aj (Af 2) <| A5 rfl <| AM A9 B2 rfl (.cons Aa .nil) rfl rfl (by decide) (by simp [Value.oneCell']) fun b31 hb31 nb31 => A5 rfl <| Bp A9 Di Aa ho7 Aa (B1 (s := 1) 0 rfl rfl (by simp [Value.oneCell'])) (by omega) (by omega) (.s <| .s <| .s <| .k <| .z) .last fun v32 R33 ho34 => ?_
   have ho7b : Own 3 1 v32 (pickTo (mayF (manyF (gotT q xs))) (k + 1)).length ((pickTo (mayF (manyF (gotT q xs))) (k + 1)).flatMap intE) R33 := by rw [E5 (dT h1)]; exact Own.snoc ho34 rfl rfl
   refine Aj (Af 1) <| Ao <| A0 <| Ab <| Bn (fun _ _ h => h.drop (kD <| kK <| kK <| .refl _)) <| Am fun ds => Ag rfl (AG Aa Aa rfl (by omega) (by omega)) <| Aj (Af 1) <| Ao ?_
   refine Ab ⟨_, m - 1, Off.eq (B3 rfl <| BM rfl <| A2), by omega, ?_⟩
   exact ⟨k + 1, _, _, _, _, by omega, AX, AX, AX, (by rw [DE (dF h0)]; exact ho6), ho7b, rfl⟩
  refine Al <| Ab <| AD (Af 2) <| Ad Aa (dF h1) <| Al <| A0 <| Ab <| Am fun ds => Ag rfl (AG Aa Aa rfl (by omega) (by omega)) <| Aj (Af 1) <| Ao ?_
  refine Ab ⟨_, m - 1, Off.eq (BR rfl <| Ca rfl <| BX rfl <| A2), by omega, ?_⟩
  exact ⟨k + 1, _, _, _, _, by omega, AX, AX, AX, (by rw [DE (dF h0)]; exact ho6), (by rw [DE (dF h1)]; exact ho7), rfl⟩
 refine AD (Af 1) <| Ac <| Ad Aa (by first | rfl | exact dF (by omega)) ?_
 obtain rfl : k = N := by omega
 have hlS := DF (p := sureB (manyF (gotT q xs)) xs.length) (n := k)
 have hlM := DF (p := mayF (manyF (gotT q xs))) (n := k)
 refine BJ (σ := ⟨_, _⟩) (by rfl) ho6 (.s <| .s <| .z) .more fun F35 hF36 hz37 => ?_
 refine Cs (.one (.here) <| .one (.here) <| .lastb (.lastS)) ?_
 have g6 := ho6.sl (fun _ => rfl) hz37 (by omega)
 refine BJ (σ := ⟨_, _⟩) (by rfl) ho7 (.s <| .s <| .z) .last fun F38 hF39 hz40 => ?_
 replace g6 := g6.mono hF39
 have hU136 := Heap.le_trans hF36 hF39
 have g7 := ho7.sl (fun _ => rfl) hz40 (by omega)
 refine AH ?_
 refine A8 <| A8 <| AB <| Ab <| AD (Af 4) <| At <| Ap rfl Bd ?_
 exact ⟨_, _, rfl, g6, g7⟩
theorem Vc {G : Heap} {vg : Value} {qs : List (Value × Gth)} {vi : Value} {is : List (Value × List Int)} {c : Cpc} {vl vm : Value} {p : Nat} (hX : CopR G 135 p vg qs vi is c vl vm) {gq : FuncId} {q : List Int → List Int} (hgq : Body Tryz.prog gq) (hgo : ∀ {G : Heap} {vl vm : Value} {p : Nat} {v : Value} {t : List Int}, CopR G 135 p vg qs vi is c vl vm → Ints G v t → TrB (allQ c.book).length t → OkN Tryz.prog gq [.pointer (some ⟨p, 0, none⟩), v].toArray G fun u _ Hn => Own 3 1 u (q t).length ((q t).flatMap intE) Hn) {b3 b7 : Nat} (z3 : G b3 = some (bx 130 [.func (.func gq) #[] #[]])) (z7 : G b7 = some (bx 103 [.pointer (some ⟨p, 0, none⟩)])) {v : Value} {t : List Int} (ht : Ints G v t) (hB : TrB (allQ c.book).length t) : OkN Tryz.prog 92 [v, .pointer (some ⟨b3, 0, none⟩), .pointer (some ⟨b7, 0, none⟩)].toArray G fun u _ Hn => Own 3 1 u (q t).length ((q t).flatMap intE) Hn := by
 refine OkN.intro Tryz.func92 rfl Tryz.ntmps92 rfl fun w0 => AD (Af 1) <| Ac <| Am fun ds => Ag rfl (Ak QR Aa (AA z3 rfl)) <| Ag rfl (Ak Cm Aa (AA z7 rfl)) <| Aj (Af 1) <| A5 rfl <| BY hgq Aa AW (hgo hX ht hB) fun v1 F2 R5 hr3 hF4 => ?_
 have ho8 : Own 3 1 v1 (q t).length ((q t).flatMap intE) R5 := hr3
 refine Aw (Af 1) <| At <| BK rfl Bd (.refl _) ?_
 exact ho8
theorem Rk {F : Heap} {vg vi : Value} {qs : List (Value × Gth)} {is : List (Value × List Int)} {c : Cpc} (hc : CpcR F vg qs vi is c) (hv : ValidC c) {gq : FuncId} {q : List Int → List Int} (hgq : Body Tryz.prog gq) (hgo : ∀ {G : Heap} {vl vm : Value} {p : Nat} {v : Value} {t : List Int}, CopR G 135 p vg qs vi is c vl vm → Ints G v t → TrB (allQ c.book).length t → OkN Tryz.prog gq [.pointer (some ⟨p, 0, none⟩), v].toArray G fun u _ Hn => Own 3 1 u (q t).length ((q t).flatMap intE) Hn) (hq : ∀ t, ∀ z ∈ q t, 0 ≤ z ∧ z < (allQ c.book).length) (hql : ∀ t, (q t).length ≤ 120) : Ok Tryz.prog 55 [.agg #[.int .i64 c.book.signed, vg, vi], .func (.func gq) #[] #[]].toArray F fun u F' => ∃ v1 v2, u = .tuple #[v1, v2, .int .i64 0] ∧ Ints F' v1 (sureT q (truC c) (allQ c.book).length) ∧ Ints F' v2 (mayT q (truC c) (allQ c.book).length) := by
 have hle0 : F.le F := Heap.le_refl _
 refine Ok.intro Tryz.func55 rfl Tryz.ntmps55 rfl fun w0 => Ac <| Am fun ds => A5 rfl <| Bg Aa rfl fun b1 hb1 nb1 => A5 rfl <| Bg Aa rfl fun b2 hb2 nb2 => Aw (Af 3) <| Ac <| AK (i := 1) rfl hb1 (.next <| .here) fun F3 hF4 hz2 => ?_
 replace hle0 := Heap.le_trans hle0 hF4
 refine AK (i := 0) rfl hb2 (.here) fun F5 hF6 hz3 => ?_
 replace hc := hc.mono (Heap.le_trans hF4 hF6)
 replace hle0 := Heap.le_trans hle0 hF6
 replace hz2 := hF6 _ _ hz2
 refine Am fun ds => Ag rfl (AC (vs := [.int .i64 c.book.signed, vg, vi]) CP Aa rfl rfl (Ba hz2)) <| A5 rfl <| Bi Nh Aa AW (Fh hc hv) fun v7 F8 hr9 hF10 => ?_
 replace hle0 := Heap.le_trans hle0 hF10
 obtain ⟨p, vl, vm, rfl, hX⟩ := hr9
 refine Aj (Af 5) <| A5 rfl <| AO Nm rfl fun b11 hb11 nb11 => AS <| Bf Nu Aa Aa (i := 0) rfl (.here) rfl (.here) <| Aw (Af 3) <| Ac <| AD (Af 2) <| Ad Aa (dF (fun h => h rfl)) <| AK (i := 0) rfl hb11 (.here) fun F12 hF13 hz7 => ?_
 replace hle0 := Heap.le_trans hle0 hF13
 replace hX := hX.mono hF13
 refine Al <| Ab <| Ac ?_
 have hleS := hle0
 refine BO (.inl rfl) (fun _ _ h => h) (List.nil_sublist _) [] (by kernel_rfl) fun ds => Au 0 rfl (List.nil_sublist _) (Ak Cm Aa (AA hz7 rfl)) <| Au 2 rfl (List.nil_sublist _) (Bt AW) <| Au 3 rfl (List.nil_sublist _) (Ak Cm Aa (AA hz7 rfl)) <| Au 4 rfl (List.nil_sublist _) (Bb Aa) <| Au 5 rfl (List.nil_sublist _) (AV L8 Aa) <| Au 6 rfl (List.nil_sublist _) (Ak Gf Aa (AA hX.blk rfl)) <| Au 7 rfl (List.nil_sublist _) (A4 Cq Aa hX.leaves.plain) ?_
 refine BU 1 rfl (by kernel_rfl) rfl (Bi Pw Aa AW (Fc hX) fun v14 F15 hr16 hF17 => ⟨fun _ _ _ h => (h.drop (List.nil_sublist _)).weak hF17 hleS, ?_⟩)
 replace hX := hX.mono hF17
 replace hz3 := (Heap.le_trans hF10 (Heap.le_trans hF13 hF17)) _ _ hz3
 replace hz7 := hF17 _ _ hz7
 obtain ⟨dt, rfl, hzt⟩ := hr16
 refine BU 8 rfl (by kernel_rfl) rfl (Bi bd_91 Aa AW (TF (N := (allQ c.book).length) (M := (allQ c.book).length) (q := q) (csa := [.pointer (some ⟨b2, 0, none⟩), .pointer (some ⟨b11, 0, none⟩)]) (cs := [.pointer (some ⟨dt, 0, none⟩)]) Pu (Dw hX hv hzt) bd_92 (fun G t v hG hi hb => Vc (hX.mono hG) hgq hgo (hG _ _ hz3) (hG _ _ hz7) hi hb) (fun t _ => hq t) hql (T8 hv) hv.leaves (fun t ht => Ey hv ht)) fun v18 F19 hr20 hF21 => ⟨fun _ _ _ h => (h.drop (List.nil_sublist _)).weak (Heap.le_trans hF17 hF21) hleS, ?_⟩)
 have hU189 := Heap.le_trans hF10 (Heap.le_trans hF13 (Heap.le_trans hF17 hF21))
 obtain ⟨v1, v2, rfl, hs1, hs2⟩ := hr20
 refine EU 9 rfl (by kernel_rfl) (by kernel_rfl) (by kernel_rfl) (by kernel_rfl) rfl rfl (fun _ h => (h.drop (List.nil_sublist _)).weak (Heap.le_trans hF17 hF21) hleS) (fun _ _ _ h => h) (AI Aa) <| EU 10 rfl (by kernel_rfl) (by kernel_rfl) (by kernel_rfl) (by kernel_rfl) rfl rfl (fun _ h => (h.drop (List.nil_sublist _)).weak (Heap.le_trans hF17 hF21) hleS) (fun _ _ _ h => h) (Ct Aa) <| EU 11 rfl (by kernel_rfl) (by kernel_rfl) (by kernel_rfl) (by kernel_rfl) rfl rfl (fun _ h => (h.drop (List.nil_sublist _)).weak (Heap.le_trans hF17 hF21) hleS) (fun _ _ _ h => h) (Ct Aa) <| EU 12 rfl (by kernel_rfl) (by kernel_rfl) (by kernel_rfl) (by kernel_rfl) rfl rfl (fun _ h => (h.drop (List.nil_sublist _)).weak (Heap.le_trans hF17 hF21) hleS) (fun _ _ _ h => h) (Bk Aa) <| EU 13 rfl (by kernel_rfl) (by kernel_rfl) (by kernel_rfl) (by kernel_rfl) rfl rfl (fun _ h => (h.drop (List.nil_sublist _)).weak (Heap.le_trans hF17 hF21) hleS) (fun _ _ _ h => h) (Bk Aa) ?_
 refine BC (by kernel_rfl) ?_ _
 refine Ab <| AD (Af 5) <| At <| Ap rfl Bd ?_
 exact ⟨_, _, rfl, hs1, hs2⟩
theorem U6 {F : Heap} {vg vi : Value} {qs : List (Value × Gth)} {is : List (Value × List Int)} {c : Cpc} (hc : CpcR F vg qs vi is c) (hv : ValidC c) : Ok Tryz.prog 23 [.agg #[.int .i64 c.book.signed, vg, vi]].toArray F fun u F' => ∃ v1 v2, u = .tuple #[v1, v2, .int .i64 0] ∧ Ints F' v1 (sureT (lostL c) (truC c) (allQ c.book).length) ∧ Ints F' v2 (mayT (lostL c) (truC c) (allQ c.book).length) := by
 have hvl := hv.leaves
 refine Ok.intro Tryz.func23 rfl Tryz.ntmps23 rfl fun w0 => Ac <| Am fun ds => A5 rfl <| Bg Aa rfl fun b1 hb1 nb1 => Aw (Af 3) <| AK (i := 0) rfl hb1 (.here) fun F2 hF3 hz1 => ?_
 replace hc := hc.mono hF3
 refine Ac <| Am fun ds => Ag rfl (AC (vs := [.int .i64 c.book.signed, vg, vi]) CP Aa rfl rfl (Ba hz1)) <| A5 rfl <| Bi bd_55 Aa AW (Rk hc hv (q := lostL c) bd_56 (fun hX ht hB => QU hX hv ht ⟨hB.len, fun i hi => by have := hB.at_ i hi; omega⟩) (fun t z hz => by obtain ⟨i, hi, rfl⟩ := List.mem_iff_getElem.1 hz; exact M5 hi) (fun t => Nat.le_trans FD hvl)) fun v4 F5 hr6 hF7 => ?_
 obtain ⟨v1, v2, rfl, hs1, hs2⟩ := hr6
 refine Aw (Af 6) <| At <| Ap rfl Bd ?_
 exact ⟨_, _, rfl, hs1, hs2⟩
theorem S7 {F : Heap} {vg vi : Value} {qs : List (Value × Gth)} {is : List (Value × List Int)} {c : Cpc} (hc : CpcR F vg qs vi is c) (hv : ValidC c) : Ok Tryz.prog 24 [.agg #[.int .i64 c.book.signed, vg, vi]].toArray F fun u F' => ∃ v1 v2, u = .tuple #[v1, v2, .int .i64 0] ∧ Ints F' v1 (sureT (looseL c) (truC c) (allQ c.book).length) ∧ Ints F' v2 (mayT (looseL c) (truC c) (allQ c.book).length) := by
 have hvl := hv.leaves
 refine Ok.intro Tryz.func24 rfl Tryz.ntmps24 rfl fun w0 => Ac <| Am fun ds => A5 rfl <| Bg Aa rfl fun b1 hb1 nb1 => Aw (Af 3) <| AK (i := 0) rfl hb1 (.here) fun F2 hF3 hz1 => ?_
 replace hc := hc.mono hF3
 refine Ac <| Am fun ds => Ag rfl (AC (vs := [.int .i64 c.book.signed, vg, vi]) CP Aa rfl rfl (Ba hz1)) <| A5 rfl <| Bi bd_55 Aa AW (Rk hc hv (q := looseL c) bd_57 (fun hX ht hB => U7 hX hv ht ⟨hB.len, fun i hi => by have := hB.at_ i hi; omega⟩) (fun t z hz => by obtain ⟨i, hi, rfl⟩ := List.mem_iff_getElem.1 hz; exact PZ hi) (fun t => Nat.le_trans Kp hvl)) fun v4 F5 hr6 hF7 => ?_
 obtain ⟨v1, v2, rfl, hs1, hs2⟩ := hr6
 refine Aw (Af 6) <| At <| Ap rfl Bd ?_
 exact ⟨_, _, rfl, hs1, hs2⟩
end
section
def zAt (l : List Int) (j : Nat) : Int := l[j]?.getD 0
theorem Md {l : List Int} {j : Nat} (h : j < l.length) : l[j] = zAt l j := by simp [zAt, h]
def swapZ (l : List Int) (j : Nat) : List Int := (l.set (j + 1) (zAt l j)).set j (zAt l (j + 1))
theorem Gz {l : List Int} {j : Nat} : (swapZ l j).length = l.length := by simp [swapZ]
def sinkZ (f : Int → Int) : Nat → List Int → List Int
 | 0, l => l
 | j + 1, l => if f (zAt l (j + 1)) - f (zAt l j) < 0 then sinkZ f j (swapZ l j) else l
theorem HP {f : Int → Int} {j : Nat} {l : List Int} (h : f (zAt l (j + 1)) - f (zAt l j) < 0) : sinkZ f (j + 1) l = sinkZ f j (swapZ l j) := if_pos h
theorem Nv {f : Int → Int} {j : Nat} {l : List Int} (h : ¬ f (zAt l (j + 1)) - f (zAt l j) < 0) : sinkZ f (j + 1) l = l := if_neg h
def isortTo (f : Int → Int) (l : List Int) : Nat → List Int
 | 0 => l
 | i + 1 => sinkZ f (i + 1) (isortTo f l i)
def isortZ (f : Int → Int) (l : List Int) : List Int := isortTo f l (l.length - 1)
theorem J8 {l : List Int} {j : Nat} {D : Int → Prop} (h : ∀ x ∈ l, D x) (hj : j + 1 < l.length) : ∀ x ∈ swapZ l j, D x := fun x hx => by
 have h1 : D (zAt l j) := by rw [← Md (show j < l.length by omega)]; exact h _ (List.getElem_mem _)
 have h2 : D (zAt l (j + 1)) := by rw [← Md hj]; exact h _ (List.getElem_mem _)
 unfold swapZ at hx
 rcases List.mem_or_eq_of_mem_set hx with hx | rfl
 · rcases List.mem_or_eq_of_mem_set hx with hx | rfl
   · exact h _ hx
   exact h1
 exact h2
theorem Mr {f : Int → Int} : ∀ {j : Nat} {l : List Int}, (sinkZ f j l).length = l.length
 | 0, _ => rfl
 | j + 1, l => by
   by_cases h : f (zAt l (j + 1)) - f (zAt l j) < 0
   · rw [HP h, Mr, Gz]
   rw [Nv h]
theorem Ms {f : Int → Int} {D : Int → Prop} : ∀ {j : Nat} {l : List Int}, (∀ x ∈ l, D x) → j < l.length → ∀ x ∈ sinkZ f j l, D x
 | 0, _, h, _ => h
 | j + 1, l, h, hj => by
   by_cases h1 : f (zAt l (j + 1)) - f (zAt l j) < 0
   · rw [HP h1]; exact Ms (J8 h hj) (by rw [Gz]; omega)
   rw [Nv h1]; exact h
theorem DV {f : Int → Int} {l : List Int} : ∀ {i : Nat}, (isortTo f l i).length = l.length
 | 0 => rfl
 | i + 1 => by show (sinkZ f (i + 1) (isortTo f l i)).length = _; rw [Mr, DV]
theorem Ks {f : Int → Int} {l : List Int} {D : Int → Prop} (h : ∀ x ∈ l, D x) : ∀ {i : Nat}, i < l.length → ∀ x ∈ isortTo f l i, D x
 | 0, _ => h
 | i + 1, hi => by
   show ∀ x ∈ sinkZ f (i + 1) (isortTo f l i), D x
   exact Ms (Ks h (by omega)) (by rw [DV]; exact hi)
theorem Lz {f : Int → Int} {l : List Int} : (isortZ f l).length = l.length := DV
theorem Nb {c : Cpc} : ∀ (ts : List (List Int)) (b : Option (List Int)) (t : List Int), ts.foldl (fun b t => match b with
 | none => some t
 | some u => if allZ c u ≤ allZ c t then some u else some t) b = some t → t ∈ ts ∨ b = some t
 | [], b, t, h => .inr h
 | x :: ts, b, t, h => by
   rw [List.foldl_cons] at h
   rcases Nb ts _ t h with h1 | h1
   · exact .inl (List.mem_cons_of_mem _ h1)
   cases b with
   | none => simp only [Option.some.injEq] at h1; exact .inl (by rw [h1]; simp)
   | some u =>
     simp only at h1
     split at h1
     · exact .inr h1
     simp only [Option.some.injEq] at h1; exact .inl (by rw [h1]; simp)
theorem Nc {c : Cpc} {ts : List (List Int)} {t : List Int} (h : bestT c ts = some t) : t ∈ ts := (Nb ts none t h).resolve_right (fun q => nomatch q)
theorem Jg {l : List Int} : l.flatMap intE = l.map fun z => Go.Value.int .i64 z := by
 induction l with
 | nil => rfl
 | cons x l ih => rw [List.flatMap_cons, ih]; rfl
theorem Eo {l : List Int} {i : Nat} {z : Int} : (l.flatMap intE).set i (.int .i64 z) = (l.set i z).flatMap intE := by
 rw [Jg, Jg, List.map_set]
def plainTo (c : Cpc) (t : List Int) : Nat → List Int
 | 0 => []
 | i + 1 => if 0 ≤ zAt t i ∧ (i : Int) ∉ twiceL c t then plainTo c t i ++ [(i : Int)] else plainTo c t i
theorem Sr {c : Cpc} {t : List Int} {i : Nat} (h1 : 0 ≤ zAt t i) (h2 : (i : Int) ∉ twiceL c t) : plainTo c t (i + 1) = plainTo c t i ++ [(i : Int)] := if_pos ⟨h1, h2⟩
theorem Su {c : Cpc} {t : List Int} {i : Nat} (h1 : ¬ 0 ≤ zAt t i) : plainTo c t (i + 1) = plainTo c t i := if_neg fun h => h1 h.1
theorem O7 {c : Cpc} {t : List Int} {i : Nat} (h2 : (i : Int) ∈ twiceL c t) : plainTo c t (i + 1) = plainTo c t i := if_neg fun h => h.2 h2
theorem Ga {c : Cpc} {t : List Int} : ∀ {i : Nat}, (plainTo c t i).length ≤ i
 | 0 => by simp [plainTo]
 | i + 1 => by
   have ih := Ga (c := c) (t := t) (i := i)
   unfold plainTo
   split
   · simp; exact ih
   omega
theorem Lj {c : Cpc} {t : List Int} : ∀ {i : Nat}, ∀ x ∈ plainTo c t i, 0 ≤ x ∧ x < i
 | 0 => by simp [plainTo]
 | i + 1 => by
   intro x hx
   have ih := Lj (c := c) (t := t) (i := i)
   unfold plainTo at hx
   split at hx
   · rcases List.mem_append.1 hx with h | h
     · have := ih x h; omega
     rw [List.mem_singleton] at h; subst h; omega
   have := ih x hx; omega
def leafF (t : List Int) (z : Int) : Int := zAt t z.toNat
def boundL (c : Cpc) (t : List Int) : List Int := isortZ (leafF t) (plainTo c t t.length)
end
section
set_option maxHeartbeats 1000000
set_option maxRecDepth 100000
open Go.RowKit
theorem bd_121 : Body Tryz.prog 121 := AE (by kernel_rfl)
theorem V3 : Body Tryz.prog 22 := AE (by kernel_rfl)
theorem bd_59 : Body Tryz.prog 59 := AE (by kernel_rfl)
theorem bd_60 : Body Tryz.prog 60 := AE (by kernel_rfl)
theorem bd_94 : Body Tryz.prog 94 := AE (by kernel_rfl)
theorem Qg {F : Heap} {v : Value} {n : Nat} {xs : List Int} {R0 : List (Nat × Obj)} {gc : FuncId} {csc : List Value} {D : Int → Prop} {f : Int → Int} (hO : Own 3 1 v n ((xs).flatMap intE) R0) (hn : xs.length = n) (hn12 : n ≤ 12) (hD : ∀ x ∈ xs, D x) (hgc : Body Tryz.prog gc) (hcmp : ∀ x y, D x → D y → Ok Tryz.prog gc ([Value.int .i64 x, Value.int .i64 y] ++ csc).toArray F fun r _ => r = .int .i64 (f x - f y)) : OkG Tryz.prog 121 [v, .int .i64 0, .int .i64 (n : Int), .func (.func gc) #[] csc.toArray].toArray F R0 (fun _ _ H2 => Own 3 1 v n ((isortZ f xs).flatMap intE) H2) := by
 refine OkG.intro Tryz.func121 rfl Tryz.ntmps121 rfl fun w0 => Az (Af 1) fun ds => Ag rfl (AG Aa Aa rfl (by omega) (by omega)) <| Aw (Af 1) <| Aq ?_
 refine AL [8, 9, 12, 13, 14, 15, 16, 17, 18, 19, 20, 21, 22, 23, 24, 25, 26, 27, 28, 29, 30, 31, 32, 33, 34, 35, 36, 37, 38, 39, 40, 41, 42, 43, 44, 45, 46, 47, 48, 49, 50, 51, 52] (fun m e σ => ∃ (i : Nat) (R : List (Nat × Obj)), m + i = n ∧ (i < n ∨ i = 0) ∧ Fct e 8 (.int .i64 ((i : Int) + 1)) ∧ Own 3 1 v n ((isortTo f xs i).flatMap intE) R ∧ σ = ⟨F, R⟩) (n) ?_ ?_
 · exact ⟨0, _, by omega, .inr rfl, AX, hO, rfl⟩
 rintro m e _ ⟨i, R1, hm, hin, hs8, ho, rfl⟩
 by_cases hi : i + 1 < n
 ·refine Ac <| AD (Af 3) <| Ai Aa (by first | rfl | exact dT (by omega)) <| Al <| Ab <| Ac <| Aq <| AD (Af 2) <| Aq ?_
  refine AL [9, 18, 19, 20, 21, 22, 23, 24, 25, 26, 27, 28, 29, 30, 31, 32, 33, 34, 35, 36, 37, 38, 39, 40, 41, 42, 43, 44, 45, 46, 47, 48, 49, 50, 51, 52] (fun m e σ => ∃ (j : Nat) (ys : List Int) (R : List (Nat × Obj)), m = j ∧ Fct e 9 (.int .i64 (j : Int)) ∧ j < ys.length ∧ ys.length = n ∧ (∀ y ∈ ys, D y) ∧ sinkZ f j ys = isortTo f xs (i + 1) ∧ Own 3 1 v n ((ys).flatMap intE) R ∧ σ = ⟨F, R⟩) ((i + 1)) ?_ ?_
  · exact ⟨i + 1, _, _, rfl, AX, by rw [DV]; omega, by rw [DV]; exact hn, Ks hD (by omega), rfl, ho, rfl⟩
  rintro m2 e2 _ ⟨j, ys, R2, hmj, ht9, hjl, hyl, hDy, hT, ho, rfl⟩
  by_cases hj : 0 < j
  ·obtain ⟨k, rfl⟩ : ∃ k, j = k + 1 := ⟨j - 1, by omega⟩
   have hk1 : k + 1 < ys.length := by omega
   have hk0 : k < ys.length := by omega
   have hd1 := hDy _ (List.getElem_mem hk1)
   have hd0 := hDy _ (List.getElem_mem hk0)
   have hz1 := Md hk1
   have hz0 := Md hk0
   by_cases hlt : f (zAt ys (k + 1)) - f (zAt ys k) < 0
   ·refine Ac <| Ac <| Bs (.inl rfl) (fun _ _ h => h) (by kernel_rfl) (by kernel_rfl) fun ds => AR (Af 4) <| A3 rfl rfl Aa (dT (by omega)) <| AR (Af 1) <| A3 rfl rfl Aa (dT (by omega)) <| AR (Af 1) <| A3 rfl rfl Aa (dT (by omega)) <| AR (Af 1) <| A3 rfl rfl Aa (dT (by omega)) <| AT rfl (A1 (k := k + 1) A9 Aa (ho.plain (by omega)) Aa rfl (by omega)) <| A3 rfl rfl Aa (dT (by omega)) <| AT rfl (Ak AF Aa (CI ho (fun p hp => hp) (L1 (by first | exact hk1 | exact hk0)))) <| A3 rfl rfl Aa (dT (by omega)) <| AR (Af 1) <| A3 rfl rfl Aa (dT (by omega)) <| AR (Af 1) <| A3 rfl rfl Aa (dT (by omega)) <| AT rfl (B4 Aa Aa rfl (by omega) (by omega)) <| A3 rfl rfl Aa (dT (by omega)) <| AT rfl (A1 (k := k) A9 Aa (ho.plain (by omega)) Aa (by push_cast; omega) (by omega)) <| A3 rfl rfl Aa (dT (by omega)) <| AT rfl (Ak AF Aa (CI ho (fun p hp => hp) (L1 (by first | exact hk1 | exact hk0)))) <| A3 rfl rfl Aa (dT (by omega)) <| FJ rfl (Ay hgc Aa AW (hcmp _ _ hd1 hd0) (fun _ _ h => h)) <| A3 rfl rfl Aa (dT (by omega)) <| AR (Af 1) <| AT rfl (Ar Aa (dT (by omega)) Aa) <| B0 <| Ab <| Ai Aa (dT (by rw [hz1, hz0]; exact hlt)) <| Al <| Ab ?_
    refine Ac <| Aq <| BO (.inl rfl) (fun _ _ h => h) (List.nil_sublist _) [17] (by kernel_rfl) fun ds => Au 0 rfl (List.nil_sublist _) (AI Aa) <| Au 1 rfl (List.nil_sublist _) (AI Aa) <| Au 2 rfl (List.nil_sublist _) (AI Aa) <| Au 3 rfl (List.nil_sublist _) (AI Aa) <| Au 4 rfl (List.nil_sublist _) (B4 Aa Aa rfl (by omega) (by omega)) <| Au 5 rfl (List.nil_sublist _) (AI Aa) <| Au 6 rfl (List.nil_sublist _) (AI Aa) <| Au 7 rfl (List.nil_sublist _) (B4 Aa Aa rfl (by omega) (by omega)) <| Au 8 rfl (List.nil_sublist _) (A1 (k := k) A9 Aa (ho.plain (by omega)) Aa (by push_cast; omega) (by omega)) ?_
    refine Au 10 rfl (List.nil_sublist _) (AI Aa) <| Au 11 rfl (List.nil_sublist _) (AI Aa) <| Au 12 rfl (List.nil_sublist _) (A1 (k := k + 1) A9 Aa (ho.plain (by omega)) Aa rfl (by omega)) ?_
    refine D9 [9, 13] (by kernel_rfl) (by decide) (UH ?_ ?_)
    ·refine C0 rfl rfl (Be (Ak AF Aa (CI ho (fun p hp => hp) (L1 (by first | exact hk1 | exact hk0)))).quiet ⟨fun _ _ => (fun _ h => h.drop (List.nil_sublist _)), ?_⟩)
     refine BU 13 rfl (by kernel_rfl) rfl (Be (Ak AF Aa (CI ho (fun p hp => hp) (L1 (by first | exact hk1 | exact hk0)))).quiet ⟨fun _ _ => (fun _ h => h.drop (List.nil_sublist _)), ?_⟩)
     refine Au 14 rfl (List.nil_sublist _) (A1 (k := k + 1) A9 Aa (ho.plain (by omega)) Aa rfl (by omega)) ?_
     refine Eg 15 rfl (by kernel_rfl) (Dv DA Aa Aa ho (by simp only [List.length_set, Cf]; omega) rfl (.z) .last fun R3 ho4 => ⟨fun _ _ => (fun _ h => h.drop (List.nil_sublist _)), ?_⟩)
     refine Au 16 rfl (List.nil_sublist _) (A1 (k := k) A9 Aa (ho4.plain (by omega)) Aa (by push_cast; omega) (by omega)) ?_
     refine Eg 17 rfl (by kernel_rfl) (Dv DA Aa Aa ho4 (by simp only [List.length_set, Cf]; omega) rfl (.z) .last fun R5 ho6 => ⟨(fun h => nomatch h), ?_⟩)
     refine BC (by kernel_rfl) ?_ _
     refine A0 <| Ab <| Am fun ds => Aj (Af 1) <| Ag rfl (B4 Aa Aa rfl (by omega) (by omega)) <| Aj (Af 1) <| Ao ?_
     refine Ab ⟨_, k, Off.eq (DT rfl <| Ca rfl <| A2), by omega, ?_⟩
     have hsw := Gz (l := ys) (j := k)
     refine ⟨k, swapZ ys k, _, by omega, Cr (congrArg (Value.int .i64) (by push_cast; omega)), by omega, by omega, J8 hDy hk1, by rw [← HP hlt]; exact hT, ?_, rfl⟩
     simp only [Nat.mul_one, Eo, hz0, hz1] at ho6
     exact ho6
    refine C0 rfl rfl (Be (Ak AF Aa (CI ho (fun p hp => hp) (L1 (by first | exact hk1 | exact hk0)))).quiet ⟨fun _ _ => (fun _ h => h.drop (List.nil_sublist _)), ?_⟩)
    refine BU 9 rfl (by kernel_rfl) rfl (Be (Ak AF Aa (CI ho (fun p hp => hp) (L1 (by first | exact hk1 | exact hk0)))).quiet ⟨fun _ _ => (fun _ h => h.drop (List.nil_sublist _)), ?_⟩)
    refine Au 14 rfl (List.nil_sublist _) (A1 (k := k + 1) A9 Aa (ho.plain (by omega)) Aa rfl (by omega)) ?_
    refine Eg 15 rfl (by kernel_rfl) (Dv DA Aa Aa ho (by simp only [List.length_set, Cf]; omega) rfl (.z) .last fun R7 ho8 => ⟨fun _ _ => (fun _ h => h.drop (List.nil_sublist _)), ?_⟩)
    refine Au 16 rfl (List.nil_sublist _) (A1 (k := k) A9 Aa (ho8.plain (by omega)) Aa (by push_cast; omega) (by omega)) ?_
    refine Eg 17 rfl (by kernel_rfl) (Dv DA Aa Aa ho8 (by simp only [List.length_set, Cf]; omega) rfl (.z) .last fun R9 ho10 => ⟨(fun h => nomatch h), ?_⟩)
    refine BC (by kernel_rfl) ?_ _
    refine A0 <| Ab <| Am fun ds => Aj (Af 1) <| Ag rfl (B4 Aa Aa rfl (by omega) (by omega)) <| Aj (Af 1) <| Ao ?_
    refine Ab ⟨_, k, Off.eq (DT rfl <| Ca rfl <| A2), by omega, ?_⟩
    have hsw := Gz (l := ys) (j := k)
    refine ⟨k, swapZ ys k, _, by omega, Cr (congrArg (Value.int .i64) (by push_cast; omega)), by omega, by omega, J8 hDy hk1, by rw [← HP hlt]; exact hT, ?_, rfl⟩
    simp only [Nat.mul_one, Eo, hz0, hz1] at ho10
    exact ho10
   refine Ac <| Ac <| Bs (.inl rfl) (fun _ _ h => h) (by kernel_rfl) (by kernel_rfl) fun ds => AR (Af 4) <| A3 rfl rfl Aa (dT (by omega)) <| AR (Af 1) <| A3 rfl rfl Aa (dT (by omega)) <| AR (Af 1) <| A3 rfl rfl Aa (dT (by omega)) <| AR (Af 1) <| A3 rfl rfl Aa (dT (by omega)) <| AT rfl (A1 (k := k + 1) A9 Aa (ho.plain (by omega)) Aa rfl (by omega)) <| A3 rfl rfl Aa (dT (by omega)) <| AT rfl (Ak AF Aa (CI ho (fun p hp => hp) (L1 (by first | exact hk1 | exact hk0)))) <| A3 rfl rfl Aa (dT (by omega)) <| AR (Af 1) <| A3 rfl rfl Aa (dT (by omega)) <| AR (Af 1) <| A3 rfl rfl Aa (dT (by omega)) <| AT rfl (B4 Aa Aa rfl (by omega) (by omega)) <| A3 rfl rfl Aa (dT (by omega)) <| AT rfl (A1 (k := k) A9 Aa (ho.plain (by omega)) Aa (by push_cast; omega) (by omega)) <| A3 rfl rfl Aa (dT (by omega)) <| AT rfl (Ak AF Aa (CI ho (fun p hp => hp) (L1 (by first | exact hk1 | exact hk0)))) <| A3 rfl rfl Aa (dT (by omega)) <| FJ rfl (Ay hgc Aa AW (hcmp _ _ hd1 hd0) (fun _ _ h => h)) <| A3 rfl rfl Aa (dT (by omega)) <| AR (Af 1) <| AT rfl (Ar Aa (dT (by omega)) Aa) <| B0 <| Ab <| Ad Aa (dF (by rw [hz1, hz0]; exact hlt)) ?_
   obtain rfl : ys = isortTo f xs (i + 1) := by rw [← hT, Nv hlt]
   refine AH ?_
   refine A8 <| A8 <| AB <| A0 <| Ab <| Am fun ds => Aj (Af 1) <| Ag rfl (AG Aa Aa rfl (by omega) (by omega)) <| Aj (Af 1) <| Ao ?_
   refine Ab ⟨_, m - 1, Off.eq (B3 rfl <| Ca rfl <| Cg rfl <| Ca rfl <| BX rfl <| A2), by omega, ?_⟩
   exact ⟨i + 1, _, by omega, by omega, Cr (congrArg (Value.int .i64) (by push_cast; omega)), ho, rfl⟩
  refine Ac <| Ac <| Bs (.inl rfl) (fun _ _ h => h) (by kernel_rfl) (by kernel_rfl) fun ds => AR (Af 4) <| A6 rfl rfl Aa (.inl (congrArg Value.bool (dF (by omega)))) rfl <| A6 rfl rfl Aa (.inl (congrArg Value.bool (dF (by omega)))) rfl <| A6 rfl rfl Aa (.inl (congrArg Value.bool (dF (by omega)))) rfl <| A6 rfl rfl Aa (.inl (congrArg Value.bool (dF (by omega)))) rfl <| A6 rfl rfl Aa (.inl (congrArg Value.bool (dF (by omega)))) rfl <| A6 rfl rfl Aa (.inl (congrArg Value.bool (dF (by omega)))) rfl <| A6 rfl rfl Aa (.inl (congrArg Value.bool (dF (by omega)))) rfl <| A6 rfl rfl Aa (.inl (congrArg Value.bool (dF (by omega)))) rfl <| A6 rfl rfl Aa (.inl (congrArg Value.bool (dF (by omega)))) rfl <| A6 rfl rfl Aa (.inl (congrArg Value.bool (dF (by omega)))) rfl <| A6 rfl rfl Aa (.inl (congrArg Value.bool (dF (by omega)))) rfl <| A6 rfl rfl Aa (.inl (congrArg Value.bool (dF (by omega)))) rfl <| AT rfl (As Aa (dF (by omega)) Aa) <| B0 <| Ab <| Ad Aa rfl ?_
  obtain rfl : j = 0 := by omega
  obtain rfl : ys = isortTo f xs (i + 1) := hT
  refine AH ?_
  refine A8 <| A8 <| AB <| A0 <| Ab <| Am fun ds => Aj (Af 1) <| Ag rfl (AG Aa Aa rfl (by omega) (by omega)) <| Aj (Af 1) <| Ao ?_
  refine Ab ⟨_, m - 1, Off.eq (B3 rfl <| Ca rfl <| Cg rfl <| Ca rfl <| BX rfl <| A2), by omega, ?_⟩
  exact ⟨i + 1, _, by omega, by omega, Cr (congrArg (Value.int .i64) (by push_cast; omega)), ho, rfl⟩
 refine Ac <| AD (Af 3) <| Ad Aa (by first | rfl | exact dF (by omega)) <| AH ?_
 refine A8 <| A8 <| AB <| G9 rfl .nil .all ?_
 rw [show isortZ f xs = isortTo f xs i from by unfold isortZ; congr 1; omega]
 exact ho
theorem PP {F : Heap} {v : Value} {n : Nat} {xs : List Int} {R0 : List (Nat × Obj)} {gc : FuncId} {csc : List Value} {D : Int → Prop} {f : Int → Int} (hO : Own 3 1 v n ((xs).flatMap intE) R0) (hn : xs.length = n) (hn12 : n ≤ 12) (hD : ∀ x ∈ xs, D x) (hgc : Body Tryz.prog gc) (hcmp : ∀ x y, D x → D y → Ok Tryz.prog gc ([Value.int .i64 x, Value.int .i64 y] ++ csc).toArray F fun r _ => r = .int .i64 (f x - f y)) {lim : Int} : OkG Tryz.prog 94 [v, .int .i64 0, .int .i64 (n : Int), .int .i64 lim, .func (.func gc) #[] csc.toArray].toArray F R0 (fun _ _ H2 => Own 3 1 v n ((isortZ f xs).flatMap intE) H2) := by
 refine OkG.intro Tryz.func94 rfl Tryz.ntmps94 rfl fun w0 => AD (Af 1) <| AD (Af 1) <| Aq ?_
 refine AL [1, 2, 3, 10, 11, 12, 13, 14, 15, 16, 17, 18, 19, 20, 21, 22, 23, 24, 25, 26, 27, 28, 29, 30, 31, 32, 33, 34, 35, 36, 37, 38, 39, 40, 41, 42, 43, 44, 45, 46, 47, 48, 49, 50, 51, 52, 53, 54, 55, 56, 57, 58, 59, 60, 61, 62, 63, 64, 65, 66, 67, 68, 69, 70, 71, 72, 73, 74, 75, 76, 77, 78, 79, 80, 81, 82, 83, 84, 85, 86, 87, 88, 89, 90, 91, 92, 93, 94, 95, 96, 97, 98, 99, 100, 101, 102, 103, 104, 105, 106, 107, 108, 109, 110, 111, 112, 113, 114, 115, 116, 117, 118, 119, 120, 121, 122, 123, 124, 125, 126, 127, 128, 129, 130, 131, 132, 133, 134, 135, 136, 137, 138, 139, 140, 141, 142, 143, 144, 145, 146, 147] (fun m e σ => Fct e 1 (.int .i64 0) ∧ Fct e 2 (.int .i64 (n : Int)) ∧ σ = ⟨F, R0⟩) (0) ?_ ?_
 · exact ⟨AX, AX, rfl⟩
 rintro m e _ ⟨hs1, hs2, rfl⟩
 refine Aq <| Az (Af 2) fun ds => Ag rfl (B4 Aa Aa rfl (by omega) (by omega)) <| Aw (Af 1) <| Ac <| AD (Af 2) <| Ai Aa (dT (by omega)) <| Az (Af 4) fun ds => A5 rfl <| EI bd_121 Aa AW rfl (Qg hO hn hn12 hD hgc hcmp) fun v6 F7 H10 hr8 hF9 => ?_
 have hO9 := hr8
 refine Ao <| Ab <| At ?_
 refine Ax (A7 (Ax (A7 ?_)))
 refine C1 rfl .nil .all ?_
 exact hO9
theorem TK {F : Heap} {v : Value} {n : Nat} {xs : List Int} {R0 : List (Nat × Obj)} {gc : FuncId} {csc : List Value} {D : Int → Prop} {f : Int → Int} (hO : Own 3 1 v n ((xs).flatMap intE) R0) (hn : xs.length = n) (hn12 : n ≤ 12) (hD : ∀ x ∈ xs, D x) (hgc : Body Tryz.prog gc) (hcmp2 : ∀ G, F.le G → ∀ x y, D x → D y → Ok Tryz.prog gc ([Value.int .i64 x, Value.int .i64 y] ++ csc).toArray G fun r _ => r = .int .i64 (f x - f y)) : OkG Tryz.prog 59 [v, .func (.func gc) #[] csc.toArray].toArray F R0 (fun _ _ H2 => Own 3 1 v n ((isortZ f xs).flatMap intE) H2) := by
 refine OkG.intro Tryz.func59 rfl Tryz.ntmps59 rfl fun w0 => Az (Af 1) fun ds => Ag rfl (A4 A9 Aa (hO.plain (by omega))) <| Aw (Af 1) <| Am fun ds => Aj (Af 3) <| Ag rfl (Ff ⟨_, Tryz.underlying3⟩ Tryz.underlying182 Aa (IntWalk.u64_in _ ⟨by omega, by omega⟩)) <| A5 rfl <| Bi bd_95 Aa AW (U9 (n := n) (by omega)) fun v1 F2 hr3 hF4 => ?_
 obtain ⟨q, rfl, -, -⟩ := hr3
 replace hcmp : ∀ x y, D x → D y → Ok Tryz.prog gc ([Value.int .i64 x, Value.int .i64 y] ++ csc).toArray _ fun r _ => r = .int .i64 (f x - f y) := fun x y hx hy => hcmp2 _ hF4 x y hx hy
 refine Aj (Af 1) <| A5 rfl <| EI bd_94 Aa AW rfl (PP hO hn hn12 hD hgc hcmp) fun v9 F10 H13 hr11 hF12 => ?_
 have hO9 := hr11
 refine Ao <| G9 rfl .nil .all ?_
 exact hO9
theorem SI {F : Heap} {v : Value} {xs : List Int} (h : Ints F v xs) (z : Int) : Ok Tryz.prog 93 [v, .int .i64 z].toArray F fun r _ => r = .int .i64 (findI (fun x => decide (z = x)) xs) := by
 have hlen := h.plain.lt
 refine Ok.intro Tryz.func93 rfl Tryz.ntmps93 rfl fun w0 => AD (Af 1) <| Ac <| Az (Af 1) fun ds => Ag rfl (A4 A9 Aa h.plain) <| Aw (Af 1) <| Aq ?_
 refine AL [4, 5, 8, 9, 10, 11, 12, 13, 14, 15, 16, 17, 18] (fun m e σ => ∃ k : Nat, m + k = xs.length ∧ Fct e 8 (.int .i64 (k : Int)) ∧ σ = ⟨F, []⟩ ∧ ∀ j (hj : j < xs.length), j < k → decide (z = xs[j]) = false) (xs.length) ?_ ?_
 · exact ⟨0, by omega, AX, rfl, fun j hj h => absurd h (by omega)⟩
 rintro m e _ ⟨k, hm, hs8, rfl, hno⟩
 by_cases hk : k < xs.length
 ·refine AD (Af 1) <| Ac <| Ai Aa (by first | rfl | exact dT (by omega)) ?_
  by_cases he : z = xs[k]
  ·refine Al <| Ab <| Ac <| Aq <| AD (Af 2) <| Az (Af 3) fun ds => Ag rfl (A1 (k := k) A9 Aa h.plain Aa rfl hk) <| Ag rfl (Ak AF Aa (h.cell1 hk rfl)) <| Aw (Af 1) <| Ai Aa (dT he) <| AD (Af 2) <| At ?_
   refine A7 (Ax (Ax (A7 (Ax ?_))))
   refine Ap rfl Bd ?_
   show _ = _
   rw [Co hk (dT he) hno]; rfl
  refine Al <| Ab <| Ac <| Aq <| AD (Af 2) <| Az (Af 3) fun ds => Ag rfl (A1 (k := k) A9 Aa h.plain Aa rfl hk) <| Ag rfl (Ak AF Aa (h.cell1 hk rfl)) <| Aw (Af 1) <| Ad Aa (dF he) <| Al <| A0 <| Ab <| Am fun ds => Ag rfl (AG Aa Aa rfl (by omega) (by omega)) <| Aj (Af 1) <| Ao ?_
  refine Ab ⟨_, m - 1, Off.eq (BR rfl <| BM rfl <| BX rfl <| A2), by omega, ?_⟩
  refine ⟨k + 1, by omega, AX, rfl, fun j hj hjk => ?_⟩
  rcases Nat.lt_succ_iff_lt_or_eq.1 hjk with hjk | rfl
  · exact hno j hj hjk
  exact dF he
 refine AD (Af 1) <| Ac <| Ad Aa (by first | rfl | exact dF (by omega)) <| AH ?_
 refine A8 <| A8 <| AB <| Ab <| AD (Af 1) <| At <| Ap rfl Bd ?_
 show _ = _
 rw [Cy fun j hj => hno j hj (by omega)]; rfl
theorem Jp {F : Heap} {v : Value} {xs : List Int} (h : Ints F v xs) (z : Int) : Ok Tryz.prog 58 [v, .int .i64 z].toArray F fun r _ => r = .bool (xs.any fun x => decide (z = x)) := by
 refine Ok.intro Tryz.func58 rfl Tryz.ntmps58 rfl fun w0 => AD (Af 1) <| Az (Af 2) fun ds => AN rfl (Ay bd_93 Aa AW (SI h z) (fun _ _ h => h)) <| Aw (Af 2) <| At <| Ap rfl Bd ?_
 show _ = _
 rw [← CM]; rfl
theorem Tb {F : Heap} {b4 : Nat} {v0 v1 v3 v4 v5 : Value} {c : Cpc} {t : List Int} (z4 : F b4 = some (bx 75 (fltV v0 v1 v3 v4 v5 c t))) (hf : FltF F v0 v1 v3 v4 v5 c t) (hB : TrB 1000 t) {x y : Int} (hx : 0 ≤ x ∧ x < t.length) (hy : 0 ≤ y ∧ y < t.length) : Ok Tryz.prog 60 [.int .i64 x, .int .i64 y, .pointer (some ⟨b4, 0, none⟩)].toArray F fun r _ => r = .int .i64 (leafF t x - leafF t y) := by
 refine Ok.intro Tryz.func60 rfl Tryz.ntmps60 rfl fun w0 => ?_
 have hxl : x.toNat < t.length := by omega
 have hyl : y.toNat < t.length := by omega
 have hx1 : t[x.toNat] = leafF t x := Md hxl
 have hy1 : t[y.toNat] = leafF t y := Md hyl
 have hbx := hB.at_ _ hxl
 have hby := hB.at_ _ hyl
 rw [hx1] at hbx
 rw [hy1] at hby
 refine AD (Af 1) <| Ac <| Bs (.inl rfl) (fun _ _ h => h) (by kernel_rfl) (by kernel_rfl) fun ds => AR (Af 1) <| AT rfl (Ak Bq Aa (AA z4 rfl)) <| AR (Af 1) <| AT rfl (A1 (k := x.toNat) A9 Aa hf.leaves.plain Aa (by omega) hxl) <| AT rfl (Ak AF Aa (hf.leaves.cell1 hxl rfl)) <| AR (Af 1) <| AT rfl (Ak Bq Aa (AA z4 rfl)) <| AR (Af 1) <| AT rfl (A1 (k := y.toNat) A9 Aa hf.leaves.plain Aa (by omega) hyl) <| AT rfl (Ak AF Aa (hf.leaves.cell1 hyl rfl)) <| AT rfl (B4 Aa Aa (by rw [hx1, hy1]) (by omega) (by omega)) <| AR (Af 1) <| B0 <| Ab <| At <| Ap rfl Bd ?_
 rfl
theorem Vu {F : Heap} {vg vi : Value} {qs : List (Value × Gth)} {is : List (Value × List Int)} {c : Cpc} (hc : CpcR F vg qs vi is c) (hv : ValidC c) (hs : c.items.length ≤ 12) : Ok Tryz.prog 25 [.agg #[.int .i64 c.book.signed, vg, vi]].toArray F fun r F' => ∃ (v : Value) (t : List Int), r = .tuple #[v, .int .i64 0] ∧ bestT c (truC c) = some t ∧ Ints F' v (boundL c t) := by
 have hvl := hv.leaves
 have hvm := hv.many
 refine Ok.intro Tryz.func25 rfl Tryz.ntmps25 rfl fun w0 => Ac <| Am fun ds => A5 rfl <| Bg Aa rfl fun b1 hb1 nb1 => Aw (Af 2) <| Ac <| AK (i := 0) rfl hb1 (.here) fun F2 hF3 hz1 => ?_
 replace hc := hc.mono hF3
 refine Am fun ds => Ag rfl (AC (vs := [.int .i64 c.book.signed, vg, vi]) CP Aa rfl rfl (Ba hz1)) <| A5 rfl <| Bi V3 Aa AW (H4 hc hv) fun v4 F5 hr6 hF7 => ?_
 obtain ⟨v0, v1, v3, v4, v5, t, rfl, hbt, hf⟩ := hr6
 have hB0 := Ey hv (Nc hbt)
 have hB : TrB 1000 t := ⟨hB0.len, fun i hi => by have := hB0.at_ i hi; omega⟩
 have htl := (On hv (Nc hbt)).1
 refine Aj (Af 3) <| A5 rfl <| AO JW rfl fun b8 hb8 nb8 => AS <| AP HN Aa Aa (i := 0) rfl rfl rfl rfl hf.ones (.here) <| Aw (Af 1) <| Ac <| AD (Af 2) <| Ad Aa (dF (fun h => h rfl)) <| AK (i := 0) rfl hb8 (.here) fun F9 hF10 hz4 => ?_
 have hU185 := Heap.le_trans hF7 hF10
 replace hf := hf.mono hF10
 refine Al <| Ab <| Ac <| Az (Af 1) fun ds => Ag rfl (Ak Bq Aa (AA hz4 rfl)) <| Ag rfl (A4 A9 Aa hf.leaves.plain) <| Aw (Af 1) <| Aq ?_
 refine AL [2, 5, 6, 18, 19, 20, 21, 22, 23, 24, 25, 26, 27, 28, 29, 30, 31, 32, 33, 34, 35, 36] (fun m e σ => ∃ (i : Nat) (v : Value) (R : List (Nat × Obj)), m + i = t.length ∧ Fct e 18 (.int .i64 (i : Int)) ∧ Fct e 2 v ∧ Own 3 1 v (plainTo c t i).length ((plainTo c t i).flatMap intE) R ∧ σ = ⟨F9, R⟩) (t.length) ?_ ?_
 · exact ⟨0, _, [], by omega, AX, AX, BZ, rfl⟩
 rintro m e _ ⟨i, v2, R2, hm, hs18, hs2, ho, rfl⟩
 by_cases hi : i < t.length
 ·refine AD (Af 1) <| Ac <| Ai Aa (by first | rfl | exact dT (by omega)) ?_
  have hpl := Ga (c := c) (t := t) (i := i)
  have hti := Md hi
  by_cases h0 : 0 ≤ zAt t i
  ·by_cases h1 : (i : Int) ∈ twiceL c t
   ·have ha : ((twiceL c t).any fun x => decide ((i : Int) = x)) = true := List.any_eq_true.2 ⟨_, h1, dT rfl⟩
    refine Al <| Ab <| Ac <| Aq <| Az (Af 1) fun ds => Ag rfl (A1 (k := i) A9 Aa hf.leaves.plain Aa rfl hi) <| Ag rfl (Ak AF Aa (hf.leaves.cell1 hi rfl)) <| Aw (Af 2) <| Az (Af 3) fun ds => Ae rfl rfl Aa (dT (by rw [hti]; exact h0)) <| Aj (Af 1) <| Ae rfl rfl Aa (dT (by rw [hti]; exact h0)) <| Ag rfl (Ak Bq Aa (AA hz4 rfl)) <| Ae rfl rfl Aa (dT (by rw [hti]; exact h0)) <| Aj (Af 1) <| Ae rfl rfl Aa (dT (by rw [hti]; exact h0)) <| AN rfl (Ay Rz Aa AW (Jp hf.twice _) (fun _ _ h => h)) <| Ae rfl rfl Aa (dT (by rw [hti]; exact h0)) <| Aj (Af 1) <| Ag rfl (Ar Aa (dT (by rw [hti]; exact h0)) Aa) <| Ao <| Ab <| Ad Aa (by rw [ha]; rfl) <| Al <| A0 <| Ab <| Am fun ds => Ag rfl (AG Aa Aa rfl (by omega) (by omega)) <| Aj (Af 1) <| Ao ?_
    refine Ab ⟨_, m - 1, Off.eq (B3 rfl <| BX rfl <| A2), by omega, ?_⟩
    exact ⟨i + 1, _, _, by omega, AX, AX, by rw [O7 h1]; exact ho, rfl⟩
   have ha : ((twiceL c t).any fun x => decide ((i : Int) = x)) = false := by rw [List.any_eq_false]; intro x hx hq; exact h1 ((of_decide_eq_true hq) ▸ hx)
   refine Al <| Ab <| Ac <| Aq <| Az (Af 1) fun ds => Ag rfl (A1 (k := i) A9 Aa hf.leaves.plain Aa rfl hi) <| Ag rfl (Ak AF Aa (hf.leaves.cell1 hi rfl)) <| Aw (Af 2) <| Az (Af 3) fun ds => Ae rfl rfl Aa (dT (by rw [hti]; exact h0)) <| Aj (Af 1) <| Ae rfl rfl Aa (dT (by rw [hti]; exact h0)) <| Ag rfl (Ak Bq Aa (AA hz4 rfl)) <| Ae rfl rfl Aa (dT (by rw [hti]; exact h0)) <| Aj (Af 1) <| Ae rfl rfl Aa (dT (by rw [hti]; exact h0)) <| AN rfl (Ay Rz Aa AW (Jp hf.twice _) (fun _ _ h => h)) <| Ae rfl rfl Aa (dT (by rw [hti]; exact h0)) <| Aj (Af 1) <| Ag rfl (Ar Aa (dT (by rw [hti]; exact h0)) Aa) <| Ao <| Ab <| Ai Aa (by rw [ha]; rfl) <| Am fun ds => Aj (Af 2) <| A5 rfl <| AM A9 B2 rfl (.cons Aa .nil) rfl rfl (by decide) (by simp [Value.oneCell']) fun b12 hb12 nb12 => A5 rfl <| Bp A9 Di Aa ho Aa (B1 (s := 1) 0 rfl rfl (by simp [Value.oneCell'])) (by omega) (by omega) (.s <| .z) .last fun v13 R14 ho15 => ?_
   have ho2 : Own 3 1 v13 (plainTo c t (i + 1)).length ((plainTo c t (i + 1)).flatMap intE) R14 := by rw [Sr h0 h1]; exact Own.snoc ho15 rfl rfl
   refine Aj (Af 1) <| Ao <| A0 <| Ab <| Bn (fun _ _ h => h.drop (kD <| .refl _)) <| Am fun ds => Ag rfl (AG Aa Aa rfl (by omega) (by omega)) <| Aj (Af 1) <| Ao ?_
   refine Ab ⟨_, m - 1, Off.eq (B3 rfl <| Ca rfl <| BM rfl <| A2), by omega, ?_⟩
   exact ⟨i + 1, _, _, by omega, AX, AX, ho2, rfl⟩
  refine Al <| Ab <| Ac <| Aq <| Az (Af 1) fun ds => Ag rfl (A1 (k := i) A9 Aa hf.leaves.plain Aa rfl hi) <| Ag rfl (Ak AF Aa (hf.leaves.cell1 hi rfl)) <| Aw (Af 2) <| Az (Af 3) fun ds => Ah rfl rfl Aa (.inl (congrArg Value.bool (dF (by rw [hti]; exact h0)))) rfl <| Ah rfl rfl Aa (.inl (congrArg Value.bool (dF (by rw [hti]; exact h0)))) rfl <| Ah rfl rfl Aa (.inl (congrArg Value.bool (dF (by rw [hti]; exact h0)))) rfl <| Ah rfl rfl Aa (.inl (congrArg Value.bool (dF (by rw [hti]; exact h0)))) rfl <| Ah rfl rfl Aa (.inl (congrArg Value.bool (dF (by rw [hti]; exact h0)))) rfl <| Ag rfl (As Aa (dF (by rw [hti]; exact h0)) Aa) <| Ao <| Ab <| Ad Aa rfl <| Al <| A0 <| Ab <| Am fun ds => Ag rfl (AG Aa Aa rfl (by omega) (by omega)) <| Aj (Af 1) <| Ao ?_
  refine Ab ⟨_, m - 1, Off.eq (B3 rfl <| BX rfl <| A2), by omega, ?_⟩
  exact ⟨i + 1, _, _, by omega, AX, AX, by rw [Su h0]; exact ho, rfl⟩
 refine AD (Af 1) <| Ac <| Ad Aa (by first | rfl | exact dF (by omega)) ?_
 obtain rfl : i = t.length := by omega
 have hpl := Ga (c := c) (t := t) (i := t.length)
 refine AH ?_
 refine A8 <| A8 <| AB <| Ab <| Az (Af 1) fun ds => Ag rfl (Bt AW) <| A5 rfl <| EI bd_59 Aa AW rfl (TK (D := fun z => 0 ≤ z ∧ z < t.length) (f := leafF t) (csc := [.pointer (some ⟨b8, 0, none⟩)]) ho rfl (by omega) Lj bd_60 (fun G hG x y hx hy => Tb (hG _ _ hz4) (hf.mono hG) hB hx hy)) fun v20 F21 H24 hr22 hF23 => ?_
 have ho39 : Own 3 1 v2 (boundL c t).length ((boundL c t).flatMap intE) H24 := hr22.to Lz.symm
 refine Ao <| Ab <| Ac <| BJ (σ := ⟨_, _⟩) (by rfl) ho39 (.z) .last fun F26 hF27 hz28 => ?_
 have hU230 := Heap.le_trans hF23 hF27
 have g2 := ho39.sl (fun _ => rfl) hz28 (by show (isortZ _ _).length < _; rw [Lz]; omega)
 refine Am fun ds => Aw (Af 3) <| At <| Ap rfl Bd ?_
 exact ⟨_, t, rfl, hbt, g2⟩
end
section
theorem allZ_le {c : Cpc} (hv : ValidC c) {t : List Int} (ht : t.length ≤ 120) : allZ c t ≤ 480 := by
 obtain ⟨h1, h2, h3, h4⟩ := Rc (c := c) (t := t)
 have h5 := E4 (b := c.book) (g := lostL c t) (lostL c t).length
 change 0 ≤ piecesC c t ∧ piecesC c t ≤ _ at h5
 have h6 := hv.leaves
 unfold allZ
 omega
theorem Kb {c : Cpc} : ∀ (ts : List (List Int)) (s : Int × Int) (m : Int), (∀ t ∈ ts, allZ c t ≤ m) → 0 ≤ s.2 → s.2 ≤ m → 0 ≤ (ts.foldl (fun s t => (min s.1 (allZ c t), max s.2 (allZ c t))) s).2 ∧ (ts.foldl (fun s t => (min s.1 (allZ c t), max s.2 (allZ c t))) s).2 ≤ m
 | [], _, _, _, h0, h => ⟨h0, h⟩
 | t :: ts, s, m, ht, h0, h => by
   have h1 := ht t (by simp)
   exact Kb ts _ m (fun u hu => ht u (by simp [hu])) (by simp only; omega) (by simp only; omega)
theorem Ka {c : Cpc} : ∀ (ts : List (List Int)) (s : Int × Int), (ts.foldl (fun s t => (min s.1 (allZ c t), max s.2 (allZ c t))) s).1 ≤ s.1
 | [], _ => Int.le_refl _
 | t :: ts, s => by
   have := Ka (c := c) ts (min s.1 (allZ c t), max s.2 (allZ c t))
   simp only at this
   rw [List.foldl_cons]
   omega
theorem QB {c : Cpc} (hv : ValidC c) : 0 ≤ (wideC c).1 ∧ (wideC c).1 ≤ 1000 ∧ 0 ≤ (wideC c).2 ∧ (wideC c).2 ≤ 480 := by
 have h1 := Mn (c := c)
 have h2 := Ka (c := c) (truC c) ((allQ c.book).length + 2 * c.items.length, 0)
 have h3 := Kb (c := c) (truC c) ((allQ c.book).length + 2 * c.items.length, 0) 480 (fun t ht => allZ_le hv (Ey hv ht).len) (by simp) (by simp)
 change (wideC c).1 ≤ _ at h2
 change 0 ≤ (wideC c).2 ∧ (wideC c).2 ≤ 480 at h3
 have h4 := hv.leaves
 have h5 := hv.many
 simp only at h2
 omega
def setI (c : Cpc) (i : Nat) (z : Int) : Cpc := ⟨c.book, c.items.set i [z]⟩
def itemN (c : Cpc) (i : Nat) : List Int := c.items[i]?.getD []
theorem item_at {c : Cpc} {i : Nat} (h : i < c.items.length) : c.items[i] = itemN c i := by simp [itemN, h]
theorem EQ {x : List Int} {l : List (List Int)} : doubts (x :: l) = (if 1 < x.length then 1 else 0) + doubts l := by
 unfold doubts
 by_cases h1 : 1 < x.length
 · simp [h1]; omega
 simp [h1]
theorem LI {z : Int} : ∀ {l : List (List Int)} {i : Nat}, doubts (l.set i [z]) ≤ doubts l
 | [], i => by simp
 | x :: l, 0 => by rw [List.set_cons_zero, EQ, EQ]; simp
 | x :: l, i + 1 => by
   have ih := LI (z := z) (l := l) (i := i)
   rw [List.set_cons_succ, EQ, EQ]
   omega
theorem PD {c : Cpc} (hv : ValidC c) {i : Nat} {z : Int} (hz : 0 ≤ z ∧ z ≤ c.n - 1) : ValidC (setI c i z) := by
 refine ⟨hv.book, hv.leaves, by simpa [setI] using hv.many, fun x hx => ?_, Nat.le_trans LI hv.few⟩
 rcases List.mem_or_eq_of_mem_set hx with h | rfl
 · exact hv.item x h
 refine ⟨by simp, fun j hj => ?_, fun j hj h0 => ?_⟩
 · obtain rfl : j = 0 := by simpa using hj
   exact hz
 simp at hj; omega
def wideD (c : Cpc) : Int := (wideC c).2 - (wideC c).1
def worstTo (c : Cpc) (i : Nat) : Nat → Int
 | 0 => 0
 | k + 1 => max (worstTo c i k) (wideD (setI c i (zAt (itemN c i) k)))
def worstC (c : Cpc) (i : Nat) : Int := worstTo c i (itemN c i).length
theorem JZ {c : Cpc} {i : Nat} : ∀ k, 0 ≤ worstTo c i k
 | 0 => Int.le_refl _
 | k + 1 => by have := JZ (c := c) (i := i) k; unfold worstTo; omega
def askTo (c : Cpc) : Nat → Int × Int
 | 0 => (0, -1)
 | i + 1 => if 2 ≤ (itemN c i).length ∧ ((askTo c i).2 < 0 ∨ worstC c i < (askTo c i).2) then ((i : Int), worstC c i) else askTo c i
theorem KM {c : Cpc} {i : Nat} (h1 : 2 ≤ (itemN c i).length) (h2 : (askTo c i).2 < 0 ∨ worstC c i < (askTo c i).2) : askTo c (i + 1) = ((i : Int), worstC c i) := if_pos ⟨h1, h2⟩
theorem ask_few {c : Cpc} {i : Nat} (h1 : ¬ 2 ≤ (itemN c i).length) : askTo c (i + 1) = askTo c i := if_neg fun h => h1 h.1
theorem ask_no {c : Cpc} {i : Nat} (h2 : ¬ ((askTo c i).2 < 0 ∨ worstC c i < (askTo c i).2)) : askTo c (i + 1) = askTo c i := if_neg fun h => h2 h.2
def askC (c : Cpc) : Int × Int := if (askTo c c.items.length).2 < 0 then (0, 4) else ((askTo c c.items.length).1, 0)
theorem MG {α : Type} {f : α → Go.Value} : ∀ {l : List α} {i : Nat} {x : α}, (l.flatMap fun a => [f a]).set i (f x) = (l.set i x).flatMap fun a => [f a]
 | [], i, x => by simp
 | a :: l, 0, x => by simp
 | a :: l, i + 1, x => by
   have ih := MG (f := f) (l := l) (i := i) (x := x)
   simp only [List.flatMap_cons, List.singleton_append, List.set_cons_succ]
   rw [ih]
theorem SA {l : List (Go.Value × List Int)} {i : Nat} {v : Go.Value} {t : List Int} : (l.flatMap itE).set i v = (l.set i (v, t)).flatMap itE := MG (f := fun a : Go.Value × List Int => a.1) (x := (v, t))
theorem CpcR.setI {F : Heap} {vg : Go.Value} {qs : List (Go.Value × Gth)} {vi vc vs : Go.Value} {is : List (Go.Value × List Int)} {c : Cpc} (h : CpcR F vg qs vi is c) {i : Nat} {z : Int} (hc : Sl F vc 1 itE (is.set i (vs, [z]))) (hz : Ints F vs [z]) : CpcR F vg qs vc (is.set i (vs, [z])) (setI c i z) := by
 refine ⟨h.book, hc, fun x hx => ?_, ?_⟩
 · rcases List.mem_or_eq_of_mem_set hx with h1 | rfl
   · exact h.could x h1
   exact hz
 rw [List.map_set, h.eqs]; rfl
theorem SD {F : Heap} {v : Go.Value} {xs : List Int} (h : Ints F v xs) {k : Nat} (hk : k < xs.length) : Ints F (subslice v k (k + 1) 1) [xs[k]] := by
 have h1 := h.sub (lo := k) (hi := k + 1) (by omega) (by omega)
 rw [List.take_succ_eq_append_getElem hk, List.drop_append_of_le_length (by rw [List.length_take]; omega), List.drop_of_length_le (by rw [List.length_take]; omega)] at h1
 exact h1
theorem CpcR.at {F : Heap} {vg : Go.Value} {qs : List (Go.Value × Gth)} {vi : Go.Value} {is : List (Go.Value × List Int)} {c : Cpc} (h : CpcR F vg qs vi is c) {i : Nat} (hi : i < is.length) : is[i].2 = itemN c i := by
 have hl := h.len
 rw [← item_at (by omega)]
 simp only [← h.eqs, List.getElem_map]
theorem CopR.ones {F : Heap} {T p : Nat} {vg : Go.Value} {qs : List (Go.Value × Gth)} {vi : Go.Value} {is : List (Go.Value × List Int)} {c : Cpc} {vl vm : Go.Value} (h : CopR F T p vg qs vi is c vl vm) : ∀ u ∈ copE c vg vi vl vm, u.oneCell' = true := fun u hu => by
 simp only [copE, List.mem_cons, List.not_mem_nil, or_false] at hu
 rcases hu with rfl | rfl | rfl | rfl | rfl
 · rfl
 · exact h.cse.book.gs.plain.one
 · exact h.cse.items.plain.one
 · exact h.leaves.plain.one
 exact h.mates.plain.one
theorem SB {l : List (Go.Value × List Int)} : (l.flatMap itE).length = l.length := by
 induction l with
 | nil => rfl
 | cons a l ih => rw [List.flatMap_cons, List.length_append, ih]; simp [itE]; omega
end
section
set_option maxHeartbeats 2000000
set_option maxRecDepth 100000
open Go.RowKit
theorem RE : AggT Tryz.prog 135 5 := Cu (by kernel_rfl)
instance : AggI Tryz.prog 135 5 := ⟨RE⟩
theorem bd_61 : Body Tryz.prog 61 := AE (by kernel_rfl)
theorem Rj : ElemT Tryz.prog 66 1 24 (.agg #[.slice none 0 0]) := D6 (by kernel_rfl) rfl (by decide)
theorem sz_135 : SizeT Tryz.prog 135 5 := Bx (by kernel_rfl)
theorem sz_25 : SizeT Tryz.prog 25 1 := Bx (by kernel_rfl)
theorem Pj {F : Heap} {v : Value} {xs : List (Value × List Int)} (h : Sl F v 1 itE xs) (h1 : ∀ x ∈ xs, ∀ u ∈ itE x, u.oneCell' = true) (hn : xs.length ≤ 1000) : OkN Tryz.prog 61 [v].toArray F fun u _ Hn => Own 66 1 u (xs).length ((xs).flatMap itE) Hn := by
 obtain ⟨a0, c0, rfl, g1, g2, g3, g4⟩ := h.plain
 refine OkN.intro Tryz.func61 rfl Tryz.ntmps61 rfl fun w0 => ?_
 cases a0
 ·refine AD (Af 1) <| Ac <| Az (Af 1) fun ds => Ag rfl (O6 Tryz.underlying25 Aa Aa) <| Ao <| Ab <| Ai Aa rfl <| AD (Af 1) <| At <| Ax <| BK rfl Bd (List.nil_sublist _) ?_
  obtain ⟨h0, -⟩ := g2 rfl
  have : xs = [] := List.eq_nil_of_length_eq_zero h0
  subst this
  exact BZ
 refine AD (Af 1) <| Ac <| Az (Af 1) fun ds => Ag rfl (O6 Tryz.underlying25 Aa Aa) <| Ao <| Ab <| Ad Aa rfl <| Al <| Ab <| Ac <| Am fun ds => A5 rfl <| Oj Cj fun b1 hb1 nb1 => Aj (Af 1) <| A5 rfl <| Bp Cj Rj Aa (GA rfl) Aa (h.srcM (fun _ => rfl) h1) (by omega) (by omega) (.z) .box fun v2 R3 ho4 => ?_
 have ho1 : Own 66 1 v2 (xs).length ((xs).flatMap itE) R3 := by simpa using ho4
 refine Aw (Af 1) <| At <| BK rfl Bd (List.sublist_append_left _ _) ?_
 exact ho1
theorem ask_ok {F : Heap} {vg vi : Value} {qs : List (Value × Gth)} {is : List (Value × List Int)} {c : Cpc} (hc : CpcR F vg qs vi is c) (hv : ValidC c) : Ok Tryz.prog 26 [.agg #[.int .i64 c.book.signed, vg, vi]].toArray F fun r _ => r = .tuple #[.int .i64 (askC c).1, .int .i64 (askC c).2] := by
 have hL1 := hc.items.plain.lt
 have hlen := hc.len
 have hvl := hv.leaves
 have hvm := hv.many
 refine Ok.intro Tryz.func26 rfl Tryz.ntmps26 rfl fun w0 => Ac <| Am fun ds => A5 rfl <| Bg Aa rfl fun b1 hb1 nb1 => Aw (Af 2) <| Ac <| AK (i := 0) rfl hb1 (.here) fun F2 hF3 hz1 => ?_
 replace hc := hc.mono hF3
 refine Am fun ds => Ag rfl (AC (vs := [.int .i64 c.book.signed, vg, vi]) CP Aa rfl rfl (Ba hz1)) <| A5 rfl <| Bi Nh Aa AW (Fh hc hv) fun v4 F5 hr6 hF7 => ?_
 replace hc := hc.mono hF7
 replace hz1 := hF7 _ _ hz1
 obtain ⟨p, vl, vm, rfl, hX⟩ := hr6
 refine Aw (Af 9) <| Ac <| AD (Af 2) <| Ad Aa (dF (fun h => h rfl)) <| Al <| Ab <| AD (Af 1) <| Ac <| Az (Af 1) fun ds => Ag rfl (Ak C7 Aa (AA hz1 rfl)) <| Ag rfl (A4 Cj Aa hc.items.plain) <| Aw (Af 1) <| Aq ?_
 refine AL [2, 7, 8, 9, 10, 11, 12, 13, 27, 28, 29, 30, 31, 32, 33, 34, 35, 36, 37, 38, 39, 40, 41, 42, 43, 44, 45, 46, 47, 48, 49, 50, 51, 52, 53, 54, 55, 56, 57, 58, 59, 60, 61, 62, 63, 64, 65, 66, 67, 68, 69, 70, 71, 72, 73, 74, 75, 76, 77, 78, 79, 80] (fun m e σ => ∃ (G : Heap) (i : Nat), F5.le G ∧ m + i = is.length ∧ Fct e 27 (.int .i64 (i : Int)) ∧ Fct e 2 (.int .i64 (askTo c i).1) ∧ Fct e 7 (.int .i64 (askTo c i).2) ∧ σ = ⟨G, []⟩) (is.length) ?_ ?_
 · exact ⟨_, 0, Heap.le_refl _, by omega, AX, AX, AX, rfl⟩
 rintro m e _ ⟨G, i, hG, hm, hs27, hs2, hs7, rfl⟩; replace hc := hc.mono hG; replace hX := hX.mono hG; replace hz1 := hG _ _ hz1
 by_cases hi : i < is.length
 ·refine AD (Af 1) <| Ac <| Ai Aa (by first | rfl | exact dT (by omega)) ?_
  have hio := hv.item _ (hc.mem (List.getElem_mem hi))
  have hcl := hc.could _ (List.getElem_mem hi)
  have hci := hc.at hi
  have hL4 := hcl.plain.lt
  have hi4 := hio.many
  rw [hci] at hio
  refine Al <| Ab <| Ac <| Aq <| Az (Af 1) fun ds => Ag rfl (A1 (k := i) Cj Aa hc.items.plain Aa rfl hi) <| Ag rfl (AC (vs := (itE is[i])) HE Aa rfl rfl (hc.items.whole hi)) <| A5 rfl <| AO HH rfl fun b9 hb9 nb9 => Aj (Af 1) <| AS <| AP Oo Aa Aa (i := 0) rfl rfl rfl rfl (hc.ones _ (List.getElem_mem hi)) (.here) <| Ao <| Ab <| Ac <| Ac <| AK (i := 0) rfl hb9 (.here) fun F10 hF11 hz9 => ?_
  replace hc := hc.mono hF11
  replace hX := hX.mono hF11
  replace hG := Heap.le_trans hG hF11
  replace hcl := hcl.mono hF11
  replace hz1 := hF11 _ _ hz1
  by_cases hlt : is[i].2.length < 2
  ·refine Am fun ds => Aj (Af 1) <| Ag rfl (Ak Bq Aa (AA hz9 rfl)) <| Ag rfl (A4 A9 Aa hcl.plain) <| Aw (Af 1) <| Ai Aa (dT (by omega)) ?_
   have hno := ask_few (c := c) (i := i) (by rw [← hci]; omega)
   refine AH <| A8 <| AB <| Ab <| Am fun ds => Ag rfl (AG Aa Aa rfl (by omega) (by omega)) <| Aj (Af 1) <| Ao ?_
   refine Ab ⟨_, m - 1, Off.eq (BR rfl <| Ca rfl <| A2), by omega, ?_⟩
   exact ⟨_, i + 1, hG, by omega, AX, Cr (by rw [hno]), Cr (by rw [hno]), rfl⟩
  refine Am fun ds => Aj (Af 1) <| Ag rfl (Ak Bq Aa (AA hz9 rfl)) <| Ag rfl (A4 A9 Aa hcl.plain) <| Aw (Af 1) <| Ad Aa (dF (by omega)) ?_
  have hge : 2 ≤ (itemN c i).length := by rw [← hci]; omega
  refine Al <| Ab <| AD (Af 1) <| Ac <| Az (Af 1) fun ds => Ag rfl (Ak Bq Aa (AA hz9 rfl)) <| Ag rfl (A4 A9 Aa hcl.plain) <| Aw (Af 1) <| Aq ?_
  refine AL [10, 11, 12, 13, 39, 40, 41, 42, 43, 44, 45, 46, 47, 48, 49, 50, 51, 52, 53, 54, 55, 56, 57, 58, 59, 60, 61, 62, 63, 64, 65, 66, 67, 68, 69, 70] (fun m e σ => ∃ (G2 : Heap) (k : Nat), F10.le G2 ∧ m + k = is[i].2.length ∧ Fct e 39 (.int .i64 (k : Int)) ∧ Fct e 10 (.int .i64 (worstTo c i k)) ∧ σ = ⟨G2, []⟩) (is[i].2.length) ?_ ?_
  · exact ⟨_, 0, Heap.le_refl _, by omega, AX, AX, rfl⟩
  rintro m1 e1 _ ⟨G2, k, hG2, hm1, ht39, ht10, rfl⟩; replace hc := hc.mono hG2; replace hX := hX.mono hG2; replace hcl := hcl.mono hG2; replace hz1 := hG2 _ _ hz1; replace hz9 := hG2 _ _ hz9; replace hG := Heap.le_trans hG hG2
  by_cases hk : k < is[i].2.length
  ·have hzk : is[i].2[k] = zAt (itemN c i) k := by rw [Md hk, hci]
   have hrg := hio.range k (by rw [← hci]; exact hk)
   have hzb : 0 ≤ zAt (itemN c i) k ∧ zAt (itemN c i) k ≤ c.n - 1 := by rw [← hzk]; simp only [hci]; exact hrg
   have hsv := PD hv (i := i) hzb
   have hwb := QB hsv
   have hwp := JZ (c := c) (i := i) k
   have hsb := SD hcl hk
   rw [hzk] at hsb
   refine AD (Af 1) <| Ac <| Ai Aa (by first | rfl | exact dT (by omega)) <| Al <| Ab <| Ac <| Aq <| AD (Af 2) <| Az (Af 1) fun ds => Ag rfl (Bb Aa) <| Ag rfl (AC (vs := (copE c vg vi vl vm)) RE Aa rfl rfl (Ba hX.blk)) <| A5 rfl <| AO Ts rfl fun b13 hb13 nb13 => AS <| AP sz_135 Aa Aa (i := 0) rfl rfl rfl rfl hX.ones (.here) <| Ao <| Ab <| Az (Af 1) fun ds => Ag rfl (Ak C7 Aa (AA hz1 rfl)) <| A5 rfl <| BY bd_61 Aa AW (Pj hc.items hc.ones (by omega)) fun v14 F15 R18 hr16 hF17 => ?_
   replace hcl := hcl.mono hF17
   replace hG2 := Heap.le_trans hG2 hF17
   replace hsb := hsb.mono hF17
   replace hz9 := hF17 _ _ hz9
   have ho47 : Own 66 1 v14 (is).length ((is).flatMap itE) R18 := hr16
   obtain ⟨vc, hvc⟩ : ∃ y, y = v14 := ⟨_, rfl⟩
   subst hvc
   refine Aj (Af 2) <| AS <| Bf sz_25 Aa Aa (i := 0) rfl (.next <| .next <| .here) ho47.one (.here) <| Ao <| Ab <| Ac <| BO (.inl rfl) (fun _ _ h => h) (kK <| List.nil_sublist _) [12] (by kernel_rfl) fun ds => Au 0 rfl (kK <| List.nil_sublist _) (AV L9 Aa) <| Au 1 rfl (kK <| List.nil_sublist _) (AV NL Aa) <| Au 2 rfl (kK <| List.nil_sublist _) (Ak C7 Aa (Cell.own 0 rfl rfl)) <| Au 3 rfl (kK <| List.nil_sublist _) (AI Aa) <| Au 4 rfl (kK <| List.nil_sublist _) (AV NJ Aa) <| Au 5 rfl (kK <| List.nil_sublist _) (Ak Bq Aa (AA hz9 rfl)) <| Au 6 rfl (kK <| List.nil_sublist _) (AI Aa) ?_
   refine Au 7 rfl (kK <| List.nil_sublist _) (AI Aa) <| Au 8 rfl (kK <| List.nil_sublist _) (AG Aa Aa rfl (by omega) (by omega)) <| Au 9 rfl (kK <| List.nil_sublist _) (Ue A9 Aa hcl.plain Aa rfl Aa (show (k : Int) + 1 = ((k + 1 : Nat) : Int) by push_cast; rfl) (by omega) (by omega)) <| Au 10 rfl (kK <| List.nil_sublist _) (A1 (k := i) Cj Aa (ho47.plain (by omega)) Aa rfl (by omega)) <| Au 11 rfl (kK <| List.nil_sublist _) (CE NJ Aa) ?_
   refine Eg 12 rfl (by kernel_rfl) (Dv (j := i * 1 + 0) Dg Aa Aa ho47 (by rw [SB]; omega) hsb.plain.one (.s <| .z) .last fun R10 ho10 => ⟨(fun h => nomatch h), ?_⟩)
   refine BC (by kernel_rfl) ?_ _
   refine Ab <| Ac ?_
   have ho11 : Own 66 1 vc (is.set i (subslice is[i].1 k (k + 1) 1, [zAt (itemN c i) k])).length ((is.set i (subslice is[i].1 k (k + 1) 1, [zAt (itemN c i) k])).flatMap itE) R10 := by rw [Nat.mul_one, Nat.add_zero, SA (t := [zAt (itemN c i) k])] at ho10; exact ho10.to (by rw [List.length_set])
   refine BJ (σ := ⟨_, _⟩) (by rfl) ho11 (.s <| .z) .last fun F19 hF20 hz21 => ?_
   replace hG2 := Heap.le_trans hG2 hF20
   have hc2 := ho11.sl (fun _ => rfl) hz21 (by rw [List.length_set]; omega)
   refine AK (i := 0) rfl hb13 (.here) fun F22 hF23 hz12 => ?_
   have hU118 := Heap.le_trans hF17 (Heap.le_trans hF20 hF23)
   replace hc := hc.mono hU118
   replace hX := hX.mono hU118
   have hU121 := Heap.le_trans hF20 hF23
   replace hG2 := Heap.le_trans hG2 hF23
   replace hsb := hsb.mono hU121
   replace hc2 := hc2.mono hF23
   have hX2 : CopR F22 135 b13 vg qs _ _ (setI c i (zAt (itemN c i) k)) vl vm := ⟨hz12, hc.setI hc2 hsb, hX.leaves, hX.mates⟩
   refine Am fun ds => AN rfl (Ay bd_43 Aa AW (QA hX2 hsv) (fun _ _ h => h)) <| A5 rfl <| AO JY rfl fun b24 hb24 nb24 => AS <| AP Kd Aa Aa (i := 0) rfl rfl rfl rfl (by simp [Value.oneCell']) (.here) <| Ao <| Ab <| Am fun ds => Aj (Af 5) <| Ag rfl (B4 Aa Aa rfl (by omega) (by omega)) <| Aj (Af 2) <| Ao <| A0 <| Ab <| Bn (fun _ _ h => h.drop (kD <| .refl _)) <| Am fun ds => Ag rfl (AG Aa Aa rfl (by omega) (by omega)) <| Aj (Af 1) <| Ao ?_
   refine Ab ⟨_, m1 - 1, Off.eq (DT rfl <| Ca rfl <| A2), by omega, ?_⟩
   exact ⟨_, k + 1, hG2, by omega, AX, AX, rfl⟩
  refine AD (Af 1) <| Ac <| Ad Aa (by first | rfl | exact dF (by omega)) ?_
  obtain rfl : k = is[i].2.length := by omega
  have hwc : worstTo c i is[i].2.length = worstC c i := by rw [hci]; rfl
  rw [hwc] at ht10
  by_cases h2 : (askTo c i).2 < 0
  ·refine AH ?_
   refine A8 <| A8 <| AB <| Ab <| Az (Af 3) fun ds => Ah rfl rfl Aa (.inl (congrArg Value.bool (dT h2))) rfl <| Ah rfl rfl Aa (.inl (congrArg Value.bool (dT h2))) rfl <| Ah rfl rfl Aa (.inl (congrArg Value.bool (dT h2))) rfl <| Ag rfl (Ar Aa (dT h2) Aa) <| Ao <| Ab <| Ai Aa rfl <| Am fun ds => Aj (Af 4) <| Ao <| A0 <| Ab <| Am fun ds => Ag rfl (AG Aa Aa rfl (by omega) (by omega)) <| Aj (Af 1) <| Ao ?_
   refine Ab ⟨_, m - 1, Off.eq (BR rfl <| Ca rfl <| BM rfl <| Cg rfl <| BR rfl <| Ca rfl <| BM rfl <| BX rfl <| A2), by omega, ?_⟩
   exact ⟨_, i + 1, hG, by omega, AX, Cr (by rw [KM hge (.inl h2)]), Cr (by rw [KM hge (.inl h2)]), rfl⟩
  by_cases h3 : worstC c i < (askTo c i).2
  ·refine AH ?_
   refine A8 <| A8 <| AB <| Ab <| Az (Af 3) fun ds => Ae rfl rfl Aa (dF h2) <| Aj (Af 1) <| Ae rfl rfl Aa (dF h2) <| Aj (Af 1) <| Ae rfl rfl Aa (dF h2) <| Aj (Af 1) <| Ag rfl (As Aa (dF h2) Aa) <| Ao <| Ab <| Ai Aa (dT h3) <| Am fun ds => Aj (Af 4) <| Ao <| A0 <| Ab <| Am fun ds => Ag rfl (AG Aa Aa rfl (by omega) (by omega)) <| Aj (Af 1) <| Ao ?_
   refine Ab ⟨_, m - 1, Off.eq (BR rfl <| Ca rfl <| BM rfl <| Cg rfl <| BR rfl <| Ca rfl <| BM rfl <| BX rfl <| A2), by omega, ?_⟩
   exact ⟨_, i + 1, hG, by omega, AX, Cr (by rw [KM hge (.inr h3)]), Cr (by rw [KM hge (.inr h3)]), rfl⟩
  refine AH ?_
  refine A8 <| A8 <| AB <| Ab <| Az (Af 3) fun ds => Ae rfl rfl Aa (dF h2) <| Aj (Af 1) <| Ae rfl rfl Aa (dF h2) <| Aj (Af 1) <| Ae rfl rfl Aa (dF h2) <| Aj (Af 1) <| Ag rfl (As Aa (dF h2) Aa) <| Ao <| Ab <| Ad Aa (dF h3) ?_
  have hno := ask_no (c := c) (i := i) (fun h => h.elim h2 h3)
  refine Al <| A0 <| Ab <| Am fun ds => Ag rfl (AG Aa Aa rfl (by omega) (by omega)) <| Aj (Af 1) <| Ao ?_
  refine Ab ⟨_, m - 1, Off.eq (BR rfl <| BM rfl <| Cg rfl <| BR rfl <| Ca rfl <| BM rfl <| BX rfl <| A2), by omega, ?_⟩
  exact ⟨_, i + 1, hG, by omega, AX, Cr (by rw [hno]), Cr (by rw [hno]), rfl⟩
 refine AD (Af 1) <| Ac <| Ad Aa (by first | rfl | exact dF (by omega)) ?_
 obtain rfl : i = is.length := by omega
 rw [hlen] at hs2 hs7
 by_cases h2 : (askTo c c.items.length).2 < 0
 ·refine AH ?_
  refine A8 <| A8 <| AB <| Ab <| Ac <| AD (Af 2) <| Ai Aa (dT h2) <| AD (Af 2) <| At <| Ax <| Ap rfl Bd ?_
  unfold askC
  rw [if_pos h2]; rfl
 refine AH ?_
 refine A8 <| A8 <| AB <| Ab <| Ac <| AD (Af 2) <| Ad Aa (dF h2) <| Al <| Ab <| AD (Af 3) <| At <| Ap rfl Bd ?_
 unfold askC
 rw [if_neg h2]; rfl
end
section
def twB (t u : List Int) (n : Nat) : Bool := decide (0 < cnt t (n : Int)) && decide (0 < cnt u (n : Int))
def cutB (b : Qbk) (t u : List Int) (n : Nat) : Bool := decide (0 < cnt t (n : Int)) && (decide (0 ≤ mateZ b n) && decide (0 < cnt u (mateZ b n)))
def twAny (b : Qbk) (t u : List Int) : Bool := (List.range (allQ b).length).any (twB t u)
def cutL (b : Qbk) (t u : List Int) : List Int := pickTo (cutB b t u) (allQ b).length
def divL (b : Qbk) (t u : List Int) : List Int := if twAny b t u = true then [] else cutL b t u
def divE (b : Qbk) (t u : List Int) : Int := if twAny b t u = true then 5 else 0
def divS (pre : List (List Int)) (l : List Int) : List Int := match pre with
 | [] => []
 | _ :: _ => l
theorem tw_yes {b : Qbk} {t u : List Int} {n : Nat} (hn : n < (allQ b).length) (h : twB t u n = true) : twAny b t u = true := List.any_eq_true.2 ⟨n, List.mem_range.2 hn, h⟩
theorem tw_no {b : Qbk} {t u : List Int} (h : ∀ j, j < (allQ b).length → twB t u j = false) : twAny b t u = false := by
 unfold twAny
 rw [List.any_eq_false]
 intro j hj
 rw [h j (List.mem_range.1 hj)]
 simp
theorem M2 {t x : List Int} {pre rest : List (List Int)} (h : [t] = pre ++ x :: rest) : pre = [] ∧ t = x ∧ rest = [] := by
 cases pre with
 | nil => simp at h; exact ⟨rfl, h.1, h.2⟩
 | cons a l => simp at h
def dubB (x : Go.Value × List Int) : Bool := decide (1 < x.2.length)
theorem Jw {l : List (Go.Value × List Int)} (h : ∀ x ∈ l, x.2.length ≤ 1) : l.any dubB = false := by
 rw [List.any_eq_false]
 intro x hx
 have := h x hx
 unfold dubB
 simp; omega
end
end Go.Proofs.YtkjfmibiinfhfacGreat
