/-
  A part of a proof: SaleKnown returns true. No conditions.
-/
import Derived.Test.YtaikojfonleccaaPab
import Derived.Maps.Keyed
import Derived.DeepKeys4
namespace Go.Proofs.Ytaikojfonleccaa
open Go.RowKit
def IsK (P : Program) (K : Nat) (v : Value) : Prop := ∃ l, keyOf P K v = some l
structure MapT (P : Program) (M K E : Nat) (z : Value) : Prop where
 under : P.underlying M = some (.map K E)
 zero : ZeroT P E z
 keyed : Go.Maps.Keyed P K
def entryO (p : (Value × Value) × Nat) : MapEntry := ⟨p.1.1, p.1.2, p.2⟩
/-- A map from which nothing was ever taken out. -/
def mapO (es : List (Value × Value)) : Obj := .map (es.zipIdx.map entryO).toArray es.length
theorem mapO_at {es : List (Value × Value)} {j : Nat} {e : MapEntry} (h : (es.zipIdx.map entryO)[j]? = some e) : ∃ p, es[j]? = some p ∧ e = ⟨p.1, p.2, j⟩ := by
 rw [List.getElem?_map, List.getElem?_zipIdx] at h
 cases hj : es[j]? with
 | none => rw [hj] at h; simp at h
 | some p => rw [hj] at h; simp [entryO] at h; exact ⟨p, rfl, h.symm⟩
theorem mapO_mem {es : List (Value × Value)} {e : MapEntry} (h : e ∈ es.zipIdx.map entryO) : ∃ j p, es[j]? = some p ∧ e = ⟨p.1, p.2, j⟩ := by
 obtain ⟨j, hj⟩ := List.getElem?_of_mem h
 obtain ⟨p, h1, h2⟩ := mapO_at hj
 exact ⟨j, p, h1, h2⟩
section
variable {P : Program} {n : Nat} {B : Base} {e : Env} {σ : St} {d : Option Nat} {ty : TypeId} {pos : String} {af : Array Edge} {gd : Option (Nat × Bool)}
theorem find_map {K : Nat} (hK : Go.Maps.Keyed P K) {k : Value} (hk : IsK P K k) {es : List (Value × Value)} (hall : ∀ p ∈ es, IsK P K p.1) (w : World) :
   ((Instr.findKey K k (es.zipIdx.map entryO)).run P w = .ok none w ∧ ∀ p ∈ es, p.1 ≠ k) ∨ ∃ j u, (Instr.findKey K k (es.zipIdx.map entryO)).run P w = .ok (some (j, u)) w ∧ es[j]? = some (k, u) := by
 obtain ⟨l, hl⟩ := hk
 rcases hK.find w hl (es.zipIdx.map entryO) (fun e he => by obtain ⟨j, p, h1, rfl⟩ := mapO_mem he; exact hall p (List.mem_of_getElem? h1)) with ⟨h1, h2⟩ | ⟨j, e0, h1, h2, h3⟩
 · refine .inl ⟨h1, fun p hp => ?_⟩
   obtain ⟨j, hj⟩ := List.getElem?_of_mem hp
   have : entryO (p, j) ∈ es.zipIdx.map entryO := by
     refine List.mem_map.2 ⟨(p, j), ?_, rfl⟩
     rw [List.mem_zipIdx_iff_getElem?]; exact hj
   exact h2 _ this
 · obtain ⟨p, q1, rfl⟩ := mapO_at h2
   refine .inr ⟨j, p.2, h1, ?_⟩
   rw [q1]
   simp only at h3
   rw [← h3]
theorem x_makeMap {M : Nat} {K : Value → St → Prop} (hn : ∀ b, B.w0.heap.size ≤ b → σ.F b = none → K (.map (some b)) ⟨σ.F, (b, mapO []) :: σ.H⟩) : OpX P n B ⟨d, .makeMap M none, ty, pos, af, gd⟩ e σ K :=
 .run fun w hw => ⟨_, _, _, .inl (by simp [execOp, Instr.makeMap]; rfl), hw.alloc (mapO []), hn _ hw.size hw.fresh⟩
theorem run_getMap {b : Nat} {es : List (Value × Value)} {w : World} (h : w.heap[b]? = some (mapO es)) : (Go.getObj b).run P w = .ok (mapO es) w := by
 simp only [Go.getObj, Sem.run, h]; simp [mapO, Sem.run]
theorem run_setMap {b : Nat} {es es' : List (Value × Value)} {w : World} (h : w.heap[b]? = some (mapO es)) : (Go.setObj b (mapO es')).run P w = .ok () { w with heap := w.heap.setIfInBounds b (mapO es') } := by
 simp only [Go.setObj, Sem.run, h]; simp [mapO, Sem.run]
theorem nodup_key {es : List (Value × Value)} (hd : (es.map (·.1)).Nodup) {i j : Nat} {k u v : Value} (hi : es[i]? = some (k, u)) (hj : es[j]? = some (k, v)) : i = j := by
 have h1 : (es.map (·.1))[i]? = some k := by simp [hi]
 have h2 : (es.map (·.1))[j]? = some k := by simp [hj]
 have hl : i < (es.map (·.1)).length := (List.getElem?_eq_some_iff.1 h1).1
 exact (List.getElem?_inj hl hd).1 (by rw [h1, h2])
theorem run_lookupN {M K E : Nat} {z k : Value} {b : Nat} {es : List (Value × Value)} (hT : MapT P M K E z) (hk : IsK P K k) (hall : ∀ p ∈ es, IsK P K p.1) (hno : ∀ p ∈ es, p.1 ≠ k) {w : World} (hb : w.heap[b]? = some (mapO es)) (ok : Bool) :
   (Instr.lookup M (.map (some b)) k ok).run P w = .ok (if ok then .tuple #[z, .bool false] else z) w := by
 obtain ⟨l, hl⟩ := hk
 have hc := fun em => hT.keyed.check w em hl
 have hb' := run_getMap (P := P) hb; unfold mapO at hb'
 have hf : (Instr.findKey K k (es.zipIdx.map entryO)).run P w = .ok none w := by
   rcases find_map hT.keyed ⟨l, hl⟩ hall w with ⟨h, -⟩ | ⟨j, u, -, h⟩
   · exact h
   · exact absurd rfl (hno _ (List.mem_of_getElem? h))
 cases ok <;> simp [Instr.lookup, Cd hT.under, hb', mapO, hc, hf, run_zero hT.zero]
theorem run_lookupS {M K E : Nat} {z k u : Value} {b j : Nat} {es : List (Value × Value)} (hT : MapT P M K E z) (hk : IsK P K k) (hall : ∀ p ∈ es, IsK P K p.1) (hd : (es.map (·.1)).Nodup) (hj : es[j]? = some (k, u)) {w : World} (hb : w.heap[b]? = some (mapO es)) (ok : Bool) :
   (Instr.lookup M (.map (some b)) k ok).run P w = .ok (if ok then .tuple #[u, .bool true] else u) w := by
 obtain ⟨l, hl⟩ := hk
 have hc := fun em => hT.keyed.check w em hl
 have hb' := run_getMap (P := P) hb; unfold mapO at hb'
 have hf : (Instr.findKey K k (es.zipIdx.map entryO)).run P w = .ok (some (j, u)) w := by
   rcases find_map hT.keyed ⟨l, hl⟩ hall w with ⟨-, h⟩ | ⟨i, v, h1, h2⟩
   · exact absurd rfl (h _ (List.mem_of_getElem? hj))
   · have := nodup_key hd h2 hj
     subst this
     rw [h2] at hj
     simp only [Option.some.injEq, Prod.mk.injEq] at hj
     rw [h1, hj.2]
 cases ok <;> simp [Instr.lookup, Cd hT.under, hb', mapO, hc, hf]
theorem q_lookup2N {M K E i b : Nat} {x y : Operand} {z k : Value} {es : List (Value × Value)} (hT : MapT P M K E z) (hx : ev e x = .map (some b)) (hy : ev e y = k) (hi : σ.H[i]? = some (b, mapO es)) (hk : IsK P K k) (hall : ∀ p ∈ es, IsK P K p.1) (hno : ∀ p ∈ es, p.1 ≠ k) :
   OpR P B ⟨d, .lookup M x y true, ty, pos, af, gd⟩ e σ (.tuple #[z, .bool false]) := fun w hw => by
 have := run_lookupN hT hk hall hno (hw.own _ (List.mem_of_getElem? hi)).1 true
 simp [execOp, hx, hy, this]
theorem q_lookup2S {M K E i b j : Nat} {x y : Operand} {z k u : Value} {es : List (Value × Value)} (hT : MapT P M K E z) (hx : ev e x = .map (some b)) (hy : ev e y = k) (hi : σ.H[i]? = some (b, mapO es)) (hk : IsK P K k) (hall : ∀ p ∈ es, IsK P K p.1) (hd : (es.map (·.1)).Nodup) (hj : es[j]? = some (k, u)) :
   OpR P B ⟨d, .lookup M x y true, ty, pos, af, gd⟩ e σ (.tuple #[u, .bool true]) := fun w hw => by
 have := run_lookupS hT hk hall hd hj (hw.own _ (List.mem_of_getElem? hi)).1 true
 simp [execOp, hx, hy, this]
theorem wf64 {z : Int} (h1 : -9223372036854775808 ≤ z) (h2 : z ≤ 9223372036854775807) : (Lit.int .i64 z).wf = true := by
 have e1 : IntKind.i64.min = -9223372036854775808 := by decide
 have e2 : IntKind.i64.max = 9223372036854775807 := by decide
 simp [Lit.wf, e1, e2, h1, h2]
theorem keys_or {es : List (Value × Value)} (k : Value) : (∀ p ∈ es, p.1 ≠ k) ∨ ∃ (j : Nat) (u : Value), es[j]? = some (k, u) := by
 by_cases h : ∃ p ∈ es, p.1 = k
 · obtain ⟨p, hp, rfl⟩ := h
   obtain ⟨j, hj⟩ := List.getElem?_of_mem hp
   exact .inr ⟨j, p.2, hj⟩
 · exact .inl fun p hp he => h ⟨p, hp, he⟩
theorem all_snoc {K : Nat} {es : List (Value × Value)} {k v : Value} (h : ∀ p ∈ es, IsK P K p.1) (hk : IsK P K k) : ∀ p ∈ es ++ [(k, v)], IsK P K p.1 := by
 intro p hp
 rcases List.mem_append.1 hp with hp | hp
 · exact h p hp
 · simp at hp; subst hp; exact hk
theorem nd_snoc {es : List (Value × Value)} {k v : Value} (h : (es.map (·.1)).Nodup) (hk : ∀ p ∈ es, p.1 ≠ k) : ((es ++ [(k, v)]).map (·.1)).Nodup := by
 rw [List.map_append, List.nodup_append]
 refine ⟨h, by simp, fun a ha b hb => ?_⟩
 obtain ⟨p, hp, rfl⟩ := List.mem_map.1 ha
 simp at hb; subst hb
 exact hk p hp
theorem map_set {es : List (Value × Value)} {j : Nat} {k u v : Value} (hj : es[j]? = some (k, u)) : (es.set j (k, v)).map (·.1) = es.map (·.1) := by
 apply List.ext_getElem?
 intro m
 rw [List.getElem?_map, List.getElem?_map, List.getElem?_set]
 by_cases hm : j = m
 · subst hm; rw [if_pos rfl, hj]; simp [(List.getElem?_eq_some_iff.1 hj).1]
 · rw [if_neg hm]
theorem snoc_at {es : List (Value × Value)} {p : Value × Value} : (es ++ [p])[es.length]? = some p := by simp
end
end Go.Proofs.Ytaikojfonleccaa
namespace Go.Proofs.Ytaikojfonleccaa
open Go.RowKit
section
variable {P : Program} {n : Nat} {B : Base} {e : Env} {σ : St} {d : Option Nat} {ty : TypeId} {pos : String} {af : Array Edge} {gd : Option (Nat × Bool)}
theorem q_quo {x y : Operand} {a b : Int} {t u : TypeId} (hx : ev e x = .int .i64 a) (hy : ev e y = .int .i64 b) (ha : 0 ≤ a) (ha2 : a ≤ 9223372036854775807) (hb : 0 < b) :
   OpR P B ⟨d, .binOp .quo t x y u, ty, pos, af, gd⟩ e σ (.int .i64 (a / b)) := fun w _ => by
 have h0 : ¬ b = 0 := by omega
 have h1 : 0 ≤ a / b := Int.ediv_nonneg ha (by omega)
 have h2 : a / b ≤ a := Int.ediv_le_self b ha
 have h3 : IntKind.i64.wrap (a / b) = a / b := wrap_id (by omega) (by omega)
 simp [execOp, hx, hy, eqGuard, binOp, Op.intDiv, h0, Int.tdiv_eq_ediv_of_nonneg ha, h3]
theorem neg_shr {k : Nat} : (-1 : Int) / 2 ^ k = -1 := by
 have h : (0 : Int) < 2 ^ k := Int.pow_pos (by decide)
 have := (Int.ediv_emod_unique (a := -1) (b := 2 ^ k) (r := 2 ^ k - 1) (q := -1) h).2 ⟨by omega, by omega, by omega⟩
 exact this.1
theorem q_andm1 {x y : Operand} {t u : TypeId} (hx : ev e x = .int .i64 (-1)) (hy : ev e y = .int .i64 1) : OpR P B ⟨d, .binOp .and t x y u, ty, pos, af, gd⟩ e σ (.int .i64 1) := fun w _ => by
 have e3 : Op.intBits .and .i64 (-1) 1 = pure (.int .i64 (IntKind.i64.wrap ((BitVec.ofInt 64 (-1) &&& BitVec.ofInt 64 1).toNat : Int))) := rfl
 have e1 : (IntKind.i64.wrap ((BitVec.ofInt 64 (-1) &&& BitVec.ofInt 64 1).toNat : Int)) = 1 := by decide
 rw [e1] at e3
 simp only [execOp, hx, hy, eqGuard, binOp, e3]
 simp
theorem WC_freeze0 {c : Code} {Q : Exit → Env → St → Prop} {i b : Nat} {o : Obj} {H' : List (Nat × Obj)} (hM : B.M = []) (hi : σ.H[i]? = some (b, o)) (hH : DelL σ.H i H')
   (h : ∀ F', σ.F.le F' → F' b = some o → WC P n B c Q e ⟨F', H'⟩) : WC P n B c Q e σ := by
 intro ds a w ha hw
 have h2 := hw.own _ (List.mem_of_getElem? hi)
 have hb : B.w0.heap.size ≤ b := h2.2.2.resolve_right (fun hm => by rw [show (B.at ds).M = [] from hM] at hm; cases hm)
 rw [hH.eq] at h
 exact h _ (grown_le h2.2.1) D4 ds a w ha (hw.freeze hi hb)
theorem cell_row {F : Heap} {H : List (Nat × Obj)} {b T k m c : Nat} {l : List Value} {u : Value} (i : Nat) (hi : H[i]? = some (b, bx T l)) (hc : l[c]? = some u) : Cell ⟨F, H⟩ (addc (base (.slice (some ⟨b, 0, none⟩) k m)) (c * 1)) u := by
 have := Cell.own (F := F) i hi hc
 simpa [base, addc] using this
theorem WL_order {ops : Array Oper} {Q : Exit → Env → St → Prop} {l : List Oper} {H' : List (Nat × Obj)} (hp : Pick σ.H H') (h : WL P n B ops Q l e ⟨σ.F, H'⟩) : WL P n B ops Q l e σ := WL_imp (fun _ hw => hw.pick hp) h
/-- The same where the blocks that one was handed stand among the others. -/
theorem Holds.freezeRM {w : World} (hw : Holds B σ w) {E s k : Nat} {v : Value} {cs : List Value} {R TT : List (Nat × Obj)} {f g : List (Nat × Obj) → List (Nat × Obj)} (hM : ∀ m ∈ B.M, m ∈ keys (f (g []))) (hown : Own E s v k cs R) (hH : Hole σ.H TT f) (hR : Tail TT R g) :
   ∃ F', σ.F.le F' ∧ (∀ p ∈ R, F' p.1 = some p.2) ∧ Holds B ⟨F', f (g [])⟩ w := by
 obtain ⟨A, q1, q2⟩ := hH.eq
 obtain ⟨C, r1, r2⟩ := hR.eq
 rw [q2, r2] at hM ⊢
 simp only [List.nil_append] at hM ⊢
 match R, hown with
 | [], _ =>
   have hs : σ = ⟨σ.F, A ++ C⟩ := by
     cases σ with
     | mk F H => simp only at q1; rw [q1, r1]; simp
   exact ⟨σ.F, Heap.le_refl _, by simp, by rw [← hs]; exact hw⟩
 | [(b, o)], _ =>
   have hi : σ.H[A.length]? = some (b, o) := by rw [q1, r1]; simp
   have hm := hw.own _ (List.mem_of_getElem? hi)
   have hb : B.w0.heap.size ≤ b := by
     rcases hm.2.2 with h1 | h1
     · exact h1
     · have hk := hM _ h1
       have hnd := hw.nodup
       rw [q1, r1] at hnd
       simp only [List.map_append, List.map_cons, List.map_nil] at hnd
       rw [List.nodup_append] at hnd
       obtain ⟨-, n2, n3⟩ := hnd
       have hk' : b ∈ (A ++ C).map (·.1) := hk
       rw [List.map_append] at hk'
       rcases List.mem_append.1 hk' with hk' | hk'
       · exact absurd rfl (n3 _ hk' b (by simp))
       · simp at n2 hk'
         obtain ⟨x, hx⟩ := hk'
         exact absurd hx (n2.1 x)
   have hfz := hw.freeze hi hb
   have herase : σ.H.eraseIdx A.length = A ++ C := by
     rw [q1, r1, List.eraseIdx_append_of_length_le (Nat.le_refl _)]; simp
   rw [herase] at hfz
   exact ⟨_, grown_le hm.2.1, fun p hp => by simp at hp; subst hp; exact D4, hfz⟩
theorem WC_freezeRM {c : Code} {Q : Exit → Env → St → Prop} {E s k : Nat} {v : Value} {cs : List Value} {R TT : List (Nat × Obj)} {f g : List (Nat × Obj) → List (Nat × Obj)} (hM : ∀ m ∈ B.M, m ∈ keys (f (g []))) (hown : Own E s v k cs R) (hH : Hole σ.H TT f) (hR : Tail TT R g)
   (h : ∀ F', σ.F.le F' → (∀ p ∈ R, F' p.1 = some p.2) → WC P n B c Q e ⟨F', f (g [])⟩) : WC P n B c Q e σ := fun ds a w ha hw => by
 obtain ⟨F', k1, k2, k3⟩ := hw.freezeRM (B := B.at ds) hM hown hH hR
 exact h F' k1 k2 ds a w ha k3
/-- A key that a map does not have is put into it. -/
theorem x_updateN {M K E i b : Nat} {x y y2 : Operand} {z k v : Value} {es : List (Value × Value)} {H' : List (Nat × Obj)} {Q : Value → St → Prop} (hT : MapT P M K E z) (hx : ev e x = .map (some b)) (hy : ev e y = k) (hy2 : ev e y2 = v) (hi : σ.H[i]? = some (b, mapO es)) (hk : IsK P K k) (hall : ∀ p ∈ es, IsK P K p.1) (hno : ∀ p ∈ es, p.1 ≠ k)
   (hH : SetL σ.H i (b, mapO (es ++ [(k, v)])) H') (hn : Q undef ⟨σ.F, H'⟩) : OpX P n B ⟨d, .mapUpdate M x y y2, ty, pos, af, gd⟩ e σ Q := .run fun w hw => by
 have hb := (hw.own _ (List.mem_of_getElem? hi)).1
 obtain ⟨l, hl⟩ := hk
 have hc := fun em => hT.keyed.check w em hl
 have hf : (Instr.findKey K k (es.zipIdx.map entryO)).run P w = .ok none w := by
   rcases find_map hT.keyed ⟨l, hl⟩ hall w with ⟨h, -⟩ | ⟨j, u, -, h⟩
   · exact h
   · exact absurd rfl (hno _ (List.mem_of_getElem? h))
 have hobj : Obj.map ((es.zipIdx.map entryO).toArray.push ⟨k, v, es.length⟩) (es.length + 1) = mapO (es ++ [(k, v)]) := by
   unfold mapO
   congr 1
   · simp [List.zipIdx_append, entryO]
   · simp
 rw [hH.eq.1] at hn
 refine ⟨_, _, _, .inr ⟨?_, rfl⟩, hw.setObj hi (o' := mapO (es ++ [(k, v)])), hn⟩
 have hg := run_getMap (P := P) hb
 have hs := run_setMap (P := P) (es' := (es ++ [(k, v)])) hb
 simp only [execOp, hx, hy, hy2, Instr.mapUpdate, Sem.run_bind, Cd hT.under, Result.andThen_ok, hg]
 simp only [mapO, hc, Result.andThen_ok, List.toList_toArray, hf, Sem.run_bind]
 rw [hobj, hs]
 simp [mapO]
end
end Go.Proofs.Ytaikojfonleccaa
namespace Go.Proofs.Ytaikojfonleccaa
open Go.RowKit
def aucCells (s : Sale) (vs vb vl vn vd : Value) (ms ps : List Value) (vk : Value) : List Value := vs :: .int .i64 s.premium :: .int .i64 s.fee :: .int .i64 s.days :: vb :: vl :: vn :: vd :: (ms ++ (ps ++ [vk]))
def mosts (s : Sale) (k : Nat) : List Value := cells36 fun l b => mostTo s l b k
def places (s : Sale) (k : Nat) : List Value := cells36 fun l b => placeTo s l b k
theorem mosts_zero {s : Sale} : mosts s 0 = List.replicate 36 (.int .i64 0) := cells36_zero fun _ _ => rfl
theorem places_zero {s : Sale} : places s 0 = List.replicate 36 (.int .i64 0) := cells36_zero fun _ _ => rfl
theorem aucCells_length {s : Sale} {vs vb vl vn vd vk : Value} {ms ps : List Value} (h1 : ms.length = 36) (h2 : ps.length = 36) : (aucCells s vs vb vl vn vd ms ps vk).length = 81 := by simp [aucCells, h1, h2]
theorem auc_set1 {s : Sale} {vs vb vl vn vd vk : Value} {ps : List Value} {k l b : Nat} (hl : l < 6) (hb : b < 6) (h1 : (s.bid k).lot = (l : Int)) (h2 : (s.bid k).bidder = (b : Int)) :
   (aucCells s vs vb vl vn vd (mosts s k) ps vk).set (0 + 8 + l * 6 + b * 1) (.int .i64 (s.bid k).most) = aucCells s vs vb vl vn vd (mosts s (k + 1)) ps vk := by
 have : 0 + 8 + l * 6 + b * 1 = (l * 6 + b) + 1 + 1 + 1 + 1 + 1 + 1 + 1 + 1 := by omega
 unfold aucCells
 rw [this]
 simp only [List.set_cons_succ]
 rw [List.set_append_left (l * 6 + b) _ (by unfold mosts; rw [Cf]; omega)]
 unfold mosts
 rw [mostTo_set hl hb h1 h2]
theorem auc_set2 {s : Sale} {vs vb vl vn vd vk : Value} {ms : List Value} (hm : ms.length = 36) {k l b : Nat} (hl : l < 6) (hb : b < 6) (h1 : (s.bid k).lot = (l : Int)) (h2 : (s.bid k).bidder = (b : Int)) :
   (aucCells s vs vb vl vn vd ms (places s k) vk).set (0 + 44 + l * 6 + b * 1) (.int .i64 ((k : Int) + 1)) = aucCells s vs vb vl vn vd ms (places s (k + 1)) vk := by
 have : 0 + 44 + l * 6 + b * 1 = (36 + (l * 6 + b)) + 1 + 1 + 1 + 1 + 1 + 1 + 1 + 1 := by omega
 unfold aucCells
 rw [this]
 simp only [List.set_cons_succ]
 rw [List.set_append_right _ _ (by omega), hm, Nat.add_sub_cancel_left, List.set_append_left _ _ (by unfold places; rw [Cf]; omega)]
 unfold places
 rw [placeTo_set hl hb h1 h2]
structure AucX (T : Nat) (F : Heap) (b : Nat) (vs vb vl vn vd : Value) (kb : Nat) (s : Sale) : Prop where
 sale : SaleR F vs vb vl vn vd s
 blk : F b = some (bx T (aucCells s vs vb vl vn vd (mosts s s.bids.length) (places s s.bids.length) (.map (some kb))))
theorem AucX.mono {T : Nat} {F F' : Heap} {b : Nat} {vs vb vl vn vd : Value} {kb : Nat} {s : Sale} (h : AucX T F b vs vb vl vn vd kb s) (hF : F.le F') : AucX T F' b vs vb vl vn vd kb s := ⟨h.sale.mono hF, hF _ _ h.blk⟩
theorem AucX.most_cell {T : Nat} {F : Heap} {b : Nat} {vs vb vl vn vd : Value} {kb : Nat} {s : Sale} (h : AucX T F b vs vb vl vn vd kb s) {l c : Nat} (hl : l < 6) (hc : c < 6) : CellF F ⟨b, 0 + 8 + l * 6 + c * 1, none⟩ (.int .i64 (mostN s l c)) :=
 CellF.own h.blk (by
   have : 0 + 8 + l * 6 + c * 1 = (l * 6 + c) + 1 + 1 + 1 + 1 + 1 + 1 + 1 + 1 := by omega
   rw [this]
   unfold aucCells
   simp only [List.getElem?_cons_succ]
   rw [List.getElem?_append_left (by unfold mosts; rw [Cf]; omega)]
   exact cells36_get hl hc)
theorem AucX.place_cell {T : Nat} {F : Heap} {b : Nat} {vs vb vl vn vd : Value} {kb : Nat} {s : Sale} (h : AucX T F b vs vb vl vn vd kb s) {l c : Nat} (hl : l < 6) (hc : c < 6) : CellF F ⟨b, 0 + 44 + l * 6 + c * 1, none⟩ (.int .i64 (placeN s l c)) :=
 CellF.own h.blk (by
   have : 0 + 44 + l * 6 + c * 1 = (36 + (l * 6 + c)) + 1 + 1 + 1 + 1 + 1 + 1 + 1 + 1 := by omega
   rw [this]
   unfold aucCells
   simp only [List.getElem?_cons_succ]
   rw [List.getElem?_append_right (by unfold mosts; rw [Cf]; omega)]
   unfold mosts
   rw [Cf, Nat.add_sub_cancel_left, List.getElem?_append_left (by unfold places; rw [Cf]; omega)]
   exact cells36_get hl hc)
theorem AucX.known_cell {T : Nat} {F : Heap} {b : Nat} {vs vb vl vn vd : Value} {kb : Nat} {s : Sale} (h : AucX T F b vs vb vl vn vd kb s) : CellF F ⟨b, 0 + 80, none⟩ (.map (some kb)) :=
 CellF.own h.blk (by
   have : 0 + 80 = 72 + 1 + 1 + 1 + 1 + 1 + 1 + 1 + 1 := by omega
   rw [this]
   unfold aucCells
   simp only [List.getElem?_cons_succ]
   rw [List.getElem?_append_right (by unfold mosts; rw [Cf]; omega), List.getElem?_append_right (by unfold mosts places; rw [Cf, Cf]; omega)]
   unfold mosts places
   rw [Cf, Cf]; rfl)
/-- What is known of rings: by their members, as bits. -/
structure KnownC (P : Program) (K : Nat) (F : Heap) (es : List (Value × Value)) (s : Sale) : Prop where
 keys : ∀ p ∈ es, IsK P K p.1
 nodup : (es.map (·.1)).Nodup
 vals : ∀ (j : Nat) (set : Nat) (u : Value), es[j]? = some (.int .i64 (set : Int), u) → Sl F u 2 Res.enc (sellL s set s.lots.length)
theorem KnownC.mono {P : Program} {K : Nat} {F F' : Heap} {es : List (Value × Value)} {s : Sale} (h : KnownC P K F es s) (hF : F.le F') : KnownC P K F' es s := ⟨h.keys, h.nodup, fun j set u hj => (h.vals j set u hj).mono hF⟩
theorem KnownC.nil {P : Program} {K : Nat} {F : Heap} {s : Sale} : KnownC P K F [] s := ⟨by simp, by simp, by simp⟩
theorem KnownC.snoc {P : Program} {K : Nat} {F : Heap} {es : List (Value × Value)} {s : Sale} (h : KnownC P K F es s) {set : Nat} {v : Value} (hk : IsK P K (.int .i64 (set : Int))) (hno : ∀ p ∈ es, p.1 ≠ .int .i64 (set : Int)) (hv : Sl F v 2 Res.enc (sellL s set s.lots.length)) :
   KnownC P K F (es ++ [(.int .i64 (set : Int), v)]) s :=
 ⟨all_snoc h.keys hk, nd_snoc h.nodup hno, fun j st u hj => by
   rcases Nat.lt_trichotomy j es.length with h1 | h1 | h1
   · rw [List.getElem?_append_left h1] at hj; exact h.vals j st u hj
   · subst h1
     rw [snoc_at] at hj
     simp only [Option.some.injEq, Prod.mk.injEq, Value.int.injEq, true_and] at hj
     obtain ⟨hj, rfl⟩ := hj
     have : set = st := by omega
     subst this; exact hv
   · rw [List.getElem?_eq_none (by simp; omega)] at hj; cases hj⟩
theorem isK_int {P : Program} {T : Nat} (hu : P.underlying T = some (.int .i64)) {z : Int} (h1 : -9223372036854775808 ≤ z) (h2 : z ≤ 9223372036854775807) : IsK P T (.int .i64 z) := by
 refine ⟨.int .i64 z, ?_⟩
 unfold keyOf mapKey
 rw [hu]
 simp [wf64 h1 h2]
end Go.Proofs.Ytaikojfonleccaa
namespace Go.Proofs.Ytaikojfonleccaa
open Go.RowKit
theorem Dy : ArrT Try.prog 153 6 3 1 := arrT_of (by kernel_rfl)
theorem Dx : ArrT Try.prog 154 6 153 6 := arrT_of (by kernel_rfl)
theorem bd_116 : Body Try.prog 116 := Bs (by kernel_rfl)
theorem bd_67 : Body Try.prog 67 := Bs (by kernel_rfl)
theorem Ee : FieldT Try.prog 156 0 0 := B5 (by kernel_rfl)
theorem Ed : FieldT Try.prog 156 1 8 := B5 (by kernel_rfl)
theorem fd_156_2 : FieldT Try.prog 156 2 44 := B5 (by kernel_rfl)
set_option maxRecDepth 100000 in
theorem behind_ok {F : Heap} {b kb : Nat} {vs vb vl vn vd : Value} {s : Sale} (hX : AucX 156 F b vs vb vl vn vd kb s) (hv : ValidS s) {p : Int} (h0 : 0 ≤ p) (h1 : p ≤ 1000000) : Ok Try.prog 67 [.pointer (some ⟨b, 0, none⟩), .int .i64 p].toArray F fun r _ => r = .int .i64 (behindS s p) := by
 refine Ok.intro Try.func67 rfl Try.ntmps67 rfl fun w0 => ?_
 have hL1 := hX.sale.steps.plain.lt
 refine Af <| Ai fun ds => Aa rfl (Ad Ab) ?_
 refine Ah <| Ae <| Af <| Ai fun ds => Aa rfl (Ad Ab) ?_
 refine Ah <| Ae <| Af <| Af <| Ai fun ds => Aa rfl (Ag (Aq rfl <| Ak rfl)) ?_
 refine Aa rfl (B2 (Ac)) ?_
 refine Aa rfl (Aj Ee (Ac)) ?_
 refine Aa rfl (Aj fd_27_0 (Ac)) ?_
 refine Aa rfl (Ar one_22 (Ac) (CellF.own hX.blk rfl).cell) ?_
 refine Aa rfl (Bj sl_22 (Ac) hX.sale.steps.plain) ?_
 refine Aa rfl (Ag Ab) ?_
 refine Ah <| Ae <| A2 <| B4 [5, 7, 14, 15, 16, 17, 18, 19, 20, 21, 22, 23, 24] (fun m e σ => ∃ k : Nat, m + k = s.steps.length ∧ e 14 = .int .i64 (k : Int) ∧ e 5 = .int .i64 (behindBy (s.steps.take k) p) ∧ σ = ⟨F, []⟩) (s.steps.length) ?_ ?_
 · exact ⟨0, by omega, (Ac), (A0 rfl <| Aq rfl <| Al rfl <| Ac), rfl⟩
 ·
  rintro m e _ ⟨k, hm, hs14, hs5, rfl⟩
  by_cases hlt : k < s.steps.length
  ·
   refine Af <| Ai fun ds => Aa rfl (Bz (At rfl hs14) (Ao rfl <| Al rfl <| Ac)) ?_
   refine Ah <| Ae <| Af <| As (Ac) (by first | rfl | exact decide_eq_true (by omega)) ?_
   by_cases hf : s.steps[k].from_ ≤ p
   ·
    refine Az <| Ae <| Af <| A2 <| Af <| Ai fun ds => Aa rfl (Bn  sl_22 (Al rfl <| Ao rfl <| Aq rfl <| Ac) hX.sale.steps.plain (Al rfl <| At rfl hs14) rfl hlt) ?_
    refine Aa rfl (Bf agg_98 (Ac) rfl rfl (hX.sale.steps.whole hlt)) ?_
    refine Bg rfl (B7 zr_98 rfl fun b2 hb2 nb2 => ?_)
    refine Cj (B8 sz_98 (Ac) (Al rfl <| Ac) (i := 0) rfl rfl rfl rfl Stp.enc_one (.here) ?_)
    refine Ah <| Ae <| Af <| Ai fun ds => Aa rfl (Aj Ec (Ac)) ?_
    refine Aa rfl (Ar Bd (Ac) (Cell.own 0 rfl rfl)) ?_
    refine Aa rfl (Ag (A0 rfl <| Aq rfl <| Ao rfl <| Ba rfl <| Al rfl <| Ak rfl)) ?_
    refine Aa rfl (q_leq (Al rfl <| Ac) (Ac)) ?_
    refine Ah <| Ae <| As (Ac) (decide_eq_true hf) ?_
    refine Ai fun ds => Aa rfl (Aj fd_98_1 (A0 rfl <| Ac)) ?_
    refine Aa rfl (Ar Bd (Ac) (Cell.own 0 rfl rfl)) ?_
    refine Aa rfl (Ad (Ac)) ?_
    refine Ah <| Bh <| Ae <| Cp (fun _ _ h => h.drop (.cons _ <| .refl _)) ?_
    refine Ai fun ds => Aa rfl (B3 (Ba rfl <| Aq rfl <| Al rfl <| At rfl hs14) Ab rfl (by omega) (by omega)) ?_
    refine Aa rfl (Ag (Ac)) ?_
    refine Ah <| Ae ⟨_, m - 1, Off.eq (ou8 rfl <| ou4 rfl <| ou1 rfl <| Bk), by omega, ?_⟩
    exact ⟨k + 1, by omega, (Ac), by rw [behindBy_take hlt, if_pos hf]; exact (Aq rfl <| Ac), rfl⟩
   ·
    refine Az <| Ae <| Af <| A2 <| Af <| Ai fun ds => Aa rfl (Bn  sl_22 (Al rfl <| Ao rfl <| Aq rfl <| Ac) hX.sale.steps.plain (Al rfl <| At rfl hs14) rfl hlt) ?_
    refine Aa rfl (Bf agg_98 (Ac) rfl rfl (hX.sale.steps.whole hlt)) ?_
    refine Bg rfl (B7 zr_98 rfl fun b3 hb3 nb3 => ?_)
    refine Cj (B8 sz_98 (Ac) (Al rfl <| Ac) (i := 0) rfl rfl rfl rfl Stp.enc_one (.here) ?_)
    refine Ah <| Ae <| Af <| Ai fun ds => Aa rfl (Aj Ec (Ac)) ?_
    refine Aa rfl (Ar Bd (Ac) (Cell.own 0 rfl rfl)) ?_
    refine Aa rfl (Ag (A0 rfl <| Aq rfl <| Ao rfl <| Ba rfl <| Al rfl <| Ak rfl)) ?_
    refine Aa rfl (q_leq (Al rfl <| Ac) (Ac)) ?_
    refine Ah <| Ae <| Am (Ac) (decide_eq_false hf) ?_
    refine Az <| Bh <| Ae <| Cp (fun _ _ h => h.drop (.cons _ <| .refl _)) ?_
    refine Ai fun ds => Aa rfl (B3 (Ba rfl <| At rfl hs14) Ab rfl (by omega) (by omega)) ?_
    refine Aa rfl (Ag (Ac)) ?_
    refine Ah <| Ae ⟨_, m - 1, Off.eq (ou8 rfl <| ou2 rfl <| Bk), by omega, ?_⟩
    exact ⟨k + 1, by omega, (Ac), by rw [behindBy_take hlt, if_neg hf]; exact (Ba rfl <| Aq rfl <| At rfl hs5), rfl⟩
  ·
   refine Af <| Ai fun ds => Aa rfl (Bz (At rfl hs14) (Ao rfl <| Al rfl <| Ac)) ?_
   refine Ah <| Ae <| Af <| Am (Ac) (by first | rfl | exact decide_eq_false (by omega)) ?_
   have hb0 := behindBy_any hv k p (by omega)
   obtain rfl : k = s.steps.length := by omega
   refine B0 ?_
   refine Bo <| Bo <| Br <| Ae <| Af <| Ai fun ds => Aa rfl (Ag (Al rfl <| Ao rfl <| Ba rfl <| Al rfl <| Ak rfl)) ?_
   refine Aa rfl (Ag (Aq rfl <| At rfl hs5)) ?_
   refine Aa rfl (B3 (Al rfl <| Ac) (Ac) rfl (by omega) (by omega)) ?_
   refine Aa rfl (Ad (Ac)) ?_
   refine Ah <| Ae <| A3 <| Au rfl (.tmp (Ac) .nil) ?_
   show _ = _
   unfold behindS; rw [List.take_of_length_le (Nat.le_refl _)]; rfl
set_option maxRecDepth 100000 in
theorem stronger_ok {F : Heap} {b kb : Nat} {vs vb vl vn vd : Value} {s : Sale} (hX : AucX 156 F b vs vb vl vn vd kb s) (hv : ValidS s) {l c : Nat} (hl : l < 6) (hc : c < 6) {other : Int} (ho : other < 6) : Ok Try.prog 116 [.pointer (some ⟨b, 0, none⟩), .int .i64 (l : Int), .int .i64 (c : Int), .int .i64 other].toArray F fun r _ => r = .bool (strongerB s l c other) := by
 refine Ok.intro Try.func116 rfl Try.ntmps116 rfl fun w0 => ?_
 by_cases hp : placeN s l c = 0
 ·
  refine Af <| Ai fun ds => Aa rfl (Ad Ab) ?_
  refine Ah <| Ae <| Af <| Af <| Ai fun ds => Aa rfl (Ag (Al rfl <| Ak rfl)) ?_
  refine Aa rfl (Ag (Aq rfl <| Ak rfl)) ?_
  refine Aa rfl (Ag (Aq rfl <| Al rfl <| Ak rfl)) ?_
  refine Aa rfl (B2 (Aq rfl <| Ac)) ?_
  refine Aa rfl (Aj fd_156_2 (Ac)) ?_
  refine Aa rfl (Bv (k := l) Dx (Ac) (Aq rfl <| Al rfl <| Ac) rfl (by omega)) ?_
  refine Aa rfl (Bv (k := c) Dy (Ac) (Aq rfl <| Al rfl <| Ac) rfl (by omega)) ?_
  refine Aa rfl (Ar Bd (Ac) (hX.place_cell (by omega : l < 6) (by omega : c < 6)).cell) ?_
  refine Aa rfl (B9 (Ac) Ab) ?_
  refine Aa rfl (Ag (Ac)) ?_
  refine Aw rfl rfl (Ac) (.inl (congrArg Value.bool (decide_eq_true hp))) rfl ?_
  refine Aw rfl rfl (Al rfl <| Ac) (.inl (congrArg Value.bool (decide_eq_true hp))) rfl ?_
  refine Aa rfl (A1 (Aq rfl <| Ac) (decide_eq_true hp) Ab) ?_
  refine Ah <| Ae <| As (Ac) rfl ?_
  refine Af <| Ai fun ds => Aa rfl (Ag (Ba rfl <| A0 rfl <| Aq rfl <| Ak rfl)) ?_
  refine Aa rfl (Ag (Ba rfl <| A0 rfl <| Aq rfl <| Al rfl <| Ak rfl)) ?_
  refine Aa rfl (Ag (A6 rfl <| Ak rfl)) ?_
  refine Aa rfl (B2 (Aq rfl <| Ac)) ?_
  refine Aa rfl (Aj fd_156_2 (Ac)) ?_
  refine Aa rfl (Bv (k := l) Dx (Ac) (Aq rfl <| Al rfl <| Ac) rfl (by omega)) ?_
  refine Aa rfl (Bv (k := c) Dy (Ac) (Aq rfl <| Al rfl <| Ac) rfl (by omega)) ?_
  refine Aa rfl (Ar Bd (Ac) (hX.place_cell (by omega : l < 6) (by omega : c < 6)).cell) ?_
  refine Aa rfl (Cl (Ac) Ab) ?_
  refine Aa rfl (Ad (Ac)) ?_
  refine Ah <| Ae <| A3 <| A5 ?_
  refine Au rfl (.tmp (Ac) .nil) ?_
  show _ = _
  unfold strongerB; rw [if_pos (.inl hp)]; rfl
 ·
  refine Af <| Ai fun ds => Aa rfl (Ad Ab) ?_
  refine Ah <| Ae <| Af <| Af <| Ai fun ds => Aa rfl (Ag (Al rfl <| Ak rfl)) ?_
  refine Aa rfl (Ag (Aq rfl <| Ak rfl)) ?_
  refine Aa rfl (Ag (Aq rfl <| Al rfl <| Ak rfl)) ?_
  refine Aa rfl (B2 (Aq rfl <| Ac)) ?_
  refine Aa rfl (Aj fd_156_2 (Ac)) ?_
  refine Aa rfl (Bv (k := l) Dx (Ac) (Aq rfl <| Al rfl <| Ac) rfl (by omega)) ?_
  refine Aa rfl (Bv (k := c) Dy (Ac) (Aq rfl <| Al rfl <| Ac) rfl (by omega)) ?_
  refine Aa rfl (Ar Bd (Ac) (hX.place_cell (by omega : l < 6) (by omega : c < 6)).cell) ?_
  refine Aa rfl (B9 (Ac) Ab) ?_
  refine Aa rfl (Ag (Ac)) ?_
  refine Ap rfl rfl (Ac) (decide_eq_false hp) ?_
  refine Aa rfl (Ag (Ba rfl <| Aq rfl <| Al rfl <| Ak rfl)) ?_
  refine Ap rfl rfl (Al rfl <| Ac) (decide_eq_false hp) ?_
  refine Aa rfl (Bz (Ac) Ab) ?_
  refine Aa rfl (Bc (Aq rfl <| Ac) (decide_eq_false hp) (Ac)) ?_
  refine Ah <| Ae ?_
  by_cases h0 : other < 0
  ·
   refine As (Ac) (decide_eq_true h0) ?_
   refine Af <| Ai fun ds => Aa rfl (Ag (Ba rfl <| A0 rfl <| Aq rfl <| Ak rfl)) ?_
   refine Aa rfl (Ag (Ba rfl <| A0 rfl <| Aq rfl <| Al rfl <| Ak rfl)) ?_
   refine Aa rfl (Ag (A6 rfl <| Ak rfl)) ?_
   refine Aa rfl (B2 (Aq rfl <| Ac)) ?_
   refine Aa rfl (Aj fd_156_2 (Ac)) ?_
   refine Aa rfl (Bv (k := l) Dx (Ac) (Aq rfl <| Al rfl <| Ac) rfl (by omega)) ?_
   refine Aa rfl (Bv (k := c) Dy (Ac) (Aq rfl <| Al rfl <| Ac) rfl (by omega)) ?_
   refine Aa rfl (Ar Bd (Ac) (hX.place_cell (by omega : l < 6) (by omega : c < 6)).cell) ?_
   refine Aa rfl (Cl (Ac) Ab) ?_
   refine Aa rfl (Ad (Ac)) ?_
   refine Ah <| Ae <| A3 <| A5 ?_
   refine Au rfl (.tmp (Ac) .nil) ?_
   show _ = _
   unfold strongerB; rw [if_pos (.inr h0)]; rfl
  ·
   obtain ⟨o, rfl⟩ := Int.eq_ofNat_of_zero_le (show 0 ≤ other by omega)
   have ho6 : o < 6 := by omega
   refine Am (Ac) (decide_eq_false h0) ?_
   by_cases h1 : mostN s l o < mostN s l c
   ·
    refine Az <| Ae <| Af <| Cz (.inl rfl) (fun _ _ h => h) (by kernel_rfl) (by kernel_rfl) fun ds => ?_
    refine A9 rfl (Ag (Ba rfl <| A0 rfl <| Aq rfl <| Ak rfl)) ?_
    refine A9 rfl (Ag (Ba rfl <| A0 rfl <| Aq rfl <| Al rfl <| Ak rfl)) ?_
    refine A9 rfl (Ag (A6 rfl <| Ak rfl)) ?_
    refine A9 rfl (B2 (Aq rfl <| Ac)) ?_
    refine A9 rfl (Aj Ed (Ac)) ?_
    refine A9 rfl (Bv (k := l) Dx (Ac) (Aq rfl <| Al rfl <| Ac) rfl (by omega)) ?_
    refine A9 rfl (Bv (k := c) Dy (Ac) (Aq rfl <| Al rfl <| Ac) rfl (by omega)) ?_
    refine A9 rfl (Ar Bd (Ac) (hX.most_cell (by omega : l < 6) (by omega : c < 6)).cell) ?_
    refine A9 rfl (Ag (A6 rfl <| A0 rfl <| Aq rfl <| Ak rfl)) ?_
    refine A9 rfl (Ag (A6 rfl <| A0 rfl <| Aq rfl <| Al rfl <| Ak rfl)) ?_
    refine A9 rfl (Ag (A6 rfl <| Ba rfl <| Ak rfl)) ?_
    refine A9 rfl (B2 (Aq rfl <| Ac)) ?_
    refine A9 rfl (Aj Ed (Ac)) ?_
    refine A9 rfl (Bv (k := l) Dx (Ac) (Aq rfl <| Al rfl <| Ac) rfl (by omega)) ?_
    refine A9 rfl (Bv (k := o) Dy (Ac) (Aq rfl <| Al rfl <| Ac) rfl (by omega)) ?_
    refine A9 rfl (Ar Bd (Ac) (hX.most_cell (by omega : l < 6) (by omega : o < 6)).cell) ?_
    refine A9 rfl (Ad (Ba rfl <| Ac)) ?_
    refine A9 rfl (Ad (Al rfl <| Ac)) ?_
    refine C4 ?_
    refine Ae <| Af <| Cz (.inl rfl) (fun _ _ h => h) (by kernel_rfl) (by kernel_rfl) fun ds => ?_
    refine A9 rfl (Ag (Al rfl <| Ac)) ?_
    refine A9 rfl (Ag (Al rfl <| Ac)) ?_
    refine A9 rfl (Cl (Al rfl <| Ac) (Ac)) ?_
    refine A9 rfl (Ag (Ac)) ?_
    refine Bm rfl rfl (Ac) (.inl (congrArg Value.bool (decide_eq_true h1))) rfl ?_
    refine Bm rfl rfl (Al rfl <| Ac) (.inl (congrArg Value.bool (decide_eq_true h1))) rfl ?_
    refine Bm rfl rfl (Aq rfl <| Ac) (.inl (congrArg Value.bool (decide_eq_true h1))) rfl ?_
    refine Bm rfl rfl (Aq rfl <| Al rfl <| Ac) (.inl (congrArg Value.bool (decide_eq_true h1))) rfl ?_
    refine Bm rfl rfl (Ac) (.inr rfl) rfl ?_
    refine Bm rfl rfl (Al rfl <| Ac) (.inr rfl) rfl ?_
    refine Bm rfl rfl (Aq rfl <| Ac) (.inr rfl) rfl ?_
    refine Bm rfl rfl (Aq rfl <| Al rfl <| Ac) (.inr rfl) rfl ?_
    refine Bm rfl rfl (A0 rfl <| Ac) (.inr rfl) rfl ?_
    refine Bm rfl rfl (A0 rfl <| Al rfl <| Ac) (.inr rfl) rfl ?_
    refine Bm rfl rfl (A0 rfl <| Aq rfl <| Ac) (.inr rfl) rfl ?_
    refine Bm rfl rfl (A0 rfl <| Aq rfl <| Al rfl <| Ac) (.inr rfl) rfl ?_
    refine Bm rfl rfl (Ba rfl <| Ac) (.inr rfl) rfl ?_
    refine Bm rfl rfl (Ba rfl <| Al rfl <| Ac) (.inr rfl) rfl ?_
    refine Bm rfl rfl (Ba rfl <| Aq rfl <| Ac) (.inr rfl) rfl ?_
    refine Bm rfl rfl (Ba rfl <| Aq rfl <| Al rfl <| Ac) (.inr rfl) rfl ?_
    refine Bm rfl rfl (Ba rfl <| A0 rfl <| Ac) (.inr rfl) rfl ?_
    refine Bm rfl rfl (Ba rfl <| A0 rfl <| Al rfl <| Ac) (.inr rfl) rfl ?_
    refine Bm rfl rfl (Ba rfl <| A0 rfl <| Aq rfl <| Ac) (.inr rfl) rfl ?_
    refine Bm rfl rfl (Ba rfl <| A0 rfl <| Aq rfl <| Al rfl <| Ac) (.inr rfl) rfl ?_
    refine Bm rfl rfl (A6 rfl <| Ac) (.inr rfl) rfl ?_
    refine Bm rfl rfl (A6 rfl <| A0 rfl <| Al rfl <| Ac) (.inl (congrArg Value.bool (decide_eq_true h1))) rfl ?_
    refine A9 rfl (A1 (A6 rfl <| A0 rfl <| Aq rfl <| Ac) (decide_eq_true h1) Ab) ?_
    refine A9 rfl (Ad (Ac)) ?_
    refine C4 ?_
    refine Ae <| A3 <| Au rfl (.tmp (Ac) .nil) ?_
    show _ = _
    unfold strongerB; rw [if_neg (by omega)]; simp [outOf, h1]
   ·
    refine Az <| Ae <| Af <| Cz (.inl rfl) (fun _ _ h => h) (by kernel_rfl) (by kernel_rfl) fun ds => ?_
    refine A9 rfl (Ag (Ba rfl <| A0 rfl <| Aq rfl <| Ak rfl)) ?_
    refine A9 rfl (Ag (Ba rfl <| A0 rfl <| Aq rfl <| Al rfl <| Ak rfl)) ?_
    refine A9 rfl (Ag (A6 rfl <| Ak rfl)) ?_
    refine A9 rfl (B2 (Aq rfl <| Ac)) ?_
    refine A9 rfl (Aj Ed (Ac)) ?_
    refine A9 rfl (Bv (k := l) Dx (Ac) (Aq rfl <| Al rfl <| Ac) rfl (by omega)) ?_
    refine A9 rfl (Bv (k := c) Dy (Ac) (Aq rfl <| Al rfl <| Ac) rfl (by omega)) ?_
    refine A9 rfl (Ar Bd (Ac) (hX.most_cell (by omega : l < 6) (by omega : c < 6)).cell) ?_
    refine A9 rfl (Ag (A6 rfl <| A0 rfl <| Aq rfl <| Ak rfl)) ?_
    refine A9 rfl (Ag (A6 rfl <| A0 rfl <| Aq rfl <| Al rfl <| Ak rfl)) ?_
    refine A9 rfl (Ag (A6 rfl <| Ba rfl <| Ak rfl)) ?_
    refine A9 rfl (B2 (Aq rfl <| Ac)) ?_
    refine A9 rfl (Aj Ed (Ac)) ?_
    refine A9 rfl (Bv (k := l) Dx (Ac) (Aq rfl <| Al rfl <| Ac) rfl (by omega)) ?_
    refine A9 rfl (Bv (k := o) Dy (Ac) (Aq rfl <| Al rfl <| Ac) rfl (by omega)) ?_
    refine A9 rfl (Ar Bd (Ac) (hX.most_cell (by omega : l < 6) (by omega : o < 6)).cell) ?_
    refine A9 rfl (Ad (Ba rfl <| Ac)) ?_
    refine A9 rfl (Ad (Al rfl <| Ac)) ?_
    refine C4 ?_
    refine Ae <| Af <| Cz (.inl rfl) (fun _ _ h => h) (by kernel_rfl) (by kernel_rfl) fun ds => ?_
    refine A9 rfl (Ag (Al rfl <| Ac)) ?_
    refine A9 rfl (Ag (Al rfl <| Ac)) ?_
    refine A9 rfl (Cl (Al rfl <| Ac) (Ac)) ?_
    refine A9 rfl (Ag (Ac)) ?_
    refine Bt rfl rfl (Ac) (decide_eq_false h1) ?_
    refine A9 rfl (Ag (A0 rfl <| Al rfl <| Ac)) ?_
    refine Bt rfl rfl (Al rfl <| Ac) (decide_eq_false h1) ?_
    refine A9 rfl (Ag (A0 rfl <| Al rfl <| Ac)) ?_
    refine Bt rfl rfl (Aq rfl <| Ac) (decide_eq_false h1) ?_
    refine A9 rfl (B9 (Al rfl <| Ac) (Ac)) ?_
    refine Bt rfl rfl (Aq rfl <| Al rfl <| Ac) (decide_eq_false h1) ?_
    refine A9 rfl (Ag (Ac)) ?_
    by_cases h2 : mostN s l c = mostN s l o
    ·
     refine Bt rfl rfl (Ac) (decide_eq_true h2) ?_
     refine A9 rfl (Ag (B1 rfl <| Ba rfl <| Ak rfl)) ?_
     refine Bt rfl rfl (Al rfl <| Ac) (decide_eq_true h2) ?_
     refine A9 rfl (Ag (B1 rfl <| Ba rfl <| Al rfl <| Ak rfl)) ?_
     refine Bt rfl rfl (Aq rfl <| Ac) (decide_eq_true h2) ?_
     refine A9 rfl (Ag (B1 rfl <| Ba rfl <| Aq rfl <| Ak rfl)) ?_
     refine Bt rfl rfl (Aq rfl <| Al rfl <| Ac) (decide_eq_true h2) ?_
     refine A9 rfl (B2 (Aq rfl <| Ac)) ?_
     refine Bt rfl rfl (A0 rfl <| Ac) (decide_eq_true h2) ?_
     refine A9 rfl (Aj fd_156_2 (Ac)) ?_
     refine Bt rfl rfl (A0 rfl <| Al rfl <| Ac) (decide_eq_true h2) ?_
     refine A9 rfl (Bv (k := l) Dx (Ac) (Aq rfl <| Al rfl <| Ac) rfl (by omega)) ?_
     refine Bt rfl rfl (A0 rfl <| Aq rfl <| Ac) (decide_eq_true h2) ?_
     refine A9 rfl (Bv (k := c) Dy (Ac) (Aq rfl <| Al rfl <| Ac) rfl (by omega)) ?_
     refine Bt rfl rfl (A0 rfl <| Aq rfl <| Al rfl <| Ac) (decide_eq_true h2) ?_
     refine A9 rfl (Ar Bd (Ac) (hX.place_cell (by omega : l < 6) (by omega : c < 6)).cell) ?_
     refine Bt rfl rfl (Ba rfl <| Ac) (decide_eq_true h2) ?_
     refine A9 rfl (Ag (B1 rfl <| A6 rfl <| Ak rfl)) ?_
     refine Bt rfl rfl (Ba rfl <| Al rfl <| Ac) (decide_eq_true h2) ?_
     refine A9 rfl (Ag (B1 rfl <| A6 rfl <| Al rfl <| Ak rfl)) ?_
     refine Bt rfl rfl (Ba rfl <| Aq rfl <| Ac) (decide_eq_true h2) ?_
     refine A9 rfl (Ag (B1 rfl <| A6 rfl <| Aq rfl <| Ak rfl)) ?_
     refine Bt rfl rfl (Ba rfl <| Aq rfl <| Al rfl <| Ac) (decide_eq_true h2) ?_
     refine A9 rfl (B2 (Aq rfl <| Ac)) ?_
     refine Bt rfl rfl (Ba rfl <| A0 rfl <| Ac) (decide_eq_true h2) ?_
     refine A9 rfl (Aj fd_156_2 (Ac)) ?_
     refine Bt rfl rfl (Ba rfl <| A0 rfl <| Al rfl <| Ac) (decide_eq_true h2) ?_
     refine A9 rfl (Bv (k := l) Dx (Ac) (Aq rfl <| Al rfl <| Ac) rfl (by omega)) ?_
     refine Bt rfl rfl (Ba rfl <| A0 rfl <| Aq rfl <| Ac) (decide_eq_true h2) ?_
     refine A9 rfl (Bv (k := o) Dy (Ac) (Aq rfl <| Al rfl <| Ac) rfl (by omega)) ?_
     refine Bt rfl rfl (Ba rfl <| A0 rfl <| Aq rfl <| Al rfl <| Ac) (decide_eq_true h2) ?_
     refine A9 rfl (Ar Bd (Ac) (hX.place_cell (by omega : l < 6) (by omega : o < 6)).cell) ?_
     refine Bt rfl rfl (A6 rfl <| Ac) (decide_eq_true h2) ?_
     refine A9 rfl (Bz (Ba rfl <| Ac) (Ac)) ?_
     refine Bt rfl rfl (A6 rfl <| A0 rfl <| Al rfl <| Ac) (decide_eq_false h1) ?_
     refine A9 rfl (A1 (A6 rfl <| Al rfl <| Ac) (decide_eq_true h2) (Ac)) ?_
     refine A9 rfl (Bc (A6 rfl <| A0 rfl <| Aq rfl <| Ac) (decide_eq_false h1) (Ac)) ?_
     refine A9 rfl (Ad (Ac)) ?_
     refine C4 ?_
     refine Ae <| A3 <| Au rfl (.tmp (Ac) .nil) ?_
     show _ = _
     unfold strongerB; rw [if_neg (by omega)]; simp [outOf, h2]
    ·
     refine Bm rfl rfl (Ac) (.inl (congrArg Value.bool (decide_eq_false h2))) rfl ?_
     refine Bm rfl rfl (Al rfl <| Ac) (.inl (congrArg Value.bool (decide_eq_false h2))) rfl ?_
     refine Bm rfl rfl (Aq rfl <| Ac) (.inl (congrArg Value.bool (decide_eq_false h2))) rfl ?_
     refine Bm rfl rfl (Aq rfl <| Al rfl <| Ac) (.inl (congrArg Value.bool (decide_eq_false h2))) rfl ?_
     refine Bm rfl rfl (A0 rfl <| Ac) (.inl (congrArg Value.bool (decide_eq_false h2))) rfl ?_
     refine Bm rfl rfl (A0 rfl <| Al rfl <| Ac) (.inl (congrArg Value.bool (decide_eq_false h2))) rfl ?_
     refine Bm rfl rfl (A0 rfl <| Aq rfl <| Ac) (.inl (congrArg Value.bool (decide_eq_false h2))) rfl ?_
     refine Bm rfl rfl (A0 rfl <| Aq rfl <| Al rfl <| Ac) (.inl (congrArg Value.bool (decide_eq_false h2))) rfl ?_
     refine Bm rfl rfl (Ba rfl <| Ac) (.inl (congrArg Value.bool (decide_eq_false h2))) rfl ?_
     refine Bm rfl rfl (Ba rfl <| Al rfl <| Ac) (.inl (congrArg Value.bool (decide_eq_false h2))) rfl ?_
     refine Bm rfl rfl (Ba rfl <| Aq rfl <| Ac) (.inl (congrArg Value.bool (decide_eq_false h2))) rfl ?_
     refine Bm rfl rfl (Ba rfl <| Aq rfl <| Al rfl <| Ac) (.inl (congrArg Value.bool (decide_eq_false h2))) rfl ?_
     refine Bm rfl rfl (Ba rfl <| A0 rfl <| Ac) (.inl (congrArg Value.bool (decide_eq_false h2))) rfl ?_
     refine Bm rfl rfl (Ba rfl <| A0 rfl <| Al rfl <| Ac) (.inl (congrArg Value.bool (decide_eq_false h2))) rfl ?_
     refine Bm rfl rfl (Ba rfl <| A0 rfl <| Aq rfl <| Ac) (.inl (congrArg Value.bool (decide_eq_false h2))) rfl ?_
     refine Bm rfl rfl (Ba rfl <| A0 rfl <| Aq rfl <| Al rfl <| Ac) (.inl (congrArg Value.bool (decide_eq_false h2))) rfl ?_
     refine Bm rfl rfl (A6 rfl <| Ac) (.inl (congrArg Value.bool (decide_eq_false h2))) rfl ?_
     refine Bt rfl rfl (A6 rfl <| A0 rfl <| Al rfl <| Ac) (decide_eq_false h1) ?_
     refine A9 rfl (Bc (A6 rfl <| Al rfl <| Ac) (decide_eq_false h2) Ab) ?_
     refine A9 rfl (Bc (A6 rfl <| A0 rfl <| Aq rfl <| Ac) (decide_eq_false h1) (Ac)) ?_
     refine A9 rfl (Ad (Ac)) ?_
     refine C4 ?_
     refine Ae <| A3 <| Au rfl (.tmp (Ac) .nil) ?_
     show _ = _
     unfold strongerB; rw [if_neg (by omega)]; simp [outOf, h1, h2]
theorem strongTo_lt {s : Sale} {l : Nat} {mem : Nat → Bool} (k : Nat) : -1 ≤ strongTo s l mem k ∧ strongTo s l mem k < k ∨ k = 0 ∧ strongTo s l mem k = -1 := by
 rcases strong_spec (s := s) (l := l) (mem := mem) k with ⟨h, -⟩ | ⟨b, h1, -, h, -⟩ <;> omega
set_option maxRecDepth 100000 in
theorem strongest_set {F : Heap} {b kb : Nat} {vs vb vl vn vd : Value} {s : Sale} (hX : AucX 156 F b vs vb vl vn vd kb s) (hv : ValidS s) {l : Nat} (hl : l < 6) {set : Nat} (hset : set < 64) : Ok Try.prog 100 [.pointer (some ⟨b, 0, none⟩), .int .i64 (l : Int), .int .i64 (set : Int)].toArray F fun r _ => r = .int .i64 (strongP s l set.testBit) := by
 refine Ok.intro Try.func100 rfl Try.ntmps100 rfl fun w0 => ?_
 have hL1 := hX.sale.bidders.plain.lt
 have hnb := hv.nb
 refine Af <| Ai fun ds => Aa rfl (Ad Ab) ?_
 refine Ah <| Ae <| Af <| Ai fun ds => Aa rfl (Ad Ab) ?_
 refine Ah <| Ae <| Af <| Af <| Ai fun ds => Aa rfl (Ag (Aq rfl <| Ak rfl)) ?_
 refine Aa rfl (B2 (Ac)) ?_
 refine Aa rfl (Aj Ee (Ac)) ?_
 refine Aa rfl (Aj Dd (Ac)) ?_
 refine Aa rfl (Ar Cx (Ac) (CellF.own hX.blk rfl).cell) ?_
 refine Aa rfl (Bj Dg (Ac) hX.sale.bidders.plain) ?_
 refine Aa rfl (Ag Ab) ?_
 refine Ah <| Ae <| A2 <| B4 [7, 8, 15, 16, 17, 18, 19, 20, 21, 22, 23, 24, 25, 26, 27, 28, 29, 30, 31] (fun m e σ => ∃ k : Nat, m + k = s.bidders.length ∧ e 15 = .int .i64 (k : Int) ∧ e 7 = .int .i64 (strongTo s l set.testBit k) ∧ σ = ⟨F, []⟩) (s.bidders.length) ?_ ?_
 · exact ⟨0, by omega, (Ac), (A0 rfl <| Aq rfl <| Al rfl <| Ac), rfl⟩
 ·
  rintro m e _ ⟨k, hm9, hs15, hs7, rfl⟩; have hst := strongTo_lt (s := s) (l := l) (mem := set.testBit) k
  by_cases hlt : k < s.bidders.length
  ·
   have hk6 : k < 6 := by omega
   refine Af <| Ai fun ds => Aa rfl (Bz (At rfl hs15) (Ao rfl <| Al rfl <| Ac)) ?_
   refine Ah <| Ae <| Af <| As (Ac) (by first | rfl | exact decide_eq_true (by omega)) ?_
   by_cases hm : set.testBit k = true
   ·
    refine Az <| Ae <| Af <| A2 <| Af <| Ai fun ds => Aa rfl (Ag (Al rfl <| At rfl hs15)) ?_
    refine Aa rfl (Ad (Ac)) ?_
    refine Ah <| Ae <| Af <| Ai fun ds => Aa rfl (Ag (Aq rfl <| Al rfl <| Ao rfl <| Ba rfl <| Al rfl <| Ak rfl)) ?_
    refine Aa rfl (Ag (Al rfl <| Ac)) ?_
    refine Aa rfl (q_shr (Al rfl <| Ac) (Ac) rfl (by show k < 64; omega) shr_nat) ?_
    refine Aa rfl (q_and (Ac) Ab (m := set / 2 ^ k) (k := 1) rfl rfl (by have := Nat.div_le_self set (2 ^ k); omega) (by omega) rfl) ?_
    refine Aa rfl (B9 (Ac) Ab) ?_
    refine Aa rfl (Ag (Ac)) ?_
    refine Ap rfl rfl (Ac) (by rw [Df]; exact hm) ?_
    refine Aa rfl (Ag (Ba rfl <| Al rfl <| Ao rfl <| Ba rfl <| Al rfl <| Ak rfl)) ?_
    refine Ap rfl rfl (Al rfl <| Ac) (by rw [Df]; exact hm) ?_
    refine Aa rfl (Ag (Ba rfl <| Aq rfl <| Ao rfl <| Ba rfl <| Al rfl <| Ak rfl)) ?_
    refine Ap rfl rfl (Aq rfl <| Ac) (by rw [Df]; exact hm) ?_
    refine Aa rfl (Ag (Ba rfl <| Ac)) ?_
    refine Ap rfl rfl (Aq rfl <| Al rfl <| Ac) (by rw [Df]; exact hm) ?_
    refine Aa rfl (Ag (Ba rfl <| A0 rfl <| At rfl hs7)) ?_
    refine Ap rfl rfl (A0 rfl <| Ac) (by rw [Df]; exact hm) ?_
    refine Bw rfl (A4 bd_116 Ay (.cons (Aq rfl <| Al rfl <| Ac) (.cons (Aq rfl <| Ac) (.cons (Al rfl <| Ac) (.cons (Ac) .nil)))) (stronger_ok hX hv hl hk6 (by omega)) (fun _ _ h => h)) ?_
    refine Aa rfl (A1 (A0 rfl <| Al rfl <| Ac) (by rw [Df]; exact hm) (Ac)) ?_
    refine Ah <| Ae ?_
    by_cases hs : strongerB s l k (strongTo s l set.testBit k) = true
    ·
     refine As (Ac) hs ?_
     refine Ai fun ds => Aa rfl (Ag (Ba rfl <| A0 rfl <| Ac)) ?_
     refine Aa rfl (Ad (Ac)) ?_
     refine Ah <| Bh <| Ae <| Ai fun ds => Aa rfl (B3 (A6 rfl <| Al rfl <| At rfl hs15) Ab rfl (by omega) (by omega)) ?_
     refine Aa rfl (Ag (Ac)) ?_
     refine Ah <| Ae ⟨_, m - 1, Off.eq (De rfl <| ou2 rfl <| ou1 rfl <| Bk), by omega, ?_⟩
     exact ⟨k + 1, by omega, (Ac), by rw [Dj, show strongStep s l set.testBit _ k = k from if_pos ⟨hm, hs⟩]; exact (Aq rfl <| Ac), rfl⟩
    ·
     replace hs : strongerB s l k (strongTo s l set.testBit k) = false := by simpa using hs
     refine Am (Ac) hs ?_
     refine Az <| Bh <| Ae <| Ai fun ds => Aa rfl (B3 (Ba rfl <| A0 rfl <| Aq rfl <| Al rfl <| At rfl hs15) Ab rfl (by omega) (by omega)) ?_
     refine Aa rfl (Ag (Ac)) ?_
     refine Ah <| Ae ⟨_, m - 1, Off.eq (De rfl <| ou1 rfl <| Bk), by omega, ?_⟩
     exact ⟨k + 1, by omega, (Ac), by rw [Dj, show strongStep s l set.testBit _ k = _ from if_neg fun h => by rw [hs] at h; exact absurd h.2 (by decide)]; exact (A6 rfl <| Al rfl <| At rfl hs7), rfl⟩
   ·
    refine Az <| Ae <| Af <| A2 <| Af <| Ai fun ds => Aa rfl (Ag (Al rfl <| At rfl hs15)) ?_
    refine Aa rfl (Ad (Ac)) ?_
    refine Ah <| Ae <| Af <| Ai fun ds => Aa rfl (Ag (Aq rfl <| Al rfl <| Ao rfl <| Ba rfl <| Al rfl <| Ak rfl)) ?_
    refine Aa rfl (Ag (Al rfl <| Ac)) ?_
    refine Aa rfl (q_shr (Al rfl <| Ac) (Ac) rfl (by show k < 64; omega) shr_nat) ?_
    refine Aa rfl (q_and (Ac) Ab (m := set / 2 ^ k) (k := 1) rfl rfl (by have := Nat.div_le_self set (2 ^ k); omega) (by omega) rfl) ?_
    refine Aa rfl (B9 (Ac) Ab) ?_
    refine Aa rfl (Ag (Ac)) ?_
    refine Aw rfl rfl (Ac) (.inl (congrArg Value.bool (by rw [Df]; simpa using hm))) rfl ?_
    refine Aw rfl rfl (Al rfl <| Ac) (.inl (congrArg Value.bool (by rw [Df]; simpa using hm))) rfl ?_
    refine Aw rfl rfl (Aq rfl <| Ac) (.inl (congrArg Value.bool (by rw [Df]; simpa using hm))) rfl ?_
    refine Aw rfl rfl (Aq rfl <| Al rfl <| Ac) (.inl (congrArg Value.bool (by rw [Df]; simpa using hm))) rfl ?_
    refine Aw rfl rfl (A0 rfl <| Ac) (.inl (congrArg Value.bool (by rw [Df]; simpa using hm))) rfl ?_
    refine Aa rfl (Bc (A0 rfl <| Al rfl <| Ac) (by rw [Df]; simpa using hm) Ab) ?_
    refine Ah <| Ae <| Am (Ac) rfl ?_
    refine Az <| Bh <| Ae <| Ai fun ds => Aa rfl (B3 (Ba rfl <| A0 rfl <| Aq rfl <| Al rfl <| At rfl hs15) Ab rfl (by omega) (by omega)) ?_
    refine Aa rfl (Ag (Ac)) ?_
    refine Ah <| Ae ⟨_, m - 1, Off.eq (De rfl <| ou1 rfl <| Bk), by omega, ?_⟩
    exact ⟨k + 1, by omega, (Ac), by rw [Dj, show strongStep s l set.testBit _ k = _ from if_neg fun h => hm h.1]; exact (A6 rfl <| Al rfl <| At rfl hs7), rfl⟩
  ·
   refine Af <| Ai fun ds => Aa rfl (Bz (At rfl hs15) (Ao rfl <| Al rfl <| Ac)) ?_
   refine Ah <| Ae <| Af <| Am (Ac) (by first | rfl | exact decide_eq_false (by omega)) ?_
   obtain rfl : k = s.bidders.length := by omega
   refine B0 ?_
   refine Bo <| Bo <| Br <| Ae <| Af <| Ai fun ds => Aa rfl (Ag (Al rfl <| At rfl hs7)) ?_
   refine Aa rfl (Ad (Ac)) ?_
   refine Ah <| Ae <| A3 <| Au rfl (.tmp (Ac) .nil) ?_
   rfl
set_option maxRecDepth 100000 in
theorem strongest_all {F : Heap} {b kb : Nat} {vs vb vl vn vd : Value} {s : Sale} (hX : AucX 156 F b vs vb vl vn vd kb s) (hv : ValidS s) {l : Nat} (hl : l < 6)  : Ok Try.prog 100 [.pointer (some ⟨b, 0, none⟩), .int .i64 (l : Int), .int .i64 (-1)].toArray F fun r _ => r = .int .i64 (strongP s l (fun _ => true)) := by
 refine Ok.intro Try.func100 rfl Try.ntmps100 rfl fun w0 => ?_
 have hL1 := hX.sale.bidders.plain.lt
 have hnb := hv.nb
 refine Af <| Ai fun ds => Aa rfl (Ad Ab) ?_
 refine Ah <| Ae <| Af <| Ai fun ds => Aa rfl (Ad Ab) ?_
 refine Ah <| Ae <| Af <| Af <| Ai fun ds => Aa rfl (Ag (Aq rfl <| Ak rfl)) ?_
 refine Aa rfl (B2 (Ac)) ?_
 refine Aa rfl (Aj Ee (Ac)) ?_
 refine Aa rfl (Aj Dd (Ac)) ?_
 refine Aa rfl (Ar Cx (Ac) (CellF.own hX.blk rfl).cell) ?_
 refine Aa rfl (Bj Dg (Ac) hX.sale.bidders.plain) ?_
 refine Aa rfl (Ag Ab) ?_
 refine Ah <| Ae <| A2 <| B4 [7, 8, 15, 16, 17, 18, 19, 20, 21, 22, 23, 24, 25, 26, 27, 28, 29, 30, 31] (fun m e σ => ∃ k : Nat, m + k = s.bidders.length ∧ e 15 = .int .i64 (k : Int) ∧ e 7 = .int .i64 (strongTo s l (fun _ => true) k) ∧ σ = ⟨F, []⟩) (s.bidders.length) ?_ ?_
 · exact ⟨0, by omega, (Ac), (A0 rfl <| Aq rfl <| Al rfl <| Ac), rfl⟩
 ·
  rintro m e _ ⟨k, hm9, hs15, hs7, rfl⟩; have hst := strongTo_lt (s := s) (l := l) (mem := (fun _ => true)) k
  by_cases hlt : k < s.bidders.length
  ·
   have hk6 : k < 6 := by omega
   refine Af <| Ai fun ds => Aa rfl (Bz (At rfl hs15) (Ao rfl <| Al rfl <| Ac)) ?_
   refine Ah <| Ae <| Af <| As (Ac) (by first | rfl | exact decide_eq_true (by omega)) ?_
   refine Az <| Ae <| Af <| A2 <| Af <| Ai fun ds => Aa rfl (Ag (Al rfl <| At rfl hs15)) ?_
   refine Aa rfl (Ad (Ac)) ?_
   refine Ah <| Ae <| Af <| Ai fun ds => Aa rfl (Ag (Aq rfl <| Al rfl <| Ao rfl <| Ba rfl <| Al rfl <| Ak rfl)) ?_
   refine Aa rfl (Ag (Al rfl <| Ac)) ?_
   refine Aa rfl (q_shr (Al rfl <| Ac) (Ac) rfl (by show k < 64; omega) neg_shr) ?_
   refine Aa rfl (q_andm1 (Ac) Ab) ?_
   refine Aa rfl (B9 (Ac) Ab) ?_
   refine Aa rfl (Ag (Ac)) ?_
   refine Ap rfl rfl (Ac) (by rfl) ?_
   refine Aa rfl (Ag (Ba rfl <| Al rfl <| Ao rfl <| Ba rfl <| Al rfl <| Ak rfl)) ?_
   refine Ap rfl rfl (Al rfl <| Ac) (by rfl) ?_
   refine Aa rfl (Ag (Ba rfl <| Aq rfl <| Ao rfl <| Ba rfl <| Al rfl <| Ak rfl)) ?_
   refine Ap rfl rfl (Aq rfl <| Ac) (by rfl) ?_
   refine Aa rfl (Ag (Ba rfl <| Ac)) ?_
   refine Ap rfl rfl (Aq rfl <| Al rfl <| Ac) (by rfl) ?_
   refine Aa rfl (Ag (Ba rfl <| A0 rfl <| At rfl hs7)) ?_
   refine Ap rfl rfl (A0 rfl <| Ac) (by rfl) ?_
   refine Bw rfl (A4 bd_116 Ay (.cons (Aq rfl <| Al rfl <| Ac) (.cons (Aq rfl <| Ac) (.cons (Al rfl <| Ac) (.cons (Ac) .nil)))) (stronger_ok hX hv hl hk6 (by omega)) (fun _ _ h => h)) ?_
   refine Aa rfl (A1 (A0 rfl <| Al rfl <| Ac) (by rfl) (Ac)) ?_
   refine Ah <| Ae ?_
   by_cases hs : strongerB s l k (strongTo s l (fun _ => true) k) = true
   ·
    refine As (Ac) hs ?_
    refine Ai fun ds => Aa rfl (Ag (Ba rfl <| A0 rfl <| Ac)) ?_
    refine Aa rfl (Ad (Ac)) ?_
    refine Ah <| Bh <| Ae <| Ai fun ds => Aa rfl (B3 (A6 rfl <| Al rfl <| At rfl hs15) Ab rfl (by omega) (by omega)) ?_
    refine Aa rfl (Ag (Ac)) ?_
    refine Ah <| Ae ⟨_, m - 1, Off.eq (De rfl <| ou2 rfl <| ou1 rfl <| Bk), by omega, ?_⟩
    exact ⟨k + 1, by omega, (Ac), by rw [Dj, show strongStep s l (fun _ => true) _ k = k from if_pos ⟨rfl, hs⟩]; exact (Aq rfl <| Ac), rfl⟩
   ·
    replace hs : strongerB s l k (strongTo s l (fun _ => true) k) = false := by simpa using hs
    refine Am (Ac) hs ?_
    refine Az <| Bh <| Ae <| Ai fun ds => Aa rfl (B3 (Ba rfl <| A0 rfl <| Aq rfl <| Al rfl <| At rfl hs15) Ab rfl (by omega) (by omega)) ?_
    refine Aa rfl (Ag (Ac)) ?_
    refine Ah <| Ae ⟨_, m - 1, Off.eq (De rfl <| ou1 rfl <| Bk), by omega, ?_⟩
    exact ⟨k + 1, by omega, (Ac), by rw [Dj, show strongStep s l (fun _ => true) _ k = _ from if_neg fun h => by rw [hs] at h; exact absurd h.2 (by decide)]; exact (A6 rfl <| Al rfl <| At rfl hs7), rfl⟩
  ·
   refine Af <| Ai fun ds => Aa rfl (Bz (At rfl hs15) (Ao rfl <| Al rfl <| Ac)) ?_
   refine Ah <| Ae <| Af <| Am (Ac) (by first | rfl | exact decide_eq_false (by omega)) ?_
   obtain rfl : k = s.bidders.length := by omega
   refine B0 ?_
   refine Bo <| Bo <| Br <| Ae <| Af <| Ai fun ds => Aa rfl (Ag (Al rfl <| At rfl hs7)) ?_
   refine Aa rfl (Ad (Ac)) ?_
   refine Ah <| Ae <| A3 <| Au rfl (.tmp (Ac) .nil) ?_
   rfl
theorem step_from {s : Sale} (hv : ValidS s) {k : Nat} (h : k < s.steps.length) : 0 ≤ s.steps[k].from_ ∧ s.steps[k].from_ ≤ 100000 := by
 rw [stp_at h]
 refine ⟨from_nonneg hv h, ?_⟩
 rcases Nat.eq_zero_or_pos k with rfl | h0
 · have := hv.st0; omega
 · exact (hv.st k h0 h).2
set_option maxRecDepth 100000 in
theorem price_ok {F : Heap} {b kb : Nat} {vs vb vl vn vd : Value} {s : Sale} (hX : AucX 156 F b vs vb vl vn vd kb s) (hv : ValidS s) {p0 others most : Int} (h0 : 0 ≤ p0) (hp0 : p0 ≤ 100000) (ho : 0 ≤ others) (ho2 : others ≤ 100000) (hm0 : 0 ≤ most) (hm2 : most ≤ 100000) : Ok Try.prog 101 [.pointer (some ⟨b, 0, none⟩), .int .i64 p0, .int .i64 others, .int .i64 most].toArray F fun r _ => r = .int .i64 (climbS s p0 others most) := by
 refine Ok.intro Try.func101 rfl Try.ntmps101 rfl fun w0 => ?_
 have hL1 := hX.sale.steps.plain.lt
 refine Af <| Ai fun ds => Aa rfl (Ad Ab) ?_
 refine Ah <| Ae <| WC_scope ?_
 refine Af <| WC_label ?_
 refine Ae <| Af <| A2 <| B4 [1, 9, 10, 11, 13, 14, 15, 16, 17, 18, 19, 20, 21, 22, 23, 24, 25, 26, 27, 28, 29, 30, 31, 32, 33, 34, 35, 36, 37, 38, 39, 40, 41, 42, 43, 44, 45, 46, 47, 48, 49, 50, 51, 52, 53, 54, 55, 56, 57, 58, 59, 60, 61, 62, 63, 64, 65] (fun m e σ => ∃ p : Int, (others + 1 - p).toNat ≤ m ∧ 0 ≤ p ∧ e 1 = .int .i64 p ∧ climbS s p others most = climbS s p0 others most ∧ p ≤ 200000 ∧ σ = ⟨F, []⟩) ((others + 1 - p0).toNat) ?_ ?_
 · exact ⟨p0, Nat.le_refl _, h0, (Al rfl <| Ak rfl), rfl, by omega, rfl⟩
 ·
  rintro m e _ ⟨p, hm, hp, hs1, hcl, hp2, rfl⟩
  by_cases h1 : p ≤ others
  ·
   refine Af <| Af <| Ai fun ds => Aa rfl (Ag (At rfl hs1)) ?_
   refine Aa rfl (Ag (Al rfl <| Ao rfl <| Al rfl <| Ak rfl)) ?_
   refine Aa rfl (q_leq (Al rfl <| Ac) (Ac)) ?_
   refine Ah <| Ae <| As (Ac) (by first | rfl | exact decide_eq_true (by omega)) ?_
   by_cases h2 : behindS s p ≤ most
   ·
    refine Az <| Ae <| A2 <| Af <| Ai fun ds => Aa rfl (Ag (Aq rfl <| Al rfl <| Ao rfl <| Al rfl <| Ak rfl)) ?_
    refine Aa rfl (Ag (A0 rfl <| At rfl hs1)) ?_
    refine Bw rfl (A4 bd_67 Ay (.cons (Al rfl <| Ac) (.cons (Ac) .nil)) (behind_ok hX hv hp (by omega)) (fun _ _ h => h)) ?_
    refine Aa rfl (Ad (Ac)) ?_
    refine Ah <| Ae <| Af <| Af <| Ai fun ds => Aa rfl (Ag (Ac)) ?_
    refine Aa rfl (Ag (Ba rfl <| Ao rfl <| Al rfl <| Ak rfl)) ?_
    refine Aa rfl (Cl (Al rfl <| Ac) (Ac)) ?_
    refine Ah <| Ae <| Am (Ac) (decide_eq_false (by omega)) ?_
    have hbb := behindBy_bound hv hp
    have hbs : behindS s p = p + behindBy s.steps p := rfl
    refine Az <| Ae <| Af <| Ai fun ds => Aa rfl (Ag (Aq rfl <| Al rfl <| Ac)) ?_
    refine Aa rfl (Ag (Ba rfl <| Aq rfl <| Al rfl <| At rfl hs1)) ?_
    refine Aa rfl (Dn (Al rfl <| Ac) (Ac) (show behindS s p - p = behindBy s.steps p by omega) (by omega) (by omega)) ?_
    refine Aa rfl (Ad (Ac)) ?_
    refine Ah <| Ae <| Af <| Ai fun ds => Aa rfl (Ag (Ba rfl <| A0 rfl <| Aq rfl <| Ao rfl <| Al rfl <| Ak rfl)) ?_
    refine Aa rfl (Ad (Ac)) ?_
    refine Ah <| Ae <| Af <| Af <| Ai fun ds => Aa rfl (Ag (A6 rfl <| Ao rfl <| Al rfl <| Ak rfl)) ?_
    refine Aa rfl (B2 (Ac)) ?_
    refine Aa rfl (Aj Ee (Ac)) ?_
    refine Aa rfl (Aj fd_27_0 (Ac)) ?_
    refine Aa rfl (Ar one_22 (Ac) (CellF.own hX.blk rfl).cell) ?_
    refine Aa rfl (Bj sl_22 (Ac) hX.sale.steps.plain) ?_
    refine Aa rfl (Ag Ab) ?_
    refine Ah <| Ae <| A2 <| B4 [11, 13, 34, 35, 36, 37, 38, 39, 40, 41, 42, 43, 44, 45, 46, 47] (fun m e σ => ∃ k : Nat, m + k = s.steps.length ∧ e 34 = .int .i64 (k : Int) ∧ e 11 = .int .i64 (endTo s p others k) ∧ σ = ⟨F, []⟩) (s.steps.length) ?_ ?_
    · exact ⟨0, by omega, (Ac), (A0 rfl <| Aq rfl <| Al rfl <| Ac), rfl⟩
    ·
     rintro m2 e2 _ ⟨k, hm2, ht34, ht11, rfl⟩; have hsp := endTo_spec (s := s) h1 k (by omega)
     by_cases hlt : k < s.steps.length
     ·
      have hfr := step_from hv hlt
      refine Af <| Ai fun ds => Aa rfl (Bz (At rfl ht34) (Ao rfl <| Al rfl <| Ac)) ?_
      refine Ah <| Ae <| Af <| As (Ac) (by first | rfl | exact decide_eq_true (by omega)) ?_
      by_cases hf : p < s.steps[k].from_
      ·
       refine Az <| Ae <| Af <| A2 <| Af <| Ai fun ds => Aa rfl (Bn  sl_22 (Al rfl <| Ao rfl <| Aq rfl <| Ac) hX.sale.steps.plain (Al rfl <| At rfl ht34) rfl hlt) ?_
       refine Aa rfl (Bf agg_98 (Ac) rfl rfl (hX.sale.steps.whole hlt)) ?_
       refine Bg rfl (B7 zr_98 rfl fun b3 hb3 nb3 => ?_)
       refine Cj (B8 sz_98 (Ac) (Al rfl <| Ac) (i := 0) rfl rfl rfl rfl Stp.enc_one (.here) ?_)
       refine Ah <| Ae <| Af <| Ai fun ds => Aa rfl (Aj Ec (Ac)) ?_
       refine Aa rfl (Ar Bd (Ac) (Cell.own 0 rfl rfl)) ?_
       refine Aa rfl (Ag (A0 rfl <| Aq rfl <| Ao rfl <| A6 rfl <| A0 rfl <| Aq rfl <| Al rfl <| At rfl hs1)) ?_
       refine Aa rfl (Cl (Al rfl <| Ac) (Ac)) ?_
       refine Ah <| Ae <| As (Ac) (decide_eq_true hf) ?_
       refine Ai fun ds => Aa rfl (Ag (Ba rfl <| At rfl ht11)) ?_
       refine Aa rfl (Aj Ec (A0 rfl <| Al rfl <| Ac)) ?_
       refine Aa rfl (Ar Bd (Ac) (Cell.own 0 rfl rfl)) ?_
       refine Aa rfl (Dn (Ac) Ab rfl (by omega) (by omega)) ?_
       refine Aa rfl (q_min2 (Aq rfl <| Al rfl <| Ac) (Ac)) ?_
       refine Aa rfl (Ad (Ac)) ?_
       refine Ah <| Bh <| Ae <| Cp (fun _ _ h => h.drop (.cons _ <| .refl _)) ?_
       refine Ai fun ds => Aa rfl (B3 (Ba rfl <| A0 rfl <| Aq rfl <| At rfl ht34) Ab rfl (by omega) (by omega)) ?_
       refine Aa rfl (Ag (Ac)) ?_
       refine Ah <| Ae ⟨_, m2 - 1, Off.eq (De rfl <| Bk), by omega, ?_⟩
       exact ⟨k + 1, by omega, (Ac), by rw [endTo_succ hlt, show endStep p _ _ = _ from if_pos hf]; exact (Aq rfl <| Ac), rfl⟩
      ·
       refine Az <| Ae <| Af <| A2 <| Af <| Ai fun ds => Aa rfl (Bn  sl_22 (Al rfl <| Ao rfl <| Aq rfl <| Ac) hX.sale.steps.plain (Al rfl <| At rfl ht34) rfl hlt) ?_
       refine Aa rfl (Bf agg_98 (Ac) rfl rfl (hX.sale.steps.whole hlt)) ?_
       refine Bg rfl (B7 zr_98 rfl fun b4 hb4 nb4 => ?_)
       refine Cj (B8 sz_98 (Ac) (Al rfl <| Ac) (i := 0) rfl rfl rfl rfl Stp.enc_one (.here) ?_)
       refine Ah <| Ae <| Af <| Ai fun ds => Aa rfl (Aj Ec (Ac)) ?_
       refine Aa rfl (Ar Bd (Ac) (Cell.own 0 rfl rfl)) ?_
       refine Aa rfl (Ag (A0 rfl <| Aq rfl <| Ao rfl <| A6 rfl <| A0 rfl <| Aq rfl <| Al rfl <| At rfl hs1)) ?_
       refine Aa rfl (Cl (Al rfl <| Ac) (Ac)) ?_
       refine Ah <| Ae <| Am (Ac) (decide_eq_false hf) ?_
       refine Az <| Bh <| Ae <| Cp (fun _ _ h => h.drop (.cons _ <| .refl _)) ?_
       refine Ai fun ds => Aa rfl (B3 (Ba rfl <| At rfl ht34) Ab rfl (by omega) (by omega)) ?_
       refine Aa rfl (Ag (Ac)) ?_
       refine Ah <| Ae ⟨_, m2 - 1, Off.eq (ou8 rfl <| ou2 rfl <| Bk), by omega, ?_⟩
       exact ⟨k + 1, by omega, (Ac), by rw [endTo_succ hlt, show endStep p _ _ = _ from if_neg hf]; exact (Ba rfl <| Aq rfl <| At rfl ht11), rfl⟩
     ·
      refine Af <| Ai fun ds => Aa rfl (Bz (At rfl ht34) (Ao rfl <| Al rfl <| Ac)) ?_
      refine Ah <| Ae <| Af <| Am (Ac) (by first | rfl | exact decide_eq_false (by omega)) ?_
      obtain rfl : k = s.steps.length := by omega
      have hlb := leap_bound (e := endTo s p others s.steps.length) hbb.1 hsp.2.1 h2
      have hmul : 1 * behindBy s.steps p ≤ leapN (endTo s p others s.steps.length) p (behindBy s.steps p) most * behindBy s.steps p := Int.mul_le_mul_of_nonneg_right hlb.1 (by omega)
      have hed := Int.ediv_le_self (behindBy s.steps p) (show 0 ≤ endTo s p others s.steps.length - p by omega)
      have hed0 := Int.ediv_nonneg (show 0 ≤ endTo s p others s.steps.length - p by omega) (show 0 ≤ behindBy s.steps p by omega)
      refine B0 ?_
      refine Bo <| Bo <| Br <| Ae <| Af <| Cz (.inl rfl) (fun _ _ h => h) (by kernel_rfl) (by kernel_rfl) fun ds => ?_
      refine A9 rfl (Ag (Al rfl <| At rfl ht11)) ?_
      refine A9 rfl (Ag (Aq rfl <| Ao rfl <| A6 rfl <| A0 rfl <| Aq rfl <| Al rfl <| At rfl hs1)) ?_
      refine A9 rfl (Dn (Al rfl <| Ac) (Ac) rfl (by omega) (by omega)) ?_
      refine A9 rfl (Ag (A0 rfl <| Ao rfl <| Ba rfl <| Al rfl <| Ac)) ?_
      refine A9 rfl (q_quo (Al rfl <| Ac) (Ac) (by omega) (by omega) (by omega)) ?_
      refine A9 rfl (B3 (Ac) Ab rfl (by omega) (by omega)) ?_
      refine A9 rfl (Ag (A0 rfl <| Aq rfl <| Al rfl <| Ao rfl <| A6 rfl <| A0 rfl <| Aq rfl <| Al rfl <| Ao rfl <| Al rfl <| Ak rfl)) ?_
      refine A9 rfl (Ag (Ba rfl <| Ao rfl <| A6 rfl <| A0 rfl <| Aq rfl <| Al rfl <| At rfl hs1)) ?_
      refine A9 rfl (Dn (Al rfl <| Ac) (Ac) rfl (by omega) (by omega)) ?_
      refine A9 rfl (Ag (Ba rfl <| Aq rfl <| Ao rfl <| Ba rfl <| Al rfl <| Ac)) ?_
      refine A9 rfl (q_quo (Al rfl <| Ac) (Ac) (by omega) (by omega) (by omega)) ?_
      refine A9 rfl (q_min2 (A0 rfl <| Al rfl <| Ac) (Ac)) ?_
      refine A9 rfl (q_max2 Ab (Ac)) ?_
      refine A9 rfl (Ad (Ac)) ?_
      refine C4 ?_
      refine Ae <| Ai fun ds => Aa rfl (Ag (Ba rfl <| A0 rfl <| Aq rfl <| Al rfl <| Ao rfl <| A6 rfl <| A0 rfl <| Aq rfl <| Al rfl <| At rfl hs1)) ?_
      refine Aa rfl (Ag (Al rfl <| Ac)) ?_
      refine Aa rfl (Ag (A6 rfl <| Al rfl <| Ao rfl <| Ba rfl <| Al rfl <| Ac)) ?_
      refine Aa rfl (q_mul (Al rfl <| Ac) (Ac) (show leapN (endTo s p others s.steps.length) p (behindBy s.steps p) most * behindBy s.steps p = leapN (endTo s p others s.steps.length) p (behindBy s.steps p) most * behindBy s.steps p from rfl) (by omega) (by omega)) ?_
      refine Aa rfl (B3 (Aq rfl <| Al rfl <| Ac) (Ac) rfl (by omega) (by omega)) ?_
      refine Aa rfl (Ad (Ac)) ?_
      refine Ah <| Bh ?_
      refine Ae ⟨_, m - 1, Off.eq (De rfl <| ou4 rfl <| ou1 rfl <| off_in rfl <| De rfl <| ou4 rfl <| ou2 rfl <| ou1 rfl <| Bk), by omega, ?_⟩
      refine ⟨p + leapN (endTo s p others s.steps.length) p (behindBy s.steps p) most * behindBy s.steps p, by omega, by omega, (Ac), ?_, by omega, rfl⟩
      rw [← climb_leap hv hp h1 h2]; exact hcl
   ·
    refine Az <| Ae <| A2 <| Af <| Ai fun ds => Aa rfl (Ag (Aq rfl <| Al rfl <| Ao rfl <| Al rfl <| Ak rfl)) ?_
    refine Aa rfl (Ag (A0 rfl <| At rfl hs1)) ?_
    refine Bw rfl (A4 bd_67 Ay (.cons (Al rfl <| Ac) (.cons (Ac) .nil)) (behind_ok hX hv hp (by omega)) (fun _ _ h => h)) ?_
    refine Aa rfl (Ad (Ac)) ?_
    refine Ah <| Ae <| Af <| Af <| Ai fun ds => Aa rfl (Ag (Ac)) ?_
    refine Aa rfl (Ag (Ba rfl <| Ao rfl <| Al rfl <| Ak rfl)) ?_
    refine Aa rfl (Cl (Al rfl <| Ac) (Ac)) ?_
    refine Ah <| Ae <| As (Ac) (decide_eq_true (by omega)) ?_
    refine B0 ?_
    refine Bo (exit_past rfl (Bo (Br ?_)))
    refine Ae <| Af <| Ai fun ds => Aa rfl (Ag (Ba rfl <| Aq rfl <| At rfl hs1)) ?_
    refine Aa rfl (Ad (Ac)) ?_
    refine Ah <| Ae <| A3 <| scope_r ?_
    refine Au rfl (.tmp (Ac) .nil) ?_
    show _ = _
    rw [← hcl, Dr (fun h => h2 h.2)]; rfl
  ·
   refine Af <| Af <| Ai fun ds => Aa rfl (Ag (At rfl hs1)) ?_
   refine Aa rfl (Ag (Al rfl <| Ao rfl <| Al rfl <| Ak rfl)) ?_
   refine Aa rfl (q_leq (Al rfl <| Ac) (Ac)) ?_
   refine Ah <| Ae <| Am (Ac) (by first | rfl | exact decide_eq_false (by omega)) ?_
   refine B0 ?_
   refine Bo <| Bo <| Br <| Ae <| Af <| Ai fun ds => Aa rfl (Ag (Aq rfl <| Al rfl <| At rfl hs1)) ?_
   refine Aa rfl (Ad (Ac)) ?_
   refine Ah <| Ae <| A3 <| scope_r ?_
   refine Au rfl (.tmp (Ac) .nil) ?_
   show _ = _
   rw [← hcl, Dr (fun h => h1 h.1)]; rfl
end Go.Proofs.Ytaikojfonleccaa
namespace Go.Proofs.Ytaikojfonleccaa
open Go.RowKit
theorem ringErr_4 {s : Sale} {ring : List Int} (h : (ring.any fun z => !(inB 0 (s.bidders.length - 1) z)) = true) : ringErr s ring = 4 := if_pos h
theorem ringErr_2 {s : Sale} {ring : List Int} (h : (ring.any fun z => !(inB 0 (s.bidders.length - 1) z)) = false) (h2 : notAsc ring = true) : ringErr s ring = 2 := by unfold ringErr; rw [if_neg (by rw [h]; decide), if_pos h2]
theorem ringErr_3 {s : Sale} {ring : List Int} (h : (ring.any fun z => !(inB 0 (s.bidders.length - 1) z)) = false) (h2 : notAsc ring = false) (h3 : ring.length = 1) : ringErr s ring = 3 := by unfold ringErr; rw [if_neg (by rw [h]; decide), if_neg (by rw [h2]; decide), if_pos h3]
theorem ringErr_0 {s : Sale} {ring : List Int} (h : (ring.any fun z => !(inB 0 (s.bidders.length - 1) z)) = false) (h2 : notAsc ring = false) (h3 : ¬ ring.length = 1) : ringErr s ring = 0 := by unfold ringErr; rw [if_neg (by rw [h]; decide), if_neg (by rw [h2]; decide), if_neg h3]
theorem ringErr_ok {s : Sale} {ring : List Int} (h : ringErr s ring = 0) : (ring.any fun z => !(inB 0 (s.bidders.length - 1) z)) = false ∧ notAsc ring = false ∧ ¬ ring.length = 1 := by
 unfold ringErr at h
 split at h
 · cases h
 · rename_i h1
   split at h
   · cases h
   · rename_i h2
     split at h
     · cases h
     · rename_i h3; exact ⟨by simpa using h1, by simpa using h2, h3⟩
end Go.Proofs.Ytaikojfonleccaa
namespace Go.Proofs.Ytaikojfonleccaa
open Go.RowKit
theorem zr_63 : ZeroT Try.prog 63 (.agg #[.int .i64 0, .int .i64 0]) := Cr (by kernel_rfl)
theorem Eg : AggT Try.prog 63 2 := aggT_of (by kernel_rfl)
theorem bt_63 : BuildT Try.prog 63 [.int .i64 0, .int .i64 0] [(0, 1), (1, 1)] := Dv zr_63 (by kernel_rfl) (by decide)
theorem el_3 : ElemT Try.prog 3 1 8 (.int .i64 0) := elemT_of (by kernel_rfl) rfl (by decide)
theorem sz_63 : SizeT Try.prog 63 2 := C6 (by kernel_rfl)
theorem lot_facts {s : Sale} (hv : ValidS s) {l : Nat} (h : l < s.lots.length) : s.lots[l] = s.lot l ∧ 1 ≤ (s.lot l).reserve ∧ (s.lot l).reserve ≤ 100000 ∧ 0 ≤ (s.lot l).seller ∧ (s.lot l).seller < s.sellers.length := by
 have := hv.lo l h
 exact ⟨lot_at h, this.2.2.1, this.2.2.2, this.1, this.2.1⟩
end Go.Proofs.Ytaikojfonleccaa
namespace Go.Proofs.Ytaikojfonleccaa
open Go.RowKit
theorem el_63 : ElemT Try.prog 63 2 16 (.agg #[.int .i64 0, .int .i64 0]) := elemT_of (by kernel_rfl) rfl (by decide)
theorem C5 : SliceT Try.prog 34 63 2 := Dt (by kernel_rfl)
theorem nextE_bad {s : Sale} {p : Int} (h : (checkS s).2.2 ≠ 0) : nextE s p = (0, (checkS s).2.2) := if_pos h
theorem nextE_range {s : Sale} {p : Int} (h : (checkS s).2.2 = 0) (h2 : inB 0 100000 p = false) : nextE s p = (0, 7) := by unfold nextE; rw [if_neg (fun k => k h), if_pos h2]
theorem nextE_ok {s : Sale} {p : Int} (h : (checkS s).2.2 = 0) (h2 : inB 0 100000 p = true) : nextE s p = (behindS s p, 0) := by unfold nextE; rw [if_neg (fun k => k h), if_neg (by rw [h2]; decide)]
theorem in_bounds {lo hi z : Int} (h : inB lo hi z = true) : lo ≤ z ∧ z ≤ hi := by simpa [inB] using h
theorem enterE_bad {s : Sale} {ring : List Int} (h : (checkS s).2.2 ≠ 0) : enterErr s ring = (checkS s).2.2 := if_pos h
theorem enterE_ring {s : Sale} {ring : List Int} (h : (checkS s).2.2 = 0) : enterErr s ring = ringErr s ring := if_neg (fun k => k h)
theorem enterE_ok {s : Sale} {ring : List Int} (h : enterErr s ring = 0) : (checkS s).2.2 = 0 ∧ ringErr s ring = 0 := by
 by_cases h0 : (checkS s).2.2 = 0
 · rw [enterE_ring h0] at h; exact ⟨h0, h⟩
 · rw [enterE_bad h0] at h; exact absurd h h0
def sellE (s : Sale) (ring : List Int) : List Res × Int := if enterErr s ring ≠ 0 then ([], enterErr s ring) else (allS s ring, 0)
theorem sellE_bad {s : Sale} {ring : List Int} {e : Int} (h : enterErr s ring = e) (he : e ≠ 0) : sellE s ring = ([], e) := by subst h; exact if_pos he
theorem sellE_ok {s : Sale} {ring : List Int} (h : enterErr s ring = 0) : sellE s ring = (allS s ring, 0) := if_neg (fun k => k h)
def SellR (F : Heap) (u : Value) (p : List Res × Int) : Prop := ∃ v, u = .tuple #[v, .int .i64 p.2] ∧ Sl F v 2 Res.enc p.1
theorem SellR.mono {F F' : Heap} {u : Value} {p : List Res × Int} (h : SellR F u p) (hF : F.le F') : SellR F' u p := by obtain ⟨v, h1, h2⟩ := h; exact ⟨v, h1, h2.mono hF⟩
end Go.Proofs.Ytaikojfonleccaa
namespace Go.Proofs.Ytaikojfonleccaa
open Go.RowKit
theorem zr_156 : ZeroT Try.prog 156 (.agg #[.slice none 0 0, .int .i64 0, .int .i64 0, .int .i64 0, .slice none 0 0, .slice none 0 0, .slice none 0 0, .slice none 0 0, .int .i64 0, .int .i64 0, .int .i64 0, .int .i64 0, .int .i64 0, .int .i64 0, .int .i64 0, .int .i64 0, .int .i64 0, .int .i64 0, .int .i64 0, .int .i64 0, .int .i64 0, .int .i64 0, .int .i64 0, .int .i64 0, .int .i64 0, .int .i64 0, .int .i64 0, .int .i64 0, .int .i64 0, .int .i64 0, .int .i64 0, .int .i64 0, .int .i64 0, .int .i64 0, .int .i64 0, .int .i64 0, .int .i64 0, .int .i64 0, .int .i64 0, .int .i64 0, .int .i64 0, .int .i64 0, .int .i64 0, .int .i64 0, .int .i64 0, .int .i64 0, .int .i64 0, .int .i64 0, .int .i64 0, .int .i64 0, .int .i64 0, .int .i64 0, .int .i64 0, .int .i64 0, .int .i64 0, .int .i64 0, .int .i64 0, .int .i64 0, .int .i64 0, .int .i64 0, .int .i64 0, .int .i64 0, .int .i64 0, .int .i64 0, .int .i64 0, .int .i64 0, .int .i64 0, .int .i64 0, .int .i64 0, .int .i64 0, .int .i64 0, .int .i64 0, .int .i64 0, .int .i64 0, .int .i64 0, .int .i64 0, .int .i64 0, .int .i64 0, .int .i64 0, .int .i64 0, .map none]) := Cr (by kernel_rfl)
theorem bd_15 : Body Try.prog 15 := Bs (by kernel_rfl)
theorem bd_66 : Body Try.prog 66 := Bs (by kernel_rfl)
theorem bt_156 : BuildT Try.prog 156 [.slice none 0 0, .int .i64 0, .int .i64 0, .int .i64 0, .slice none 0 0, .slice none 0 0, .slice none 0 0, .slice none 0 0, .int .i64 0, .int .i64 0, .int .i64 0, .int .i64 0, .int .i64 0, .int .i64 0, .int .i64 0, .int .i64 0, .int .i64 0, .int .i64 0, .int .i64 0, .int .i64 0, .int .i64 0, .int .i64 0, .int .i64 0, .int .i64 0, .int .i64 0, .int .i64 0, .int .i64 0, .int .i64 0, .int .i64 0, .int .i64 0, .int .i64 0, .int .i64 0, .int .i64 0, .int .i64 0, .int .i64 0, .int .i64 0, .int .i64 0, .int .i64 0, .int .i64 0, .int .i64 0, .int .i64 0, .int .i64 0, .int .i64 0, .int .i64 0, .int .i64 0, .int .i64 0, .int .i64 0, .int .i64 0, .int .i64 0, .int .i64 0, .int .i64 0, .int .i64 0, .int .i64 0, .int .i64 0, .int .i64 0, .int .i64 0, .int .i64 0, .int .i64 0, .int .i64 0, .int .i64 0, .int .i64 0, .int .i64 0, .int .i64 0, .int .i64 0, .int .i64 0, .int .i64 0, .int .i64 0, .int .i64 0, .int .i64 0, .int .i64 0, .int .i64 0, .int .i64 0, .int .i64 0, .int .i64 0, .int .i64 0, .int .i64 0, .int .i64 0, .int .i64 0, .int .i64 0, .int .i64 0, .map none] [(0, 8), (8, 36), (44, 36), (80, 1)] := Dv zr_156 (by kernel_rfl) (by decide)
theorem sz_3 : SizeT Try.prog 3 1 := C6 (by kernel_rfl)
theorem mosts_len {s : Sale} {k : Nat} : (mosts s k).length = 36 := Cf
theorem places_len {s : Sale} {k : Nat} : (places s k).length = 36 := Cf
def LookR (F : Heap) (u : Value) (Hn : List (Nat × Obj)) (vs vb vl vn vd : Value) (s : Sale) : Prop := ∃ b kb, u = .tuple #[.pointer (some ⟨b, 0, none⟩), .int .i64 0] ∧ AucX 156 F b vs vb vl vn vd kb s ∧ Hn = [(kb, mapO [])]
set_option maxRecDepth 100000 in
theorem look_ok {F : Heap} {vs vb vl vn vd : Value} {s : Sale} (hr : SaleR F vs vb vl vn vd s) (hv : ValidS s) (h0 : (checkS s).2.2 = 0) : OkN Try.prog 66 [.agg #[vs, .int .i64 s.premium, .int .i64 s.fee, .int .i64 s.days, vb, vl, vn, vd]].toArray F fun u F' Hn => LookR F' u Hn vs vb vl vn vd s := by
 refine OkN.intro Try.func66 rfl Try.ntmps66 rfl fun w0 => ?_
 have hnb := hv.nb
 have hnl := hv.nl
 have hnd := hv.nd
 have hL1 := hr.bids.plain.lt
 have hL2 := hr.bidders.plain.lt
 have hL3 := hr.lots.plain.lt
 refine Af <| Ai fun ds => Bg rfl (Ci (Ak rfl) rfl fun b1 hb1 nb1 => ?_)
 refine Aa rfl (Ad Ab) ?_
 refine Aa rfl (Ad Ab) ?_
 refine Ah <| Ae <| Af <| Af <| Ai fun ds => Aa rfl (Bf Cg (Aq rfl <| Ac) rfl rfl (Bi 0 rfl)) ?_
 refine Bw rfl (A4 bd_15 Ay (.cons (Ac) .nil) (checkS_ok hr) (fun _ _ h => h)) ?_
 refine Aa rfl (Ag (Ac)) ?_
 refine Aa rfl (Ax (Ac) rfl) ?_
 refine Aa rfl (Ax (Al rfl <| Ac) rfl) ?_
 refine Aa rfl (Ax (Aq rfl <| Ac) rfl) ?_
 refine Aa rfl (Ad (Aq rfl <| Ac)) ?_
 refine Aa rfl (Ad (Aq rfl <| Ac)) ?_
 refine Aa rfl (Ad (Aq rfl <| Ac)) ?_
 refine Ah <| Ae <| Af <| Ai fun ds => Aa rfl (Ag (Ac)) ?_
 refine Aa rfl (Ch (Ac) Ab) ?_
 refine Ah <| Ae <| Am (Ac) (decide_eq_false (fun h => h h0)) ?_
 refine Az <| Ae <| Af <| Ai fun ds => Aa rfl (Bf Cg (Ba rfl <| A0 rfl <| Al rfl <| Ac) rfl rfl (Bi 0 rfl)) ?_
 refine Bg rfl (x_makeMap fun b2 hb2 nb2 => ?_)
 refine Aa rfl (C1 bt_156 (.cons (Al rfl <| Ac) rfl (.cons (Ac) rfl .nil)) (.cons rfl rfl (Nat.le_of_ble_eq_true rfl) (.cons (.here) (.cons (.next <| .here) (.cons (.next <| .next <| .here) (.cons (.next <| .next <| .next <| .here) (.cons (.next <| .next <| .next <| .next <| .here) (.cons (.next <| .next <| .next <| .next <| .next <| .here) (.cons (.next <| .next <| .next <| .next <| .next <| .next <| .here) (.cons (.next <| .next <| .next <| .next <| .next <| .next <| .next <| .here) .nil)))))))) (.cons rfl rfl (Nat.le_of_ble_eq_true rfl) (.cons (.next <| .next <| .next <| .next <| .next <| .next <| .next <| .next <| .next <| .next <| .next <| .next <| .next <| .next <| .next <| .next <| .next <| .next <| .next <| .next <| .next <| .next <| .next <| .next <| .next <| .next <| .next <| .next <| .next <| .next <| .next <| .next <| .next <| .next <| .next <| .next <| .next <| .next <| .next <| .next <| .next <| .next <| .next <| .next <| .next <| .next <| .next <| .next <| .next <| .next <| .next <| .next <| .next <| .next <| .next <| .next <| .next <| .next <| .next <| .next <| .next <| .next <| .next <| .next <| .next <| .next <| .next <| .next <| .next <| .next <| .next <| .next <| .next <| .next <| .next <| .next <| .next <| .next <| .next <| .next <| .here) .nil) .nil))) ?_
 refine Bg rfl (Ci (Ac) rfl fun b3 hb3 nb3 => ?_)
 refine Aa rfl (Ad (Ac)) ?_
 refine Ah <| Ae <| Af <| Af <| Ai fun ds => Aa rfl (Aj fd_27_7 (A6 rfl <| Aq rfl <| Ac)) ?_
 refine Aa rfl (Ar one_25 (Ac) (Cell.own 2 rfl rfl)) ?_
 refine Aa rfl (Bj sl_25 (Ac) hr.bids.plain) ?_
 refine Aa rfl (Ag Ab) ?_
 refine Ah <| Ae <| A2 <| B4 [8, 9, 26, 27, 28, 29, 30, 31, 32, 33, 34, 35, 36, 37, 38, 39, 40, 41, 42, 43, 44, 45, 46, 47, 48, 49, 50, 51, 52, 53] (fun m e σ => ∃ k : Nat, m + k = s.bids.length ∧ e 26 = .int .i64 (k : Int) ∧ σ = ⟨F, [(b3, bx 156 (aucCells s vs vb vl vn vd (mosts s k) (places s k) (.map (some b2)))), (b2, mapO []), (b1, bx 27 [vs, .int .i64 s.premium, .int .i64 s.fee, .int .i64 s.days, vb, vl, vn, vd])]⟩) (s.bids.length) ?_ ?_
 · (refine ⟨0, by omega, (Ac), ?_⟩; rw [mosts_zero, places_zero]; rfl)
 ·
  rintro m e _ ⟨k, hm9, hs26, rfl⟩
  by_cases hlt : k < s.bids.length
  ·
   have hbd := hv.bd k hlt
   obtain ⟨l, hl⟩ := Int.eq_ofNat_of_zero_le hbd.2.2.1
   obtain ⟨c, hc⟩ := Int.eq_ofNat_of_zero_le hbd.1
   have hl6 : l < 6 := by omega
   have hc6 : c < 6 := by omega
   refine Af <| Ai fun ds => Aa rfl (Bz (At rfl hs26) (Ao rfl <| Al rfl <| Ac)) ?_
   refine Ah <| Ae <| Af <| As (Ac) (by first | rfl | exact decide_eq_true (by omega)) ?_
   refine Az <| Ae <| Af <| A2 <| Af <| Ai fun ds => Aa rfl (Ag (Al rfl <| At rfl hs26)) ?_
   refine Aa rfl (Bn  sl_25 (Aq rfl <| Ao rfl <| Aq rfl <| Ac) hr.bids.plain (Aq rfl <| At rfl hs26) rfl hlt) ?_
   refine Aa rfl (Bf agg_72 (Ac) rfl rfl (hr.bids.whole hlt)) ?_
   refine Bg rfl (B7 zr_72 rfl fun b5 hb5 nb5 => ?_)
   refine Aa rfl (Ad (Aq rfl <| Al rfl <| Ac)) ?_
   refine Cj (B8 sz_72 (Al rfl <| Ac) (Aq rfl <| Ac) (i := 0) rfl rfl rfl rfl Bid.enc_one (.here) ?_)
   refine Ah <| Ae <| D1 (.inl rfl) (fun _ _ h => h) (.cons_cons _ <| .cons _ <| .cons_cons _ <| .cons_cons _ <| .refl _) [23] (by kernel_rfl) fun ds => ?_
   refine A7 0 rfl (by kernel_rfl) (by kernel_rfl) (by kernel_rfl) (by kernel_rfl) rfl rfl (fun _ h => h.drop (.cons_cons _ <| .cons _ <| .cons_cons _ <| .cons_cons _ <| .refl _)) (fun _ _ _ h => h) (Ag (A0 rfl <| Aq rfl <| Ao rfl <| A0 rfl <| Ac)) ?_
   refine A7 1 rfl (by kernel_rfl) (by kernel_rfl) (by kernel_rfl) (by kernel_rfl) rfl rfl (fun _ h => h.drop (.cons_cons _ <| .cons _ <| .cons_cons _ <| .cons_cons _ <| .refl _)) (fun _ _ _ h => h) (Aj fd_72_1 (Aq rfl <| Ac)) ?_
   refine A7 2 rfl (by kernel_rfl) (by kernel_rfl) (by kernel_rfl) (by kernel_rfl) rfl rfl (fun _ h => h.drop (.cons_cons _ <| .cons _ <| .cons_cons _ <| .cons_cons _ <| .refl _)) (fun _ _ _ h => h) (Ar Bd (Ac) (Cell.own 0 rfl rfl)) ?_
   refine A7 3 rfl (by kernel_rfl) (by kernel_rfl) (by kernel_rfl) (by kernel_rfl) rfl rfl (fun _ h => h.drop (.cons_cons _ <| .cons _ <| .cons_cons _ <| .cons_cons _ <| .refl _)) (fun _ _ _ h => h) (Aj fd_72_0 (A0 rfl <| Ac)) ?_
   refine A7 4 rfl (by kernel_rfl) (by kernel_rfl) (by kernel_rfl) (by kernel_rfl) rfl rfl (fun _ h => h.drop (.cons_cons _ <| .cons _ <| .cons_cons _ <| .cons_cons _ <| .refl _)) (fun _ _ _ h => h) (Ar Bd (Ac) (Cell.own 0 rfl rfl)) ?_
   refine A7 5 rfl (by kernel_rfl) (by kernel_rfl) (by kernel_rfl) (by kernel_rfl) rfl rfl (fun _ h => h.drop (.cons_cons _ <| .cons _ <| .cons_cons _ <| .cons_cons _ <| .refl _)) (fun _ _ _ h => h) (Ag (Ba rfl <| Aq rfl <| Al rfl <| Ao rfl <| A0 rfl <| Ac)) ?_
   refine A7 6 rfl (by kernel_rfl) (by kernel_rfl) (by kernel_rfl) (by kernel_rfl) rfl rfl (fun _ h => h.drop (.cons_cons _ <| .cons _ <| .cons_cons _ <| .cons_cons _ <| .refl _)) (fun _ _ _ h => h) (Aj fd_72_1 (A0 rfl <| Aq rfl <| Al rfl <| Ac)) ?_
   refine A7 7 rfl (by kernel_rfl) (by kernel_rfl) (by kernel_rfl) (by kernel_rfl) rfl rfl (fun _ h => h.drop (.cons_cons _ <| .cons _ <| .cons_cons _ <| .cons_cons _ <| .refl _)) (fun _ _ _ h => h) (Ar Bd (Ac) (Cell.own 0 rfl rfl)) ?_
   refine A7 8 rfl (by kernel_rfl) (by kernel_rfl) (by kernel_rfl) (by kernel_rfl) rfl rfl (fun _ h => h.drop (.cons_cons _ <| .cons _ <| .cons_cons _ <| .cons_cons _ <| .refl _)) (fun _ _ _ h => h) (Aj fd_72_0 (Ba rfl <| Al rfl <| Ac)) ?_
   refine A7 9 rfl (by kernel_rfl) (by kernel_rfl) (by kernel_rfl) (by kernel_rfl) rfl rfl (fun _ h => h.drop (.cons_cons _ <| .cons _ <| .cons_cons _ <| .cons_cons _ <| .refl _)) (fun _ _ _ h => h) (Ar Bd (Ac) (Cell.own 0 rfl rfl)) ?_
   refine A7 10 rfl (by kernel_rfl) (by kernel_rfl) (by kernel_rfl) (by kernel_rfl) rfl rfl (fun _ h => h.drop (.cons_cons _ <| .cons _ <| .cons_cons _ <| .cons_cons _ <| .refl _)) (fun _ _ _ h => h) (Aj fd_72_2 (Ba rfl <| Aq rfl <| Al rfl <| Ac)) ?_
   refine A7 11 rfl (by kernel_rfl) (by kernel_rfl) (by kernel_rfl) (by kernel_rfl) rfl rfl (fun _ h => h.drop (.cons_cons _ <| .cons _ <| .cons_cons _ <| .cons_cons _ <| .refl _)) (fun _ _ _ h => h) (Ar Bd (Ac) (Cell.own 0 rfl rfl)) ?_
   refine A7 12 rfl (by kernel_rfl) (by kernel_rfl) (by kernel_rfl) (by kernel_rfl) rfl rfl (fun _ h => h.drop (.cons_cons _ <| .cons _ <| .cons_cons _ <| .cons_cons _ <| .refl _)) (fun _ _ _ h => h) (Ag (Ba rfl <| A0 rfl <| Ac)) ?_
   refine A7 13 rfl (by kernel_rfl) (by kernel_rfl) (by kernel_rfl) (by kernel_rfl) rfl rfl (fun _ h => h.drop (.cons_cons _ <| .cons _ <| .cons_cons _ <| .cons_cons _ <| .refl _)) (fun _ _ _ h => h) (B3 (Ac) Ab rfl (by omega) (by omega)) ?_
   refine A7 14 rfl (by kernel_rfl) (by kernel_rfl) (by kernel_rfl) (by kernel_rfl) rfl rfl (fun _ h => h.drop (.cons_cons _ <| .cons _ <| .cons_cons _ <| .cons_cons _ <| .refl _)) (fun _ _ _ h => h) (B2 (Ba rfl <| A0 rfl <| Al rfl <| Ac)) ?_
   refine A7 15 rfl (by kernel_rfl) (by kernel_rfl) (by kernel_rfl) (by kernel_rfl) rfl rfl (fun _ h => h.drop (.cons_cons _ <| .cons _ <| .cons_cons _ <| .cons_cons _ <| .refl _)) (fun _ _ _ h => h) (Aj Ed (Ac)) ?_
   refine A7 16 rfl (by kernel_rfl) (by kernel_rfl) (by kernel_rfl) (by kernel_rfl) rfl rfl (fun _ h => h.drop (.cons_cons _ <| .cons _ <| .cons_cons _ <| .cons_cons _ <| .refl _)) (fun _ _ _ h => h) (Bv (k := l) Dx (Ac) (Ba rfl <| A0 rfl <| Al rfl <| Ac) (by rw [bid_at hlt]; exact hl) hl6) ?_
   refine A7 17 rfl (by kernel_rfl) (by kernel_rfl) (by kernel_rfl) (by kernel_rfl) rfl rfl (fun _ h => h.drop (.cons_cons _ <| .cons _ <| .cons_cons _ <| .cons_cons _ <| .refl _)) (fun _ _ _ h => h) (Bv (k := c) Dy (Ac) (Ba rfl <| A0 rfl <| Ac) (by rw [bid_at hlt]; exact hc) hc6) ?_
   refine A7 19 rfl (by kernel_rfl) (by kernel_rfl) (by kernel_rfl) (by kernel_rfl) rfl rfl (fun _ h => h.drop (.cons_cons _ <| .cons _ <| .cons_cons _ <| .cons_cons _ <| .refl _)) (fun _ _ _ h => h) (B2 (Ba rfl <| A0 rfl <| Ac)) ?_
   refine A7 20 rfl (by kernel_rfl) (by kernel_rfl) (by kernel_rfl) (by kernel_rfl) rfl rfl (fun _ h => h.drop (.cons_cons _ <| .cons _ <| .cons_cons _ <| .cons_cons _ <| .refl _)) (fun _ _ _ h => h) (Aj fd_156_2 (Ac)) ?_
   refine A7 21 rfl (by kernel_rfl) (by kernel_rfl) (by kernel_rfl) (by kernel_rfl) rfl rfl (fun _ h => h.drop (.cons_cons _ <| .cons _ <| .cons_cons _ <| .cons_cons _ <| .refl _)) (fun _ _ _ h => h) (Bv (k := l) Dx (Ac) (Ba rfl <| A0 rfl <| Ac) (by rw [bid_at hlt]; exact hl) hl6) ?_
   refine WX_x0 18 rfl (by kernel_rfl) (x_storeK sz_3 (Aq rfl <| Al rfl <| Ac) rfl (Ba rfl <| Al rfl <| Ac) (i := 1) rfl (by simp only [List.length_set, aucCells_length mosts_len places_len]; omega) rfl (.next <| .here) ⟨fun _ _ => (fun _ h => h.drop (.cons_cons _ <| .cons _ <| .cons_cons _ <| .cons_cons _ <| .refl _)), ?_⟩)
   refine A7 22 rfl (by kernel_rfl) (by kernel_rfl) (by kernel_rfl) (by kernel_rfl) rfl rfl (fun _ h => h.drop (.cons_cons _ <| .cons _ <| .cons_cons _ <| .cons_cons _ <| .refl _)) (fun _ _ _ h => h) (Bv (k := c) Dy (Ac) (Ba rfl <| Aq rfl <| Al rfl <| Ac) (by rw [bid_at hlt]; exact hc) hc6) ?_
   refine WX_x0 23 rfl (by kernel_rfl) (x_storeK sz_3 (Ac) rfl (Ba rfl <| Ac) (i := 1) rfl (by simp only [List.length_set, aucCells_length mosts_len places_len]; omega) rfl (.next <| .here) ⟨(fun h => nomatch h), ?_⟩)
   refine C3 (by kernel_rfl) ?_ _
   refine Bh <| Ae <| Cp (fun _ _ h => h.drop (.cons _ <| .cons_cons _ <| .cons_cons _ <| .cons_cons _ <| .refl _)) ?_
   refine Ai fun ds => Aa rfl (B3 (A6 rfl <| Ba rfl <| A0 rfl <| At rfl hs26) Ab rfl (by omega) (by omega)) ?_
   refine Aa rfl (Ag (Ac)) ?_
   refine Ah <| Ae ⟨_, m - 1, Off.eq (De rfl <| ou8 rfl <| ou4 rfl <| ou2 rfl <| Bk), by omega, ?_⟩
   refine ⟨k + 1, by omega, (Ac), ?_⟩
   rw [← auc_set2 mosts_len hl6 hc6 hl hc, ← auc_set1 hl6 hc6 hl hc, ← bid_at hlt]
  ·
   refine Af <| Ai fun ds => Aa rfl (Bz (At rfl hs26) (Ao rfl <| Al rfl <| Ac)) ?_
   refine Ah <| Ae <| Af <| Am (Ac) (by first | rfl | exact decide_eq_false (by omega)) ?_
   obtain rfl : k = s.bids.length := by omega
   refine B0 ?_
   refine Bo <| Bo <| Br <| Ae <| Af <| Ck (i := 0) rfl hb3 (.here) fun F6 hF7 hz => ?_
   replace hr := hr.mono hF7
   refine Ai fun ds => Aa rfl (Ag (Al rfl <| Ao rfl <| A0 rfl <| Ac)) ?_
   refine Aa rfl (Ad (Ac)) ?_
   refine Aa rfl (Ad Ab) ?_
   refine Ah <| Ae <| A3 <| post_retN rfl (.tmp (Al rfl <| Ac) (.tmp (Ac) .nil)) (.cons_cons _ <| .cons _ <| .refl _) ?_
   exact ⟨_, _, rfl, ⟨hr, hz⟩, rfl⟩
set_option maxRecDepth 100000 in
theorem look_bad {F : Heap} {vs vb vl vn vd : Value} {s : Sale} (hr : SaleR F vs vb vl vn vd s) (h0 : (checkS s).2.2 ≠ 0) : Ok Try.prog 66 [.agg #[vs, .int .i64 s.premium, .int .i64 s.fee, .int .i64 s.days, vb, vl, vn, vd]].toArray F fun u _ => u = .tuple #[.pointer none, .int .i64 (checkS s).2.2] := by
 refine Ok.intro Try.func66 rfl Try.ntmps66 rfl fun w0 => ?_
 refine Af <| Ai fun ds => Bg rfl (Ci (Ak rfl) rfl fun b1 hb1 nb1 => ?_)
 refine Aa rfl (Ad Ab) ?_
 refine Aa rfl (Ad Ab) ?_
 refine Ah <| Ae <| Af <| Af <| Ai fun ds => Aa rfl (Bf Cg (Aq rfl <| Ac) rfl rfl (Bi 0 rfl)) ?_
 refine Bw rfl (A4 bd_15 Ay (.cons (Ac) .nil) (checkS_ok hr) (fun _ _ h => h)) ?_
 refine Aa rfl (Ag (Ac)) ?_
 refine Aa rfl (Ax (Ac) rfl) ?_
 refine Aa rfl (Ax (Al rfl <| Ac) rfl) ?_
 refine Aa rfl (Ax (Aq rfl <| Ac) rfl) ?_
 refine Aa rfl (Ad (Aq rfl <| Ac)) ?_
 refine Aa rfl (Ad (Aq rfl <| Ac)) ?_
 refine Aa rfl (Ad (Aq rfl <| Ac)) ?_
 refine Ah <| Ae <| Af <| Ai fun ds => Aa rfl (Ag (Ac)) ?_
 refine Aa rfl (Ch (Ac) Ab) ?_
 refine Ah <| Ae <| As (Ac) (decide_eq_true h0) ?_
 refine Af <| Ai fun ds => Aa rfl (Ag (Aq rfl <| Ac)) ?_
 refine Aa rfl (Ad Ab) ?_
 refine Aa rfl (Ad (Al rfl <| Ac)) ?_
 refine Ah <| Ae <| A3 <| A5 ?_
 refine Au rfl (.tmp (Al rfl <| Ac) (.tmp (Ac) .nil)) ?_
 rfl
set_option maxRecDepth 100000 in
theorem next_ok {F : Heap} {vs vb vl vn vd : Value} {s : Sale} (hr : SaleR F vs vb vl vn vd s) (p : Int) : Ok Try.prog 17 [.agg #[vs, .int .i64 s.premium, .int .i64 s.fee, .int .i64 s.days, vb, vl, vn, vd], .int .i64 p].toArray F fun u _ => u = .tuple #[.int .i64 (nextE s p).1, .int .i64 (nextE s p).2] := by
 refine Ok.intro Try.func17 rfl Try.ntmps17 rfl fun w0 => ?_
 by_cases h0 : (checkS s).2.2 = 0
 ·
  refine Af <| Ai fun ds => Bg rfl (Ci (Ak rfl) rfl fun b1 hb1 nb1 => ?_)
  refine Aa rfl (Ad Ab) ?_
  refine Aa rfl (Ad Ab) ?_
  refine Ah <| Ae <| Af <| Ai fun ds => Aa rfl (Bf Cg (Aq rfl <| Ac) rfl rfl (Bi 0 rfl)) ?_
  refine Bg rfl (x_callN bd_66 Ay (.cons (Ac) .nil) (look_ok hr (Cy h0) h0) fun v2 F3 R6 hr4 hF5 => ?_)
  obtain ⟨ba, kb, rfl, hX, rfl⟩ := hr4
  refine Aa rfl (Ag (Ac)) ?_
  refine Aa rfl (Ax (Ac) rfl) ?_
  refine Aa rfl (Ax (Al rfl <| Ac) rfl) ?_
  refine Aa rfl (Ad (Al rfl <| Ac)) ?_
  refine Aa rfl (Ad (Al rfl <| Ac)) ?_
  refine Ah <| Ae <| Af <| A2 <| Af <| Ai fun ds => Aa rfl (Ag (Ac)) ?_
  refine Aa rfl (Ch (Ac) Ab) ?_
  refine Aa rfl (Ad (Ac)) ?_
  refine Ah <| Ae <| Am (Ac) (by decide) ?_
  by_cases hp : inB 0 100000 p = true
  ·
   refine Af <| Ai fun ds => Aa rfl (Ag (Ba rfl <| A0 rfl <| Al rfl <| Ak rfl)) ?_
   refine Bg rfl (Bq Bl Co rfl (.cons (Ac) .nil) rfl rfl (by decide) (by simp [Value.oneCell']) fun b7 hb7 nb7 => ?_)
   refine Bb (i := 0) rfl hb7 .here fun F8 hF9 hz10 => ?_
   replace hX := hX.mono hF9
   have hsl11 := Ca hz10
   refine Bw rfl (A4 Ct Ay (.cons Ab (.cons Ab (.cons (Ac) .nil))) (Bu _ _ hsl11) (fun _ _ h => h)) ?_
   refine Aa rfl (Ad (Ac)) ?_
   refine Ah <| Ae <| Am (Ac) (by simp [hp]) ?_
   have hpb := in_bounds hp
   refine Az <| Bh <| Ae <| Af <| Ai fun ds => Aa rfl (Ag (Ba rfl <| Ac)) ?_
   refine Aa rfl (Ag (A6 rfl <| Aq rfl <| Ak rfl)) ?_
   refine Bw rfl (A4 bd_67 Ay (.cons (Al rfl <| Ac) (.cons (Ac) .nil)) (behind_ok hX (Cy h0) hpb.1 (by omega)) (fun _ _ h => h)) ?_
   refine Aa rfl (Ad (Ac)) ?_
   refine Aa rfl (Ad Ab) ?_
   refine Ah <| Ae <| A3 <| Au rfl (.tmp (Al rfl <| Ac) (.tmp (Ac) .nil)) ?_
   show _ = _
   rw [nextE_ok h0 hp]; rfl
  ·
   replace hp : inB 0 100000 p = false := by simpa using hp
   refine Af <| Ai fun ds => Aa rfl (Ag (Ba rfl <| A0 rfl <| Al rfl <| Ak rfl)) ?_
   refine Bg rfl (Bq Bl Co rfl (.cons (Ac) .nil) rfl rfl (by decide) (by simp [Value.oneCell']) fun b12 hb12 nb12 => ?_)
   refine Bb (i := 0) rfl hb12 .here fun F13 hF14 hz15 => ?_
   have hsl16 := Ca hz15
   refine Bw rfl (A4 Ct Ay (.cons Ab (.cons Ab (.cons (Ac) .nil))) (Bu _ _ hsl16) (fun _ _ h => h)) ?_
   refine Aa rfl (Ad (Ac)) ?_
   refine Ah <| Ae <| As (Ac) (by simp [hp]) ?_
   refine Af <| Ai fun ds => Aa rfl (Ad Ab) ?_
   refine Aa rfl (Ad Ab) ?_
   refine Ah <| Ae <| A3 <| A8 (A5 ?_)
   refine Au rfl (.tmp (Al rfl <| Ac) (.tmp (Ac) .nil)) ?_
   show _ = _
   rw [nextE_range h0 hp]; rfl
 ·
  refine Af <| Ai fun ds => Bg rfl (Ci (Ak rfl) rfl fun b17 hb17 nb17 => ?_)
  refine Aa rfl (Ad Ab) ?_
  refine Aa rfl (Ad Ab) ?_
  refine Ah <| Ae <| Af <| Ai fun ds => Aa rfl (Bf Cg (Aq rfl <| Ac) rfl rfl (Bi 0 rfl)) ?_
  refine Bw rfl (A4 bd_66 Ay (.cons (Ac) .nil) (look_bad hr h0) (fun _ _ h => h)) ?_
  refine Aa rfl (Ag (Ac)) ?_
  refine Aa rfl (Ax (Ac) rfl) ?_
  refine Aa rfl (Ax (Al rfl <| Ac) rfl) ?_
  refine Aa rfl (Ad (Al rfl <| Ac)) ?_
  refine Aa rfl (Ad (Al rfl <| Ac)) ?_
  refine Ah <| Ae <| Af <| A2 <| Af <| Ai fun ds => Aa rfl (Ag (Ac)) ?_
  refine Aa rfl (Ch (Ac) Ab) ?_
  refine Aa rfl (Ad (Ac)) ?_
  refine Ah <| Ae <| As (Ac) (decide_eq_true h0) ?_
  refine Af <| Ai fun ds => Aa rfl (Ag (Aq rfl <| Al rfl <| Ac)) ?_
  refine Aa rfl (Ad Ab) ?_
  refine Aa rfl (Ad (Al rfl <| Ac)) ?_
  refine Ah <| Ae <| A3 <| A8 (A5 ?_)
  refine Au rfl (.tmp (Al rfl <| Ac) (.tmp (Ac) .nil)) ?_
  show _ = _
  rw [nextE_bad h0]; rfl
end Go.Proofs.Ytaikojfonleccaa
namespace Go.Proofs.Ytaikojfonleccaa
open Go.RowKit
theorem asc_not {xs : List Int} (h : notAsc xs = false) {i : Nat} (hi : i < xs.length) (h0 : 0 < i) : ¬ xs[i] ≤ xs[i - 1] := fun hle => by rw [notAsc_at h0 hi hle] at h; cases h
def SetOf (set : Nat) (ring : List Int) : Prop := ∀ t : Nat, set.testBit t = decide ((t : Int) ∈ ring)
def EnterR (F : Heap) (u : Value) (Hn : List (Nat × Obj)) (vs vb vl vn vd : Value) (s : Sale) (ring : List Int) : Prop := ∃ b kb set, u = .tuple #[.pointer (some ⟨b, 0, none⟩), .int .i64 ((set : Nat) : Int), .int .i64 0] ∧ AucX 156 F b vs vb vl vn vd kb s ∧ set < 64 ∧ SetOf set ring ∧ Hn = [(kb, mapO [])]
theorem ring_nat {s : Sale} (hv : ValidS s) {ring : List Int} (h : (ring.any fun z => !(inB 0 (s.bidders.length - 1) z)) = false) {k : Nat} (hk : k < ring.length) : ∃ c : Nat, ring[k] = (c : Int) ∧ c < s.bidders.length ∧ c < 6 := by
 have := in_bounds (in_of_any h hk)
 obtain ⟨c, hc⟩ := Int.eq_ofNat_of_zero_le this.1
 have := hv.nb
 exact ⟨c, hc, by omega, by omega⟩
set_option maxRecDepth 100000 in
theorem enter_ok {F : Heap} {vs vb vl vn vd : Value} {s : Sale} (hr : SaleR F vs vb vl vn vd s) {vr : Value} {ring : List Int} (hx : Ints F vr ring) (hok : enterErr s ring = 0) : OkN Try.prog 69 [.agg #[vs, .int .i64 s.premium, .int .i64 s.fee, .int .i64 s.days, vb, vl, vn, vd], vr].toArray F fun u F' Hn => EnterR F' u Hn vs vb vl vn vd s ring := by
 refine OkN.intro Try.func69 rfl Try.ntmps69 rfl fun w0 => ?_
 obtain ⟨h0, h1⟩ := enterE_ok hok
 obtain ⟨hany, hna, hl1⟩ := ringErr_ok h1
 have hL2 := hr.bidders.plain.lt
 have hlen := hx.plain.lt
 refine Af <| Ai fun ds => Bg rfl (Ci (Ak rfl) rfl fun b1 hb1 nb1 => ?_)
 refine Aa rfl (Ad Ab) ?_
 refine Aa rfl (Ad Ab) ?_
 refine Aa rfl (Ad Ab) ?_
 refine Ah <| Ae <| Af <| Af <| Ai fun ds => Aa rfl (Bf Cg (Aq rfl <| Al rfl <| Ac) rfl rfl (Bi 0 rfl)) ?_
 refine Bg rfl (x_callN bd_66 Ay (.cons (Ac) .nil) (look_ok hr (Cy h0) h0) fun v2 F3 R6 hr4 hF5 => ?_)
 replace hr := hr.mono hF5
 replace hx := hx.mono hF5
 obtain ⟨ba, kb, rfl, hX, rfl⟩ := hr4
 refine Aa rfl (Ag (Ac)) ?_
 refine Aa rfl (Ax (Ac) rfl) ?_
 refine Aa rfl (Ax (Al rfl <| Ac) rfl) ?_
 refine Aa rfl (Ad (Al rfl <| Ac)) ?_
 refine Aa rfl (Ad (Al rfl <| Ac)) ?_
 refine Ah <| Ae <| Af <| Ai fun ds => Aa rfl (Ag (Ac)) ?_
 refine Aa rfl (Ch (Ac) Ab) ?_
 refine Ah <| Ae <| Am (Ac) (by decide) ?_
 refine Az <| Ae <| Af <| Af <| Ai fun ds => Aa rfl (Aj Dd (Ba rfl <| A0 rfl <| Ac)) ?_
 refine Aa rfl (Ar Cx (Ac) (Cell.own 0 rfl rfl)) ?_
 refine Aa rfl (Bj Dg (Ac) hr.bidders.plain) ?_
 refine Aa rfl (Dn (Ac) Ab rfl (by omega) (by omega)) ?_
 refine Aa rfl (Ag (A6 rfl <| Al rfl <| Ak rfl)) ?_
 refine Bw rfl (A4 Ct Ay (.cons Ab (.cons (Al rfl <| Ac) (.cons (Ac) .nil))) (Bu _ _ hx) (fun _ _ h => h)) ?_
 refine Ah <| Ae <| Am (Ac) hany ?_
 refine Az <| Ae <| Af <| Af <| Ai fun ds => Aa rfl (Ag (A6 rfl <| Aq rfl <| Al rfl <| Ak rfl)) ?_
 refine Aa rfl (Bj Bl (Ac) hx.plain) ?_
 refine Aa rfl (Ag Ab) ?_
 refine Ah <| Ae <| A2 <| B4 [4, 5, 6, 7, 8, 25, 26, 27, 28, 29, 30, 31, 32, 33, 34, 35, 36, 37, 38, 39, 40, 41, 42, 43, 44, 45] (fun m e σ => ∃ (k mset : Nat), m + k = ring.length ∧ e 25 = .int .i64 (k : Int) ∧ e 5 = .int .i64 (mset : Int) ∧ e 4 = .pointer (some ⟨ba, 0, none⟩) ∧ mset < 64 ∧ SetOf mset (ring.take k) ∧ (∀ i (hi : i < ring.length), i < k → 0 < i → ¬ ring[i] ≤ ring[i - 1]) ∧ σ = ⟨F3, [(b1, bx 27 [vs, .int .i64 s.premium, .int .i64 s.fee, .int .i64 s.days, vb, vl, vn, vd]), (kb, mapO [])]⟩) (ring.length) ?_ ?_
 · exact ⟨0, 0, by omega, (Ac), (A6 rfl <| Aq rfl <| Al rfl <| Ac), (Ba rfl <| A0 rfl <| Ac), by omega, fun t => by simp, fun i hi h h0 => absurd h (by omega), rfl⟩
 ·
  rintro m e _ ⟨k, mset, hm9, hs25, hs5, hs4, hm64, hbits, hasc, rfl⟩
  by_cases hlt : k < ring.length
  ·
   obtain ⟨c, hc, hcb, hc6⟩ := ring_nat (Cy h0) hany hlt
   have hcp := pow_lt hc6
   refine Af <| Ai fun ds => Aa rfl (Bz (At rfl hs25) (Ao rfl <| Al rfl <| Ac)) ?_
   refine Ah <| Ae <| Af <| As (Ac) (by first | rfl | exact decide_eq_true (by omega)) ?_
   by_cases hk0 : 0 < k
   ·
    refine Az <| Ae <| Af <| A2 <| Af <| Ai fun ds => Aa rfl (Ag (Al rfl <| At rfl hs25)) ?_
    refine Aa rfl (Bn  Bl (Aq rfl <| Ao rfl <| Aq rfl <| Ac) hx.plain (Aq rfl <| At rfl hs25) rfl hlt) ?_
    refine Aa rfl (Ar Bd (Ac) (hx.cell1 hlt rfl)) ?_
    refine Aa rfl (Ad (Aq rfl <| Ac)) ?_
    refine Aa rfl (Ad (Al rfl <| Ac)) ?_
    refine Ah <| Ae <| Af <| Af <| Ai fun ds => Aa rfl (Ag (Al rfl <| Ac)) ?_
    refine Aa rfl (Cl (Ac) Ab) ?_
    refine Aa rfl (Ag (Ac)) ?_
    refine Ap rfl rfl (Ac) (decide_eq_true (by omega)) ?_
    refine Aa rfl (Ag (Aq rfl <| Al rfl <| Ac)) ?_
    refine Ap rfl rfl (Al rfl <| Ac) (decide_eq_true (by omega)) ?_
    refine Aa rfl (Ag (Ba rfl <| Aq rfl <| Ao rfl <| A6 rfl <| A0 rfl <| Aq rfl <| Ak rfl)) ?_
    refine Ap rfl rfl (Aq rfl <| Ac) (decide_eq_true (by omega)) ?_
    refine Aa rfl (Ag (A0 rfl <| Aq rfl <| Ac)) ?_
    refine Ap rfl rfl (Aq rfl <| Al rfl <| Ac) (decide_eq_true (by omega)) ?_
    refine Aa rfl (Dn (Ac) Ab rfl (by omega) (by omega)) ?_
    refine Ap rfl rfl (A0 rfl <| Ac) (decide_eq_true (by omega)) ?_
    refine Aa rfl (Bn (k := k - 1) Bl (Aq rfl <| Ac) hx.plain (Ac) (by omega) (by omega)) ?_
    refine Ap rfl rfl (A0 rfl <| Al rfl <| Ac) (decide_eq_true (by omega)) ?_
    refine Aa rfl (Ar Bd (Ac) (hx.cell1 (by omega) rfl)) ?_
    refine Ap rfl rfl (A0 rfl <| Aq rfl <| Ac) (decide_eq_true (by omega)) ?_
    refine Aa rfl (q_leq (A0 rfl <| Al rfl <| Ac) (Ac)) ?_
    refine Aa rfl (A1 (A0 rfl <| Aq rfl <| Al rfl <| Ac) (decide_eq_true (by omega)) (Ac)) ?_
    refine Ah <| Ae <| Am (Ac) (decide_eq_false (asc_not hna hlt (by omega))) ?_
    refine Az <| Ae <| Ai fun ds => Aa rfl (Ag (A6 rfl <| Al rfl <| At rfl hs5)) ?_
    refine Aa rfl (Ag (Ba rfl <| A0 rfl <| Ac)) ?_
    refine Aa rfl (q_shl Ab (Ac) (k := c) hc (by omega) (show (1 : Int) * 2 ^ c = ((2 ^ c : Nat) : Int) by simp) (Int.le_trans (by decide) (Int.natCast_nonneg _)) (by omega)) ?_
    refine Aa rfl (q_or (Aq rfl <| Ac) (Ac) (m := mset) (k := 2 ^ c) rfl rfl (by omega) (by omega) rfl) ?_
    refine Aa rfl (Ad (Ac)) ?_
    refine Ah <| Bh <| Ae <| Ai fun ds => Aa rfl (B3 (A6 rfl <| A0 rfl <| Aq rfl <| At rfl hs25) Ab rfl (by omega) (by omega)) ?_
    refine Aa rfl (Ag (Ac)) ?_
    refine Ah <| Ae ⟨_, m - 1, Off.eq (De rfl <| ou8 rfl <| Bk), by omega, ?_⟩
    refine ⟨k + 1, mset ||| 2 ^ c, by omega, (Ac), (Aq rfl <| Ac), (A6 rfl <| Ba rfl <| At rfl hs4), mask_lt hm64 hc6, ?_, ?_, rfl⟩
    · rw [List.take_succ_eq_append_getElem hlt, hc]; exact mask_orI hbits
    · intro i hi hik h0
      rcases Nat.lt_succ_iff_lt_or_eq.1 hik with hik | rfl
      · exact hasc i hi hik h0
      · exact asc_not hna hi h0
   ·
    refine Az <| Ae <| Af <| A2 <| Af <| Ai fun ds => Aa rfl (Ag (Al rfl <| At rfl hs25)) ?_
    refine Aa rfl (Bn  Bl (Aq rfl <| Ao rfl <| Aq rfl <| Ac) hx.plain (Aq rfl <| At rfl hs25) rfl hlt) ?_
    refine Aa rfl (Ar Bd (Ac) (hx.cell1 hlt rfl)) ?_
    refine Aa rfl (Ad (Aq rfl <| Ac)) ?_
    refine Aa rfl (Ad (Al rfl <| Ac)) ?_
    refine Ah <| Ae <| Af <| Af <| Ai fun ds => Aa rfl (Ag (Al rfl <| Ac)) ?_
    refine Aa rfl (Cl (Ac) Ab) ?_
    refine Aa rfl (Ag (Ac)) ?_
    refine Aw rfl rfl (Ac) (.inl (congrArg Value.bool (decide_eq_false (by omega)))) rfl ?_
    refine Aw rfl rfl (Al rfl <| Ac) (.inl (congrArg Value.bool (decide_eq_false (by omega)))) rfl ?_
    refine Aw rfl rfl (Aq rfl <| Ac) (.inl (congrArg Value.bool (decide_eq_false (by omega)))) rfl ?_
    refine Aw rfl rfl (Aq rfl <| Al rfl <| Ac) (.inl (congrArg Value.bool (decide_eq_false (by omega)))) rfl ?_
    refine Aw rfl rfl (A0 rfl <| Ac) (.inl (congrArg Value.bool (decide_eq_false (by omega)))) rfl ?_
    refine Aw rfl rfl (A0 rfl <| Al rfl <| Ac) (.inl (congrArg Value.bool (decide_eq_false (by omega)))) rfl ?_
    refine Aw rfl rfl (A0 rfl <| Aq rfl <| Ac) (.inl (congrArg Value.bool (decide_eq_false (by omega)))) rfl ?_
    refine Aa rfl (Bc (A0 rfl <| Aq rfl <| Al rfl <| Ac) (decide_eq_false (by omega)) Ab) ?_
    refine Ah <| Ae <| Am (Ac) rfl ?_
    refine Az <| Ae <| Ai fun ds => Aa rfl (Ag (A6 rfl <| Al rfl <| At rfl hs5)) ?_
    refine Aa rfl (Ag (Ba rfl <| A0 rfl <| Ac)) ?_
    refine Aa rfl (q_shl Ab (Ac) (k := c) hc (by omega) (show (1 : Int) * 2 ^ c = ((2 ^ c : Nat) : Int) by simp) (Int.le_trans (by decide) (Int.natCast_nonneg _)) (by omega)) ?_
    refine Aa rfl (q_or (Aq rfl <| Ac) (Ac) (m := mset) (k := 2 ^ c) rfl rfl (by omega) (by omega) rfl) ?_
    refine Aa rfl (Ad (Ac)) ?_
    refine Ah <| Bh <| Ae <| Ai fun ds => Aa rfl (B3 (A6 rfl <| A0 rfl <| Aq rfl <| At rfl hs25) Ab rfl (by omega) (by omega)) ?_
    refine Aa rfl (Ag (Ac)) ?_
    refine Ah <| Ae ⟨_, m - 1, Off.eq (De rfl <| ou8 rfl <| Bk), by omega, ?_⟩
    refine ⟨k + 1, mset ||| 2 ^ c, by omega, (Ac), (Aq rfl <| Ac), (A6 rfl <| Ba rfl <| At rfl hs4), mask_lt hm64 hc6, ?_, ?_, rfl⟩
    · rw [List.take_succ_eq_append_getElem hlt, hc]; exact mask_orI hbits
    · intro i hi hik h0
      exact absurd h0 (by omega)
  ·
   refine Af <| Ai fun ds => Aa rfl (Bz (At rfl hs25) (Ao rfl <| Al rfl <| Ac)) ?_
   refine Ah <| Ae <| Af <| Am (Ac) (by first | rfl | exact decide_eq_false (by omega)) ?_
   refine B0 ?_
   refine Bo <| Bo <| Br <| Ae <| Af <| Af <| Ai fun ds => Aa rfl (Ag (Al rfl <| Ao rfl <| A6 rfl <| A0 rfl <| Aq rfl <| Ak rfl)) ?_
   refine Aa rfl (Bj Bl (Ac) hx.plain) ?_
   refine Aa rfl (B9 (Ac) Ab) ?_
   refine Ah <| Ae <| Am (Ac) (decide_eq_false (by omega)) ?_
   refine Az <| Ae <| Af <| Ai fun ds => Aa rfl (Ag (A0 rfl <| At rfl hs4)) ?_
   refine Aa rfl (Ag (A0 rfl <| Al rfl <| At rfl hs5)) ?_
   refine Aa rfl (Ad (Al rfl <| Ac)) ?_
   refine Aa rfl (Ad (Al rfl <| Ac)) ?_
   refine Aa rfl (Ad Ab) ?_
   refine Ah <| Ae <| A3 <| post_retN rfl (.tmp (Aq rfl <| Ac) (.tmp (Al rfl <| Ac) (.tmp (Ac) .nil))) (.cons _ <| .refl _) ?_
   exact ⟨_, _, _, rfl, hX, hm64, by rw [List.take_of_length_le (by omega)] at hbits; exact hbits, rfl⟩
set_option maxRecDepth 100000 in
theorem enter_bad {F : Heap} {vs vb vl vn vd : Value} {s : Sale} (hr : SaleR F vs vb vl vn vd s) {vr : Value} {ring : List Int} (hx : Ints F vr ring) (hbad : enterErr s ring ≠ 0) : Ok Try.prog 69 [.agg #[vs, .int .i64 s.premium, .int .i64 s.fee, .int .i64 s.days, vb, vl, vn, vd], vr].toArray F fun u _ => u = .tuple #[.pointer none, .int .i64 0, .int .i64 (enterErr s ring)] := by
 refine Ok.intro Try.func69 rfl Try.ntmps69 rfl fun w0 => ?_
 have hL2 := hr.bidders.plain.lt
 have hlen := hx.plain.lt
 by_cases h0 : (checkS s).2.2 = 0
 ·
  refine Af <| Ai fun ds => Bg rfl (Ci (Ak rfl) rfl fun b1 hb1 nb1 => ?_)
  refine Aa rfl (Ad Ab) ?_
  refine Aa rfl (Ad Ab) ?_
  refine Aa rfl (Ad Ab) ?_
  refine Ah <| Ae <| Af <| Af <| Ai fun ds => Aa rfl (Bf Cg (Aq rfl <| Al rfl <| Ac) rfl rfl (Bi 0 rfl)) ?_
  refine Bg rfl (x_callN bd_66 Ay (.cons (Ac) .nil) (look_ok hr (Cy h0) h0) fun v2 F3 R6 hr4 hF5 => ?_)
  replace hr := hr.mono hF5
  replace hx := hx.mono hF5
  obtain ⟨ba, kb, rfl, hX, rfl⟩ := hr4
  refine Aa rfl (Ag (Ac)) ?_
  refine Aa rfl (Ax (Ac) rfl) ?_
  refine Aa rfl (Ax (Al rfl <| Ac) rfl) ?_
  refine Aa rfl (Ad (Al rfl <| Ac)) ?_
  refine Aa rfl (Ad (Al rfl <| Ac)) ?_
  refine Ah <| Ae <| Af <| Ai fun ds => Aa rfl (Ag (Ac)) ?_
  refine Aa rfl (Ch (Ac) Ab) ?_
  refine Ah <| Ae <| Am (Ac) (by decide) ?_
  by_cases hany : (ring.any fun z => !(inB 0 (s.bidders.length - 1) z)) = true
  ·
   refine Az <| Ae <| Af <| Af <| Ai fun ds => Aa rfl (Aj Dd (Ba rfl <| A0 rfl <| Ac)) ?_
   refine Aa rfl (Ar Cx (Ac) (Cell.own 0 rfl rfl)) ?_
   refine Aa rfl (Bj Dg (Ac) hr.bidders.plain) ?_
   refine Aa rfl (Dn (Ac) Ab rfl (by omega) (by omega)) ?_
   refine Aa rfl (Ag (A6 rfl <| Al rfl <| Ak rfl)) ?_
   refine Bw rfl (A4 Ct Ay (.cons Ab (.cons (Al rfl <| Ac) (.cons (Ac) .nil))) (Bu _ _ hx) (fun _ _ h => h)) ?_
   refine Ah <| Ae <| As (Ac) hany ?_
   refine Af <| Ai fun ds => Aa rfl (Ad Ab) ?_
   refine Aa rfl (Ad Ab) ?_
   refine Aa rfl (Ad Ab) ?_
   refine Ah <| Ae <| A3 <| A5 ?_
   refine Au rfl (.tmp (Aq rfl <| Ac) (.tmp (Al rfl <| Ac) (.tmp (Ac) .nil))) ?_
   rw [enterE_ring h0, ringErr_4 hany]; rfl
  ·
   replace hany : (ring.any fun z => !(inB 0 (s.bidders.length - 1) z)) = false := by simpa using hany
   refine Az <| Ae <| Af <| Af <| Ai fun ds => Aa rfl (Aj Dd (Ba rfl <| A0 rfl <| Ac)) ?_
   refine Aa rfl (Ar Cx (Ac) (Cell.own 0 rfl rfl)) ?_
   refine Aa rfl (Bj Dg (Ac) hr.bidders.plain) ?_
   refine Aa rfl (Dn (Ac) Ab rfl (by omega) (by omega)) ?_
   refine Aa rfl (Ag (A6 rfl <| Al rfl <| Ak rfl)) ?_
   refine Bw rfl (A4 Ct Ay (.cons Ab (.cons (Al rfl <| Ac) (.cons (Ac) .nil))) (Bu _ _ hx) (fun _ _ h => h)) ?_
   refine Ah <| Ae <| Am (Ac) hany ?_
   refine Az <| Ae <| Af <| Af <| Ai fun ds => Aa rfl (Ag (A6 rfl <| Aq rfl <| Al rfl <| Ak rfl)) ?_
   refine Aa rfl (Bj Bl (Ac) hx.plain) ?_
   refine Aa rfl (Ag Ab) ?_
   refine Ah <| Ae <| A2 <| B4 [4, 5, 6, 7, 8, 25, 26, 27, 28, 29, 30, 31, 32, 33, 34, 35, 36, 37, 38, 39, 40, 41, 42, 43, 44, 45] (fun m e σ => ∃ (k mset : Nat), m + k = ring.length ∧ e 25 = .int .i64 (k : Int) ∧ e 5 = .int .i64 (mset : Int) ∧ e 4 = .pointer (some ⟨ba, 0, none⟩) ∧ mset < 64 ∧ SetOf mset (ring.take k) ∧ (∀ i (hi : i < ring.length), i < k → 0 < i → ¬ ring[i] ≤ ring[i - 1]) ∧ σ = ⟨F3, [(b1, bx 27 [vs, .int .i64 s.premium, .int .i64 s.fee, .int .i64 s.days, vb, vl, vn, vd]), (kb, mapO [])]⟩) (ring.length) ?_ ?_
   · exact ⟨0, 0, by omega, (Ac), (A6 rfl <| Aq rfl <| Al rfl <| Ac), (Ba rfl <| A0 rfl <| Ac), by omega, fun t => by simp, fun i hi h h0 => absurd h (by omega), rfl⟩
   ·
    rintro m e _ ⟨k, mset, hm9, hs25, hs5, hs4, hm64, hbits, hasc, rfl⟩
    by_cases hlt : k < ring.length
    ·
     obtain ⟨c, hc, hcb, hc6⟩ := ring_nat (Cy h0) hany hlt
     have hcp := pow_lt hc6
     refine Af <| Ai fun ds => Aa rfl (Bz (At rfl hs25) (Ao rfl <| Al rfl <| Ac)) ?_
     refine Ah <| Ae <| Af <| As (Ac) (by first | rfl | exact decide_eq_true (by omega)) ?_
     by_cases hk0 : 0 < k
     ·
      refine Az <| Ae <| Af <| A2 <| Af <| Ai fun ds => Aa rfl (Ag (Al rfl <| At rfl hs25)) ?_
      refine Aa rfl (Bn  Bl (Aq rfl <| Ao rfl <| Aq rfl <| Ac) hx.plain (Aq rfl <| At rfl hs25) rfl hlt) ?_
      refine Aa rfl (Ar Bd (Ac) (hx.cell1 hlt rfl)) ?_
      refine Aa rfl (Ad (Aq rfl <| Ac)) ?_
      refine Aa rfl (Ad (Al rfl <| Ac)) ?_
      refine Ah <| Ae <| Af <| Af <| Ai fun ds => Aa rfl (Ag (Al rfl <| Ac)) ?_
      refine Aa rfl (Cl (Ac) Ab) ?_
      refine Aa rfl (Ag (Ac)) ?_
      refine Ap rfl rfl (Ac) (decide_eq_true (by omega)) ?_
      refine Aa rfl (Ag (Aq rfl <| Al rfl <| Ac)) ?_
      refine Ap rfl rfl (Al rfl <| Ac) (decide_eq_true (by omega)) ?_
      refine Aa rfl (Ag (Ba rfl <| Aq rfl <| Ao rfl <| A6 rfl <| A0 rfl <| Aq rfl <| Ak rfl)) ?_
      refine Ap rfl rfl (Aq rfl <| Ac) (decide_eq_true (by omega)) ?_
      refine Aa rfl (Ag (A0 rfl <| Aq rfl <| Ac)) ?_
      refine Ap rfl rfl (Aq rfl <| Al rfl <| Ac) (decide_eq_true (by omega)) ?_
      refine Aa rfl (Dn (Ac) Ab rfl (by omega) (by omega)) ?_
      refine Ap rfl rfl (A0 rfl <| Ac) (decide_eq_true (by omega)) ?_
      refine Aa rfl (Bn (k := k - 1) Bl (Aq rfl <| Ac) hx.plain (Ac) (by omega) (by omega)) ?_
      refine Ap rfl rfl (A0 rfl <| Al rfl <| Ac) (decide_eq_true (by omega)) ?_
      refine Aa rfl (Ar Bd (Ac) (hx.cell1 (by omega) rfl)) ?_
      refine Ap rfl rfl (A0 rfl <| Aq rfl <| Ac) (decide_eq_true (by omega)) ?_
      refine Aa rfl (q_leq (A0 rfl <| Al rfl <| Ac) (Ac)) ?_
      refine Aa rfl (A1 (A0 rfl <| Aq rfl <| Al rfl <| Ac) (decide_eq_true (by omega)) (Ac)) ?_
      refine Ah <| Ae ?_
      by_cases hle : ring[k] ≤ ring[k - 1]
      ·
       refine As (Ac) (decide_eq_true hle) ?_
       refine Af <| Ai fun ds => Aa rfl (Ad Ab) ?_
       refine Aa rfl (Ad Ab) ?_
       refine Aa rfl (Ad Ab) ?_
       refine Ah <| Ae <| A3 <| A5 (A8 (A5 (A5 (A8 (A5 ?_)))))
       refine Au rfl (.tmp (Aq rfl <| Ac) (.tmp (Al rfl <| Ac) (.tmp (Ac) .nil))) ?_
       rw [enterE_ring h0, ringErr_2 hany (notAsc_at (by omega) hlt hle)]; rfl
      ·
       refine Am (Ac) (decide_eq_false hle) ?_
       refine Az <| Ae <| Ai fun ds => Aa rfl (Ag (A6 rfl <| Al rfl <| At rfl hs5)) ?_
       refine Aa rfl (Ag (Ba rfl <| A0 rfl <| Ac)) ?_
       refine Aa rfl (q_shl Ab (Ac) (k := c) hc (by omega) (show (1 : Int) * 2 ^ c = ((2 ^ c : Nat) : Int) by simp) (Int.le_trans (by decide) (Int.natCast_nonneg _)) (by omega)) ?_
       refine Aa rfl (q_or (Aq rfl <| Ac) (Ac) (m := mset) (k := 2 ^ c) rfl rfl (by omega) (by omega) rfl) ?_
       refine Aa rfl (Ad (Ac)) ?_
       refine Ah <| Bh <| Ae <| Ai fun ds => Aa rfl (B3 (A6 rfl <| A0 rfl <| Aq rfl <| At rfl hs25) Ab rfl (by omega) (by omega)) ?_
       refine Aa rfl (Ag (Ac)) ?_
       refine Ah <| Ae ⟨_, m - 1, Off.eq (De rfl <| ou8 rfl <| Bk), by omega, ?_⟩
       refine ⟨k + 1, mset ||| 2 ^ c, by omega, (Ac), (Aq rfl <| Ac), (A6 rfl <| Ba rfl <| At rfl hs4), mask_lt hm64 hc6, ?_, ?_, rfl⟩
       · rw [List.take_succ_eq_append_getElem hlt, hc]; exact mask_orI hbits
       · intro i hi hik h0
         rcases Nat.lt_succ_iff_lt_or_eq.1 hik with hik | rfl
         · exact hasc i hi hik h0
         · exact hle
     ·
      refine Az <| Ae <| Af <| A2 <| Af <| Ai fun ds => Aa rfl (Ag (Al rfl <| At rfl hs25)) ?_
      refine Aa rfl (Bn  Bl (Aq rfl <| Ao rfl <| Aq rfl <| Ac) hx.plain (Aq rfl <| At rfl hs25) rfl hlt) ?_
      refine Aa rfl (Ar Bd (Ac) (hx.cell1 hlt rfl)) ?_
      refine Aa rfl (Ad (Aq rfl <| Ac)) ?_
      refine Aa rfl (Ad (Al rfl <| Ac)) ?_
      refine Ah <| Ae <| Af <| Af <| Ai fun ds => Aa rfl (Ag (Al rfl <| Ac)) ?_
      refine Aa rfl (Cl (Ac) Ab) ?_
      refine Aa rfl (Ag (Ac)) ?_
      refine Aw rfl rfl (Ac) (.inl (congrArg Value.bool (decide_eq_false (by omega)))) rfl ?_
      refine Aw rfl rfl (Al rfl <| Ac) (.inl (congrArg Value.bool (decide_eq_false (by omega)))) rfl ?_
      refine Aw rfl rfl (Aq rfl <| Ac) (.inl (congrArg Value.bool (decide_eq_false (by omega)))) rfl ?_
      refine Aw rfl rfl (Aq rfl <| Al rfl <| Ac) (.inl (congrArg Value.bool (decide_eq_false (by omega)))) rfl ?_
      refine Aw rfl rfl (A0 rfl <| Ac) (.inl (congrArg Value.bool (decide_eq_false (by omega)))) rfl ?_
      refine Aw rfl rfl (A0 rfl <| Al rfl <| Ac) (.inl (congrArg Value.bool (decide_eq_false (by omega)))) rfl ?_
      refine Aw rfl rfl (A0 rfl <| Aq rfl <| Ac) (.inl (congrArg Value.bool (decide_eq_false (by omega)))) rfl ?_
      refine Aa rfl (Bc (A0 rfl <| Aq rfl <| Al rfl <| Ac) (decide_eq_false (by omega)) Ab) ?_
      refine Ah <| Ae <| Am (Ac) rfl ?_
      refine Az <| Ae <| Ai fun ds => Aa rfl (Ag (A6 rfl <| Al rfl <| At rfl hs5)) ?_
      refine Aa rfl (Ag (Ba rfl <| A0 rfl <| Ac)) ?_
      refine Aa rfl (q_shl Ab (Ac) (k := c) hc (by omega) (show (1 : Int) * 2 ^ c = ((2 ^ c : Nat) : Int) by simp) (Int.le_trans (by decide) (Int.natCast_nonneg _)) (by omega)) ?_
      refine Aa rfl (q_or (Aq rfl <| Ac) (Ac) (m := mset) (k := 2 ^ c) rfl rfl (by omega) (by omega) rfl) ?_
      refine Aa rfl (Ad (Ac)) ?_
      refine Ah <| Bh <| Ae <| Ai fun ds => Aa rfl (B3 (A6 rfl <| A0 rfl <| Aq rfl <| At rfl hs25) Ab rfl (by omega) (by omega)) ?_
      refine Aa rfl (Ag (Ac)) ?_
      refine Ah <| Ae ⟨_, m - 1, Off.eq (De rfl <| ou8 rfl <| Bk), by omega, ?_⟩
      refine ⟨k + 1, mset ||| 2 ^ c, by omega, (Ac), (Aq rfl <| Ac), (A6 rfl <| Ba rfl <| At rfl hs4), mask_lt hm64 hc6, ?_, ?_, rfl⟩
      · rw [List.take_succ_eq_append_getElem hlt, hc]; exact mask_orI hbits
      · intro i hi hik h0
        exact absurd h0 (by omega)
    ·
     refine Af <| Ai fun ds => Aa rfl (Bz (At rfl hs25) (Ao rfl <| Al rfl <| Ac)) ?_
     refine Ah <| Ae <| Af <| Am (Ac) (by first | rfl | exact decide_eq_false (by omega)) ?_
     by_cases h1 : ring.length = 1
     ·
      refine B0 ?_
      refine Bo <| Bo <| Br <| Ae <| Af <| Af <| Ai fun ds => Aa rfl (Ag (Al rfl <| Ao rfl <| A6 rfl <| A0 rfl <| Aq rfl <| Ak rfl)) ?_
      refine Aa rfl (Bj Bl (Ac) hx.plain) ?_
      refine Aa rfl (B9 (Ac) Ab) ?_
      refine Ah <| Ae <| As (Ac) (decide_eq_true (by omega)) ?_
      refine Af <| Ai fun ds => Aa rfl (Ad Ab) ?_
      refine Aa rfl (Ad Ab) ?_
      refine Aa rfl (Ad Ab) ?_
      refine Ah <| Ae <| A3 <| A5 ?_
      refine Au rfl (.tmp (Aq rfl <| Ac) (.tmp (Al rfl <| Ac) (.tmp (Ac) .nil))) ?_
      rw [enterE_ring h0, ringErr_3 hany (asc_of fun i hi h0 => hasc i hi (by omega) h0) h1]; rfl
     ·
      refine B0 ?_
      refine Bo <| Bo <| Br <| Ae <| Af <| Af <| Ai fun ds => Aa rfl (Ag (Al rfl <| Ao rfl <| A6 rfl <| A0 rfl <| Aq rfl <| Ak rfl)) ?_
      refine Aa rfl (Bj Bl (Ac) hx.plain) ?_
      refine Aa rfl (B9 (Ac) Ab) ?_
      refine Ah <| Ae <| Am (Ac) (decide_eq_false (by omega)) ?_
      refine Az <| Ae <| Af <| Ai fun ds => Aa rfl (Ag (A0 rfl <| At rfl hs4)) ?_
      refine Aa rfl (Ag (A0 rfl <| Al rfl <| At rfl hs5)) ?_
      refine Aa rfl (Ad (Al rfl <| Ac)) ?_
      refine Aa rfl (Ad (Al rfl <| Ac)) ?_
      refine Aa rfl (Ad Ab) ?_
      refine Ah <| Ae <| A3 <| Au rfl (.tmp (Aq rfl <| Ac) (.tmp (Al rfl <| Ac) (.tmp (Ac) .nil))) ?_
      exact absurd ((enterE_ring h0).trans (ringErr_0 hany (asc_of fun i hi h0 => hasc i hi (by omega) h0) h1)) hbad
 ·
  refine Af <| Ai fun ds => Bg rfl (Ci (Ak rfl) rfl fun b8 hb8 nb8 => ?_)
  refine Aa rfl (Ad Ab) ?_
  refine Aa rfl (Ad Ab) ?_
  refine Aa rfl (Ad Ab) ?_
  refine Ah <| Ae <| Af <| Af <| Ai fun ds => Aa rfl (Bf Cg (Aq rfl <| Al rfl <| Ac) rfl rfl (Bi 0 rfl)) ?_
  refine Bw rfl (A4 bd_66 Ay (.cons (Ac) .nil) (look_bad hr h0) (fun _ _ h => h)) ?_
  refine Aa rfl (Ag (Ac)) ?_
  refine Aa rfl (Ax (Ac) rfl) ?_
  refine Aa rfl (Ax (Al rfl <| Ac) rfl) ?_
  refine Aa rfl (Ad (Al rfl <| Ac)) ?_
  refine Aa rfl (Ad (Al rfl <| Ac)) ?_
  refine Ah <| Ae <| Af <| Ai fun ds => Aa rfl (Ag (Ac)) ?_
  refine Aa rfl (Ch (Ac) Ab) ?_
  refine Ah <| Ae <| As (Ac) (decide_eq_true h0) ?_
  refine Af <| Ai fun ds => Aa rfl (Ag (Aq rfl <| Ac)) ?_
  refine Aa rfl (Ad Ab) ?_
  refine Aa rfl (Ad Ab) ?_
  refine Aa rfl (Ad (Aq rfl <| Ac)) ?_
  refine Ah <| Ae <| A3 <| A5 ?_
  refine Au rfl (.tmp (Aq rfl <| Ac) (.tmp (Al rfl <| Ac) (.tmp (Ac) .nil))) ?_
  rw [enterE_bad h0]; rfl
end Go.Proofs.Ytaikojfonleccaa
namespace Go.Proofs.Ytaikojfonleccaa
open Go.RowKit
theorem bd_100 : Body Try.prog 100 := Bs (by kernel_rfl)
theorem bd_101 : Body Try.prog 101 := Bs (by kernel_rfl)
theorem fd_156_3 : FieldT Try.prog 156 3 80 := B5 (by kernel_rfl)
theorem one_152 : OneT Try.prog 152 := C9 (by kernel_rfl)
theorem mapK : MapT Try.prog 152 3 34 (.slice none 0 0) := ⟨Try.underlying152, Cr (by kernel_rfl), Go.Maps.int_keyed Try.underlying3⟩
theorem isKn {z : Nat} (h : z < 64) : IsK Try.prog 3 (.int .i64 (z : Int)) := isK_int Try.underlying3 (by omega) (by omega)
theorem Dh {m k : Nat} : decide ((((m / 2 ^ k) &&& 1 : Nat) : Int) = 0) = !(m.testBit k) := by
 rw [← Df]
 have : (m / 2 ^ k) &&& 1 = 0 ∨ (m / 2 ^ k) &&& 1 = 1 := by
   have := Nat.and_one_is_mod (m / 2 ^ k); omega
 rcases this with h | h <;> rw [h] <;> rfl
theorem strong_or {s : Sale} {l : Nat} {mem : Nat → Bool} : strongP s l mem = -1 ∨ ∃ o : Nat, o < s.bidders.length ∧ strongP s l mem = (o : Int) := by
 rcases strong_spec (s := s) (l := l) (mem := mem) s.bidders.length with ⟨h, -⟩ | ⟨b, h1, -, h, -⟩
 · exact .inl h
 · exact .inr ⟨b, h1, h⟩
theorem sellP_none {s : Sale} {set l : Nat} (h : strongP s l (fun _ => true) = -1) : sellP s set l = ⟨-1, 0⟩ := if_pos (.inl (by omega))
theorem sellP_low {s : Sale} {set l o : Nat} (h : strongP s l (fun _ => true) = (o : Int)) (h2 : mostN s l o < (s.lot l).reserve) : sellP s set l = ⟨-1, 0⟩ := by
 unfold sellP; rw [h]; exact if_pos (.inr (by simpa using h2))
theorem sellP_at {s : Sale} {set l o : Nat} (h : strongP s l (fun _ => true) = (o : Int)) (h2 : ¬ mostN s l o < (s.lot l).reserve) : sellP s set l = ⟨o, climbS s (s.lot l).reserve (othersTo s l set o (strongP s l set.testBit) s.bidders.length) (mostN s l o)⟩ := by
 unfold sellP; rw [h]; simp only [Int.toNat_natCast]; exact if_neg (by omega)
def SoldR (F : Heap) (H' : List (Nat × Obj)) (u : Value) (kb : Nat) (s : Sale) (set : Nat) : Prop := ∃ es, H' = [(kb, mapO es)] ∧ KnownC Try.prog 3 F es s ∧ Sl F u 2 Res.enc (sellL s set s.lots.length)
set_option maxRecDepth 100000 in
theorem sell_ok {F : Heap} {b kb : Nat} {vs vb vl vn vd : Value} {s : Sale} (hX : AucX 156 F b vs vb vl vn vd kb s) (hv : ValidS s) {es : List (Value × Value)} (hK : KnownC Try.prog 3 F es s) {set : Nat} (hset : set < 64) : OkM Try.prog 70 [.pointer (some ⟨b, 0, none⟩), .int .i64 (set : Int)].toArray F [(kb, mapO es)] fun u F' H' => SoldR F' H' u kb s set := by
 refine OkM.intro Try.func70 rfl Try.ntmps70 rfl fun w0 => ?_
 have hL1 := hX.sale.lots.plain.lt
 have hL2 := hX.sale.bidders.plain.lt
 have hnl := hv.nl
 have hnb := hv.nb
 rcases keys_or (es := es) (.int .i64 (set : Int)) with hno | ⟨j, u, hj⟩
 ·
  refine Af <| Ai fun ds => Aa rfl (Ad Ab) ?_
  refine Ah <| Ae <| Af <| Ai fun ds => Aa rfl (Ag (Al rfl <| Ak rfl)) ?_
  refine Aa rfl (B2 (Ac)) ?_
  refine Aa rfl (Aj fd_156_3 (Ac)) ?_
  refine Aa rfl (Ar one_152 (Ac) hX.known_cell.cell) ?_
  refine Aa rfl (Ag (A0 rfl <| Al rfl <| Ak rfl)) ?_
  refine Aa rfl (q_lookup2N mapK (Al rfl <| Ac) (Ac) (i := 0) rfl (isKn hset) hK.keys hno) ?_
  refine Aa rfl (Ag (Ac)) ?_
  refine Aa rfl (Ax (Ac) rfl) ?_
  refine Aa rfl (Ax (Al rfl <| Ac) rfl) ?_
  refine Aa rfl (Ad (Al rfl <| Ac)) ?_
  refine Aa rfl (Ad (Al rfl <| Ac)) ?_
  refine Ah <| Ae <| Af <| Af <| Ai fun ds => Aa rfl (Ag (Ac)) ?_
  refine Ah <| Ae <| Am (Ac) rfl ?_
  refine Az <| Ae <| Af <| Af <| Ai fun ds => Aa rfl (Ag (Ba rfl <| A0 rfl <| Al rfl <| Ak rfl)) ?_
  refine Aa rfl (B2 (Ac)) ?_
  refine Aa rfl (Aj Ee (Ac)) ?_
  refine Aa rfl (Aj Du (Ac)) ?_
  refine Aa rfl (Ar one_24 (Ac) (CellF.own hX.blk rfl).cell) ?_
  refine Aa rfl (Bj Dw (Ac) hX.sale.lots.plain) ?_
  refine Aa rfl (Ag Ab) ?_
  refine Ah <| Ae <| A2 <| B4 [5, 7, 8, 9, 10, 11, 12, 30, 31, 32, 33, 34, 35, 36, 37, 38, 39, 40, 41, 42, 43, 44, 45, 46, 47, 48, 49, 50, 51, 52, 53, 54, 55, 56, 57, 58, 59, 60, 61, 62, 63, 64, 65, 66, 67, 68, 69, 70, 71, 72, 73, 74, 75, 76, 77, 78, 79, 80, 81, 82, 83, 84, 85, 86, 87, 88, 89, 90, 91, 92, 93, 94, 95, 96, 97, 98, 99, 100, 101, 102, 103, 104, 105, 106, 107, 108, 109, 110, 111, 112, 113, 114] (fun m e σ => ∃ k : Nat, m + k = s.lots.length ∧ e 30 = .int .i64 (k : Int) ∧ ∃ v R, e 5 = v ∧ Own 63 2 v (sellL s set k).length ((sellL s set k).flatMap Res.enc) R ∧ σ = ⟨F, (kb, mapO es) :: R⟩) (s.lots.length) ?_ ?_
  · exact ⟨0, by omega, (Ac), _, _, (Ba rfl <| Al rfl <| Ac), Own.nil, rfl⟩
  ·
   rintro m e _ ⟨k, hm9, hs30, v5, R5, hs5, ho, rfl⟩; have hsl := sellL_length (s := s) (set := set) (k := k)
   by_cases hlt : k < s.lots.length
   ·
    have hk6 : k < 6 := by omega
    obtain ⟨e1, e2, e3, e4, e5⟩ := lot_facts hv hlt
    refine Af <| Ai fun ds => Aa rfl (Bz (At rfl hs30) (Ao rfl <| Al rfl <| Ac)) ?_
    refine Ah <| Ae <| Af <| As (Ac) (by first | rfl | exact decide_eq_true (by omega)) ?_
    rcases strong_or (s := s) (l := k) (mem := fun _ => true) with hso | ⟨o, hob, hso⟩
    ·
     refine Az <| Ae <| Af <| A2 <| Af <| Ai fun ds => Aa rfl (Ag (Al rfl <| At rfl hs30)) ?_
     refine Aa rfl (Bn (k := k) Dw (Aq rfl <| Ao rfl <| Aq rfl <| Ac) hX.sale.lots.plain (Aq rfl <| At rfl hs30) rfl hlt) ?_
     refine Aa rfl (Bf agg_69 (Ac) rfl rfl (hX.sale.lots.whole hlt)) ?_
     refine Bg rfl (B7 zr_69 rfl fun b2 hb2 nb2 => ?_)
     refine Aa rfl (Ad (Aq rfl <| Al rfl <| Ac)) ?_
     refine Cj (B8 sz_69 (Al rfl <| Ac) (Aq rfl <| Ac) (i := 0) rfl rfl rfl rfl Lot.enc_one (.here) ?_)
     refine Ah <| Ae <| Af <| Ai fun ds => Aa rfl (Ag (A0 rfl <| Aq rfl <| Ao rfl <| A6 rfl <| A0 rfl <| Ak rfl)) ?_
     refine Aa rfl (Ag (Al rfl <| Ac)) ?_
     refine Bw rfl (A4 bd_100 Ay (.cons (Al rfl <| Ac) (.cons (Ac) (.cons Ab .nil))) (strongest_all hX hv hk6) (fun _ _ h => h.trans (by rw [hso]))) ?_
     refine Aa rfl (Ad (Ac)) ?_
     refine Ah <| Ae <| Af <| Af <| Cz (.inl rfl) (fun _ _ h => h) (by kernel_rfl) (by kernel_rfl) fun ds => ?_
     refine A9 rfl (Ag (Ac)) ?_
     refine A9 rfl (Bz (Ac) Ab) ?_
     refine A9 rfl (Ag (Ac)) ?_
     refine Bm rfl rfl (Ac) (.inl (congrArg Value.bool (by decide))) rfl ?_
     refine Bm rfl rfl (Al rfl <| Ac) (.inl (congrArg Value.bool (by decide))) rfl ?_
     refine Bm rfl rfl (Aq rfl <| Ac) (.inl (congrArg Value.bool (by decide))) rfl ?_
     refine Bm rfl rfl (Aq rfl <| Al rfl <| Ac) (.inl (congrArg Value.bool (by decide))) rfl ?_
     refine Bm rfl rfl (A0 rfl <| Ac) (.inl (congrArg Value.bool (by decide))) rfl ?_
     refine Bm rfl rfl (A0 rfl <| Al rfl <| Ac) (.inl (congrArg Value.bool (by decide))) rfl ?_
     refine Bm rfl rfl (A0 rfl <| Aq rfl <| Ac) (.inl (congrArg Value.bool (by decide))) rfl ?_
     refine Bm rfl rfl (A0 rfl <| Aq rfl <| Al rfl <| Ac) (.inl (congrArg Value.bool (by decide))) rfl ?_
     refine Bm rfl rfl (Ba rfl <| Ac) (.inl (congrArg Value.bool (by decide))) rfl ?_
     refine Bm rfl rfl (Ba rfl <| Al rfl <| Ac) (.inl (congrArg Value.bool (by decide))) rfl ?_
     refine Bm rfl rfl (Ba rfl <| Aq rfl <| Ac) (.inl (congrArg Value.bool (by decide))) rfl ?_
     refine A9 rfl (A1 (Ba rfl <| Aq rfl <| Al rfl <| Ac) (by decide) Ab) ?_
     refine C4 ?_
     refine Ae <| As (Ac) rfl ?_
     have hP := sellP_none (set := set) hso
     refine Af <| Ai fun ds => Aa rfl (Ag (A6 rfl <| Ba rfl <| Al rfl <| At rfl hs5)) ?_
     refine Aa rfl (C1 bt_63 (.cons Ab rfl .nil) (.cons rfl rfl (Nat.le_of_ble_eq_true rfl) (.cons (.here) .nil) .nil)) ?_
     refine Bg rfl (Cv (offs := [(0, 2)]) (zl := [.int .i64 0, .int .i64 0]) C5 zr_63 rfl (.cons (Ac) rfl .nil) (by intro i p h; rcases i with _ | i <;> simp at h <;> subst h <;> rfl) (.cons rfl rfl (Nat.le_of_ble_eq_true rfl) (.cons (.here) (.cons (.next <| .here) .nil)) .nil) (by decide) (by decide) fun b3 hb3 nb3 => ?_)
     refine Bg rfl (Dl C5 el_63 (Aq rfl <| Ac) ho (Ac) (D2 (s := 2) 0 rfl rfl (by simp [Value.oneCell'])) (by omega) (by omega) (.s <| .s <| .s <| .z) .last fun v4 R5 ho6 => ?_)
     have ho2 := ho6.snoc (x := sellP s set k) rfl (by rw [hP]; rfl)
     refine Aa rfl (Ad (Ac)) ?_
     refine Ah <| Ae <| B0 ?_
     refine Bo (Br ?_)
     refine Ae <| Cp (fun _ _ h => h.drop (.cons _ <| .cons _ <| .cons_cons _ <| .refl _)) ?_
     refine Ai fun ds => Aa rfl (B3 (A6 rfl <| Ba rfl <| A0 rfl <| Aq rfl <| At rfl hs30) Ab rfl (by omega) (by omega)) ?_
     refine Aa rfl (Ag (Ac)) ?_
     refine Ah <| Ae ⟨_, m - 1, Off.eq (ou32 rfl <| Bk), by omega, ?_⟩
     refine ⟨k + 1, by omega, (Ac), _, _, (Aq rfl <| Ac), by rw [sellL_succ]; exact ho2, rfl⟩
    ·
     have ho6 : o < 6 := by omega
     refine Az <| Ae <| Af <| A2 <| Af <| Ai fun ds => Aa rfl (Ag (Al rfl <| At rfl hs30)) ?_
     refine Aa rfl (Bn (k := k) Dw (Aq rfl <| Ao rfl <| Aq rfl <| Ac) hX.sale.lots.plain (Aq rfl <| At rfl hs30) rfl hlt) ?_
     refine Aa rfl (Bf agg_69 (Ac) rfl rfl (hX.sale.lots.whole hlt)) ?_
     refine Bg rfl (B7 zr_69 rfl fun b7 hb7 nb7 => ?_)
     refine Aa rfl (Ad (Aq rfl <| Al rfl <| Ac)) ?_
     refine Cj (B8 sz_69 (Al rfl <| Ac) (Aq rfl <| Ac) (i := 0) rfl rfl rfl rfl Lot.enc_one (.here) ?_)
     refine Ah <| Ae <| Af <| Ai fun ds => Aa rfl (Ag (A0 rfl <| Aq rfl <| Ao rfl <| A6 rfl <| A0 rfl <| Ak rfl)) ?_
     refine Aa rfl (Ag (Al rfl <| Ac)) ?_
     refine Bw rfl (A4 bd_100 Ay (.cons (Al rfl <| Ac) (.cons (Ac) (.cons Ab .nil))) (strongest_all hX hv hk6) (fun _ _ h => h.trans (by rw [hso]))) ?_
     refine Aa rfl (Ad (Ac)) ?_
     refine Ah <| Ae <| Af <| Af <| Cz (.inl rfl) (fun _ _ h => h) (by kernel_rfl) (by kernel_rfl) fun ds => ?_
     refine A9 rfl (Ag (Ac)) ?_
     refine A9 rfl (Bz (Ac) Ab) ?_
     refine A9 rfl (Ag (Ac)) ?_
     refine Bt rfl rfl (Ac) (decide_eq_false (by omega)) ?_
     refine A9 rfl (Ag (Ba rfl <| A0 rfl <| Al rfl <| Ao rfl <| A6 rfl <| A0 rfl <| Ak rfl)) ?_
     refine Bt rfl rfl (Al rfl <| Ac) (decide_eq_false (by omega)) ?_
     refine A9 rfl (Ag (Ba rfl <| Ac)) ?_
     refine Bt rfl rfl (Aq rfl <| Ac) (decide_eq_false (by omega)) ?_
     refine A9 rfl (Ag (A0 rfl <| Al rfl <| Ac)) ?_
     refine Bt rfl rfl (Aq rfl <| Al rfl <| Ac) (decide_eq_false (by omega)) ?_
     refine A9 rfl (B2 (Aq rfl <| Ac)) ?_
     refine Bt rfl rfl (A0 rfl <| Ac) (decide_eq_false (by omega)) ?_
     refine A9 rfl (Aj Ed (Ac)) ?_
     refine Bt rfl rfl (A0 rfl <| Al rfl <| Ac) (decide_eq_false (by omega)) ?_
     refine A9 rfl (Bv (k := k) Dx (Ac) (Aq rfl <| Al rfl <| Ac) rfl (by omega)) ?_
     refine Bt rfl rfl (A0 rfl <| Aq rfl <| Ac) (decide_eq_false (by omega)) ?_
     refine A9 rfl (Bv (k := o) Dy (Ac) (Aq rfl <| Al rfl <| Ac) rfl (by omega)) ?_
     refine Bt rfl rfl (A0 rfl <| Aq rfl <| Al rfl <| Ac) (decide_eq_false (by omega)) ?_
     refine A9 rfl (Ar Bd (Ac) (hX.most_cell (by omega : k < 6) (by omega : o < 6)).cell) ?_
     refine Bt rfl rfl (Ba rfl <| Ac) (decide_eq_false (by omega)) ?_
     refine A9 rfl (Aj fd_69_2 (A6 rfl <| Ac)) ?_
     refine Bt rfl rfl (Ba rfl <| Al rfl <| Ac) (decide_eq_false (by omega)) ?_
     refine A9 rfl (Ar Bd (Ac) (Cell.own 0 rfl rfl)) ?_
     refine Bt rfl rfl (Ba rfl <| Aq rfl <| Ac) (decide_eq_false (by omega)) ?_
     refine A9 rfl (Bz (Aq rfl <| Ac) (Ac)) ?_
     refine A9 rfl (Bc (Ba rfl <| Aq rfl <| Al rfl <| Ac) (decide_eq_false (by omega)) (Ac)) ?_
     refine C4 ?_
     refine Ae ?_
     by_cases hlow : mostN s k o < (s.lot k).reserve
     ·
      refine As (Ac) (decide_eq_true (by rw [e1]; exact hlow)) ?_
      have hP := sellP_low (set := set) hso hlow
      refine Af <| Ai fun ds => Aa rfl (Ag (A6 rfl <| Ba rfl <| Al rfl <| At rfl hs5)) ?_
      refine Aa rfl (C1 bt_63 (.cons Ab rfl .nil) (.cons rfl rfl (Nat.le_of_ble_eq_true rfl) (.cons (.here) .nil) .nil)) ?_
      refine Bg rfl (Cv (offs := [(0, 2)]) (zl := [.int .i64 0, .int .i64 0]) C5 zr_63 rfl (.cons (Ac) rfl .nil) (by intro i p h; rcases i with _ | i <;> simp at h <;> subst h <;> rfl) (.cons rfl rfl (Nat.le_of_ble_eq_true rfl) (.cons (.here) (.cons (.next <| .here) .nil)) .nil) (by decide) (by decide) fun b8 hb8 nb8 => ?_)
      refine Bg rfl (Dl C5 el_63 (Aq rfl <| Ac) ho (Ac) (D2 (s := 2) 0 rfl rfl (by simp [Value.oneCell'])) (by omega) (by omega) (.s <| .s <| .s <| .z) .last fun v9 R10 ho11 => ?_)
      have ho2 := ho11.snoc (x := sellP s set k) rfl (by rw [hP]; rfl)
      refine Aa rfl (Ad (Ac)) ?_
      refine Ah <| Ae <| B0 ?_
      refine Bo (Br ?_)
      refine Ae <| Cp (fun _ _ h => h.drop (.cons _ <| .cons _ <| .cons_cons _ <| .refl _)) ?_
      refine Ai fun ds => Aa rfl (B3 (A6 rfl <| Ba rfl <| A0 rfl <| Aq rfl <| At rfl hs30) Ab rfl (by omega) (by omega)) ?_
      refine Aa rfl (Ag (Ac)) ?_
      refine Ah <| Ae ⟨_, m - 1, Off.eq (ou32 rfl <| Bk), by omega, ?_⟩
      refine ⟨k + 1, by omega, (Ac), _, _, (Aq rfl <| Ac), by rw [sellL_succ]; exact ho2, rfl⟩
     ·
      refine Am (Ac) (decide_eq_false (by rw [e1]; exact hlow)) ?_
      refine Az <| Ae <| Af <| Ai fun ds => Aa rfl (Ad Ab) ?_
      refine Ah <| Ae <| Af <| Ai fun ds => Aa rfl (Ag (A6 rfl <| Ba rfl <| Aq rfl <| Ao rfl <| A6 rfl <| A0 rfl <| Ak rfl)) ?_
      refine Aa rfl (Ag (A6 rfl <| A0 rfl <| Al rfl <| Ac)) ?_
      refine Aa rfl (Ag (A6 rfl <| Ba rfl <| A0 rfl <| Ao rfl <| A6 rfl <| A0 rfl <| Ak rfl)) ?_
      refine Bw rfl (A4 bd_100 Ay (.cons (Aq rfl <| Ac) (.cons (Al rfl <| Ac) (.cons (Ac) .nil))) (strongest_set hX hv hk6 hset) (fun _ _ h => h)) ?_
      refine Aa rfl (Ad (Ac)) ?_
      refine Ah <| Ae <| Af <| Af <| Ai fun ds => Aa rfl (Ag (A6 rfl <| Ba rfl <| A0 rfl <| Aq rfl <| Al rfl <| Ao rfl <| A6 rfl <| A0 rfl <| Ak rfl)) ?_
      refine Aa rfl (B2 (Ac)) ?_
      refine Aa rfl (Aj Ee (Ac)) ?_
      refine Aa rfl (Aj Dd (Ac)) ?_
      refine Aa rfl (Ar Cx (Ac) (CellF.own hX.blk rfl).cell) ?_
      refine Aa rfl (Bj Dg (Ac) hX.sale.bidders.plain) ?_
      refine Aa rfl (Ag Ab) ?_
      refine Ah <| Ae <| A2 <| B4 [10, 12, 67, 68, 69, 70, 71, 72, 73, 74, 75, 76, 77, 78, 79, 80, 81, 82, 83, 84, 85, 86, 87, 88, 89, 90, 91, 92, 93, 94, 95] (fun m e σ => ∃ c : Nat, m + c = s.bidders.length ∧ e 67 = .int .i64 (c : Int) ∧ e 10 = .int .i64 (othersTo s k set (o : Int) (strongP s k set.testBit) c) ∧ σ = ⟨F, (b7, bx 69 s.lots[k].enc) :: (kb, mapO es) :: R5⟩) (s.bidders.length) ?_ ?_
      · exact ⟨0, by omega, (Ac), (Ba rfl <| A0 rfl <| Ac), rfl⟩
      ·
       rintro m2 e2 _ ⟨c, hm2, ht67, ht10, rfl⟩
       by_cases hlc : c < s.bidders.length
       ·
        have hc6 : c < 6 := by omega
        refine Af <| Ai fun ds => Aa rfl (Bz (At rfl ht67) (Ao rfl <| Al rfl <| Ac)) ?_
        refine Ah <| Ae <| Af <| As (Ac) (by first | rfl | exact decide_eq_true (by omega)) ?_
        by_cases hne : (c : Int) ≠ o
        ·
         refine Az <| Ae <| Af <| A2 <| Af <| Ai fun ds => Aa rfl (Ag (Al rfl <| At rfl ht67)) ?_
         refine Aa rfl (Ad (Ac)) ?_
         refine Ah <| Ae <| Af <| Ai fun ds => Aa rfl (Ag (Ac)) ?_
         refine Aa rfl (Ag (A0 rfl <| Ao rfl <| A6 rfl <| Ba rfl <| A0 rfl <| Ac)) ?_
         refine Aa rfl (Ch (Al rfl <| Ac) (Ac)) ?_
         refine Aa rfl (Ag (Ac)) ?_
         refine Ap rfl rfl (Ac) (decide_eq_true hne) ?_
         refine Aa rfl (Ag (A0 rfl <| Aq rfl <| Al rfl <| Ao rfl <| B1 rfl <| A0 rfl <| Aq rfl <| Ao rfl <| A6 rfl <| A0 rfl <| Ak rfl)) ?_
         refine Ap rfl rfl (Al rfl <| Ac) (decide_eq_true hne) ?_
         refine Aa rfl (Ag (A0 rfl <| Al rfl <| Ac)) ?_
         refine Ap rfl rfl (Aq rfl <| Ac) (decide_eq_true hne) ?_
         refine Aa rfl (q_shr (Al rfl <| Ac) (Ac) rfl (by show c < 64; omega) shr_nat) ?_
         refine Ap rfl rfl (Aq rfl <| Al rfl <| Ac) (decide_eq_true hne) ?_
         refine Aa rfl (q_and (Ac) Ab (m := set / 2 ^ c) (k := 1) rfl rfl (by have := Nat.div_le_self set (2 ^ c); omega) (by omega) rfl) ?_
         refine Ap rfl rfl (A0 rfl <| Ac) (decide_eq_true hne) ?_
         refine Aa rfl (B9 (Ac) Ab) ?_
         refine Ap rfl rfl (A0 rfl <| Al rfl <| Ac) (decide_eq_true hne) ?_
         refine Aa rfl (Ag (Ac)) ?_
         by_cases hbit : set.testBit c = true
         ·
          refine Ap rfl rfl (Ac) (by first | (rw [Dh, hbit]; done) | (rw [Dh, hbit]; rfl)) ?_
          refine Aa rfl (Ag (Ba rfl <| Aq rfl <| Ac)) ?_
          refine Ap rfl rfl (Al rfl <| Ac) (by first | (rw [Dh, hbit]; done) | (rw [Dh, hbit]; rfl)) ?_
          refine Aa rfl (Ag (Ba rfl <| A0 rfl <| Aq rfl <| Ao rfl <| A0 rfl <| Aq rfl <| Al rfl <| Ac)) ?_
          refine Ap rfl rfl (Aq rfl <| Ac) (by first | (rw [Dh, hbit]; done) | (rw [Dh, hbit]; rfl)) ?_
          refine Aa rfl (B9 (Al rfl <| Ac) (Ac)) ?_
          refine Ap rfl rfl (Ba rfl <| Al rfl <| Ac) (decide_eq_true hne) ?_
          refine Aa rfl (Bc (Aq rfl <| Al rfl <| Ac) (by first | (rw [Dh, hbit]; done) | (rw [Dh, hbit]; rfl)) (Ac)) ?_
          refine Aa rfl (A1 (Ba rfl <| Aq rfl <| Ac) (decide_eq_true hne) (Ac)) ?_
          refine Ah <| Ae ?_
          by_cases hm : (c : Int) = (strongP s k set.testBit)
          ·
           refine As (Ac) (decide_eq_true hm) ?_
           refine Ai fun ds => Aa rfl (Ag (A6 rfl <| Aq rfl <| At rfl ht10)) ?_
           refine Aa rfl (Ag (A6 rfl <| Aq rfl <| Al rfl <| Ao rfl <| B1 rfl <| A0 rfl <| Aq rfl <| Ao rfl <| A6 rfl <| A0 rfl <| Ak rfl)) ?_
           refine Aa rfl (Ag (A6 rfl <| A0 rfl <| Ao rfl <| B1 rfl <| Ac)) ?_
           refine Aa rfl (Ag (A6 rfl <| Aq rfl <| Ac)) ?_
           refine Aa rfl (B2 (Aq rfl <| Ac)) ?_
           refine Aa rfl (Aj Ed (Ac)) ?_
           refine Aa rfl (Bv (k := k) Dx (Ac) (Aq rfl <| Al rfl <| Ac) rfl (by omega)) ?_
           refine Aa rfl (Bv (k := c) Dy (Ac) (Aq rfl <| Al rfl <| Ac) rfl (by omega)) ?_
           refine Aa rfl (Ar Bd (Ac) (hX.most_cell (by omega : k < 6) (by omega : c < 6)).cell) ?_
           refine Aa rfl (q_max2 (Ba rfl <| Ac) (Ac)) ?_
           refine Aa rfl (Ad (Ac)) ?_
           refine Ah <| Bh <| Ae <| Ai fun ds => Aa rfl (B3 (A6 rfl <| Ba rfl <| A0 rfl <| Al rfl <| At rfl ht67) Ab rfl (by omega) (by omega)) ?_
           refine Aa rfl (Ag (Ac)) ?_
           refine Ah <| Ae ⟨_, m2 - 1, Off.eq (De rfl <| ou8 rfl <| ou4 rfl <| ou2 rfl <| ou1 rfl <| Bk), by omega, ?_⟩
           exact ⟨c + 1, by omega, (Ac), by rw [othersTo_succ, if_pos (show otherOk set o (strongP s k set.testBit) c from ⟨hne, .inr hm⟩)]; exact (Aq rfl <| Ac), rfl⟩
          ·
           refine Am (Ac) (decide_eq_false hm) ?_
           refine Az <| Bh <| Ae <| Ai fun ds => Aa rfl (B3 (A6 rfl <| Aq rfl <| At rfl ht67) Ab rfl (by omega) (by omega)) ?_
           refine Aa rfl (Ag (Ac)) ?_
           refine Ah <| Ae ⟨_, m2 - 1, Off.eq (De rfl <| ou4 rfl <| Bk), by omega, ?_⟩
           exact ⟨c + 1, by omega, (Ac), by rw [othersTo_succ, if_neg (show ¬ otherOk set o (strongP s k set.testBit) c from fun h => h.2.elim (fun h => by rw [hbit] at h; cases h) hm)]; exact (A6 rfl <| A0 rfl <| At rfl ht10), rfl⟩
         ·
          replace hbit : set.testBit c = false := by simpa using hbit
          refine Aw rfl rfl (Ac) (.inl (congrArg Value.bool (by first | (rw [Dh, hbit]; done) | (rw [Dh, hbit]; rfl)))) rfl ?_
          refine Aw rfl rfl (Al rfl <| Ac) (.inl (congrArg Value.bool (by first | (rw [Dh, hbit]; done) | (rw [Dh, hbit]; rfl)))) rfl ?_
          refine Aw rfl rfl (Aq rfl <| Ac) (.inl (congrArg Value.bool (by first | (rw [Dh, hbit]; done) | (rw [Dh, hbit]; rfl)))) rfl ?_
          refine Ap rfl rfl (Ba rfl <| Al rfl <| Ac) (decide_eq_true hne) ?_
          refine Aa rfl (A1 (Aq rfl <| Al rfl <| Ac) (by first | (rw [Dh, hbit]; done) | (rw [Dh, hbit]; rfl)) Ab) ?_
          refine Aa rfl (A1 (Ba rfl <| Aq rfl <| Ac) (decide_eq_true hne) (Ac)) ?_
          refine Ah <| Ae <| As (Ac) rfl ?_
          refine Ai fun ds => Aa rfl (Ag (A6 rfl <| Aq rfl <| At rfl ht10)) ?_
          refine Aa rfl (Ag (A6 rfl <| Aq rfl <| Al rfl <| Ao rfl <| B1 rfl <| A0 rfl <| Aq rfl <| Ao rfl <| A6 rfl <| A0 rfl <| Ak rfl)) ?_
          refine Aa rfl (Ag (A6 rfl <| A0 rfl <| Ao rfl <| B1 rfl <| Ac)) ?_
          refine Aa rfl (Ag (A6 rfl <| Aq rfl <| Ac)) ?_
          refine Aa rfl (B2 (Aq rfl <| Ac)) ?_
          refine Aa rfl (Aj Ed (Ac)) ?_
          refine Aa rfl (Bv (k := k) Dx (Ac) (Aq rfl <| Al rfl <| Ac) rfl (by omega)) ?_
          refine Aa rfl (Bv (k := c) Dy (Ac) (Aq rfl <| Al rfl <| Ac) rfl (by omega)) ?_
          refine Aa rfl (Ar Bd (Ac) (hX.most_cell (by omega : k < 6) (by omega : c < 6)).cell) ?_
          refine Aa rfl (q_max2 (Ba rfl <| Ac) (Ac)) ?_
          refine Aa rfl (Ad (Ac)) ?_
          refine Ah <| Bh <| Ae <| Ai fun ds => Aa rfl (B3 (A6 rfl <| Ba rfl <| A0 rfl <| Al rfl <| At rfl ht67) Ab rfl (by omega) (by omega)) ?_
          refine Aa rfl (Ag (Ac)) ?_
          refine Ah <| Ae ⟨_, m2 - 1, Off.eq (De rfl <| ou8 rfl <| ou4 rfl <| ou2 rfl <| ou1 rfl <| Bk), by omega, ?_⟩
          exact ⟨c + 1, by omega, (Ac), by rw [othersTo_succ, if_pos (show otherOk set o (strongP s k set.testBit) c from ⟨hne, .inl hbit⟩)]; exact (Aq rfl <| Ac), rfl⟩
        ·
         refine Az <| Ae <| Af <| A2 <| Af <| Ai fun ds => Aa rfl (Ag (Al rfl <| At rfl ht67)) ?_
         refine Aa rfl (Ad (Ac)) ?_
         refine Ah <| Ae <| Af <| Ai fun ds => Aa rfl (Ag (Ac)) ?_
         refine Aa rfl (Ag (A0 rfl <| Ao rfl <| A6 rfl <| Ba rfl <| A0 rfl <| Ac)) ?_
         refine Aa rfl (Ch (Al rfl <| Ac) (Ac)) ?_
         refine Aa rfl (Ag (Ac)) ?_
         refine Aw rfl rfl (Ac) (.inl (congrArg Value.bool (decide_eq_false hne))) rfl ?_
         refine Aw rfl rfl (Al rfl <| Ac) (.inl (congrArg Value.bool (decide_eq_false hne))) rfl ?_
         refine Aw rfl rfl (Aq rfl <| Ac) (.inl (congrArg Value.bool (decide_eq_false hne))) rfl ?_
         refine Aw rfl rfl (Aq rfl <| Al rfl <| Ac) (.inl (congrArg Value.bool (decide_eq_false hne))) rfl ?_
         refine Aw rfl rfl (A0 rfl <| Ac) (.inl (congrArg Value.bool (decide_eq_false hne))) rfl ?_
         refine Aw rfl rfl (A0 rfl <| Al rfl <| Ac) (.inl (congrArg Value.bool (decide_eq_false hne))) rfl ?_
         refine Aw rfl rfl (Ac) (.inr rfl) rfl ?_
         refine Aw rfl rfl (Al rfl <| Ac) (.inr rfl) rfl ?_
         refine Aw rfl rfl (Aq rfl <| Ac) (.inr rfl) rfl ?_
         refine Aw rfl rfl (Ba rfl <| Al rfl <| Ac) (.inl (congrArg Value.bool (decide_eq_false hne))) rfl ?_
         refine Aa rfl (Bc (Ba rfl <| Aq rfl <| Ac) (decide_eq_false hne) Ab) ?_
         refine Ah <| Ae <| Am (Ac) rfl ?_
         refine Az <| Bh <| Ae <| Ai fun ds => Aa rfl (B3 (A6 rfl <| Aq rfl <| At rfl ht67) Ab rfl (by omega) (by omega)) ?_
         refine Aa rfl (Ag (Ac)) ?_
         refine Ah <| Ae ⟨_, m2 - 1, Off.eq (De rfl <| ou4 rfl <| Bk), by omega, ?_⟩
         exact ⟨c + 1, by omega, (Ac), by rw [othersTo_succ, if_neg (show ¬ otherOk set o (strongP s k set.testBit) c from fun h => hne h.1)]; exact (A6 rfl <| A0 rfl <| At rfl ht10), rfl⟩
       ·
        refine Af <| Ai fun ds => Aa rfl (Bz (At rfl ht67) (Ao rfl <| Al rfl <| Ac)) ?_
        refine Ah <| Ae <| Af <| Am (Ac) (by first | rfl | exact decide_eq_false (by omega)) ?_
        obtain rfl : c = s.bidders.length := by omega
        have hob := othersTo_bound hv (l := k) (set := set) (one := (o : Int)) (member := (strongP s k set.testBit)) (k := s.bidders.length)
        have hmb := most_bound hv (l := k) (b := o) (Nat.le_refl _)
        refine B0 ?_
        refine Bo <| Bo <| Br <| Ae <| D1 (.inl rfl) (fun _ _ h => h) (.cons_cons _ <| .cons_cons _ <| List.nil_sublist _) [] (by kernel_rfl) fun ds => ?_
        refine A7 0 rfl (by kernel_rfl) (by kernel_rfl) (by kernel_rfl) (by kernel_rfl) rfl rfl (fun _ h => h.drop (.cons_cons _ <| .cons_cons _ <| List.nil_sublist _)) (fun _ _ _ h => h) (Ag (Al rfl <| Ao rfl <| B1 rfl <| A0 rfl <| Aq rfl <| At rfl hs5)) ?_
        refine A7 1 rfl (by kernel_rfl) (by kernel_rfl) (by kernel_rfl) (by kernel_rfl) rfl rfl (fun _ h => h.drop (.cons_cons _ <| .cons_cons _ <| List.nil_sublist _)) (fun _ _ _ h => h) (Ag (Aq rfl <| Ao rfl <| A6 rfl <| Ba rfl <| A0 rfl <| Ac)) ?_
        refine A7 2 rfl (by kernel_rfl) (by kernel_rfl) (by kernel_rfl) (by kernel_rfl) rfl rfl (fun _ h => h.drop (.cons_cons _ <| .cons_cons _ <| List.nil_sublist _)) (fun _ _ _ h => h) (Ag (Aq rfl <| Al rfl <| Ao rfl <| B1 rfl <| A0 rfl <| Aq rfl <| Ao rfl <| A6 rfl <| A0 rfl <| Ak rfl)) ?_
        refine A7 3 rfl (by kernel_rfl) (by kernel_rfl) (by kernel_rfl) (by kernel_rfl) rfl rfl (fun _ h => h.drop (.cons_cons _ <| .cons_cons _ <| List.nil_sublist _)) (fun _ _ _ h => h) (Aj fd_69_2 (A0 rfl <| Ao rfl <| B1 rfl <| Al rfl <| Ac)) ?_
        refine A7 4 rfl (by kernel_rfl) (by kernel_rfl) (by kernel_rfl) (by kernel_rfl) rfl rfl (fun _ h => h.drop (.cons_cons _ <| .cons_cons _ <| List.nil_sublist _)) (fun _ _ _ h => h) (Ar Bd (Ac) (Cell.own 0 rfl rfl)) ?_
        refine A7 5 rfl (by kernel_rfl) (by kernel_rfl) (by kernel_rfl) (by kernel_rfl) rfl rfl (fun _ h => h.drop (.cons_cons _ <| .cons_cons _ <| List.nil_sublist _)) (fun _ _ _ h => h) (Ag (A0 rfl <| Aq rfl <| At rfl ht10)) ?_
        refine A7 6 rfl (by kernel_rfl) (by kernel_rfl) (by kernel_rfl) (by kernel_rfl) rfl rfl (fun _ h => h.drop (.cons_cons _ <| .cons_cons _ <| List.nil_sublist _)) (fun _ _ _ h => h) (Ag (A0 rfl <| Aq rfl <| Al rfl <| Ao rfl <| B1 rfl <| A0 rfl <| Aq rfl <| Ao rfl <| A6 rfl <| A0 rfl <| Ak rfl)) ?_
        refine A7 7 rfl (by kernel_rfl) (by kernel_rfl) (by kernel_rfl) (by kernel_rfl) rfl rfl (fun _ h => h.drop (.cons_cons _ <| .cons_cons _ <| List.nil_sublist _)) (fun _ _ _ h => h) (Ag (Ba rfl <| Ao rfl <| B1 rfl <| Ac)) ?_
        refine A7 8 rfl (by kernel_rfl) (by kernel_rfl) (by kernel_rfl) (by kernel_rfl) rfl rfl (fun _ h => h.drop (.cons_cons _ <| .cons_cons _ <| List.nil_sublist _)) (fun _ _ _ h => h) (Ag (Ba rfl <| Al rfl <| Ao rfl <| A6 rfl <| Ba rfl <| A0 rfl <| Ac)) ?_
        refine A7 9 rfl (by kernel_rfl) (by kernel_rfl) (by kernel_rfl) (by kernel_rfl) rfl rfl (fun _ h => h.drop (.cons_cons _ <| .cons_cons _ <| List.nil_sublist _)) (fun _ _ _ h => h) (B2 (Aq rfl <| Ac)) ?_
        refine A7 10 rfl (by kernel_rfl) (by kernel_rfl) (by kernel_rfl) (by kernel_rfl) rfl rfl (fun _ h => h.drop (.cons_cons _ <| .cons_cons _ <| List.nil_sublist _)) (fun _ _ _ h => h) (Aj Ed (Ac)) ?_
        refine A7 11 rfl (by kernel_rfl) (by kernel_rfl) (by kernel_rfl) (by kernel_rfl) rfl rfl (fun _ h => h.drop (.cons_cons _ <| .cons_cons _ <| List.nil_sublist _)) (fun _ _ _ h => h) (Bv (k := k) Dx (Ac) (Aq rfl <| Al rfl <| Ac) rfl (by omega)) ?_
        refine A7 12 rfl (by kernel_rfl) (by kernel_rfl) (by kernel_rfl) (by kernel_rfl) rfl rfl (fun _ h => h.drop (.cons_cons _ <| .cons_cons _ <| List.nil_sublist _)) (fun _ _ _ h => h) (Bv (k := o) Dy (Ac) (Aq rfl <| Al rfl <| Ac) rfl (by omega)) ?_
        refine A7 13 rfl (by kernel_rfl) (by kernel_rfl) (by kernel_rfl) (by kernel_rfl) rfl rfl (fun _ h => h.drop (.cons_cons _ <| .cons_cons _ <| List.nil_sublist _)) (fun _ _ _ h => h) (Ar Bd (Ac) (hX.most_cell (by omega : k < 6) (by omega : o < 6)).cell) ?_
        refine C2 14 rfl (by kernel_rfl) rfl (Be (A4 bd_101 Ay (.cons (Ba rfl <| Aq rfl <| Al rfl <| Ac) (.cons (Ba rfl <| Al rfl <| Ac) (.cons (Ba rfl <| Ac) (.cons (Ac) .nil)))) (price_ok hX hv (by rw [e1]; omega) (by rw [e1]; omega) hob.1 hob.2 hmb.1 hmb.2) (fun _ _ h => h)) ⟨fun _ _ => (fun _ h => h.drop (.cons_cons _ <| .cons_cons _ <| List.nil_sublist _)), ?_⟩)
        refine A7 15 rfl (by kernel_rfl) (by kernel_rfl) (by kernel_rfl) (by kernel_rfl) rfl rfl (fun _ h => h.drop (.cons_cons _ <| .cons_cons _ <| List.nil_sublist _)) (fun _ _ _ h => h) (C1 bt_63 (.cons (Ba rfl <| A0 rfl <| Al rfl <| Ac) rfl (.cons (Ac) rfl .nil)) (.cons rfl rfl (Nat.le_of_ble_eq_true rfl) (.cons (.here) .nil) (.cons rfl rfl (Nat.le_of_ble_eq_true rfl) (.cons (.next <| .here) .nil) .nil))) ?_
        refine C2 16 rfl (by kernel_rfl) rfl (Cv (offs := [(0, 2)]) (zl := [.int .i64 0, .int .i64 0]) C5 zr_63 rfl (.cons (Ac) rfl .nil) (by intro i p h; rcases i with _ | i <;> simp at h <;> subst h <;> rfl) (.cons rfl rfl (Nat.le_of_ble_eq_true rfl) (.cons (.here) (.cons (.next <| .here) .nil)) .nil) (by decide) (by decide) fun b13 hb13 nb13 => ⟨fun _ _ => (fun _ h => h.drop (.cons _ <| .cons_cons _ <| .cons_cons _ <| List.nil_sublist _)), ?_⟩)
        refine C2 17 rfl (by kernel_rfl) rfl (Dl C5 el_63 (A6 rfl <| Ac) ho (Ac) (D2 (s := 2) 0 rfl rfl (by simp [Value.oneCell'])) (by omega) (by omega) (.s <| .s <| .s <| .z) .last fun v14 R15 ho16 => ⟨fun _ _ => (fun _ h => h.drop (.cons _ <| .cons_cons _ <| .cons_cons _ <| List.nil_sublist _)), ?_⟩)
        have ho3 := ho16.snoc (x := sellP s set k) rfl (by rw [sellP_at hso hlow, ← e1]; rfl)
        refine A7 18 rfl (by kernel_rfl) (by kernel_rfl) (by kernel_rfl) (by kernel_rfl) rfl rfl (fun _ h => h.drop (.cons _ <| .cons_cons _ <| .cons_cons _ <| List.nil_sublist _)) (fun _ _ _ h => h) (Ad (Ac)) ?_
        refine C3 (by kernel_rfl) ?_ _
        refine Bh <| Ae <| Cp (fun _ _ h => h.drop (.cons _ <| .cons _ <| .cons_cons _ <| .refl _)) ?_
        refine Ai fun ds => Aa rfl (B3 (A6 rfl <| A0 rfl <| Ao rfl <| B1 rfl <| A0 rfl <| Aq rfl <| At rfl hs30) Ab rfl (by omega) (by omega)) ?_
        refine Aa rfl (Ag (Ac)) ?_
        refine Ah <| Ae ⟨_, m - 1, Off.eq (De rfl <| ou4 rfl <| ou2 rfl <| off_in rfl <| ou32 rfl <| ou4 rfl <| ou2 rfl <| Bk), by omega, ?_⟩
        refine ⟨k + 1, by omega, (Ac), _, _, (Aq rfl <| Ac), by rw [sellL_succ]; exact ho3, rfl⟩
   ·
    refine Af <| Ai fun ds => Aa rfl (Bz (At rfl hs30) (Ao rfl <| Al rfl <| Ac)) ?_
    refine Ah <| Ae <| Af <| Am (Ac) (by first | rfl | exact decide_eq_false (by omega)) ?_
    obtain rfl : k = s.lots.length := by omega
    refine WC_freezeRM (σ := ⟨_, _⟩) (fun m hm => hm) ho (.s <| .z) .last fun F17 hF18 hz19 => ?_
    replace hX := hX.mono hF18
    replace hK := hK.mono hF18
    have hn2 := ho.sl (fun _ => rfl) hz19 (by have := sellL_length (s := s) (set := set) (k := s.lots.length); omega)
    refine B0 ?_
    refine Bo <| Bo <| Br <| Ae <| Af <| Ai fun ds => Aa rfl (Ag (Al rfl <| Ao rfl <| A6 rfl <| A0 rfl <| Ak rfl)) ?_
    refine Aa rfl (B2 (Ac)) ?_
    refine Aa rfl (Aj fd_156_3 (Ac)) ?_
    refine Aa rfl (Ar one_152 (Ac) hX.known_cell.cell) ?_
    refine Aa rfl (Ag (A0 rfl <| Al rfl <| Ao rfl <| A6 rfl <| A0 rfl <| Ak rfl)) ?_
    refine Aa rfl (Ag (A0 rfl <| Aq rfl <| At rfl hs5)) ?_
    refine Cj (x_updateN mapK (Aq rfl <| Ac) (Al rfl <| Ac) (Ac) (i := 0) rfl (isKn hset) hK.keys hno (.here) ?_)
    refine Ah <| Ae <| Af <| Ai fun ds => Aa rfl (Ag (A0 rfl <| Aq rfl <| Al rfl <| At rfl hs5)) ?_
    refine Aa rfl (Ad (Ac)) ?_
    refine Ah <| Ae <| A3 <| post_retM rfl (.tmp (Ac) .nil) (.cons (.here) <| .nil) rfl ?_
    exact ⟨_, rfl, hK.snoc (isKn hset) hno hn2, hn2⟩
 ·
  refine Af <| Ai fun ds => Aa rfl (Ad Ab) ?_
  refine Ah <| Ae <| Af <| Ai fun ds => Aa rfl (Ag (Al rfl <| Ak rfl)) ?_
  refine Aa rfl (B2 (Ac)) ?_
  refine Aa rfl (Aj fd_156_3 (Ac)) ?_
  refine Aa rfl (Ar one_152 (Ac) hX.known_cell.cell) ?_
  refine Aa rfl (Ag (A0 rfl <| Al rfl <| Ak rfl)) ?_
  refine Aa rfl (q_lookup2S mapK (Al rfl <| Ac) (Ac) (i := 0) rfl (isKn hset) hK.keys hK.nodup hj) ?_
  refine Aa rfl (Ag (Ac)) ?_
  refine Aa rfl (Ax (Ac) rfl) ?_
  refine Aa rfl (Ax (Al rfl <| Ac) rfl) ?_
  refine Aa rfl (Ad (Al rfl <| Ac)) ?_
  refine Aa rfl (Ad (Al rfl <| Ac)) ?_
  refine Ah <| Ae <| Af <| Af <| Ai fun ds => Aa rfl (Ag (Ac)) ?_
  refine Ah <| Ae <| As (Ac) rfl ?_
  refine Af <| Ai fun ds => Aa rfl (Ag (Aq rfl <| Ac)) ?_
  refine Aa rfl (Ad (Ac)) ?_
  refine Ah <| Ae <| A3 <| A5 ?_
  refine post_retM rfl (.tmp (Ac) .nil) (.cons (.here) <| .nil) rfl ?_
  exact ⟨es, rfl, hK, hK.vals _ _ _ hj⟩
end Go.Proofs.Ytaikojfonleccaa
namespace Go.Proofs.Ytaikojfonleccaa
open Go.RowKit
theorem zr_77 : ZeroT Try.prog 77 (.agg #[.int .i64 0, .int .i64 0]) := Cr (by kernel_rfl)
theorem agg_77 : AggT Try.prog 77 2 := aggT_of (by kernel_rfl)
theorem fd_63_0 : FieldT Try.prog 63 0 0 := B5 (by kernel_rfl)
theorem fd_69_3 : FieldT Try.prog 69 3 3 := B5 (by kernel_rfl)
theorem fd_77_0 : FieldT Try.prog 77 0 0 := B5 (by kernel_rfl)
theorem fd_77_1 : FieldT Try.prog 77 1 1 := B5 (by kernel_rfl)
theorem one_4 : OneT Try.prog 4 := C9 (by kernel_rfl)
theorem sl_40 : SliceT Try.prog 40 77 2 := Dt (by kernel_rfl)
theorem sz_77 : SizeT Try.prog 77 2 := C6 (by kernel_rfl)
set_option maxRecDepth 100000 in
theorem part_ok {F : Heap} {p m : Int} (h0 : 0 ≤ p) (h1 : p ≤ 100000) (hm0 : 0 ≤ m) (hm : m ≤ 500) : Ok Try.prog 73 [.int .i64 p, .int .i64 m].toArray F fun r _ => r = .int .i64 (partP p m) := by
 refine Ok.intro Try.func73 rfl Try.ntmps73 rfl fun w0 => ?_
 have hm1 : 0 ≤ p * m := Int.mul_nonneg h0 hm0
 have hm2 : p * m ≤ 100000 * m := Int.mul_le_mul_of_nonneg_right h1 hm0
 refine Af <| Ai fun ds => Aa rfl (Ad Ab) ?_
 refine Ah <| Ae <| Af <| Ai fun ds => Aa rfl (Ag (Al rfl <| Ak rfl)) ?_
 refine Aa rfl (Ag (Aq rfl <| Ak rfl)) ?_
 refine Aa rfl (q_mul (Al rfl <| Ac) (Ac) rfl (by omega) (by omega)) ?_
 refine Aa rfl (B3 (Ac) Ab rfl (by omega) (by omega)) ?_
 refine Aa rfl (q_quo (Ac) Ab (by omega) (by omega) (by omega)) ?_
 refine Aa rfl (Ad (Ac)) ?_
 refine Ah <| Ae <| A3 <| Au rfl (.tmp (Ac) .nil) ?_
 rfl
end Go.Proofs.Ytaikojfonleccaa
namespace Go.Proofs.Ytaikojfonleccaa
open Go.RowKit
theorem bd_69 : Body Try.prog 69 := Bs (by kernel_rfl)
theorem bd_70 : Body Try.prog 70 := Bs (by kernel_rfl)
theorem bd_73 : Body Try.prog 73 := Bs (by kernel_rfl)
theorem fd_63_1 : FieldT Try.prog 63 1 1 := B5 (by kernel_rfl)
theorem stoodR : Try.prog.stoodInHeld 63 = false := by kernel_rfl
theorem guardR : Try.prog.eqGuardType Try.prog.depth 63 = false := by kernel_rfl
theorem oneR : OneT Try.prog 3 := C9 (by kernel_rfl)
theorem res_nobody {s : Sale} (hv : ValidS s) {l : Nat} (hl : l < s.lots.length) {ring : List Int} (h : (soldS s l ring).bidder = -1) : (soldS s l ring).price = 0 := by rw [(sold_nobody hv hl ring).1 h]
set_option maxRecDepth 100000 in
theorem account_ok {F : Heap} {vs vb vl vn vd : Value} {s : Sale} (hr : SaleR F vs vb vl vn vd s) {vr : Value} {ring : List Int} (hx : Ints F vr ring) {vq : Value} {rs : List Back} (hq : Sl F vq 2 Back.enc rs) : Ok Try.prog 23 [.agg #[vs, .int .i64 s.premium, .int .i64 s.fee, .int .i64 s.days, vb, vl, vn, vd], vr, vq].toArray F fun u F' => AccR F' u (accE s ring rs) := by
 refine Ok.intro Try.func23 rfl Try.ntmps23 rfl fun w0 => ?_
 have hL1 := hr.lots.plain.lt
 have hL2 := hr.bidders.plain.lt
 have hL3 := hr.sellers.plain.lt
 have hL4 := hq.plain.lt
 by_cases hok : enterErr s ring = 0
 ·
  have hv := Cy (enterE_ok hok).1
  have hnl := hv.nl
  have hnb := hv.nb
  have hnse := hv.nse
  refine Af <| Ai fun ds => Bg rfl (Ci (Ak rfl) rfl fun b1 hb1 nb1 => ?_)
  refine Aa rfl (Ad Ab) ?_
  refine Aa rfl (Ad Ab) ?_
  refine Aa rfl (Ad Ab) ?_
  refine Aa rfl (Ad Ab) ?_
  refine Ah <| Ae <| Af <| Ai fun ds => Aa rfl (Bf Cg (A0 rfl <| Ac) rfl rfl (Bi 0 rfl)) ?_
  refine Aa rfl (Ag (A0 rfl <| Aq rfl <| Ak rfl)) ?_
  refine Bg rfl (x_callN bd_69 Ay (.cons (Al rfl <| Ac) (.cons (Ac) .nil)) (enter_ok hr hx hok) fun v2 F3 R6 hr4 hF5 => ?_)
  replace hr := hr.mono hF5
  replace hq := hq.mono hF5
  obtain ⟨ba, kb, set, rfl, hX, hset, hsof, rfl⟩ := hr4
  refine Aa rfl (Ag (Ac)) ?_
  refine Aa rfl (Ax (Ac) rfl) ?_
  refine Aa rfl (Ax (Al rfl <| Ac) rfl) ?_
  refine Aa rfl (Ax (Aq rfl <| Ac) rfl) ?_
  refine Aa rfl (Ad (Aq rfl <| Ac)) ?_
  refine Aa rfl (Ad (Aq rfl <| Ac)) ?_
  refine Aa rfl (Ad (Aq rfl <| Ac)) ?_
  refine Ah <| Ae <| Af <| Af <| Ai fun ds => Aa rfl (Ag (Ac)) ?_
  refine Aa rfl (Ch (Ac) Ab) ?_
  refine Ah <| Ae <| Am (Ac) (by decide) ?_
  refine Az <| Ae <| Af <| Ai fun ds => Aa rfl (Ag (A0 rfl <| Ac)) ?_
  refine Aa rfl (Ag (A0 rfl <| Ac)) ?_
  refine WL_order (.cons (.next <| .here) <| .cons (.here) <| .nil) ?_
  refine Bg rfl (x_callM bd_70 Ay (.cons (Al rfl <| Ac) (.cons (Ac) .nil)) rfl (sell_ok hX hv KnownC.nil (set := set) hset) fun v11 F12 H15 hr13 hF14 => ?_)
  replace hr := hr.mono hF14
  replace hq := hq.mono hF14
  obtain ⟨es2, rfl, hK2, hal⟩ := hr13
  rw [sellL_eq hv (fun b _ => hsof b)] at hal
  refine Aa rfl (Ad (Ac)) ?_
  refine Ah <| Ae <| Af <| Ai fun ds => Aa rfl (Ad Ab) ?_
  refine Ah <| Ae <| Af <| Af <| Ai fun ds => Aa rfl (Ag (A6 rfl <| A0 rfl <| Aq rfl <| Ak rfl)) ?_
  refine Aa rfl (Bj sl_40 (Ac) hq.plain) ?_
  refine Aa rfl (Ag Ab) ?_
  refine Ah <| Ae <| A2 <| B4 [6, 7, 8, 9, 13, 15, 35, 36, 37, 38, 39, 40, 41, 42, 43, 44, 45, 46, 47, 48, 49, 50, 51, 52, 53, 54, 55, 56, 57, 58, 59, 60, 61, 62, 63, 64, 65, 66, 67, 68, 69, 70, 71, 72, 73, 74, 75, 76, 77, 78, 79, 80, 81, 82, 83, 84, 85] (fun m e σ => ∃ G, F12.le G ∧ ∃ k mask : Nat, m + k = rs.length ∧ e 35 = .int .i64 (k : Int) ∧ e 13 = .int .i64 (mask : Int) ∧ e 8 = .int .i64 0 ∧ mask < 64 ∧ (∀ t : Nat, mask.testBit t = backB (rs.take k) t) ∧ (∀ j, j < k → retErrAt s ring rs j = 0) ∧ σ = ⟨G, [(kb, mapO es2), (b1, bx 27 [vs, .int .i64 s.premium, .int .i64 s.fee, .int .i64 s.days, vb, vl, vn, vd])]⟩) (rs.length) ?_ ?_
  · exact ⟨_, Heap.le_refl _, 0, 0, by omega, (Ac), (Aq rfl <| Al rfl <| Ac), (A6 rfl <| A0 rfl <| Al rfl <| Ac), by omega, fun t => by simp [backB], fun j h => absurd h (by omega), rfl⟩
  ·
   rintro m e _ ⟨G, hFG, k, mask, hm9, hs35, hs13, hs8, hm64, hbits, hno, rfl⟩; replace hr := hr.mono hFG; replace hq := hq.mono hFG; replace hal := hal.mono hFG
   by_cases hlt : k < rs.length
   ·
    refine Af <| Ai fun ds => Aa rfl (Bz (At rfl hs35) (Ao rfl <| Al rfl <| Ac)) ?_
    refine Ah <| Ae <| Af <| As (Ac) (by first | rfl | exact decide_eq_true (by omega)) ?_
    by_cases h1 : inB 0 (s.lots.length - 1) rs[k].lot = true
    ·
     obtain ⟨l, hl, hll⟩ := inB_nat h1
     obtain ⟨e1, -⟩ := lot_facts hv hll
     have hll2 : l < (allS s ring).length := by rw [Ef]; exact hll
     have hl6 : l < 6 := by omega
     have hlp := pow_lt hl6
     have hln : rs[k].lot.toNat = l := by rw [hl]; rfl
     have hbe : (rs.take k).any (fun y => decide (y.lot = rs[k].lot)) = mask.testBit l := by rw [hbits, hl]; rfl
     refine Az <| Ae <| Af <| A2 <| Af <| Ai fun ds => Aa rfl (Bn  sl_40 (Al rfl <| Ao rfl <| Aq rfl <| Ac) hq.plain (Al rfl <| At rfl hs35) rfl hlt) ?_
     refine Aa rfl (Bf agg_77 (Ac) rfl rfl (hq.whole hlt)) ?_
     refine Bg rfl (B7 zr_77 rfl fun b17 hb17 nb17 => ?_)
     refine Cj (B8 sz_77 (Ac) (Al rfl <| Ac) (i := 0) rfl rfl rfl rfl Back.enc_one (.here) ?_)
     refine Ah <| Ae <| Af <| A2 <| Af <| Ai fun ds => Aa rfl (Aj Du (A0 rfl <| Ao rfl <| A6 rfl <| Ba rfl <| Ac)) ?_
     refine Aa rfl (Ar one_24 (Ac) (Cell.own 2 rfl rfl)) ?_
     refine Aa rfl (Bj Dw (Ac) hr.lots.plain) ?_
     refine Aa rfl (Dn (Ac) Ab rfl (by omega) (by omega)) ?_
     refine Aa rfl (Aj fd_77_0 (A0 rfl <| Ac)) ?_
     refine Aa rfl (Ar Bd (Ac) (Cell.own 0 rfl rfl)) ?_
     refine Bg rfl (Bq Bl Co rfl (.cons (Ac) .nil) rfl rfl (by decide) (by simp [Value.oneCell']) fun b18 hb18 nb18 => ?_)
     refine Bb (i := 0) rfl hb18 .here fun F19 hF20 hz21 => ?_
     replace hr := hr.mono hF20
     replace hal := hal.mono hF20
     replace hFG := Heap.le_trans hFG hF20
     have hsl22 := Ca hz21
     refine Bw rfl (A4 Ct Ay (.cons Ab (.cons (Aq rfl <| Al rfl <| Ac) (.cons (Ac) .nil))) (Bu _ _ hsl22) (fun _ _ h => h)) ?_
     refine Aa rfl (Ad (Ac)) ?_
     refine Ah <| Ae <| Am (Ac) (by simp [h1]) ?_
     by_cases hany : (rs.take k).any (fun y => decide (y.lot = rs[k].lot)) = true
     ·
      refine Af <| Ai fun ds => Aa rfl (Ag (Ba rfl <| A0 rfl <| Al rfl <| At rfl hs13)) ?_
      refine Aa rfl (Aj fd_77_0 (Ba rfl <| Aq rfl <| Ac)) ?_
      refine Aa rfl (Ar Bd (Ac) (Cell.own 0 rfl rfl)) ?_
      refine Aa rfl (q_shr (Aq rfl <| Ac) (Ac) (k := l) hl (by show l < 64; omega) shr_nat) ?_
      refine Aa rfl (q_and (Ac) Ab (m := mask / 2 ^ l) (k := 1) rfl rfl (by have := Nat.div_le_self mask (2 ^ l); omega) (by omega) rfl) ?_
      refine Aa rfl (B9 (Ac) Ab) ?_
      refine Aa rfl (Ad (Ac)) ?_
      refine Ah <| Ae <| As (Ac) (by rw [Df, ← hbe]; exact hany) ?_
      refine Af <| Ai fun ds => Aa rfl (Ad Ab) ?_
      refine Aa rfl (Ad Ab) ?_
      refine Aa rfl (Ad Ab) ?_
      refine Aa rfl (Ad Ab) ?_
      refine Ah <| Ae <| A3 <| A8 (A5 (A8 (A5 (A5 (A8 (A5 ?_))))))
      refine Au rfl (.tmp (Aq rfl <| Al rfl <| Ac) (.tmp (Aq rfl <| Ac) (.tmp (Al rfl <| Ac) (.tmp (Ac) .nil)))) ?_
      rw [accE_ret hok (retErr_bad hlt hno (show retErrAt s ring rs k = 5 by rw [D5 hlt]; simp [h1, hany]) (by decide)) (by decide)]
      exact ⟨_, _, rfl, Sl.nil, Sl.nil⟩
     ·
      replace hany : (rs.take k).any (fun y => decide (y.lot = rs[k].lot)) = false := by simpa using hany
      refine Af <| Ai fun ds => Aa rfl (Ag (Ba rfl <| A0 rfl <| Al rfl <| At rfl hs13)) ?_
      refine Aa rfl (Aj fd_77_0 (Ba rfl <| Aq rfl <| Ac)) ?_
      refine Aa rfl (Ar Bd (Ac) (Cell.own 0 rfl rfl)) ?_
      refine Aa rfl (q_shr (Aq rfl <| Ac) (Ac) (k := l) hl (by show l < 64; omega) shr_nat) ?_
      refine Aa rfl (q_and (Ac) Ab (m := mask / 2 ^ l) (k := 1) rfl rfl (by have := Nat.div_le_self mask (2 ^ l); omega) (by omega) rfl) ?_
      refine Aa rfl (B9 (Ac) Ab) ?_
      refine Aa rfl (Ad (Ac)) ?_
      refine Ah <| Ae <| Am (Ac) (by rw [Df, ← hbe]; exact hany) ?_
      by_cases h3 : inB 0 s.days rs[k].day = true
      ·
       refine Af <| Ai fun ds => Aa rfl (Aj fd_27_3 (A6 rfl <| A0 rfl <| Ao rfl <| A6 rfl <| Ba rfl <| Ac)) ?_
       refine Aa rfl (Ar Bd (Ac) (Cell.own 2 rfl rfl)) ?_
       refine Aa rfl (Aj fd_77_1 (A6 rfl <| Aq rfl <| Ac)) ?_
       refine Aa rfl (Ar Bd (Ac) (Cell.own 0 rfl rfl)) ?_
       refine Bg rfl (Bq Bl Co rfl (.cons (Ac) .nil) rfl rfl (by decide) (by simp [Value.oneCell']) fun b23 hb23 nb23 => ?_)
       refine Bb (i := 0) rfl hb23 .here fun F24 hF25 hz26 => ?_
       replace hr := hr.mono hF25
       replace hal := hal.mono hF25
       replace hFG := Heap.le_trans hFG hF25
       have hsl27 := Ca hz26
       refine Bw rfl (A4 Ct Ay (.cons Ab (.cons (Aq rfl <| Al rfl <| Ac) (.cons (Ac) .nil))) (Bu _ _ hsl27) (fun _ _ h => h)) ?_
       refine Aa rfl (Ad (Ac)) ?_
       refine Ah <| Ae <| Am (Ac) (by simp [h3]) ?_
       by_cases hd : (s.lot l).defect = true
       ·
        refine Af <| Ai fun ds => Aa rfl (Aj Du (A6 rfl <| Ba rfl <| Aq rfl <| Al rfl <| Ao rfl <| A6 rfl <| Ba rfl <| Ac)) ?_
        refine Aa rfl (Ar one_24 (Ac) (Cell.own 2 rfl rfl)) ?_
        refine Aa rfl (Aj fd_77_0 (A6 rfl <| Ba rfl <| Al rfl <| Ac)) ?_
        refine Aa rfl (Ar Bd (Ac) (Cell.own 0 rfl rfl)) ?_
        refine Aa rfl (Bn (k := l) Dw (Aq rfl <| Ac) hr.lots.plain (Ac) hl hll) ?_
        refine Aa rfl (Do fd_69_3 (Ac)) ?_
        refine Aa rfl (Ar one_4 (Ac) (hr.lots.cell hll rfl)) ?_
        refine Aa rfl (Ea (Ac)) ?_
        refine Aa rfl (Ag (Ac)) ?_
        refine Ap rfl rfl (Ac) (by first | (rw [e1, hd]; done) | (rw [e1, hd]; rfl)) ?_
        refine Aa rfl (Ag (B1 rfl <| A0 rfl <| Ao rfl <| A0 rfl <| Ac)) ?_
        refine Ap rfl rfl (Al rfl <| Ac) (by first | (rw [e1, hd]; done) | (rw [e1, hd]; rfl)) ?_
        refine Aa rfl (Aj fd_77_0 (B1 rfl <| Al rfl <| Ac)) ?_
        refine Ap rfl rfl (Aq rfl <| Ac) (by first | (rw [e1, hd]; done) | (rw [e1, hd]; rfl)) ?_
        refine Aa rfl (Ar Bd (Ac) (Cell.own 0 rfl rfl)) ?_
        refine Ap rfl rfl (Aq rfl <| Al rfl <| Ac) (by first | (rw [e1, hd]; done) | (rw [e1, hd]; rfl)) ?_
        refine Aa rfl (Bn (k := l) C5 (Aq rfl <| Ac) hal.plain (Ac) hl hll2) ?_
        refine Ap rfl rfl (A0 rfl <| Ac) (by first | (rw [e1, hd]; done) | (rw [e1, hd]; rfl)) ?_
        refine Aa rfl (Bf Eg (Ac) rfl rfl (hal.whole hll2)) ?_
        refine Ap rfl rfl (A0 rfl <| Al rfl <| Ac) (by first | (rw [e1, hd]; done) | (rw [e1, hd]; rfl)) ?_
        refine Aa rfl (C1 bt_63 (.cons Ab rfl .nil) (.cons rfl rfl (Nat.le_of_ble_eq_true rfl) (.cons (.here) .nil) .nil)) ?_
        refine Ap rfl rfl (A0 rfl <| Aq rfl <| Ac) (by first | (rw [e1, hd]; done) | (rw [e1, hd]; rfl)) ?_
        refine Aa rfl (q_eqlZ2 Try.underlying63 stoodR guardR (by decide) (by decide) rfl rfl Try.underlying3 Try.underlying3 oneR oneR (Al rfl <| Ac) (Ac)) ?_
        refine Aa rfl (Bc (A0 rfl <| Aq rfl <| Al rfl <| Ac) (by first | (rw [e1, hd]; done) | (rw [e1, hd]; rfl)) (Ac)) ?_
        refine Aa rfl (Ad (Ac)) ?_
        refine Ah <| Ae ?_
        by_cases hbid : (soldS s l ring).bidder = -1
        ·
         have hpr := res_nobody hv hll hbid
         refine As (Ac) (by rw [allS_at]; simp [hbid, hpr]) ?_
         refine Af <| Ai fun ds => Aa rfl (Ad Ab) ?_
         refine Aa rfl (Ad Ab) ?_
         refine Aa rfl (Ad Ab) ?_
         refine Aa rfl (Ad Ab) ?_
         refine Ah <| Ae <| A3 <| A8 (A5 (A8 (A5 (A5 (A8 (A5 ?_))))))
         refine Au rfl (.tmp (Aq rfl <| Al rfl <| Ac) (.tmp (Aq rfl <| Ac) (.tmp (Al rfl <| Ac) (.tmp (Ac) .nil)))) ?_
         rw [accE_ret hok (retErr_bad hlt hno (show retErrAt s ring rs k = 9 by rw [D5 hlt]; simp [h1, hany, h3, hln, hd, hbid]) (by decide)) (by decide)]
         exact ⟨_, _, rfl, Sl.nil, Sl.nil⟩
        ·
         refine Am (Ac) (by rw [allS_at]; simp [hbid]) ?_
         refine Az <| Bh <| Ae <| Ai fun ds => Aa rfl (Ag (B1 rfl <| Ba rfl <| A0 rfl <| Al rfl <| At rfl hs13)) ?_
         refine Aa rfl (Aj fd_77_0 (B1 rfl <| Ba rfl <| Aq rfl <| Ac)) ?_
         refine Aa rfl (Ar Bd (Ac) (Cell.own 0 rfl rfl)) ?_
         refine Aa rfl (q_shl Ab (Ac) (k := l) hl (by omega) (show (1 : Int) * 2 ^ l = ((2 ^ l : Nat) : Int) by simp) (Int.le_trans (by decide) (Int.natCast_nonneg _)) (by omega)) ?_
         refine Aa rfl (q_or (Aq rfl <| Al rfl <| Ac) (Ac) (m := mask) (k := 2 ^ l) rfl rfl (by omega) (by omega) rfl) ?_
         refine Aa rfl (Ad (Ac)) ?_
         refine Ah <| Bh <| Ae <| Cp (fun _ _ h => h.drop (.cons _ <| .cons_cons _ <| .cons_cons _ <| .refl _)) ?_
         refine Ai fun ds => Aa rfl (B3 (B1 rfl <| A6 rfl <| Aq rfl <| Al rfl <| At rfl hs35) Ab rfl (by omega) (by omega)) ?_
         refine Aa rfl (Ag (Ac)) ?_
         refine Ah <| Ae ⟨_, m - 1, Off.eq (ou32 rfl <| De rfl <| ou4 rfl <| ou1 rfl <| Bk), by omega, ?_⟩
         refine ⟨_, hFG, k + 1, mask ||| 2 ^ l, by omega, (Ac), (Aq rfl <| Ac), (B1 rfl <| A6 rfl <| A0 rfl <| Al rfl <| At rfl hs8), mask_lt hm64 (by omega), mask_back hlt hl hbits, fun j hjk => ?_, rfl⟩
         rcases Nat.lt_succ_iff_lt_or_eq.1 hjk with hjk | rfl
         · exact hno j hjk
         · rw [D5 hlt]; simp [h1, hany, h3, hln, hd, hbid]
       ·
        replace hd : (s.lot l).defect = false := by simpa using hd
        refine Af <| Ai fun ds => Aa rfl (Aj Du (A6 rfl <| Ba rfl <| Aq rfl <| Al rfl <| Ao rfl <| A6 rfl <| Ba rfl <| Ac)) ?_
        refine Aa rfl (Ar one_24 (Ac) (Cell.own 2 rfl rfl)) ?_
        refine Aa rfl (Aj fd_77_0 (A6 rfl <| Ba rfl <| Al rfl <| Ac)) ?_
        refine Aa rfl (Ar Bd (Ac) (Cell.own 0 rfl rfl)) ?_
        refine Aa rfl (Bn (k := l) Dw (Aq rfl <| Ac) hr.lots.plain (Ac) hl hll) ?_
        refine Aa rfl (Do fd_69_3 (Ac)) ?_
        refine Aa rfl (Ar one_4 (Ac) (hr.lots.cell hll rfl)) ?_
        refine Aa rfl (Ea (Ac)) ?_
        refine Aa rfl (Ag (Ac)) ?_
        refine Aw rfl rfl (Ac) (.inl (congrArg Value.bool (by first | (rw [e1, hd]; done) | (rw [e1, hd]; rfl)))) rfl ?_
        refine Aw rfl rfl (Al rfl <| Ac) (.inl (congrArg Value.bool (by first | (rw [e1, hd]; done) | (rw [e1, hd]; rfl)))) rfl ?_
        refine Aw rfl rfl (Aq rfl <| Ac) (.inl (congrArg Value.bool (by first | (rw [e1, hd]; done) | (rw [e1, hd]; rfl)))) rfl ?_
        refine Aw rfl rfl (Aq rfl <| Al rfl <| Ac) (.inl (congrArg Value.bool (by first | (rw [e1, hd]; done) | (rw [e1, hd]; rfl)))) rfl ?_
        refine Aw rfl rfl (A0 rfl <| Ac) (.inl (congrArg Value.bool (by first | (rw [e1, hd]; done) | (rw [e1, hd]; rfl)))) rfl ?_
        refine Aw rfl rfl (A0 rfl <| Al rfl <| Ac) (.inl (congrArg Value.bool (by first | (rw [e1, hd]; done) | (rw [e1, hd]; rfl)))) rfl ?_
        refine Aw rfl rfl (A0 rfl <| Aq rfl <| Ac) (.inl (congrArg Value.bool (by first | (rw [e1, hd]; done) | (rw [e1, hd]; rfl)))) rfl ?_
        refine Aa rfl (A1 (A0 rfl <| Aq rfl <| Al rfl <| Ac) (by first | (rw [e1, hd]; done) | (rw [e1, hd]; rfl)) Ab) ?_
        refine Aa rfl (Ad (Ac)) ?_
        refine Ah <| Ae <| As (Ac) rfl ?_
        refine Af <| Ai fun ds => Aa rfl (Ad Ab) ?_
        refine Aa rfl (Ad Ab) ?_
        refine Aa rfl (Ad Ab) ?_
        refine Aa rfl (Ad Ab) ?_
        refine Ah <| Ae <| A3 <| A8 (A5 (A8 (A5 (A5 (A8 (A5 ?_))))))
        refine Au rfl (.tmp (Aq rfl <| Al rfl <| Ac) (.tmp (Aq rfl <| Ac) (.tmp (Al rfl <| Ac) (.tmp (Ac) .nil)))) ?_
        rw [accE_ret hok (retErr_bad hlt hno (show retErrAt s ring rs k = 9 by rw [D5 hlt]; simp [h1, hany, h3, hln, hd]) (by decide)) (by decide)]
        exact ⟨_, _, rfl, Sl.nil, Sl.nil⟩
      ·
       replace h3 : inB 0 s.days rs[k].day = false := by simpa using h3
       refine Af <| Ai fun ds => Aa rfl (Aj fd_27_3 (A6 rfl <| A0 rfl <| Ao rfl <| A6 rfl <| Ba rfl <| Ac)) ?_
       refine Aa rfl (Ar Bd (Ac) (Cell.own 2 rfl rfl)) ?_
       refine Aa rfl (Aj fd_77_1 (A6 rfl <| Aq rfl <| Ac)) ?_
       refine Aa rfl (Ar Bd (Ac) (Cell.own 0 rfl rfl)) ?_
       refine Bg rfl (Bq Bl Co rfl (.cons (Ac) .nil) rfl rfl (by decide) (by simp [Value.oneCell']) fun b28 hb28 nb28 => ?_)
       refine Bb (i := 0) rfl hb28 .here fun F29 hF30 hz31 => ?_
       have hsl32 := Ca hz31
       refine Bw rfl (A4 Ct Ay (.cons Ab (.cons (Aq rfl <| Al rfl <| Ac) (.cons (Ac) .nil))) (Bu _ _ hsl32) (fun _ _ h => h)) ?_
       refine Aa rfl (Ad (Ac)) ?_
       refine Ah <| Ae <| As (Ac) (by simp [h3]) ?_
       refine Af <| Ai fun ds => Aa rfl (Ad Ab) ?_
       refine Aa rfl (Ad Ab) ?_
       refine Aa rfl (Ad Ab) ?_
       refine Aa rfl (Ad Ab) ?_
       refine Ah <| Ae <| A3 <| A8 (A5 (A8 (A5 (A5 (A8 (A5 ?_))))))
       refine Au rfl (.tmp (Aq rfl <| Al rfl <| Ac) (.tmp (Aq rfl <| Ac) (.tmp (Al rfl <| Ac) (.tmp (Ac) .nil)))) ?_
       rw [accE_ret hok (retErr_bad hlt hno (show retErrAt s ring rs k = 7 by rw [D5 hlt]; simp [h1, hany, h3]) (by decide)) (by decide)]
       exact ⟨_, _, rfl, Sl.nil, Sl.nil⟩
    ·
     replace h1 : inB 0 (s.lots.length - 1) rs[k].lot = false := by simpa using h1
     refine Az <| Ae <| Af <| A2 <| Af <| Ai fun ds => Aa rfl (Bn  sl_40 (Al rfl <| Ao rfl <| Aq rfl <| Ac) hq.plain (Al rfl <| At rfl hs35) rfl hlt) ?_
     refine Aa rfl (Bf agg_77 (Ac) rfl rfl (hq.whole hlt)) ?_
     refine Bg rfl (B7 zr_77 rfl fun b33 hb33 nb33 => ?_)
     refine Cj (B8 sz_77 (Ac) (Al rfl <| Ac) (i := 0) rfl rfl rfl rfl Back.enc_one (.here) ?_)
     refine Ah <| Ae <| Af <| A2 <| Af <| Ai fun ds => Aa rfl (Aj Du (A0 rfl <| Ao rfl <| A6 rfl <| Ba rfl <| Ac)) ?_
     refine Aa rfl (Ar one_24 (Ac) (Cell.own 2 rfl rfl)) ?_
     refine Aa rfl (Bj Dw (Ac) hr.lots.plain) ?_
     refine Aa rfl (Dn (Ac) Ab rfl (by omega) (by omega)) ?_
     refine Aa rfl (Aj fd_77_0 (A0 rfl <| Ac)) ?_
     refine Aa rfl (Ar Bd (Ac) (Cell.own 0 rfl rfl)) ?_
     refine Bg rfl (Bq Bl Co rfl (.cons (Ac) .nil) rfl rfl (by decide) (by simp [Value.oneCell']) fun b34 hb34 nb34 => ?_)
     refine Bb (i := 0) rfl hb34 .here fun F35 hF36 hz37 => ?_
     have hsl38 := Ca hz37
     refine Bw rfl (A4 Ct Ay (.cons Ab (.cons (Aq rfl <| Al rfl <| Ac) (.cons (Ac) .nil))) (Bu _ _ hsl38) (fun _ _ h => h)) ?_
     refine Aa rfl (Ad (Ac)) ?_
     refine Ah <| Ae <| As (Ac) (by simp [h1]) ?_
     refine Af <| Ai fun ds => Aa rfl (Ad Ab) ?_
     refine Aa rfl (Ad Ab) ?_
     refine Aa rfl (Ad Ab) ?_
     refine Aa rfl (Ad Ab) ?_
     refine Ah <| Ae <| A3 <| A8 (A5 (A8 (A5 (A5 (A8 (A5 ?_))))))
     refine Au rfl (.tmp (Aq rfl <| Al rfl <| Ac) (.tmp (Aq rfl <| Ac) (.tmp (Al rfl <| Ac) (.tmp (Ac) .nil)))) ?_
     rw [accE_ret hok (retErr_bad hlt hno (show retErrAt s ring rs k = 4 by rw [D5 hlt]; simp [h1]) (by decide)) (by decide)]
     exact ⟨_, _, rfl, Sl.nil, Sl.nil⟩
   ·
    refine Af <| Ai fun ds => Aa rfl (Bz (At rfl hs35) (Ao rfl <| Al rfl <| Ac)) ?_
    refine Ah <| Ae <| Af <| Am (Ac) (by first | rfl | exact decide_eq_false (by omega)) ?_
    have hret := retErr_ok (s := s) (ring := ring) (rs := rs) (fun j hj => hno j (by omega))
    replace hbits : ∀ t : Nat, mask.testBit t = backB rs t := by rw [List.take_of_length_le (by omega)] at hbits; exact hbits
    refine B0 ?_
    refine Bo <| Bo <| Br <| Ae <| Af <| WC_cut [6, 7, 86, 87, 88, 89, 90, 91, 92, 93] (fun st σ => ∃ p6 p7, st 6 = .slice (some ⟨p6, 0, none⟩) s.bidders.length s.bidders.length ∧ st 7 = .slice (some ⟨p7, 0, none⟩) s.sellers.length s.sellers.length ∧ σ = ⟨G, [(p6, bx 3 (ivals (fun b => payTo s ring rs b 0) s.bidders.length)), (p7, bx 3 (ivals (fun b => getTo s ring rs b 0) s.sellers.length)), (kb, mapO es2), (b1, bx 27 [vs, .int .i64 s.premium, .int .i64 s.fee, .int .i64 s.days, vb, vl, vn, vd])]⟩) ?_ ?_
    ·
     refine D1 (.inl rfl) (fun _ _ h => h) (.cons_cons _ <| .cons_cons _ <| .refl _) [] (by kernel_rfl) fun ds => ?_
     refine A7 0 rfl (by kernel_rfl) (by kernel_rfl) (by kernel_rfl) (by kernel_rfl) rfl rfl (fun _ h => h.drop (.cons_cons _ <| .cons_cons _ <| .refl _)) (fun _ _ _ h => h) (Aj Dd (Al rfl <| Ao rfl <| A6 rfl <| Ba rfl <| Ac)) ?_
     refine A7 1 rfl (by kernel_rfl) (by kernel_rfl) (by kernel_rfl) (by kernel_rfl) rfl rfl (fun _ h => h.drop (.cons_cons _ <| .cons_cons _ <| .refl _)) (fun _ _ _ h => h) (Ar Cx (Ac) (Cell.own 1 rfl rfl)) ?_
     refine A7 2 rfl (by kernel_rfl) (by kernel_rfl) (by kernel_rfl) (by kernel_rfl) rfl rfl (fun _ h => h.drop (.cons_cons _ <| .cons_cons _ <| .refl _)) (fun _ _ _ h => h) (Bj Dg (Ac) hr.bidders.plain) ?_
     refine A7 4 rfl (by kernel_rfl) (by kernel_rfl) (by kernel_rfl) (by kernel_rfl) rfl rfl (fun _ h => h.drop (.cons_cons _ <| .cons_cons _ <| .refl _)) (fun _ _ _ h => h) (Aj fd_27_5 (A0 rfl <| Ao rfl <| A6 rfl <| Ba rfl <| Ac)) ?_
     refine A7 5 rfl (by kernel_rfl) (by kernel_rfl) (by kernel_rfl) (by kernel_rfl) rfl rfl (fun _ h => h.drop (.cons_cons _ <| .cons_cons _ <| .refl _)) (fun _ _ _ h => h) (Ar Cx (Ac) (Cell.own 1 rfl rfl)) ?_
     refine A7 6 rfl (by kernel_rfl) (by kernel_rfl) (by kernel_rfl) (by kernel_rfl) rfl rfl (fun _ h => h.drop (.cons_cons _ <| .cons_cons _ <| .refl _)) (fun _ _ _ h => h) (Bj Dg (Ac) hr.sellers.plain) ?_
     refine WX_pick [3, 7] (by kernel_rfl) (by decide) (in2 ?_ ?_)
     ·
      refine Dk rfl rfl (x_make (k := s.bidders.length) Bl el_3 rfl rfl (Aq rfl <| Al rfl <| Ac) (Aq rfl <| Al rfl <| Ac) rfl (by omega) (by omega) fun b39 hb39 nb39 => ⟨fun _ _ => (fun _ h => h.drop (.cons _ <| .cons_cons _ <| .cons_cons _ <| .refl _)), ?_⟩)
      refine A7 8 rfl (by kernel_rfl) (by kernel_rfl) (by kernel_rfl) (by kernel_rfl) rfl rfl (fun _ h => h.drop (.cons _ <| .cons_cons _ <| .cons_cons _ <| .refl _)) (fun _ _ _ h => h) (Ad (Ac)) ?_
      refine C2 7 rfl (by kernel_rfl) rfl (x_make (k := s.sellers.length) Bl el_3 rfl rfl (Aq rfl <| Ac) (Aq rfl <| Ac) rfl (by omega) (by omega) fun b40 hb40 nb40 => ⟨fun _ _ => (fun _ h => h.drop (.cons _ <| .cons _ <| .cons_cons _ <| .cons_cons _ <| .refl _)), ?_⟩)
      refine A7 9 rfl (by kernel_rfl) (by kernel_rfl) (by kernel_rfl) (by kernel_rfl) rfl rfl (fun _ h => h.drop (.cons _ <| .cons _ <| .cons_cons _ <| .cons_cons _ <| .refl _)) (fun _ _ _ h => h) (Ad (Ac)) ?_
      refine WX_order (.cons (.next <| .here) <| .cons (.here) <| .cons (.here) <| .cons (.here) <| .nil) ?_
      refine C3 (by kernel_rfl) ?_ _
      refine Ae ⟨_, Off.eq (ou8 rfl <| ou2 rfl <| Da), ?_⟩
      exact ⟨_, _, (Aq rfl <| Ac), (Ac), (by first | (rw [Dq (f := fun b => payTo s ring rs b 0) (fun _ => rfl), Dq (f := fun b => getTo s ring rs b 0) (fun _ => rfl)]; done) | (rw [Dq (f := fun b => payTo s ring rs b 0) (fun _ => rfl), Dq (f := fun b => getTo s ring rs b 0) (fun _ => rfl)]; rfl))⟩
     ·
      refine Dk rfl rfl (x_make (k := s.sellers.length) Bl el_3 rfl rfl (Ac) (Ac) rfl (by omega) (by omega) fun b41 hb41 nb41 => ⟨fun _ _ => (fun _ h => h.drop (.cons _ <| .cons_cons _ <| .cons_cons _ <| .refl _)), ?_⟩)
      refine C2 3 rfl (by kernel_rfl) rfl (x_make (k := s.bidders.length) Bl el_3 rfl rfl (A0 rfl <| Ac) (A0 rfl <| Ac) rfl (by omega) (by omega) fun b42 hb42 nb42 => ⟨fun _ _ => (fun _ h => h.drop (.cons _ <| .cons _ <| .cons_cons _ <| .cons_cons _ <| .refl _)), ?_⟩)
      refine A7 8 rfl (by kernel_rfl) (by kernel_rfl) (by kernel_rfl) (by kernel_rfl) rfl rfl (fun _ h => h.drop (.cons _ <| .cons _ <| .cons_cons _ <| .cons_cons _ <| .refl _)) (fun _ _ _ h => h) (Ad (Ac)) ?_
      refine A7 9 rfl (by kernel_rfl) (by kernel_rfl) (by kernel_rfl) (by kernel_rfl) rfl rfl (fun _ h => h.drop (.cons _ <| .cons _ <| .cons_cons _ <| .cons_cons _ <| .refl _)) (fun _ _ _ h => h) (Ad (Aq rfl <| Ac)) ?_
      refine WX_order (.cons (.here) <| .cons (.here) <| .cons (.here) <| .cons (.here) <| .nil) ?_
      refine C3 (by kernel_rfl) ?_ _
      refine Ae ⟨_, Off.eq (ou8 rfl <| ou2 rfl <| Da), ?_⟩
      exact ⟨_, _, (Al rfl <| Ac), (Ac), (by first | (rw [Dq (f := fun b => payTo s ring rs b 0) (fun _ => rfl), Dq (f := fun b => getTo s ring rs b 0) (fun _ => rfl)]; done) | (rw [Dq (f := fun b => payTo s ring rs b 0) (fun _ => rfl), Dq (f := fun b => getTo s ring rs b 0) (fun _ => rfl)]; rfl))⟩
    rintro e9 _ ⟨p6, p7, hc6, hc7, rfl⟩
    refine Af <| Af <| Ai fun ds => Aa rfl (Ag (Ao rfl <| Al rfl <| Ao rfl <| A0 rfl <| Ac)) ?_
    refine Aa rfl (Bj C5 (Ac) hal.plain) ?_
    refine Aa rfl (Ag Ab) ?_
    refine Ah <| Ae <| A2 <| B4 [8, 16, 17, 18, 19, 96, 97, 98, 99, 100, 101, 102, 103, 104, 105, 106, 107, 108, 109, 110, 111, 112, 113, 114, 115, 116, 117, 118, 119, 120, 121, 122, 123, 124, 125, 126, 127, 128, 129, 130, 131, 132, 133, 134, 135, 136, 137, 138, 139, 140, 141, 142, 143, 144, 145, 146, 147, 148, 149, 150, 151, 152] (fun m e σ => ∃ k : Nat, m + k = (allS s ring).length ∧ e 96 = .int .i64 (k : Int) ∧ e 8 = .int .i64 (houseTo s ring rs k) ∧ e 6 = .slice (some ⟨p6, 0, none⟩) s.bidders.length s.bidders.length ∧ e 7 = .slice (some ⟨p7, 0, none⟩) s.sellers.length s.sellers.length ∧ σ = ⟨G, [(p6, bx 3 (ivals (fun b => payTo s ring rs b k) s.bidders.length)), (p7, bx 3 (ivals (fun b => getTo s ring rs b k) s.sellers.length)), (kb, mapO es2), (b1, bx 27 [vs, .int .i64 s.premium, .int .i64 s.fee, .int .i64 s.days, vb, vl, vn, vd])]⟩) ((allS s ring).length) ?_ ?_
    · exact ⟨0, by omega, (Ac), (Aq rfl <| Al rfl <| Ao rfl <| Al rfl <| At rfl hs8), (Aq rfl <| Al rfl <| At rfl hc6), (Aq rfl <| Al rfl <| At rfl hc7), rfl⟩
    ·
     rintro m e _ ⟨k, hm9, hu96, hu8, hu6, hu7, rfl⟩
     by_cases hlt : k < (allS s ring).length
     ·
      refine Af <| Ai fun ds => Aa rfl (Bz (At rfl hu96) (Ao rfl <| Al rfl <| Ac)) ?_
      refine Ah <| Ae <| Af <| As (Ac) (by first | rfl | exact decide_eq_true (by omega)) ?_
      have hkl : k < s.lots.length := by rw [← Ef (s := s) (ring := ring)]; exact hlt
      have hel : (allS s ring)[k] = soldS s k ring := allS_at hlt
      have hf := part_facts hv ring hkl
      have hsb := sold_bound hv hkl ring
      have hab := fun b => acc_bound hv (ring := ring) (rs := rs) (b := b) k (by omega)
      obtain ⟨e1, e2, e3, e4, e5⟩ := lot_facts hv hkl
      rw [← hel] at hf hsb
      by_cases hne : (allS s ring)[k].bidder = -1
      ·
       refine Az <| Ae <| Af <| A2 <| Af <| Ai fun ds => Aa rfl (Ag (Al rfl <| At rfl hu96)) ?_
       refine Aa rfl (Bn  C5 (Aq rfl <| Ao rfl <| Aq rfl <| Ac) hal.plain (Aq rfl <| At rfl hu96) rfl hlt) ?_
       refine Aa rfl (Bf Eg (Ac) rfl rfl (hal.whole hlt)) ?_
       refine Bg rfl (B7 zr_63 rfl fun b44 hb44 nb44 => ?_)
       refine Aa rfl (Ad (Aq rfl <| Al rfl <| Ac)) ?_
       refine Cj (B8 sz_63 (Al rfl <| Ac) (Aq rfl <| Ac) (i := 0) rfl rfl rfl rfl Res.enc_one (.here) ?_)
       refine Ah <| Ae <| Af <| Af <| Ai fun ds => Aa rfl (Aj fd_63_0 (Al rfl <| Ac)) ?_
       refine Aa rfl (Ar Bd (Ac) (Cell.own 0 rfl rfl)) ?_
       refine Aa rfl (B9 (Ac) Ab) ?_
       refine Aa rfl (Ag (Ac)) ?_
       refine Aw rfl rfl (Ac) (.inl (congrArg Value.bool (decide_eq_true hne))) rfl ?_
       refine Aw rfl rfl (Al rfl <| Ac) (.inl (congrArg Value.bool (decide_eq_true hne))) rfl ?_
       refine Aw rfl rfl (Aq rfl <| Ac) (.inl (congrArg Value.bool (decide_eq_true hne))) rfl ?_
       refine Aw rfl rfl (Aq rfl <| Al rfl <| Ac) (.inl (congrArg Value.bool (decide_eq_true hne))) rfl ?_
       refine Aw rfl rfl (A0 rfl <| Ac) (.inl (congrArg Value.bool (decide_eq_true hne))) rfl ?_
       refine Aa rfl (A1 (A0 rfl <| Al rfl <| Ac) (decide_eq_true hne) Ab) ?_
       refine Ah <| Ae <| As (Ac) rfl ?_
       have hdead : liveB s ring rs k = false := by unfold liveB; rw [← hel]; simp [hne]
       obtain ⟨d1, d2, d3⟩ := acc_dead hdead
       refine B0 ?_
       refine Bo (Br ?_)
       refine Ae <| Cp (fun _ _ h => h.drop (.cons _ <| .cons_cons _ <| .cons_cons _ <| .cons_cons _ <| .cons_cons _ <| .refl _)) ?_
       refine Ai fun ds => Aa rfl (B3 (A6 rfl <| At rfl hu96) Ab rfl (by omega) (by omega)) ?_
       refine Aa rfl (Ag (Ac)) ?_
       refine Ah <| Ae ⟨_, m - 1, Off.eq (De rfl <| ou2 rfl <| Bk), by omega, ?_⟩
       exact ⟨k + 1, by omega, (Ac), by rw [d3]; exact (A6 rfl <| Aq rfl <| At rfl hu8), (A6 rfl <| Aq rfl <| Ao rfl <| Aq rfl <| Al rfl <| At rfl hc6), (A6 rfl <| Aq rfl <| Ao rfl <| Aq rfl <| Al rfl <| At rfl hc7), by rw [d1, d2]⟩
      ·
       refine Az <| Ae <| Af <| A2 <| Af <| Ai fun ds => Aa rfl (Ag (Al rfl <| At rfl hu96)) ?_
       refine Aa rfl (Bn  C5 (Aq rfl <| Ao rfl <| Aq rfl <| Ac) hal.plain (Aq rfl <| At rfl hu96) rfl hlt) ?_
       refine Aa rfl (Bf Eg (Ac) rfl rfl (hal.whole hlt)) ?_
       refine Bg rfl (B7 zr_63 rfl fun b45 hb45 nb45 => ?_)
       refine Aa rfl (Ad (Aq rfl <| Al rfl <| Ac)) ?_
       refine Cj (B8 sz_63 (Al rfl <| Ac) (Aq rfl <| Ac) (i := 0) rfl rfl rfl rfl Res.enc_one (.here) ?_)
       refine Ah <| Ae <| Af <| Af <| Ai fun ds => Aa rfl (Aj fd_63_0 (Al rfl <| Ac)) ?_
       refine Aa rfl (Ar Bd (Ac) (Cell.own 0 rfl rfl)) ?_
       refine Aa rfl (B9 (Ac) Ab) ?_
       refine Aa rfl (Ag (Ac)) ?_
       refine Ap rfl rfl (Ac) (decide_eq_false hne) ?_
       refine Aa rfl (Ag (Ba rfl <| Aq rfl <| Ao rfl <| Aq rfl <| Al rfl <| Ao rfl <| Al rfl <| At rfl hs13)) ?_
       refine Ap rfl rfl (Al rfl <| Ac) (decide_eq_false hne) ?_
       refine Aa rfl (Ag (A0 rfl <| Al rfl <| Ac)) ?_
       refine Ap rfl rfl (Aq rfl <| Ac) (decide_eq_false hne) ?_
       refine Aa rfl (q_shr (Al rfl <| Ac) (Ac) rfl (by show k < 64; omega) shr_nat) ?_
       refine Ap rfl rfl (Aq rfl <| Al rfl <| Ac) (decide_eq_false hne) ?_
       refine Aa rfl (q_and (Ac) Ab (m := mask / 2 ^ k) (k := 1) rfl rfl (by have := Nat.div_le_self mask (2 ^ k); omega) (by omega) rfl) ?_
       refine Ap rfl rfl (A0 rfl <| Ac) (decide_eq_false hne) ?_
       refine Aa rfl (B9 (Ac) Ab) ?_
       refine Aa rfl (Bc (A0 rfl <| Al rfl <| Ac) (decide_eq_false hne) (Ac)) ?_
       refine Ah <| Ae ?_
       by_cases hbk : backB rs k = true
       ·
        refine As (Ac) (by rw [Df, hbits]; exact hbk) ?_
        have hdead : liveB s ring rs k = false := by unfold liveB; rw [← hel]; simp [hbk]
        obtain ⟨d1, d2, d3⟩ := acc_dead hdead
        refine B0 ?_
        refine Bo (Br ?_)
        refine Ae <| Cp (fun _ _ h => h.drop (.cons _ <| .cons_cons _ <| .cons_cons _ <| .cons_cons _ <| .cons_cons _ <| .refl _)) ?_
        refine Ai fun ds => Aa rfl (B3 (A6 rfl <| At rfl hu96) Ab rfl (by omega) (by omega)) ?_
        refine Aa rfl (Ag (Ac)) ?_
        refine Ah <| Ae ⟨_, m - 1, Off.eq (De rfl <| ou2 rfl <| Bk), by omega, ?_⟩
        exact ⟨k + 1, by omega, (Ac), by rw [d3]; exact (A6 rfl <| Aq rfl <| At rfl hu8), (A6 rfl <| Aq rfl <| Ao rfl <| Aq rfl <| Al rfl <| At rfl hc6), (A6 rfl <| Aq rfl <| Ao rfl <| Aq rfl <| Al rfl <| At rfl hc7), by rw [d1, d2]⟩
       ·
        replace hbk : backB rs k = false := by simpa using hbk
        refine Am (Ac) (by rw [Df, hbits]; exact hbk) ?_
        obtain ⟨c, hc⟩ := Int.eq_ofNat_of_zero_le (show 0 ≤ (allS s ring)[k].bidder by omega)
        obtain ⟨d, hd⟩ := Int.eq_ofNat_of_zero_le e4
        have hcb : c < s.bidders.length := by omega
        have hds : d < s.sellers.length := by omega
        have habc := hab c
        have habd := hab d
        have hlive : liveB s ring rs k = true := by unfold liveB; rw [← hel]; simp [hne, hbk]
        refine Az <| Ae <| Af <| Cz (.inl rfl) (fun _ _ h => h) (by kernel_rfl) (by kernel_rfl) fun ds => ?_
        refine A9 rfl (Aj fd_63_1 (Ba rfl <| Aq rfl <| Al rfl <| Ac)) ?_
        refine A9 rfl (Ar Bd (Ac) (Cell.own 0 rfl rfl)) ?_
        refine A9 rfl (Aj fd_27_1 (A6 rfl <| Aq rfl <| Ao rfl <| Aq rfl <| Al rfl <| Ao rfl <| Al rfl <| Ao rfl <| A6 rfl <| Ba rfl <| Ac)) ?_
        refine A9 rfl (Ar Bd (Ac) (Cell.own 4 rfl rfl)) ?_
        refine WQ_c rfl (A4 bd_73 Ay (.cons (Aq rfl <| Ac) (.cons (Ac) .nil)) (part_ok (by omega) (by omega) hv.pre.1 hv.pre.2) (fun _ _ h => h)) ?_
        refine A9 rfl (Aj fd_63_1 (A6 rfl <| Ac)) ?_
        refine A9 rfl (Ar Bd (Ac) (Cell.own 0 rfl rfl)) ?_
        refine A9 rfl (Aj fd_27_2 (A6 rfl <| A0 rfl <| Aq rfl <| Al rfl <| Ao rfl <| Aq rfl <| Al rfl <| Ao rfl <| Al rfl <| Ao rfl <| A6 rfl <| Ba rfl <| Ac)) ?_
        refine A9 rfl (Ar Bd (Ac) (Cell.own 4 rfl rfl)) ?_
        refine WQ_c rfl (A4 bd_73 Ay (.cons (Aq rfl <| Ac) (.cons (Ac) .nil)) (part_ok (by omega) (by omega) hv.fee.1 hv.fee.2) (fun _ _ h => h)) ?_
        refine A9 rfl (Ad (A0 rfl <| Al rfl <| Ac)) ?_
        refine A9 rfl (Ad (Al rfl <| Ac)) ?_
        refine C4 ?_
        refine Ae <| Af <| D1 (.inl rfl) (fun _ _ h => h) (.cons_cons _ <| .cons_cons _ <| .cons_cons _ <| .cons_cons _ <| .cons_cons _ <| .refl _) [11] (by kernel_rfl) fun ds => ?_
        refine A7 0 rfl (by kernel_rfl) (by kernel_rfl) (by kernel_rfl) (by kernel_rfl) rfl rfl (fun _ h => h.drop (.cons_cons _ <| .cons_cons _ <| .cons_cons _ <| .cons_cons _ <| .cons_cons _ <| .refl _)) (fun _ _ _ h => h) (Ag (A6 rfl <| Ba rfl <| A0 rfl <| Ao rfl <| Aq rfl <| Al rfl <| At rfl hc6)) ?_
        refine A7 1 rfl (by kernel_rfl) (by kernel_rfl) (by kernel_rfl) (by kernel_rfl) rfl rfl (fun _ h => h.drop (.cons_cons _ <| .cons_cons _ <| .cons_cons _ <| .cons_cons _ <| .cons_cons _ <| .refl _)) (fun _ _ _ h => h) (Aj fd_63_0 (A6 rfl <| Ba rfl <| Ac)) ?_
        refine A7 2 rfl (by kernel_rfl) (by kernel_rfl) (by kernel_rfl) (by kernel_rfl) rfl rfl (fun _ h => h.drop (.cons_cons _ <| .cons_cons _ <| .cons_cons _ <| .cons_cons _ <| .cons_cons _ <| .refl _)) (fun _ _ _ h => h) (Ar Bd (Ac) (Cell.own 0 rfl rfl)) ?_
        refine A7 3 rfl (by kernel_rfl) (by kernel_rfl) (by kernel_rfl) (by kernel_rfl) rfl rfl (fun _ h => h.drop (.cons_cons _ <| .cons_cons _ <| .cons_cons _ <| .cons_cons _ <| .cons_cons _ <| .refl _)) (fun _ _ _ h => h) (Bn (k := c) Bl (Aq rfl <| Ac) (plain_row (Nat.le_refl _) (by omega)) (Ac) hc hcb) ?_
        refine A7 4 rfl (by kernel_rfl) (by kernel_rfl) (by kernel_rfl) (by kernel_rfl) rfl rfl (fun _ h => h.drop (.cons_cons _ <| .cons_cons _ <| .cons_cons _ <| .cons_cons _ <| .cons_cons _ <| .refl _)) (fun _ _ _ h => h) (Ar Bd (Ac) (cell_row 1 rfl (ivals_get hcb))) ?_
        refine A7 5 rfl (by kernel_rfl) (by kernel_rfl) (by kernel_rfl) (by kernel_rfl) rfl rfl (fun _ h => h.drop (.cons_cons _ <| .cons_cons _ <| .cons_cons _ <| .cons_cons _ <| .cons_cons _ <| .refl _)) (fun _ _ _ h => h) (Aj fd_63_1 (A6 rfl <| Ba rfl <| A0 rfl <| Ac)) ?_
        refine A7 6 rfl (by kernel_rfl) (by kernel_rfl) (by kernel_rfl) (by kernel_rfl) rfl rfl (fun _ h => h.drop (.cons_cons _ <| .cons_cons _ <| .cons_cons _ <| .cons_cons _ <| .cons_cons _ <| .refl _)) (fun _ _ _ h => h) (Ar Bd (Ac) (Cell.own 0 rfl rfl)) ?_
        refine A7 7 rfl (by kernel_rfl) (by kernel_rfl) (by kernel_rfl) (by kernel_rfl) rfl rfl (fun _ h => h.drop (.cons_cons _ <| .cons_cons _ <| .cons_cons _ <| .cons_cons _ <| .cons_cons _ <| .refl _)) (fun _ _ _ h => h) (Ag (Ba rfl <| Ac)) ?_
        refine A7 8 rfl (by kernel_rfl) (by kernel_rfl) (by kernel_rfl) (by kernel_rfl) rfl rfl (fun _ h => h.drop (.cons_cons _ <| .cons_cons _ <| .cons_cons _ <| .cons_cons _ <| .cons_cons _ <| .refl _)) (fun _ _ _ h => h) (B3 (Al rfl <| Ac) (Ac) rfl (by omega) (by omega)) ?_
        refine A7 9 rfl (by kernel_rfl) (by kernel_rfl) (by kernel_rfl) (by kernel_rfl) rfl rfl (fun _ h => h.drop (.cons_cons _ <| .cons_cons _ <| .cons_cons _ <| .cons_cons _ <| .cons_cons _ <| .refl _)) (fun _ _ _ h => h) (B3 (A0 rfl <| Ac) (Ac) rfl (by omega) (by omega)) ?_
        refine A7 10 rfl (by kernel_rfl) (by kernel_rfl) (by kernel_rfl) (by kernel_rfl) rfl rfl (fun _ h => h.drop (.cons_cons _ <| .cons_cons _ <| .cons_cons _ <| .cons_cons _ <| .cons_cons _ <| .refl _)) (fun _ _ _ h => h) (Bn (k := c) Bl (Ba rfl <| Al rfl <| Ac) (plain_row (Nat.le_refl _) (by omega)) (A0 rfl <| Aq rfl <| Al rfl <| Ac) hc hcb) ?_
        refine WX_x0 11 rfl (by kernel_rfl) (x_storeK sz_3 (Ac) (by simp [base, addc] : addc (base (.slice (some ⟨p6, 0, none⟩) s.bidders.length s.bidders.length)) (c * 1) = ⟨p6, c, none⟩) (Al rfl <| Ac) (i := 1) rfl (by rw [ivals_length]; omega) rfl (.next <| .here) ⟨(fun h => nomatch h), ?_⟩)
        refine C3 (by kernel_rfl) ?_ _
        refine Ae <| Af <| D1 (.inl rfl) (fun _ _ h => h) (.cons_cons _ <| .cons_cons _ <| .cons_cons _ <| .cons_cons _ <| .cons_cons _ <| .refl _) [15] (by kernel_rfl) fun ds => ?_
        refine A7 0 rfl (by kernel_rfl) (by kernel_rfl) (by kernel_rfl) (by kernel_rfl) rfl rfl (fun _ h => h.drop (.cons_cons _ <| .cons_cons _ <| .cons_cons _ <| .cons_cons _ <| .cons_cons _ <| .refl _)) (fun _ _ _ h => h) (Ag (B1 rfl <| A0 rfl <| Aq rfl <| Al rfl <| Ao rfl <| Aq rfl <| Al rfl <| At rfl hc7)) ?_
        refine A7 1 rfl (by kernel_rfl) (by kernel_rfl) (by kernel_rfl) (by kernel_rfl) rfl rfl (fun _ h => h.drop (.cons_cons _ <| .cons_cons _ <| .cons_cons _ <| .cons_cons _ <| .cons_cons _ <| .refl _)) (fun _ _ _ h => h) (Aj Du (B1 rfl <| Ba rfl <| Ao rfl <| Aq rfl <| Al rfl <| Ao rfl <| Al rfl <| Ao rfl <| A6 rfl <| Ba rfl <| Ac)) ?_
        refine A7 2 rfl (by kernel_rfl) (by kernel_rfl) (by kernel_rfl) (by kernel_rfl) rfl rfl (fun _ h => h.drop (.cons_cons _ <| .cons_cons _ <| .cons_cons _ <| .cons_cons _ <| .cons_cons _ <| .refl _)) (fun _ _ _ h => h) (Ar one_24 (Ac) (Cell.own 4 rfl rfl)) ?_
        refine A7 3 rfl (by kernel_rfl) (by kernel_rfl) (by kernel_rfl) (by kernel_rfl) rfl rfl (fun _ h => h.drop (.cons_cons _ <| .cons_cons _ <| .cons_cons _ <| .cons_cons _ <| .cons_cons _ <| .refl _)) (fun _ _ _ h => h) (Ag (B1 rfl <| A0 rfl <| Ac)) ?_
        refine A7 4 rfl (by kernel_rfl) (by kernel_rfl) (by kernel_rfl) (by kernel_rfl) rfl rfl (fun _ h => h.drop (.cons_cons _ <| .cons_cons _ <| .cons_cons _ <| .cons_cons _ <| .cons_cons _ <| .refl _)) (fun _ _ _ h => h) (Bn (k := k) Dw (Al rfl <| Ac) hr.lots.plain (Ac) rfl hkl) ?_
        refine A7 5 rfl (by kernel_rfl) (by kernel_rfl) (by kernel_rfl) (by kernel_rfl) rfl rfl (fun _ h => h.drop (.cons_cons _ <| .cons_cons _ <| .cons_cons _ <| .cons_cons _ <| .cons_cons _ <| .refl _)) (fun _ _ _ h => h) (Do fd_69_1 (Ac)) ?_
        refine A7 6 rfl (by kernel_rfl) (by kernel_rfl) (by kernel_rfl) (by kernel_rfl) rfl rfl (fun _ h => h.drop (.cons_cons _ <| .cons_cons _ <| .cons_cons _ <| .cons_cons _ <| .cons_cons _ <| .refl _)) (fun _ _ _ h => h) (Ar Bd (Ac) (hr.lots.cell hkl rfl)) ?_
        refine A7 7 rfl (by kernel_rfl) (by kernel_rfl) (by kernel_rfl) (by kernel_rfl) rfl rfl (fun _ h => h.drop (.cons_cons _ <| .cons_cons _ <| .cons_cons _ <| .cons_cons _ <| .cons_cons _ <| .refl _)) (fun _ _ _ h => h) (Bn (k := d) Bl (A0 rfl <| Aq rfl <| Ac) (plain_row (Nat.le_refl _) (by omega)) (Ac) (by rw [e1]; exact hd) hds) ?_
        refine A7 8 rfl (by kernel_rfl) (by kernel_rfl) (by kernel_rfl) (by kernel_rfl) rfl rfl (fun _ h => h.drop (.cons_cons _ <| .cons_cons _ <| .cons_cons _ <| .cons_cons _ <| .cons_cons _ <| .refl _)) (fun _ _ _ h => h) (Ar Bd (Ac) (cell_row 2 rfl (ivals_get hds))) ?_
        refine A7 9 rfl (by kernel_rfl) (by kernel_rfl) (by kernel_rfl) (by kernel_rfl) rfl rfl (fun _ h => h.drop (.cons_cons _ <| .cons_cons _ <| .cons_cons _ <| .cons_cons _ <| .cons_cons _ <| .refl _)) (fun _ _ _ h => h) (Aj fd_63_1 (B1 rfl <| Ba rfl <| Aq rfl <| Al rfl <| Ac)) ?_
        refine A7 10 rfl (by kernel_rfl) (by kernel_rfl) (by kernel_rfl) (by kernel_rfl) rfl rfl (fun _ h => h.drop (.cons_cons _ <| .cons_cons _ <| .cons_cons _ <| .cons_cons _ <| .cons_cons _ <| .refl _)) (fun _ _ _ h => h) (Ar Bd (Ac) (Cell.own 0 rfl rfl)) ?_
        refine A7 11 rfl (by kernel_rfl) (by kernel_rfl) (by kernel_rfl) (by kernel_rfl) rfl rfl (fun _ h => h.drop (.cons_cons _ <| .cons_cons _ <| .cons_cons _ <| .cons_cons _ <| .cons_cons _ <| .refl _)) (fun _ _ _ h => h) (Ag (A6 rfl <| A0 rfl <| Aq rfl <| Ac)) ?_
        refine A7 12 rfl (by kernel_rfl) (by kernel_rfl) (by kernel_rfl) (by kernel_rfl) rfl rfl (fun _ h => h.drop (.cons_cons _ <| .cons_cons _ <| .cons_cons _ <| .cons_cons _ <| .cons_cons _ <| .refl _)) (fun _ _ _ h => h) (Dn (Al rfl <| Ac) (Ac) rfl (by omega) (by omega)) ?_
        refine A7 13 rfl (by kernel_rfl) (by kernel_rfl) (by kernel_rfl) (by kernel_rfl) rfl rfl (fun _ h => h.drop (.cons_cons _ <| .cons_cons _ <| .cons_cons _ <| .cons_cons _ <| .cons_cons _ <| .refl _)) (fun _ _ _ h => h) (B3 (A0 rfl <| Ac) (Ac) rfl (by omega) (by omega)) ?_
        refine A7 14 rfl (by kernel_rfl) (by kernel_rfl) (by kernel_rfl) (by kernel_rfl) rfl rfl (fun _ h => h.drop (.cons_cons _ <| .cons_cons _ <| .cons_cons _ <| .cons_cons _ <| .cons_cons _ <| .refl _)) (fun _ _ _ h => h) (Bn (k := d) Bl (Ba rfl <| A0 rfl <| Al rfl <| Ac) (plain_row (Nat.le_refl _) (by omega)) (A0 rfl <| Aq rfl <| Al rfl <| Ac) (by rw [e1]; exact hd) hds) ?_
        refine WX_x0 15 rfl (by kernel_rfl) (x_storeK sz_3 (Ac) (by simp [base, addc] : addc (base (.slice (some ⟨p7, 0, none⟩) s.sellers.length s.sellers.length)) (d * 1) = ⟨p7, d, none⟩) (Al rfl <| Ac) (i := 2) rfl (by rw [ivals_length]; omega) rfl (.next <| .next <| .here) ⟨(fun h => nomatch h), ?_⟩)
        refine C3 (by kernel_rfl) ?_ _
        refine Ae <| Ai fun ds => Aa rfl (Ag (B1 rfl <| A6 rfl <| A0 rfl <| Aq rfl <| At rfl hu8)) ?_
        refine Aa rfl (Ag (A6 rfl <| Ba rfl <| A0 rfl <| Ac)) ?_
        refine Aa rfl (Ag (A6 rfl <| Ba rfl <| A0 rfl <| Ac)) ?_
        refine Aa rfl (B3 (Al rfl <| Ac) (Ac) rfl (by omega) (by omega)) ?_
        refine Aa rfl (B3 (Aq rfl <| Al rfl <| Ac) (Ac) rfl (by omega) (by omega)) ?_
        refine Aa rfl (Ad (Ac)) ?_
        refine Ah <| Bh <| Ae <| Cp (fun _ _ h => h.drop (.cons _ <| .cons_cons _ <| .cons_cons _ <| .cons_cons _ <| .cons_cons _ <| .refl _)) ?_
        refine Ai fun ds => Aa rfl (B3 (B1 rfl <| A6 rfl <| Ba rfl <| A0 rfl <| At rfl hu96) Ab rfl (by omega) (by omega)) ?_
        refine Aa rfl (Ag (Ac)) ?_
        refine Ah <| Ae ⟨_, m - 1, Off.eq (ou32 rfl <| De rfl <| ou8 rfl <| ou4 rfl <| ou2 rfl <| Bk), by omega, ?_⟩
        refine ⟨k + 1, by omega, (Ac), by rw [house_live hlive, ← hel]; exact (Aq rfl <| Ac), (B1 rfl <| A6 rfl <| Ba rfl <| A0 rfl <| Aq rfl <| Ao rfl <| Aq rfl <| Al rfl <| At rfl hc6), (B1 rfl <| A6 rfl <| Ba rfl <| A0 rfl <| Aq rfl <| Ao rfl <| Aq rfl <| Al rfl <| At rfl hc7), ?_⟩
        rw [← pay_set hlive (hel ▸ hc), ← get_set hlive hd, hel]
     ·
      refine Af <| Ai fun ds => Aa rfl (Bz (At rfl hu96) (Ao rfl <| Al rfl <| Ac)) ?_
      refine Ah <| Ae <| Af <| Am (Ac) (by first | rfl | exact decide_eq_false (by omega)) ?_
      obtain rfl : k = (allS s ring).length := by omega
      refine B0 ?_
      refine Bo <| Bo <| Br <| Ae <| Af <| WC_freeze0 (i := 0) rfl rfl (.here) fun F46 hF47 hz6 => ?_
      refine WC_freeze0 (i := 0) rfl rfl (.here) fun F48 hF49 hz7 => ?_
      replace hz6 := hF49 _ _ hz6
      refine Ai fun ds => Aa rfl (Ag (Al rfl <| Ao rfl <| Aq rfl <| Al rfl <| At rfl hc6)) ?_
      refine Aa rfl (Ag (Aq rfl <| Ao rfl <| Aq rfl <| Al rfl <| At rfl hc7)) ?_
      refine Aa rfl (Ag (Aq rfl <| Al rfl <| At rfl hu8)) ?_
      refine Aa rfl (Ad (Aq rfl <| Ac)) ?_
      refine Aa rfl (Ad (Aq rfl <| Ac)) ?_
      refine Aa rfl (Ad (Aq rfl <| Ac)) ?_
      refine Aa rfl (Ad Ab) ?_
      refine Ah <| Ae <| A3 <| Au rfl (.tmp (Aq rfl <| Al rfl <| Ac) (.tmp (Aq rfl <| Ac) (.tmp (Al rfl <| Ac) (.tmp (Ac) .nil)))) ?_
      rw [accE_ok hok hret]
      rw [Ef] at hz6 hz7
      exact ⟨_, _, by rw [Ef]; rfl, ivals_ints hz6 (by omega), ivals_ints hz7 (by omega)⟩
 ·
  refine Af <| Ai fun ds => Bg rfl (Ci (Ak rfl) rfl fun b50 hb50 nb50 => ?_)
  refine Aa rfl (Ad Ab) ?_
  refine Aa rfl (Ad Ab) ?_
  refine Aa rfl (Ad Ab) ?_
  refine Aa rfl (Ad Ab) ?_
  refine Ah <| Ae <| Af <| Ai fun ds => Aa rfl (Bf Cg (A0 rfl <| Ac) rfl rfl (Bi 0 rfl)) ?_
  refine Aa rfl (Ag (A0 rfl <| Aq rfl <| Ak rfl)) ?_
  refine Bw rfl (A4 bd_69 Ay (.cons (Al rfl <| Ac) (.cons (Ac) .nil)) (enter_bad hr hx hok) (fun _ _ h => h)) ?_
  refine Aa rfl (Ag (Ac)) ?_
  refine Aa rfl (Ax (Ac) rfl) ?_
  refine Aa rfl (Ax (Al rfl <| Ac) rfl) ?_
  refine Aa rfl (Ax (Aq rfl <| Ac) rfl) ?_
  refine Aa rfl (Ad (Aq rfl <| Ac)) ?_
  refine Aa rfl (Ad (Aq rfl <| Ac)) ?_
  refine Aa rfl (Ad (Aq rfl <| Ac)) ?_
  refine Ah <| Ae <| Af <| Af <| Ai fun ds => Aa rfl (Ag (Ac)) ?_
  refine Aa rfl (Ch (Ac) Ab) ?_
  refine Ah <| Ae <| As (Ac) (decide_eq_true hok) ?_
  refine Af <| Ai fun ds => Aa rfl (Ag (Aq rfl <| Ac)) ?_
  refine Aa rfl (Ad Ab) ?_
  refine Aa rfl (Ad Ab) ?_
  refine Aa rfl (Ad Ab) ?_
  refine Aa rfl (Ad (Aq rfl <| Al rfl <| Ac)) ?_
  refine Ah <| Ae <| A3 <| A5 ?_
  refine Au rfl (.tmp (Aq rfl <| Al rfl <| Ac) (.tmp (Aq rfl <| Ac) (.tmp (Al rfl <| Ac) (.tmp (Ac) .nil)))) ?_
  rw [accE_bad hok]
  exact ⟨_, _, rfl, Sl.nil, Sl.nil⟩
end Go.Proofs.Ytaikojfonleccaa
namespace Go.Proofs.Ytaikojfonleccaa
open Go.RowKit
def dstB (ops : Array Oper) (j : Nat) : Nat := match (ops[j]?).bind (·.dst) with | some d => d | none => 0
def depB (ops : Array Oper) (i j : Nat) : Bool := match ops[i]? with | some o => o.after.any fun x => Region.binds .any x && x.on == j | none => false
/-- All operations ahead of 'k' have places of their own, and wait for earlier ones only; what is behind them is at most one operation, that waits for all. -/
def factB (n : Nat) (ops : Array Oper) (k : Nat) : Bool :=
 (List.range k).all (fun i => match ops[i]? with
   | some o => (match o.dst with | some d => Nat.blt d n | none => false) && o.guard.isNone && o.after.all (fun x => !(Region.binds .any x) || Nat.blt x.on i) && (List.range i).all (fun j => !(Nat.beq (dstB ops j) (dstB ops i)))
   | none => false) &&
 (ops.size == k || (ops.size == k + 1 && (match ops[k]? with
   | some o => o.dst.isNone && o.guard.isNone && o.after.all (fun x => !(Region.binds .any x) || Nat.blt x.on k) && (List.range k).all (depB ops k)
   | none => false)))
def AllTo (H : Nat → Prop) : Nat → Prop
 | 0 => True
 | k + 1 => AllTo H k ∧ H k
theorem AllTo.get {H : Nat → Prop} : ∀ {k : Nat}, AllTo H k → ∀ i, i < k → H i
 | 0, _, i, h => absurd h (by omega)
 | k + 1, h, i, hi => by
   by_cases hk : i = k
   · subst hk; exact h.2
   · exact AllTo.get h.1 i (by omega)
section
variable {P : Program} {n : Nat} {B : Base} {e0 : Env} {σ : St}
/-- What operation 'i' does, told by facts. -/
def Hop (P : Program) (n : Nat) (B : Base) (ops : Array Oper) (k : Nat) (Φ : Nat → Heap → Value → Prop) (e0 : Env) (σ : St) (i : Nat) : Prop :=
 ∀ e F, σ.F.le F → (∀ t, (∀ j, j < k → t ≠ dstB ops j) → e t = e0 t) → (∀ j, depB ops i j = true → j < k → Φ j F (e (dstB ops j))) →
   ∃ d op ty pos af, ops[i]? = some ⟨some d, op, ty, pos, af, none⟩ ∧ OpX P n B ⟨some d, op, ty, pos, af, none⟩ e ⟨F, σ.H⟩ fun v σ' => ∃ F', σ' = ⟨F', σ.H⟩ ∧ F.le F' ∧ Φ i F' v
/-- What the operation behind all others does. -/
def Hend (P : Program) (n : Nat) (B : Base) (ops : Array Oper) (k : Nat) (Φ : Nat → Heap → Value → Prop) (e0 : Env) (σ : St) (Q : Exit → Env → St → Prop) : Prop :=
 ∀ e F, σ.F.le F → (∀ t, (∀ j, j < k → t ≠ dstB ops j) → e t = e0 t) → (∀ j, j < k → Φ j F (e (dstB ops j))) →
   (ops.size = k → Q .normal e ⟨F, σ.H⟩) ∧ (ops.size = k + 1 → ∃ op ty pos af, ops[k]? = some ⟨none, op, ty, pos, af, none⟩ ∧ OpX P n B ⟨none, op, ty, pos, af, none⟩ e ⟨F, σ.H⟩ fun _ σ' => Q .normal e σ')
/-- The same, by whether there is one. -/
def HendT (P : Program) (n : Nat) (B : Base) (ops : Array Oper) (k : Nat) (Φ : Nat → Heap → Value → Prop) (e0 : Env) (σ : St) (Q : Exit → Env → St → Prop) : Bool → Prop
 | false => ∀ e F, σ.F.le F → (∀ t, (∀ j, j < k → t ≠ dstB ops j) → e t = e0 t) → (∀ j, j < k → Φ j F (e (dstB ops j))) → Q .normal e ⟨F, σ.H⟩
 | true => ∀ e F, σ.F.le F → (∀ t, (∀ j, j < k → t ≠ dstB ops j) → e t = e0 t) → (∀ j, j < k → Φ j F (e (dstB ops j))) → ∃ op ty pos af, ops[k]? = some ⟨none, op, ty, pos, af, none⟩ ∧ OpX P n B ⟨none, op, ty, pos, af, none⟩ e ⟨F, σ.H⟩ fun _ σ' => Q .normal e σ'
theorem HendT.to {ops : Array Oper} {k : Nat} {Φ : Nat → Heap → Value → Prop} {Q : Exit → Env → St → Prop} {tail : Bool} (ht : Nat.beq ops.size (k + 1) = tail) (h : HendT P n B ops k Φ e0 σ Q tail) : Hend P n B ops k Φ e0 σ Q := by
 intro e F h1 h2 h3
 cases tail with
 | false => exact ⟨fun _ => h e F h1 h2 h3, fun hs => by rw [hs] at ht; simp at ht⟩
 | true => exact ⟨fun hs => by rw [hs] at ht; simp at ht, fun _ => h e F h1 h2 h3⟩
def freshB (ops : Array Oper) (k t : Nat) : Bool := (List.range k).all fun j => !(Nat.beq t (dstB ops j))
theorem Bx {ops : Array Oper} {k t : Nat} {e : Env} (he : ∀ t, (∀ j, j < k → t ≠ dstB ops j) → e t = e0 t) (h : freshB ops k t = true) : e t = e0 t :=
 he t fun j hj hh => by
   have := List.all_eq_true.1 h j (by simpa using hj)
   rw [← hh] at this
   simp at this
theorem Ce {e : Env} {t : Nat} {v : Value} (h : e t = v) : ev e (.tmp t) = v := h
theorem Bp {e e0 : Env} {t : Nat} {v : Value} (h0 : e t = e0 t) (h : ev e0 (.tmp t) = v) : ev e (.tmp t) = v := h0.trans h
/-- A new block that is written no more. -/
theorem OpX_freeze {o : Oper} {e : Env} {K : Value → St → Prop} (h : OpX P n B o e σ fun v σ' => ∃ b ob, B.w0.heap.size ≤ b ∧ σ' = ⟨σ.F, (b, ob) :: σ.H⟩ ∧ ∀ F', σ.F.le F' → F' b = some ob → K v ⟨F', σ.H⟩) : OpX P n B o e σ K := by
 intro a w ha hw next Qx hnext
 refine h a w ha hw next Qx fun v σ' w' hK hw' => ?_
 obtain ⟨b, ob, hb, rfl, hK⟩ := hK
 have hn := (hw'.own (b, ob) (by simp)).2.1
 have hfz := hw'.freeze (i := 0) rfl hb
 exact hnext v _ w' (hK _ (grown_le hn) D4) hfz
theorem Cw {α : Type} {F : Heap} {b T s m : Nat} {l : List Value} {enc : α → List Value} {xs : List α} (h : F b = some (bx T l)) (hl : l = xs.flatMap enc) (hm : xs.length = m) (hs : ∀ x, (enc x).length = s) (hlt : m < 281474976710656) : Sl F (.slice (some ⟨b, 0, none⟩) m m) s enc xs := by
 subst hl; subst hm
 exact Own.sl (E := T) (R := [(b, bx T (xs.flatMap enc))]) (own_box (flat_len hs xs)) hs (fun p hp => by simp at hp; subst hp; exact h) hlt
theorem depB_of {ops : Array Oper} {i : Nat} {o : Oper} (ho : ops[i]? = some o) {j : Nat} (h : depB ops i j = true) : ∃ x ∈ o.after, Region.binds .any x = true ∧ x.on = j := by
 unfold depB at h
 rw [ho] at h
 obtain ⟨x, hx, hb⟩ := Array.any_eq_true'.1 h
 simp only [Bool.and_eq_true, beq_iff_eq] at hb
 exact ⟨x, hx, hb.1, hb.2⟩
def undone (listed : Array Bool) : Nat := listed.toList.count false
theorem count_set : ∀ {l : List Bool} {i : Nat} (hi : i < l.length), l[i] = false → (l.set i true).count false + 1 = l.count false
 | [], i, hi, _ => by simp at hi
 | a :: l, 0, _, hv => by simp at hv; subst hv; simp
 | a :: l, i + 1, hi, hv => by
   have := count_set (l := l) (i := i) (by simpa using hi) (by simpa using hv)
   simp only [List.set_cons_succ, List.count_cons]
   omega
theorem undone_set {listed : Array Bool} {i : Nat} (h : listed.getD i true = false) : undone (listed.setIfInBounds i true) + 1 = undone listed := by
 have hi : i < listed.size := by
   rcases Nat.lt_or_ge i listed.size with h' | h'
   · exact h'
   · simp [Array.getD, Nat.not_lt.2 h'] at h
 have hv : listed.toList[i]'(by simpa using hi) = false := by simpa [Array.getD, hi] using h
 unfold undone
 rw [Array.toList_setIfInBounds]
 exact count_set (by simpa using hi) hv
theorem factB_op {ops : Array Oper} {k : Nat} (hB : factB n ops k = true) {i : Nat} (hi : i < k) : ∃ o d, ops[i]? = some o ∧ o.dst = some d ∧ d < n ∧ o.guard = none ∧ (∀ x ∈ o.after, Region.binds .any x = true → x.on < i) ∧ ∀ j, j < i → dstB ops j ≠ dstB ops i := by
 unfold factB at hB
 simp only [Bool.and_eq_true] at hB
 have h := List.all_eq_true.1 hB.1 i (by simpa using hi)
 split at h
 · rename_i o ho
   simp only [Bool.and_eq_true] at h
   obtain ⟨⟨⟨h1, h2⟩, h3⟩, h4⟩ := h
   split at h1
   · rename_i d hd
     refine ⟨o, d, ho, hd, by simpa using h1, by simpa using h2, fun x hx hb => ?_, fun j hj he => ?_⟩
     · have := Array.all_eq_true'.1 h3 x hx
       simpa [hb] using this
     · have := List.all_eq_true.1 h4 j (by simpa using hj)
       rw [he] at this
       simp at this
   · cases h1
 · cases h
theorem factB_end {ops : Array Oper} {k : Nat} (hB : factB n ops k = true) : ops.size = k ∨ (ops.size = k + 1 ∧ ∃ o, ops[k]? = some o ∧ o.dst = none ∧ o.guard = none ∧ (∀ x ∈ o.after, Region.binds .any x = true → x.on < k) ∧ ∀ j, j < k → depB ops k j = true) := by
 unfold factB at hB
 simp only [Bool.and_eq_true, Bool.or_eq_true, beq_iff_eq] at hB
 rcases hB.2 with h | ⟨h1, h2⟩
 · exact .inl h
 · refine .inr ⟨h1, ?_⟩
   split at h2
   · rename_i o ho
     simp only [Bool.and_eq_true] at h2
     obtain ⟨⟨⟨q1, q2⟩, q3⟩, q4⟩ := h2
     refine ⟨o, ho, by simpa using q1, by simpa using q2, fun x hx hb => ?_, fun j hj => ?_⟩
     · have := Array.all_eq_true'.1 q3 x hx
       simpa [hb] using this
     · exact List.all_eq_true.1 q4 j (by simpa using hj)
   · cases h2
theorem wpAny_facts {ops : Array Oper} {k : Nat} {Φ : Nat → Heap → Value → Prop} {Q : Exit → Env → St → Prop} (hB : factB n ops k = true) (hm : ∀ i F F' v, F.le F' → Φ i F v → Φ i F' v)
   (hops : AllTo (Hop P n B ops k Φ e0 σ) k) (hend : Hend P n B ops k Φ e0 σ Q) : ∀ (fuel : Nat) (listed : Array Bool) (a : Act) (w : World) (e : Env) (F : Heap), Fits n B a e → Holds B ⟨F, σ.H⟩ w → σ.F.le F →
     (∀ t, (∀ j, j < k → t ≠ dstB ops j) → e t = e0 t) → (∀ j, j < k → listed.getD j false = true → Φ j F (e (dstB ops j))) → listed.size = ops.size → listed.getD k false = false → undone listed = fuel →
     wpAny P .any ops (lift n B Q) fuel listed a w := by
 have hready : ∀ (listed : Array Bool), listed.size = ops.size → undone listed ≠ 0 → ∃ i, i ∈ Region.ready .any ops listed := by
   intro listed hsz hun
   have hex : ∃ i, i < listed.size ∧ listed.getD i false = false := by
     have : false ∈ listed.toList := by
       rw [← List.count_pos_iff]; unfold undone at hun; omega
     obtain ⟨i, hi, he⟩ := List.mem_iff_getElem.1 this
     exact ⟨i, by simpa using hi, by simp at hi; simp [Array.getD, hi]; simpa using he⟩
   obtain ⟨i, ⟨hi, hli⟩, hmin⟩ := least_exists hex
   refine ⟨i, mem_ready.2 ⟨by simp [Array.getD, hi] at hli ⊢; exact hli, ?_⟩⟩
   have hlt : ∀ j, j < i → listed.getD j false = true := fun j hj => by
     cases hc : listed.getD j false with
     | true => rfl
     | false => exact absurd (hmin j ⟨by omega, hc⟩) (by omega)
   by_cases hik : i < k
   · obtain ⟨o, d, h1, -, -, -, h5, -⟩ := factB_op hB hik
     exact ⟨o, h1, fun x hx hb => hlt _ (h5 x hx hb)⟩
   · rcases factB_end hB with h | ⟨h, o, h1, -, -, h4, -⟩
     · omega
     · have : i = k := by omega
       subst this
       exact ⟨o, h1, fun x hx hb => hlt _ (h4 x hx hb)⟩
 intro fuel
 induction fuel with
 | zero =>
   intro listed a w e F hf hw hF he hΦ hsz hk0 hun
   have hall : ∀ j, j < listed.size → listed.getD j false = true := fun j hj => by
     cases hc : listed.getD j false with
     | true => rfl
     | false =>
       have h1 : false ∈ listed.toList := List.mem_iff_getElem.2 ⟨j, by simpa using hj, by simp [Array.getD, hj] at hc; simpa using hc⟩
       rw [← List.count_pos_iff] at h1
       unfold undone at hun; omega
   have hsk : ops.size = k := by
     rcases factB_end hB with h | ⟨h, -⟩
     · exact h
     · have := hall k (by omega); rw [hk0] at this; cases this
   refine ⟨?_, B.ds, e, ⟨F, σ.H⟩, hf, hw, (hend e F hF he fun j hj => hΦ j hj (hall j (by omega))).1 hsk⟩
   cases hr : Region.ready .any ops listed with
   | nil => rfl
   | cons i l =>
     have : i ∈ Region.ready .any ops listed := by rw [hr]; simp
     obtain ⟨h1, o, ho, -⟩ := mem_ready.1 this
     have hi : i < listed.size := by rw [hsz]; exact (Array.getElem?_eq_some_iff.1 ho).1
     have h2 := hall i hi
     simp [Array.getD, hi] at h1 h2
     rw [h1] at h2; cases h2
 | succ fuel ih =>
   intro listed a w e F hf hw hF he hΦ hsz hk0 hun
   obtain ⟨i0, hi0⟩ := hready listed hsz (by omega)
   refine ⟨fun h => (by rw [h] at hi0; cases hi0), fun i hi => ?_⟩
   obtain ⟨h1, o, ho, hdeps⟩ := mem_ready.1 hi
   have hil : i < listed.size := by rw [hsz]; exact (Array.getElem?_eq_some_iff.1 ho).1
   have hun' := undone_set h1
   by_cases hik : i < k
   · obtain ⟨o', d', h2, h3, h4, h5, h6, h7⟩ := factB_op hB hik
     obtain ⟨d, op, ty, pos, af, q1, q2⟩ := hops.get i hik e F hF he fun j hj hjk => by
       obtain ⟨x, hx, hb, rfl⟩ := depB_of ho hj
       exact hΦ _ hjk (hdeps x hx hb)
     rw [q1] at ho
     cases ho
     rw [q1] at h2
     cases h2
     have hdd : dstB ops i = d := by unfold dstB; rw [q1]; rfl
     have hdn : d < n := by
       have : d = d' := by simpa using h3
       subst this; exact h4
     unfold wpOp
     simp only [q1]
     rw [if_pos (by simp [Region.wanted])]
     refine .inl (q2 a w hf hw _ _ fun v σ' w' hK hw' => ?_)
     obtain ⟨F', rfl, hle, hφ⟩ := hK
     refine ih (listed.setIfInBounds i true) _ w' (upd e d v) F' (hf.put hdn v) hw' (Heap.le_trans hF hle) (fun t ht => ?_) (fun j hj hlj => ?_) (by simpa using hsz) ?_ (by omega)
     · unfold upd
       rw [if_neg (fun h => ht i hik (by rw [h, hdd]))]
       exact he t ht
     · by_cases hji : j = i
       · subst hji
         rw [hdd]
         simp only [upd, if_true]
         exact hφ
       · have hne : dstB ops j ≠ d := by
           rw [← hdd]
           rcases Nat.lt_or_ge j i with h | h
           · exact h7 j h
           · obtain ⟨-, -, -, -, -, -, -, h8⟩ := factB_op hB hj
             exact (h8 i (by omega)).symm
         simp only [upd, if_neg hne]
         rw [getD_set_ne false (Ne.symm hji)] at hlj
         exact hm _ _ _ _ hle (hΦ j hj hlj)
     · rw [getD_set_ne false (by omega)]; exact hk0
   · rcases factB_end hB with h | ⟨h, o', q1, q2, q3, q4, q5⟩
     · omega
     · have hie : i = k := by omega
       subst hie
       rw [q1] at ho
       cases ho
       have hfull : ∀ j, j < i → listed.getD j false = true := fun j hj => by
         obtain ⟨x, hx, hb, rfl⟩ := depB_of q1 (q5 j hj)
         exact hdeps x hx hb
       obtain ⟨op, ty, pos, af, p1, p2⟩ := (hend e F hF he fun j hj => hΦ j hj (hfull j hj)).2 h
       rw [q1] at p1
       cases p1
       unfold wpOp
       simp only [q1]
       rw [if_pos (by simp [Region.wanted])]
       refine .inl (p2 a w hf hw _ _ fun v σ' w' hK hw' => ?_)
       have hz : fuel = 0 := by
         have hcnt : undone (listed.setIfInBounds i true) = 0 := by
           have hall : ∀ j, j < (listed.setIfInBounds i true).size → (listed.setIfInBounds i true).getD j false = true := fun j hj => by
             by_cases hji : j = i
             · subst hji; simp [Array.getD, hil]
             · rw [getD_set_ne false (Ne.symm hji)]
               exact hfull j (by simp at hj; omega)
           unfold undone
           rw [List.count_eq_zero]
           intro hmem
           obtain ⟨j, hj, hje⟩ := List.mem_iff_getElem.1 hmem
           have hj' : j < (listed.setIfInBounds i true).size := by simpa using hj
           have h9 := hall j hj'
           simp only [Array.getD, hj', dif_pos] at h9
           rw [Array.getElem_toList] at hje
           have h10 : (listed.setIfInBounds i true)[j]'hj' = true := h9
           rw [h10] at hje; cases hje
         omega
       subst hz
       refine ⟨?_, B.ds, e, σ', hf, hw', hK⟩
       cases hr : Region.ready .any ops (listed.setIfInBounds i true) with
       | nil => rfl
       | cons q l =>
         have hq : q ∈ Region.ready .any ops (listed.setIfInBounds i true) := by rw [hr]; simp
         obtain ⟨h1q, o, hoq, -⟩ := mem_ready.1 hq
         have hqs : q < listed.size := by rw [hsz]; exact (Array.getElem?_eq_some_iff.1 hoq).1
         by_cases hqi : q = i
         · subst hqi; simp [Array.getD, hil] at h1q
         · have h2 := hfull q (by omega)
           rw [getD_set_ne true (Ne.symm hqi)] at h1q
           simp [Array.getD, hqs] at h1q h2
           rw [h1q] at h2; cases h2
def AllMono : List (Heap → Value → Prop) → Prop
 | [] => True
 | p :: l => (∀ F F' v, F.le F' → p F v → p F' v) ∧ AllMono l
def phiOf : List (Heap → Value → Prop) → Nat → Heap → Value → Prop
 | [], _ => fun _ _ => True
 | p :: _, 0 => p
 | _ :: l, i + 1 => phiOf l i
theorem AllMono.phi : ∀ {l : List (Heap → Value → Prop)}, AllMono l → ∀ i F F' v, F.le F' → phiOf l i F v → phiOf l i F' v
 | [], _, _, _, _, _, _, h => h
 | _ :: _, h, 0, _, _, _, hF, hp => h.1 _ _ _ hF hp
 | _ :: _, h, i + 1, _, _, _, hF, hp => h.2.phi i _ _ _ hF hp
theorem WC_drawF {id : Nat} {l : List Oper} {Q : Exit → Env → St → Prop} (k : Nat) (hp : Plainly B.ro l) (hO : ∀ e σ, Q .outgrown e σ → False) (hm : P.follows .mixedOrders = true) (hB : factB n l.toArray k = true) (tail : Bool) (ht : Nat.beq l.toArray.size (k + 1) = tail)
   (φs : List (Heap → Value → Prop)) (hmono : AllMono φs)
   (hops : ∀ ds, AllTo (Hop P n (B.at ds) l.toArray k (phiOf φs) e0 σ) k) (hend : ∀ ds, HendT P n (B.at ds) l.toArray k (phiOf φs) e0 σ Q tail) : WC P n B (.region id l.toArray true) Q e0 σ := by
 intro ds a w ha hw
 refine wpIn_region_any hm (wpAny_in (lift_in hO) (by simpa using hp.mem) _ _ _ _ ?_)
 have := wpAny_facts (P := P) (e0 := e0) (σ := σ) (Q := Q) hB hmono.phi (hops ds) ((hend ds).to ht) l.toArray.size (Array.replicate l.toArray.size false) a _ e0 σ.F ha hw.drew (Heap.le_refl _) (fun _ _ => rfl) (fun j _ h => by simp [Array.getD] at h) (by simp) (by simp [Array.getD]) (by simp [undone, List.count_replicate])
 exact this
end
end Go.Proofs.Ytaikojfonleccaa
namespace Go.Proofs.Ytaikojfonleccaa
open Go.RowKit
theorem ring_len {s : Sale} (hv : ValidS s) {ring : List Int} (h1 : ringErr s ring = 0) : ring.length ≤ 6 := by
 obtain ⟨ha, hn, -⟩ := ringErr_ok h1
 have key : ∀ k (hk : k < ring.length), (k : Int) ≤ ring[k] := by
   intro k
   induction k with
   | zero => intro hk; exact (in_bounds (in_of_any ha hk)).1
   | succ k ih =>
     intro hk
     have h2 := ih (by omega)
     have h3 := asc_not hn hk (by omega)
     simp only [Nat.add_sub_cancel] at h3
     omega
 have hnb := hv.nb
 rcases Nat.eq_zero_or_pos ring.length with h | h
 · omega
 · have h2 := key (ring.length - 1) (by omega)
   have h3 := (in_bounds (in_of_any ha (k := ring.length - 1) (by omega))).2
   omega
end Go.Proofs.Ytaikojfonleccaa
namespace Go.Proofs.Ytaikojfonleccaa
open Go.RowKit
section
variable {P : Program} {n : Nat} {B : Base} {e : Env} {σ : St} {d : Option Nat} {ty : TypeId} {pos : String} {af : Array Edge} {gd : Option (Nat × Bool)}
theorem q_neqZ2 {T : Nat} {x y : Operand} {a0 b0 a1 b1 : Int} {u : TypeId} {f0 f1 : Field} {k0 k1 : IntKind} (hu : P.underlying T = some (.struct #[f0, f1])) (hst : P.stoodInHeld T = false) (hg : P.eqGuardType P.depth T = false)
   (n0 : f0.name ≠ "_") (n1 : f1.name ≠ "_") (o0 : f0.offset = 0) (o1 : f1.offset = 1) (h0 : P.underlying f0.type = some (.int k0)) (h1 : P.underlying f1.type = some (.int k1)) (s0 : OneT P f0.type) (s1 : OneT P f1.type)
   (hx : ev e x = .agg #[.int .i64 a0, .int .i64 a1]) (hy : ev e y = .agg #[.int .i64 b0, .int .i64 b1]) :
   OpR P B ⟨d, .binOp .neq T x y u, ty, pos, af, gd⟩ e σ (.bool (!((a0 == b0) && (a1 == b1)))) := fun w _ => by
 have hf : P.fieldsOf T = #[f0, f1] := by simp [Program.fieldsOf, hu]
 have hu' : P.underlying T = some (.struct (P.fieldsOf T)) := by rw [hf]; exact hu
 have p0 : ∀ cs : Array Value, ∀ v, cs[0]? = some v → (part f0.type cs f0.offset).run P w = .ok v w := fun cs v hv => by simp [part, run_one s0, o0, hv]
 have p1 : ∀ cs : Array Value, ∀ v, cs[1]? = some v → (part f1.type cs f1.offset).run P w = .ok v w := fun cs v hv => by simp [part, run_one s1, o1, hv]
 have he := run_neq_struct (P := P) w T #[.int .i64 a0, .int .i64 a1] #[.int .i64 b0, .int .i64 b1]
 rw [run_equalIn_struct w 9999 T _ _ hu' hst, hf] at he
 have hgd := run_eqGuard_agg (P := P) w .neq T x y #[.int .i64 a0, .int .i64 a1] #[.int .i64 b0, .int .i64 b1] hg
 simp only [execOp, hx, hy, Sem.run_bind, hgd, Result.andThen_ok, he]
 simp only [Op.eqFields, ne_eq, n0, n1, not_false_eq_true, if_true, Sem.run_bind, p0 _ _ (show (#[Value.int .i64 a0, Value.int .i64 a1] : Array Value)[0]? = some (.int .i64 a0) from rfl), p0 _ _ (show (#[Value.int .i64 b0, Value.int .i64 b1] : Array Value)[0]? = some (.int .i64 b0) from rfl), Result.andThen_ok, run_equalIn_int w 9998 f0.type .i64 k0 a0 b0 h0]
 cases hab : (a0 == b0) with
 | false => simp
 | true =>
   simp [p1 _ _ (show (#[Value.int .i64 a0, Value.int .i64 a1] : Array Value)[1]? = some (.int .i64 a1) from rfl), p1 _ _ (show (#[Value.int .i64 b0, Value.int .i64 b1] : Array Value)[1]? = some (.int .i64 b1) from rfl), run_equalIn_int w 9998 f1.type .i64 k1 a1 b1 h1]
   by_cases hc : a1 = b1 <;> simp [hc]
end
end Go.Proofs.Ytaikojfonleccaa
