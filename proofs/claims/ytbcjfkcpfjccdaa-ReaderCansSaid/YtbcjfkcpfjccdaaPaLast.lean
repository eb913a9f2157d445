/-
  ReaderCans returns true of any room, seat and requests, and leaves what it is handed as it was. No conditions.
-/
import Derived.Test.YtbcjfkcpfjccdaaPae
import Derived.KernelRfl
namespace Go.Proofs.Ytbcjfkcpfjccdaa
open Go.RowKit
def dstB (ops : Array Oper) (j : Nat) : Nat := match (ops[j]?).bind (·.dst) with | some d => d | none => 0
def depB (ops : Array Oper) (i j : Nat) : Bool := match ops[i]? with | some o => o.after.any fun x => Region.binds .any x && x.on == j | none => false
/-- All operations ahead of 'k' have places of their own, and wait for earlier ones only; what is behind them is at most one operation, that waits for all. -/
def factB (n : Nat) (ops : Array Oper) (k : Nat) : Bool :=
  (List.range k).all (fun i => match ops[i]? with
    | some o => (match o.dst with | some d => Nat.blt d n | none => false) && o.guard.isNone && o.after.all (fun x => !(Region.binds .any x) || Nat.blt x.on i) && (List.range i).all (fun j => !(Nat.beq (dstB ops j) (dstB ops i)))
    | none => false) &&
  (ops.size == k || (ops.size == k + 1 && (match ops[k]? with
    | some o => o.dst.isNone && o.guard.isNone && o.after.all (fun x => !(Region.binds .any x) || Nat.blt x.on k) && (List.range k).all (depB ops k)
    | none => false)))
def AllTo (H : Nat → Prop) : Nat → Prop
  | 0 => True
  | k + 1 => AllTo H k ∧ H k
theorem AllTo.get {H : Nat → Prop} : ∀ {k : Nat}, AllTo H k → ∀ i, i < k → H i
  | 0, _, i, h => absurd h (by omega)
  | k + 1, h, i, hi => by
    by_cases hk : i = k
    · subst hk; exact h.2
    · exact AllTo.get h.1 i (by omega)
section
variable {P : Program} {n : Nat} {B : Base} {e0 : Env} {σ : St}
/-- What operation 'i' does, told by facts. -/
def Hop (P : Program) (n : Nat) (B : Base) (ops : Array Oper) (k : Nat) (Φ : Nat → Heap → Value → Prop) (e0 : Env) (σ : St) (i : Nat) : Prop :=
  ∀ e F, σ.F.le F → (∀ t, (∀ j, j < k → t ≠ dstB ops j) → e t = e0 t) → (∀ j, depB ops i j = true → j < k → Φ j F (e (dstB ops j))) →
    ∃ d op ty pos af, ops[i]? = some ⟨some d, op, ty, pos, af, none⟩ ∧ OpX P n B ⟨some d, op, ty, pos, af, none⟩ e ⟨F, σ.H⟩ fun v σ' => ∃ F', σ' = ⟨F', σ.H⟩ ∧ F.le F' ∧ Φ i F' v
/-- What the operation behind all others does. -/
def Hend (P : Program) (n : Nat) (B : Base) (ops : Array Oper) (k : Nat) (Φ : Nat → Heap → Value → Prop) (e0 : Env) (σ : St) (Q : Exit → Env → St → Prop) : Prop :=
  ∀ e F, σ.F.le F → (∀ t, (∀ j, j < k → t ≠ dstB ops j) → e t = e0 t) → (∀ j, j < k → Φ j F (e (dstB ops j))) →
    (ops.size = k → Q .normal e ⟨F, σ.H⟩) ∧ (ops.size = k + 1 → ∃ op ty pos af, ops[k]? = some ⟨none, op, ty, pos, af, none⟩ ∧ OpX P n B ⟨none, op, ty, pos, af, none⟩ e ⟨F, σ.H⟩ fun _ σ' => Q .normal e σ')
/-- The same, by whether there is one. -/
def HendT (P : Program) (n : Nat) (B : Base) (ops : Array Oper) (k : Nat) (Φ : Nat → Heap → Value → Prop) (e0 : Env) (σ : St) (Q : Exit → Env → St → Prop) : Bool → Prop
  | false => ∀ e F, σ.F.le F → (∀ t, (∀ j, j < k → t ≠ dstB ops j) → e t = e0 t) → (∀ j, j < k → Φ j F (e (dstB ops j))) → Q .normal e ⟨F, σ.H⟩
  | true => ∀ e F, σ.F.le F → (∀ t, (∀ j, j < k → t ≠ dstB ops j) → e t = e0 t) → (∀ j, j < k → Φ j F (e (dstB ops j))) → ∃ op ty pos af, ops[k]? = some ⟨none, op, ty, pos, af, none⟩ ∧ OpX P n B ⟨none, op, ty, pos, af, none⟩ e ⟨F, σ.H⟩ fun _ σ' => Q .normal e σ'
theorem HendT.to {ops : Array Oper} {k : Nat} {Φ : Nat → Heap → Value → Prop} {Q : Exit → Env → St → Prop} {tail : Bool} (ht : Nat.beq ops.size (k + 1) = tail) (h : HendT P n B ops k Φ e0 σ Q tail) : Hend P n B ops k Φ e0 σ Q := by
  intro e F h1 h2 h3
  cases tail with
  | false => exact ⟨fun _ => h e F h1 h2 h3, fun hs => by rw [hs] at ht; simp at ht⟩
  | true => exact ⟨fun hs => by rw [hs] at ht; simp at ht, fun _ => h e F h1 h2 h3⟩
def freshB (ops : Array Oper) (k t : Nat) : Bool := (List.range k).all fun j => !(Nat.beq t (dstB ops j))
theorem he_of {ops : Array Oper} {k t : Nat} {e : Env} (he : ∀ t, (∀ j, j < k → t ≠ dstB ops j) → e t = e0 t) (h : freshB ops k t = true) : e t = e0 t :=
  he t fun j hj hh => by
    have := List.all_eq_true.1 h j (by simpa using hj)
    rw [← hh] at this
    simp at this
theorem lk_eq {e : Env} {t : Nat} {v : Value} (h : e t = v) : ev e (.tmp t) = v := h
theorem lk_old {e e0 : Env} {t : Nat} {v : Value} (h0 : e t = e0 t) (h : ev e0 (.tmp t) = v) : ev e (.tmp t) = v := h0.trans h
/-- A new block that is written no more. -/
theorem OpX_freeze {o : Oper} {e : Env} {K : Value → St → Prop} (h : OpX P n B o e σ fun v σ' => ∃ b ob, B.w0.heap.size ≤ b ∧ σ' = ⟨σ.F, (b, ob) :: σ.H⟩ ∧ ∀ F', σ.F.le F' → F' b = some ob → K v ⟨F', σ.H⟩) : OpX P n B o e σ K := by
  intro a w ha hw next Qx hnext
  refine h a w ha hw next Qx fun v σ' w' hK hw' => ?_
  obtain ⟨b, ob, hb, rfl, hK⟩ := hK
  have hn := (hw'.own (b, ob) (by simp)).2.1
  have hfz := hw'.freeze (i := 0) rfl hb
  exact hnext v _ w' (hK _ (grown_le hn) grown_here) hfz
theorem sl_box {α : Type} {F : Heap} {b T s m : Nat} {l : List Value} {enc : α → List Value} {xs : List α} (h : F b = some (bx T l)) (hl : l = xs.flatMap enc) (hm : xs.length = m) (hs : ∀ x, (enc x).length = s) (hlt : m < 281474976710656) : Sl F (.slice (some ⟨b, 0, none⟩) m m) s enc xs := by
  subst hl; subst hm
  exact Own.sl (E := T) (R := [(b, bx T (xs.flatMap enc))]) (own_box (flat_len hs xs)) hs (fun p hp => by simp at hp; subst hp; exact h) hlt
theorem depB_of {ops : Array Oper} {i : Nat} {o : Oper} (ho : ops[i]? = some o) {j : Nat} (h : depB ops i j = true) : ∃ x ∈ o.after, Region.binds .any x = true ∧ x.on = j := by
  unfold depB at h
  rw [ho] at h
  obtain ⟨x, hx, hb⟩ := Array.any_eq_true'.1 h
  simp only [Bool.and_eq_true, beq_iff_eq] at hb
  exact ⟨x, hx, hb.1, hb.2⟩
def undone (listed : Array Bool) : Nat := listed.toList.count false
theorem count_set : ∀ {l : List Bool} {i : Nat} (hi : i < l.length), l[i] = false → (l.set i true).count false + 1 = l.count false
  | [], i, hi, _ => by simp at hi
  | a :: l, 0, _, hv => by simp at hv; subst hv; simp
  | a :: l, i + 1, hi, hv => by
    have := count_set (l := l) (i := i) (by simpa using hi) (by simpa using hv)
    simp only [List.set_cons_succ, List.count_cons]
    omega
theorem undone_set {listed : Array Bool} {i : Nat} (h : listed.getD i true = false) : undone (listed.setIfInBounds i true) + 1 = undone listed := by
  have hi : i < listed.size := by
    rcases Nat.lt_or_ge i listed.size with h' | h'
    · exact h'
    · simp [Array.getD, Nat.not_lt.2 h'] at h
  have hv : listed.toList[i]'(by simpa using hi) = false := by simpa [Array.getD, hi] using h
  unfold undone
  rw [Array.toList_setIfInBounds]
  exact count_set (by simpa using hi) hv
theorem factB_op {ops : Array Oper} {k : Nat} (hB : factB n ops k = true) {i : Nat} (hi : i < k) : ∃ o d, ops[i]? = some o ∧ o.dst = some d ∧ d < n ∧ o.guard = none ∧ (∀ x ∈ o.after, Region.binds .any x = true → x.on < i) ∧ ∀ j, j < i → dstB ops j ≠ dstB ops i := by
  unfold factB at hB
  simp only [Bool.and_eq_true] at hB
  have h := List.all_eq_true.1 hB.1 i (by simpa using hi)
  split at h
  · rename_i o ho
    simp only [Bool.and_eq_true] at h
    obtain ⟨⟨⟨h1, h2⟩, h3⟩, h4⟩ := h
    split at h1
    · rename_i d hd
      refine ⟨o, d, ho, hd, by simpa using h1, by simpa using h2, fun x hx hb => ?_, fun j hj he => ?_⟩
      · have := Array.all_eq_true'.1 h3 x hx
        simpa [hb] using this
      · have := List.all_eq_true.1 h4 j (by simpa using hj)
        rw [he] at this
        simp at this
    · cases h1
  · cases h
theorem factB_end {ops : Array Oper} {k : Nat} (hB : factB n ops k = true) : ops.size = k ∨ (ops.size = k + 1 ∧ ∃ o, ops[k]? = some o ∧ o.dst = none ∧ o.guard = none ∧ (∀ x ∈ o.after, Region.binds .any x = true → x.on < k) ∧ ∀ j, j < k → depB ops k j = true) := by
  unfold factB at hB
  simp only [Bool.and_eq_true, Bool.or_eq_true, beq_iff_eq] at hB
  rcases hB.2 with h | ⟨h1, h2⟩
  · exact .inl h
  · refine .inr ⟨h1, ?_⟩
    split at h2
    · rename_i o ho
      simp only [Bool.and_eq_true] at h2
      obtain ⟨⟨⟨q1, q2⟩, q3⟩, q4⟩ := h2
      refine ⟨o, ho, by simpa using q1, by simpa using q2, fun x hx hb => ?_, fun j hj => ?_⟩
      · have := Array.all_eq_true'.1 q3 x hx
        simpa [hb] using this
      · exact List.all_eq_true.1 q4 j (by simpa using hj)
    · cases h2
theorem wpAny_facts {ops : Array Oper} {k : Nat} {Φ : Nat → Heap → Value → Prop} {Q : Exit → Env → St → Prop} (hB : factB n ops k = true) (hm : ∀ i F F' v, F.le F' → Φ i F v → Φ i F' v)
    (hops : AllTo (Hop P n B ops k Φ e0 σ) k) (hend : Hend P n B ops k Φ e0 σ Q) : ∀ (fuel : Nat) (listed : Array Bool) (a : Act) (w : World) (e : Env) (F : Heap), Fits n B a e → Holds B ⟨F, σ.H⟩ w → σ.F.le F →
      (∀ t, (∀ j, j < k → t ≠ dstB ops j) → e t = e0 t) → (∀ j, j < k → listed.getD j false = true → Φ j F (e (dstB ops j))) → listed.size = ops.size → listed.getD k false = false → undone listed = fuel →
      wpAny P .any ops (lift n B Q) fuel listed a w := by
  have hready : ∀ (listed : Array Bool), listed.size = ops.size → undone listed ≠ 0 → ∃ i, i ∈ Region.ready .any ops listed := by
    intro listed hsz hun
    have hex : ∃ i, i < listed.size ∧ listed.getD i false = false := by
      have : false ∈ listed.toList := by
        rw [← List.count_pos_iff]; unfold undone at hun; omega
      obtain ⟨i, hi, he⟩ := List.mem_iff_getElem.1 this
      exact ⟨i, by simpa using hi, by simp at hi; simp [Array.getD, hi]; simpa using he⟩
    obtain ⟨i, ⟨hi, hli⟩, hmin⟩ := least_exists hex
    refine ⟨i, mem_ready.2 ⟨by simp [Array.getD, hi] at hli ⊢; exact hli, ?_⟩⟩
    have hlt : ∀ j, j < i → listed.getD j false = true := fun j hj => by
      cases hc : listed.getD j false with
      | true => rfl
      | false => exact absurd (hmin j ⟨by omega, hc⟩) (by omega)
    by_cases hik : i < k
    · obtain ⟨o, d, h1, -, -, -, h5, -⟩ := factB_op hB hik
      exact ⟨o, h1, fun x hx hb => hlt _ (h5 x hx hb)⟩
    · rcases factB_end hB with h | ⟨h, o, h1, -, -, h4, -⟩
      · omega
      · have : i = k := by omega
        subst this
        exact ⟨o, h1, fun x hx hb => hlt _ (h4 x hx hb)⟩
  intro fuel
  induction fuel with
  | zero =>
    intro listed a w e F hf hw hF he hΦ hsz hk0 hun
    have hall : ∀ j, j < listed.size → listed.getD j false = true := fun j hj => by
      cases hc : listed.getD j false with
      | true => rfl
      | false =>
        have h1 : false ∈ listed.toList := List.mem_iff_getElem.2 ⟨j, by simpa using hj, by simp [Array.getD, hj] at hc; simpa using hc⟩
        rw [← List.count_pos_iff] at h1
        unfold undone at hun; omega
    have hsk : ops.size = k := by
      rcases factB_end hB with h | ⟨h, -⟩
      · exact h
      · have := hall k (by omega); rw [hk0] at this; cases this
    refine ⟨?_, B.ds, e, ⟨F, σ.H⟩, hf, hw, (hend e F hF he fun j hj => hΦ j hj (hall j (by omega))).1 hsk⟩
    cases hr : Region.ready .any ops listed with
    | nil => rfl
    | cons i l =>
      have : i ∈ Region.ready .any ops listed := by rw [hr]; simp
      obtain ⟨h1, o, ho, -⟩ := mem_ready.1 this
      have hi : i < listed.size := by rw [hsz]; exact (Array.getElem?_eq_some_iff.1 ho).1
      have h2 := hall i hi
      simp [Array.getD, hi] at h1 h2
      rw [h1] at h2; cases h2
  | succ fuel ih =>
    intro listed a w e F hf hw hF he hΦ hsz hk0 hun
    obtain ⟨i0, hi0⟩ := hready listed hsz (by omega)
    refine ⟨fun h => (by rw [h] at hi0; cases hi0), fun i hi => ?_⟩
    obtain ⟨h1, o, ho, hdeps⟩ := mem_ready.1 hi
    have hil : i < listed.size := by rw [hsz]; exact (Array.getElem?_eq_some_iff.1 ho).1
    have hun' := undone_set h1
    by_cases hik : i < k
    · obtain ⟨o', d', h2, h3, h4, h5, h6, h7⟩ := factB_op hB hik
      obtain ⟨d, op, ty, pos, af, q1, q2⟩ := hops.get i hik e F hF he fun j hj hjk => by
        obtain ⟨x, hx, hb, rfl⟩ := depB_of ho hj
        exact hΦ _ hjk (hdeps x hx hb)
      rw [q1] at ho
      cases ho
      rw [q1] at h2
      cases h2
      have hdd : dstB ops i = d := by unfold dstB; rw [q1]; rfl
      have hdn : d < n := by
        have : d = d' := by simpa using h3
        subst this; exact h4
      unfold wpOp
      simp only [q1]
      rw [if_pos (by simp [Region.wanted])]
      refine .inl (q2 a w hf hw _ _ fun v σ' w' hK hw' => ?_)
      obtain ⟨F', rfl, hle, hφ⟩ := hK
      refine ih (listed.setIfInBounds i true) _ w' (upd e d v) F' (hf.put hdn v) hw' (Heap.le_trans hF hle) (fun t ht => ?_) (fun j hj hlj => ?_) (by simpa using hsz) ?_ (by omega)
      · unfold upd
        rw [if_neg (fun h => ht i hik (by rw [h, hdd]))]
        exact he t ht
      · by_cases hji : j = i
        · subst hji
          rw [hdd]
          simp only [upd, if_true]
          exact hφ
        · have hne : dstB ops j ≠ d := by
            rw [← hdd]
            rcases Nat.lt_or_ge j i with h | h
            · exact h7 j h
            · obtain ⟨-, -, -, -, -, -, -, h8⟩ := factB_op hB hj
              exact (h8 i (by omega)).symm
          simp only [upd, if_neg hne]
          rw [getD_set_ne false (Ne.symm hji)] at hlj
          exact hm _ _ _ _ hle (hΦ j hj hlj)
      · rw [getD_set_ne false (by omega)]; exact hk0
    · rcases factB_end hB with h | ⟨h, o', q1, q2, q3, q4, q5⟩
      · omega
      · have hie : i = k := by omega
        subst hie
        rw [q1] at ho
        cases ho
        have hfull : ∀ j, j < i → listed.getD j false = true := fun j hj => by
          obtain ⟨x, hx, hb, rfl⟩ := depB_of q1 (q5 j hj)
          exact hdeps x hx hb
        obtain ⟨op, ty, pos, af, p1, p2⟩ := (hend e F hF he fun j hj => hΦ j hj (hfull j hj)).2 h
        rw [q1] at p1
        cases p1
        unfold wpOp
        simp only [q1]
        rw [if_pos (by simp [Region.wanted])]
        refine .inl (p2 a w hf hw _ _ fun v σ' w' hK hw' => ?_)
        have hz : fuel = 0 := by
          have hcnt : undone (listed.setIfInBounds i true) = 0 := by
            have hall : ∀ j, j < (listed.setIfInBounds i true).size → (listed.setIfInBounds i true).getD j false = true := fun j hj => by
              by_cases hji : j = i
              · subst hji; simp [Array.getD, hil]
              · rw [getD_set_ne false (Ne.symm hji)]
                exact hfull j (by simp at hj; omega)
            unfold undone
            rw [List.count_eq_zero]
            intro hmem
            obtain ⟨j, hj, hje⟩ := List.mem_iff_getElem.1 hmem
            have hj' : j < (listed.setIfInBounds i true).size := by simpa using hj
            have h9 := hall j hj'
            simp only [Array.getD, hj', dif_pos] at h9
            rw [Array.getElem_toList] at hje
            have h10 : (listed.setIfInBounds i true)[j]'hj' = true := h9
            rw [h10] at hje; cases hje
          omega
        subst hz
        refine ⟨?_, B.ds, e, σ', hf, hw', hK⟩
        cases hr : Region.ready .any ops (listed.setIfInBounds i true) with
        | nil => rfl
        | cons q l =>
          have hq : q ∈ Region.ready .any ops (listed.setIfInBounds i true) := by rw [hr]; simp
          obtain ⟨h1q, o, hoq, -⟩ := mem_ready.1 hq
          have hqs : q < listed.size := by rw [hsz]; exact (Array.getElem?_eq_some_iff.1 hoq).1
          by_cases hqi : q = i
          · subst hqi; simp [Array.getD, hil] at h1q
          · have h2 := hfull q (by omega)
            rw [getD_set_ne true (Ne.symm hqi)] at h1q
            simp [Array.getD, hqs] at h1q h2
            rw [h1q] at h2; cases h2
def AllMono : List (Heap → Value → Prop) → Prop
  | [] => True
  | p :: l => (∀ F F' v, F.le F' → p F v → p F' v) ∧ AllMono l
def phiOf : List (Heap → Value → Prop) → Nat → Heap → Value → Prop
  | [], _ => fun _ _ => True
  | p :: _, 0 => p
  | _ :: l, i + 1 => phiOf l i
theorem AllMono.phi : ∀ {l : List (Heap → Value → Prop)}, AllMono l → ∀ i F F' v, F.le F' → phiOf l i F v → phiOf l i F' v
  | [], _, _, _, _, _, _, h => h
  | _ :: _, h, 0, _, _, _, hF, hp => h.1 _ _ _ hF hp
  | _ :: _, h, i + 1, _, _, _, hF, hp => h.2.phi i _ _ _ hF hp
theorem WC_drawF {id : Nat} {l : List Oper} {Q : Exit → Env → St → Prop} (k : Nat) (hp : Plainly B.ro l) (hO : ∀ e σ, Q .outgrown e σ → False) (hm : P.follows .mixedOrders = true) (hB : factB n l.toArray k = true) (tail : Bool) (ht : Nat.beq l.toArray.size (k + 1) = tail)
    (φs : List (Heap → Value → Prop)) (hmono : AllMono φs)
    (hops : ∀ ds, AllTo (Hop P n (B.at ds) l.toArray k (phiOf φs) e0 σ) k) (hend : ∀ ds, HendT P n (B.at ds) l.toArray k (phiOf φs) e0 σ Q tail) : WC P n B (.region id l.toArray true) Q e0 σ := by
  intro ds a w ha hw
  refine wpIn_region_any hm (wpAny_in (lift_in hO) (by simpa using hp.mem) _ _ _ _ ?_)
  have := wpAny_facts (P := P) (e0 := e0) (σ := σ) (Q := Q) hB hmono.phi (hops ds) ((hend ds).to ht) l.toArray.size (Array.replicate l.toArray.size false) a _ e0 σ.F ha hw.drew (Heap.le_refl _) (fun _ _ => rfl) (fun j _ h => by simp [Array.getD] at h) (by simp) (by simp [Array.getD]) (by simp [undone, List.count_replicate])
  exact this
end
end Go.Proofs.Ytbcjfkcpfjccdaa
namespace Go.Proofs.Ytbcjfkcpfjccdaa
open Go.RowKit
theorem bd_46 : Body Try.prog 46 := body_of (by kernel_rfl)
theorem bd_79 : Body Try.prog 79 := body_of (by kernel_rfl)
theorem bt_27 : BuildT Try.prog 27 [.slice none 0 0, .slice none 0 0, .slice none 0 0, .slice none 0 0] [(0, 1), (1, 1), (2, 1), (3, 1)] := buildT_of zr_27 (by kernel_rfl) (by decide)
theorem bt_58 : BuildT Try.prog 58 [.int .i64 0, .int .i64 0, .int .i64 0, .int .i64 0] [(0, 1), (1, 1), (2, 1), (3, 1)] := buildT_of zr_58 (by kernel_rfl) (by decide)
theorem bt_62 : BuildT Try.prog 62 [.string ⟨#[]⟩, .int .i64 0, .int .i64 0, .int .i64 0, .bool false] [(0, 1), (1, 1), (2, 2), (4, 1)] := buildT_of zr_62 (by kernel_rfl) (by decide)
theorem bt_64 : BuildT Try.prog 64 [.string ⟨#[]⟩, .int .i64 0] [(0, 1), (1, 1)] := buildT_of zr_64 (by kernel_rfl) (by decide)
theorem bt_66 : BuildT Try.prog 66 [.int .i64 0, .bool false] [(0, 1), (1, 1)] := buildT_of zr_66 (by kernel_rfl) (by decide)
set_option maxRecDepth 100000 in
theorem span_ok {F : Heap} (a b : Int) : Ok Try.prog 46 [.int .i64 a, .int .i64 b].toArray F fun r _ => r = .agg #[.int .i64 a, .int .i64 b] := by
  refine Ok.intro Try.func46 rfl Try.ntmps46 rfl fun w0 => ?_
  refine WC_seq ?_
  refine WC_reg fun ds => ?_
  refine WL_x rfl (x_alloc zr_60 rfl fun b1 hb1 nb1 => ?_)
  refine WL_nil ?_
  refine then_n ?_
  refine WC_seq ?_
  refine WC_reg fun ds => ?_
  refine WL_q rfl (q_move (lk1 rfl <| lk_entry rfl)) ?_
  refine WL_q rfl (q_move (lk2 rfl <| lk_entry rfl)) ?_
  refine WL_q rfl (q_build bt_60 (.cons (lk1 rfl <| lk0) rfl (.cons (lk0) rfl .nil)) (.cons rfl rfl (Nat.le_of_ble_eq_true rfl) (.cons (.here) .nil) (.cons rfl rfl (Nat.le_of_ble_eq_true rfl) (.cons (.next <| .here) .nil) .nil))) ?_
  refine WL_x0 (x_storeA sz_60 (lk2 rfl <| lk1 rfl <| lk0) (lk0) (i := 0) rfl rfl rfl rfl (by simp [Value.oneCell']) (.here) ?_)
  refine WL_nil ?_
  refine then_n ?_
  refine WC_ret ?_
  refine post_ret rfl (.agg agg_60 (lk2 rfl <| lk1 rfl <| lk0) rfl rfl (own_whole 0 rfl) .nil) ?_
  rfl
set_option maxRecDepth 100000 in
theorem request_ok {F : Heap} (a b c d : Int) : Ok Try.prog 79 [.int .i64 a, .int .i64 b, .int .i64 c, .int .i64 d].toArray F fun r _ => r = .agg #[.int .i64 a, .int .i64 b, .int .i64 c, .int .i64 d] := by
  refine Ok.intro Try.func79 rfl Try.ntmps79 rfl fun w0 => ?_
  refine WC_seq ?_
  refine WC_reg fun ds => ?_
  refine WL_x rfl (x_alloc zr_58 rfl fun b1 hb1 nb1 => ?_)
  refine WL_nil ?_
  refine then_n ?_
  refine WC_seq ?_
  refine WC_reg fun ds => ?_
  refine WL_q rfl (q_move (lk1 rfl <| lk_entry rfl)) ?_
  refine WL_q rfl (q_move (lk2 rfl <| lk_entry rfl)) ?_
  refine WL_q rfl (q_move (lk2 rfl <| lk1 rfl <| lk_entry rfl)) ?_
  refine WL_q rfl (q_move (lk4 rfl <| lk_entry rfl)) ?_
  refine WL_q rfl (q_build bt_58 (.cons (lk2 rfl <| lk1 rfl <| lk0) rfl (.cons (lk2 rfl <| lk0) rfl (.cons (lk1 rfl <| lk0) rfl (.cons (lk0) rfl .nil)))) (.cons rfl rfl (Nat.le_of_ble_eq_true rfl) (.cons (.here) .nil) (.cons rfl rfl (Nat.le_of_ble_eq_true rfl) (.cons (.next <| .here) .nil) (.cons rfl rfl (Nat.le_of_ble_eq_true rfl) (.cons (.next <| .next <| .here) .nil) (.cons rfl rfl (Nat.le_of_ble_eq_true rfl) (.cons (.next <| .next <| .next <| .here) .nil) .nil))))) ?_
  refine WL_x0 (x_storeA sz_58 (lk4 rfl <| lk1 rfl <| lk0) (lk0) (i := 0) rfl rfl rfl rfl (by simp [Value.oneCell']) (.here) ?_)
  refine WL_nil ?_
  refine then_n ?_
  refine WC_ret ?_
  refine post_ret rfl (.agg agg_58 (lk4 rfl <| lk1 rfl <| lk0) rfl rfl (own_whole 0 rfl) .nil) ?_
  rfl
set_option maxRecDepth 100000 in
theorem room_ok {F : Heap} {n : Nat} (hn : n ≤ seats3.length) : Ok Try.prog 36 [.int .i64 (n : Int)].toArray F fun u F' => ∃ vb vr vs vq, u = .agg #[vb, vr, vs, vq] ∧ RoomR F' vb vr vs vq (roomX n) := by
  refine Ok.intro Try.func36 rfl Try.ntmps36 rfl fun w0 => ?_
  refine WC_seq ?_
  refine WC_reg fun ds => ?_
  refine WL_x rfl (x_alloc zr_27 rfl fun b1 hb1 nb1 => ?_)
  refine WL_nil ?_
  refine then_n ?_
  refine WC_seq ?_
  refine WC_drawF 23 (.inl rfl) (fun _ _ h => h) (by kernel_rfl) (by kernel_rfl) true rfl ([fun F v => v = .agg #[.int .i64 40, .int .i64 60], fun F v => v = .agg (Book.enc bkA).toArray, fun F v => v = .agg #[.int .i64 10, .int .i64 10], fun F v => v = .agg (Book.enc bkP).toArray, fun F v => v = .agg #[.int .i64 200, .int .i64 200], fun F v => v = .agg (Book.enc bkN).toArray, fun F v => Sl F v 5 Book.enc [bkA, bkP, bkN], fun F v => v = .agg (Rdr.enc rdA).toArray, fun F v => v = .agg (Rdr.enc rdB).toArray, fun F v => Sl F v 2 Rdr.enc [rdA, rdB], fun F v => v = .agg (Seat.enc ⟨10, false⟩).toArray, fun F v => v = .agg (Seat.enc ⟨4, true⟩).toArray, fun F v => v = .agg (Seat.enc ⟨5, false⟩).toArray, fun F v => Sl F v 2 Seat.enc seats3, fun F v => v = .int .i64 (n : Int), fun F v => Sl F v 2 Seat.enc (seats3.take n), fun F v => v = .agg #[.int .i64 0, .int .i64 0, .int .i64 6, .int .i64 20], fun F v => v = .agg #[.int .i64 1, .int .i64 1, .int .i64 2, .int .i64 30], fun F v => v = .agg #[.int .i64 0, .int .i64 2, .int .i64 8, .int .i64 10], fun F v => v = .agg #[.int .i64 0, .int .i64 1, .int .i64 1, .int .i64 50], fun F v => v = .agg #[.int .i64 1, .int .i64 0, .int .i64 4, .int .i64 15], fun F v => Sl F v 4 Req.enc reqs5, fun F v => ∃ vb vr vs vq, v = .agg #[vb, vr, vs, vq] ∧ RoomR F vb vr vs vq (roomX n)]) (⟨fun F F2 v hF h => h, fun F F2 v hF h => h, fun F F2 v hF h => h, fun F F2 v hF h => h, fun F F2 v hF h => h, fun F F2 v hF h => h, fun F F2 v hF h => h.mono hF, fun F F2 v hF h => h, fun F F2 v hF h => h, fun F F2 v hF h => h.mono hF, fun F F2 v hF h => h, fun F F2 v hF h => h, fun F F2 v hF h => h, fun F F2 v hF h => h.mono hF, fun F F2 v hF h => h, fun F F2 v hF h => h.mono hF, fun F F2 v hF h => h, fun F F2 v hF h => h, fun F F2 v hF h => h, fun F F2 v hF h => h, fun F F2 v hF h => h, fun F F2 v hF h => h.mono hF, fun F F2 v hF h => h.imp fun vb h => h.imp fun vr h => h.imp fun vs h => h.imp fun vq h => ⟨h.1, h.2.mono hF⟩, trivial⟩) (fun ds => ?_) (fun ds => ?_)
  ·
   refine ⟨⟨⟨⟨⟨⟨⟨⟨⟨⟨⟨⟨⟨⟨⟨⟨⟨⟨⟨⟨⟨⟨⟨trivial, ?_⟩, ?_⟩, ?_⟩, ?_⟩, ?_⟩, ?_⟩, ?_⟩, ?_⟩, ?_⟩, ?_⟩, ?_⟩, ?_⟩, ?_⟩, ?_⟩, ?_⟩, ?_⟩, ?_⟩, ?_⟩, ?_⟩, ?_⟩, ?_⟩, ?_⟩, ?_⟩
   ·
    intro e1 F1 hF1 he hj
    refine ⟨_, _, _, _, _, rfl, ?_⟩
    refine x_quiet (q_call bd_46 lk_func (.cons lk_const (.cons lk_const .nil)) (span_ok _ _) (fun _ _ h => h)) ⟨_, rfl, Heap.le_refl _, rfl⟩
   ·
    intro e1 F1 hF1 he hj
    have g3 : (e1 3) = .agg #[.int .i64 40, .int .i64 60] := hj 0 (by kernel_rfl) (by decide)
    refine ⟨_, _, _, _, _, rfl, ?_⟩
    refine x_quiet (q_build bt_62 (.cons lk_const rfl (.cons lk_const rfl (.cons (lk_eq g3) rfl (.cons lk_const rfl .nil)))) (.cons rfl rfl (Nat.le_of_ble_eq_true rfl) (.cons (.here) .nil) (.cons rfl rfl (Nat.le_of_ble_eq_true rfl) (.cons (.next <| .here) .nil) (.cons rfl rfl (Nat.le_of_ble_eq_true rfl) (.cons (.next <| .next <| .here) (.cons (.next <| .next <| .next <| .here) .nil)) (.cons rfl rfl (Nat.le_of_ble_eq_true rfl) (.cons (.next <| .next <| .next <| .next <| .here) .nil) .nil))))).quiet ⟨_, rfl, Heap.le_refl _, rfl⟩
   ·
    intro e1 F1 hF1 he hj
    have g3 : (e1 3) = .agg #[.int .i64 40, .int .i64 60] := hj 0 (by kernel_rfl) (by decide)
    refine ⟨_, _, _, _, _, rfl, ?_⟩
    refine x_quiet (q_call bd_46 lk_func (.cons lk_const (.cons lk_const .nil)) (span_ok _ _) (fun _ _ h => h)) ⟨_, rfl, Heap.le_refl _, rfl⟩
   ·
    intro e1 F1 hF1 he hj
    have g5 : (e1 5) = .agg #[.int .i64 10, .int .i64 10] := hj 2 (by kernel_rfl) (by decide)
    refine ⟨_, _, _, _, _, rfl, ?_⟩
    refine x_quiet (q_build bt_62 (.cons lk_const rfl (.cons lk_const rfl (.cons (lk_eq g5) rfl .nil))) (.cons rfl rfl (Nat.le_of_ble_eq_true rfl) (.cons (.here) .nil) (.cons rfl rfl (Nat.le_of_ble_eq_true rfl) (.cons (.next <| .here) .nil) (.cons rfl rfl (Nat.le_of_ble_eq_true rfl) (.cons (.next <| .next <| .here) (.cons (.next <| .next <| .next <| .here) .nil)) .nil)))).quiet ⟨_, rfl, Heap.le_refl _, rfl⟩
   ·
    intro e1 F1 hF1 he hj
    have g5 : (e1 5) = .agg #[.int .i64 10, .int .i64 10] := hj 2 (by kernel_rfl) (by decide)
    refine ⟨_, _, _, _, _, rfl, ?_⟩
    refine x_quiet (q_call bd_46 lk_func (.cons lk_const (.cons lk_const .nil)) (span_ok _ _) (fun _ _ h => h)) ⟨_, rfl, Heap.le_refl _, rfl⟩
   ·
    intro e1 F1 hF1 he hj
    have g7 : (e1 7) = .agg #[.int .i64 200, .int .i64 200] := hj 4 (by kernel_rfl) (by decide)
    refine ⟨_, _, _, _, _, rfl, ?_⟩
    refine x_quiet (q_build bt_62 (.cons lk_const rfl (.cons lk_const rfl (.cons (lk_eq g7) rfl .nil))) (.cons rfl rfl (Nat.le_of_ble_eq_true rfl) (.cons (.here) .nil) (.cons rfl rfl (Nat.le_of_ble_eq_true rfl) (.cons (.next <| .here) .nil) (.cons rfl rfl (Nat.le_of_ble_eq_true rfl) (.cons (.next <| .next <| .here) (.cons (.next <| .next <| .next <| .here) .nil)) .nil)))).quiet ⟨_, rfl, Heap.le_refl _, rfl⟩
   ·
    intro e1 F1 hF1 he hj
    have g4 : (e1 4) = .agg (Book.enc bkA).toArray := hj 1 (by kernel_rfl) (by decide)
    have g6 : (e1 6) = .agg (Book.enc bkP).toArray := hj 3 (by kernel_rfl) (by decide)
    have g8 : (e1 8) = .agg (Book.enc bkN).toArray := hj 5 (by kernel_rfl) (by decide)
    refine ⟨_, _, _, _, _, rfl, ?_⟩
    refine OpX_freeze (x_buildN (offs := [(0, 5), (5, 5), (10, 5)]) (zl := [.string ⟨#[]⟩, .int .i64 0, .int .i64 0, .int .i64 0, .bool false, .string ⟨#[]⟩, .int .i64 0, .int .i64 0, .int .i64 0, .bool false, .string ⟨#[]⟩, .int .i64 0, .int .i64 0, .int .i64 0, .bool false]) sl_22 zr_62 rfl (.cons (lk_eq g4) rfl (.cons (lk_eq g6) rfl (.cons (lk_eq g8) rfl .nil))) (by intro i p h; rcases i with _ | _ | _ | i <;> simp at h <;> subst h <;> rfl) (.cons rfl rfl (Nat.le_of_ble_eq_true rfl) (.cons (.here) (.cons (.next <| .here) (.cons (.next <| .next <| .here) (.cons (.next <| .next <| .next <| .here) (.cons (.next <| .next <| .next <| .next <| .here) .nil))))) (.cons rfl rfl (Nat.le_of_ble_eq_true rfl) (.cons (.next <| .next <| .next <| .next <| .next <| .here) (.cons (.next <| .next <| .next <| .next <| .next <| .next <| .here) (.cons (.next <| .next <| .next <| .next <| .next <| .next <| .next <| .here) (.cons (.next <| .next <| .next <| .next <| .next <| .next <| .next <| .next <| .here) (.cons (.next <| .next <| .next <| .next <| .next <| .next <| .next <| .next <| .next <| .here) .nil))))) (.cons rfl rfl (Nat.le_of_ble_eq_true rfl) (.cons (.next <| .next <| .next <| .next <| .next <| .next <| .next <| .next <| .next <| .next <| .here) (.cons (.next <| .next <| .next <| .next <| .next <| .next <| .next <| .next <| .next <| .next <| .next <| .here) (.cons (.next <| .next <| .next <| .next <| .next <| .next <| .next <| .next <| .next <| .next <| .next <| .next <| .here) (.cons (.next <| .next <| .next <| .next <| .next <| .next <| .next <| .next <| .next <| .next <| .next <| .next <| .next <| .here) (.cons (.next <| .next <| .next <| .next <| .next <| .next <| .next <| .next <| .next <| .next <| .next <| .next <| .next <| .next <| .here) .nil))))) .nil))) (by decide) (by decide) fun b hb nb => ⟨b, _, hb, rfl, fun F2 hF2 hz => ⟨F2, rfl, hF2, (sl_box (xs := [bkA, bkP, bkN]) hz rfl rfl (fun _ => rfl) (by decide))⟩⟩)
   ·
    intro e1 F1 hF1 he hj
    refine ⟨_, _, _, _, _, rfl, ?_⟩
    refine x_quiet (q_build bt_64 (.cons lk_const rfl (.cons lk_const rfl .nil)) (.cons rfl rfl (Nat.le_of_ble_eq_true rfl) (.cons (.here) .nil) (.cons rfl rfl (Nat.le_of_ble_eq_true rfl) (.cons (.next <| .here) .nil) .nil))).quiet ⟨_, rfl, Heap.le_refl _, rfl⟩
   ·
    intro e1 F1 hF1 he hj
    refine ⟨_, _, _, _, _, rfl, ?_⟩
    refine x_quiet (q_build bt_64 (.cons lk_const rfl (.cons lk_const rfl .nil)) (.cons rfl rfl (Nat.le_of_ble_eq_true rfl) (.cons (.here) .nil) (.cons rfl rfl (Nat.le_of_ble_eq_true rfl) (.cons (.next <| .here) .nil) .nil))).quiet ⟨_, rfl, Heap.le_refl _, rfl⟩
   ·
    intro e1 F1 hF1 he hj
    have g10 : (e1 10) = .agg (Rdr.enc rdA).toArray := hj 7 (by kernel_rfl) (by decide)
    have g11 : (e1 11) = .agg (Rdr.enc rdB).toArray := hj 8 (by kernel_rfl) (by decide)
    refine ⟨_, _, _, _, _, rfl, ?_⟩
    refine OpX_freeze (x_buildN (offs := [(0, 2), (2, 2)]) (zl := [.string ⟨#[]⟩, .int .i64 0, .string ⟨#[]⟩, .int .i64 0]) sl_23 zr_64 rfl (.cons (lk_eq g10) rfl (.cons (lk_eq g11) rfl .nil)) (by intro i p h; rcases i with _ | _ | i <;> simp at h <;> subst h <;> rfl) (.cons rfl rfl (Nat.le_of_ble_eq_true rfl) (.cons (.here) (.cons (.next <| .here) .nil)) (.cons rfl rfl (Nat.le_of_ble_eq_true rfl) (.cons (.next <| .next <| .here) (.cons (.next <| .next <| .next <| .here) .nil)) .nil)) (by decide) (by decide) fun b hb nb => ⟨b, _, hb, rfl, fun F2 hF2 hz => ⟨F2, rfl, hF2, (sl_box (xs := [rdA, rdB]) hz rfl rfl (fun _ => rfl) (by decide))⟩⟩)
   ·
    intro e1 F1 hF1 he hj
    refine ⟨_, _, _, _, _, rfl, ?_⟩
    refine x_quiet (q_build bt_66 (.cons lk_const rfl .nil) (.cons rfl rfl (Nat.le_of_ble_eq_true rfl) (.cons (.here) .nil) .nil)).quiet ⟨_, rfl, Heap.le_refl _, rfl⟩
   ·
    intro e1 F1 hF1 he hj
    refine ⟨_, _, _, _, _, rfl, ?_⟩
    refine x_quiet (q_build bt_66 (.cons lk_const rfl (.cons lk_const rfl .nil)) (.cons rfl rfl (Nat.le_of_ble_eq_true rfl) (.cons (.here) .nil) (.cons rfl rfl (Nat.le_of_ble_eq_true rfl) (.cons (.next <| .here) .nil) .nil))).quiet ⟨_, rfl, Heap.le_refl _, rfl⟩
   ·
    intro e1 F1 hF1 he hj
    refine ⟨_, _, _, _, _, rfl, ?_⟩
    refine x_quiet (q_build bt_66 (.cons lk_const rfl .nil) (.cons rfl rfl (Nat.le_of_ble_eq_true rfl) (.cons (.here) .nil) .nil)).quiet ⟨_, rfl, Heap.le_refl _, rfl⟩
   ·
    intro e1 F1 hF1 he hj
    have g13 : (e1 13) = .agg (Seat.enc ⟨10, false⟩).toArray := hj 10 (by kernel_rfl) (by decide)
    have g14 : (e1 14) = .agg (Seat.enc ⟨4, true⟩).toArray := hj 11 (by kernel_rfl) (by decide)
    have g15 : (e1 15) = .agg (Seat.enc ⟨5, false⟩).toArray := hj 12 (by kernel_rfl) (by decide)
    refine ⟨_, _, _, _, _, rfl, ?_⟩
    refine OpX_freeze (x_buildN (offs := [(0, 2), (2, 2), (4, 2)]) (zl := [.int .i64 0, .bool false, .int .i64 0, .bool false, .int .i64 0, .bool false]) sl_24 zr_66 rfl (.cons (lk_eq g13) rfl (.cons (lk_eq g14) rfl (.cons (lk_eq g15) rfl .nil))) (by intro i p h; rcases i with _ | _ | _ | i <;> simp at h <;> subst h <;> rfl) (.cons rfl rfl (Nat.le_of_ble_eq_true rfl) (.cons (.here) (.cons (.next <| .here) .nil)) (.cons rfl rfl (Nat.le_of_ble_eq_true rfl) (.cons (.next <| .next <| .here) (.cons (.next <| .next <| .next <| .here) .nil)) (.cons rfl rfl (Nat.le_of_ble_eq_true rfl) (.cons (.next <| .next <| .next <| .next <| .here) (.cons (.next <| .next <| .next <| .next <| .next <| .here) .nil)) .nil))) (by decide) (by decide) fun b hb nb => ⟨b, _, hb, rfl, fun F2 hF2 hz => ⟨F2, rfl, hF2, (sl_box (xs := seats3) hz rfl rfl (fun _ => rfl) (by decide))⟩⟩)
   ·
    intro e1 F1 hF1 he hj
    refine ⟨_, _, _, _, _, rfl, ?_⟩
    refine x_quiet (q_move (lk_old (he_of he (by kernel_rfl)) <| lk1 rfl <| lk_entry rfl)).quiet ⟨_, rfl, Heap.le_refl _, rfl⟩
   ·
    intro e1 F1 hF1 he hj
    have g16 : Sl F1 (e1 16) 2 Seat.enc seats3 := hj 13 (by kernel_rfl) (by decide)
    have g17 : (e1 17) = .int .i64 (n : Int) := hj 14 (by kernel_rfl) (by decide)
    refine ⟨_, _, _, _, _, rfl, ?_⟩
    refine x_quiet (q_sliceTo sl_24 (lk_eq rfl) g16.plain (lk_eq g17) (k := n) rfl hn).quiet ⟨_, rfl, Heap.le_refl _, (g16.to (k := n) hn)⟩
   ·
    intro e1 F1 hF1 he hj
    have g7 : (e1 7) = .agg #[.int .i64 200, .int .i64 200] := hj 4 (by kernel_rfl) (by decide)
    refine ⟨_, _, _, _, _, rfl, ?_⟩
    refine x_quiet (q_call bd_79 lk_func (.cons lk_const (.cons lk_const (.cons lk_const (.cons lk_const .nil)))) (request_ok _ _ _ _) (fun _ _ h => h)) ⟨_, rfl, Heap.le_refl _, rfl⟩
   ·
    intro e1 F1 hF1 he hj
    have g19 : (e1 19) = .agg #[.int .i64 0, .int .i64 0, .int .i64 6, .int .i64 20] := hj 16 (by kernel_rfl) (by decide)
    refine ⟨_, _, _, _, _, rfl, ?_⟩
    refine x_quiet (q_call bd_79 lk_func (.cons lk_const (.cons lk_const (.cons lk_const (.cons lk_const .nil)))) (request_ok _ _ _ _) (fun _ _ h => h)) ⟨_, rfl, Heap.le_refl _, rfl⟩
   ·
    intro e1 F1 hF1 he hj
    have g20 : (e1 20) = .agg #[.int .i64 1, .int .i64 1, .int .i64 2, .int .i64 30] := hj 17 (by kernel_rfl) (by decide)
    refine ⟨_, _, _, _, _, rfl, ?_⟩
    refine x_quiet (q_call bd_79 lk_func (.cons lk_const (.cons lk_const (.cons lk_const (.cons lk_const .nil)))) (request_ok _ _ _ _) (fun _ _ h => h)) ⟨_, rfl, Heap.le_refl _, rfl⟩
   ·
    intro e1 F1 hF1 he hj
    have g21 : (e1 21) = .agg #[.int .i64 0, .int .i64 2, .int .i64 8, .int .i64 10] := hj 18 (by kernel_rfl) (by decide)
    refine ⟨_, _, _, _, _, rfl, ?_⟩
    refine x_quiet (q_call bd_79 lk_func (.cons lk_const (.cons lk_const (.cons lk_const (.cons lk_const .nil)))) (request_ok _ _ _ _) (fun _ _ h => h)) ⟨_, rfl, Heap.le_refl _, rfl⟩
   ·
    intro e1 F1 hF1 he hj
    have g22 : (e1 22) = .agg #[.int .i64 0, .int .i64 1, .int .i64 1, .int .i64 50] := hj 19 (by kernel_rfl) (by decide)
    refine ⟨_, _, _, _, _, rfl, ?_⟩
    refine x_quiet (q_call bd_79 lk_func (.cons lk_const (.cons lk_const (.cons lk_const (.cons lk_const .nil)))) (request_ok _ _ _ _) (fun _ _ h => h)) ⟨_, rfl, Heap.le_refl _, rfl⟩
   ·
    intro e1 F1 hF1 he hj
    have g19 : (e1 19) = .agg #[.int .i64 0, .int .i64 0, .int .i64 6, .int .i64 20] := hj 16 (by kernel_rfl) (by decide)
    have g20 : (e1 20) = .agg #[.int .i64 1, .int .i64 1, .int .i64 2, .int .i64 30] := hj 17 (by kernel_rfl) (by decide)
    have g21 : (e1 21) = .agg #[.int .i64 0, .int .i64 2, .int .i64 8, .int .i64 10] := hj 18 (by kernel_rfl) (by decide)
    have g22 : (e1 22) = .agg #[.int .i64 0, .int .i64 1, .int .i64 1, .int .i64 50] := hj 19 (by kernel_rfl) (by decide)
    have g23 : (e1 23) = .agg #[.int .i64 1, .int .i64 0, .int .i64 4, .int .i64 15] := hj 20 (by kernel_rfl) (by decide)
    refine ⟨_, _, _, _, _, rfl, ?_⟩
    refine OpX_freeze (x_buildN (offs := [(0, 4), (4, 4), (8, 4), (12, 4), (16, 4)]) (zl := [.int .i64 0, .int .i64 0, .int .i64 0, .int .i64 0, .int .i64 0, .int .i64 0, .int .i64 0, .int .i64 0, .int .i64 0, .int .i64 0, .int .i64 0, .int .i64 0, .int .i64 0, .int .i64 0, .int .i64 0, .int .i64 0, .int .i64 0, .int .i64 0, .int .i64 0, .int .i64 0]) sl_25 zr_58 rfl (.cons (lk_eq g19) rfl (.cons (lk_eq g20) rfl (.cons (lk_eq g21) rfl (.cons (lk_eq g22) rfl (.cons (lk_eq g23) rfl .nil))))) (by intro i p h; rcases i with _ | _ | _ | _ | _ | i <;> simp at h <;> subst h <;> rfl) (.cons rfl rfl (Nat.le_of_ble_eq_true rfl) (.cons (.here) (.cons (.next <| .here) (.cons (.next <| .next <| .here) (.cons (.next <| .next <| .next <| .here) .nil)))) (.cons rfl rfl (Nat.le_of_ble_eq_true rfl) (.cons (.next <| .next <| .next <| .next <| .here) (.cons (.next <| .next <| .next <| .next <| .next <| .here) (.cons (.next <| .next <| .next <| .next <| .next <| .next <| .here) (.cons (.next <| .next <| .next <| .next <| .next <| .next <| .next <| .here) .nil)))) (.cons rfl rfl (Nat.le_of_ble_eq_true rfl) (.cons (.next <| .next <| .next <| .next <| .next <| .next <| .next <| .next <| .here) (.cons (.next <| .next <| .next <| .next <| .next <| .next <| .next <| .next <| .next <| .here) (.cons (.next <| .next <| .next <| .next <| .next <| .next <| .next <| .next <| .next <| .next <| .here) (.cons (.next <| .next <| .next <| .next <| .next <| .next <| .next <| .next <| .next <| .next <| .next <| .here) .nil)))) (.cons rfl rfl (Nat.le_of_ble_eq_true rfl) (.cons (.next <| .next <| .next <| .next <| .next <| .next <| .next <| .next <| .next <| .next <| .next <| .next <| .here) (.cons (.next <| .next <| .next <| .next <| .next <| .next <| .next <| .next <| .next <| .next <| .next <| .next <| .next <| .here) (.cons (.next <| .next <| .next <| .next <| .next <| .next <| .next <| .next <| .next <| .next <| .next <| .next <| .next <| .next <| .here) (.cons (.next <| .next <| .next <| .next <| .next <| .next <| .next <| .next <| .next <| .next <| .next <| .next <| .next <| .next <| .next <| .here) .nil)))) (.cons rfl rfl (Nat.le_of_ble_eq_true rfl) (.cons (.next <| .next <| .next <| .next <| .next <| .next <| .next <| .next <| .next <| .next <| .next <| .next <| .next <| .next <| .next <| .next <| .here) (.cons (.next <| .next <| .next <| .next <| .next <| .next <| .next <| .next <| .next <| .next <| .next <| .next <| .next <| .next <| .next <| .next <| .next <| .here) (.cons (.next <| .next <| .next <| .next <| .next <| .next <| .next <| .next <| .next <| .next <| .next <| .next <| .next <| .next <| .next <| .next <| .next <| .next <| .here) (.cons (.next <| .next <| .next <| .next <| .next <| .next <| .next <| .next <| .next <| .next <| .next <| .next <| .next <| .next <| .next <| .next <| .next <| .next <| .next <| .here) .nil)))) .nil))))) (by decide) (by decide) fun b hb nb => ⟨b, _, hb, rfl, fun F2 hF2 hz => ⟨F2, rfl, hF2, (sl_box (xs := reqs5) hz rfl rfl (fun _ => rfl) (by decide))⟩⟩)
   ·
    intro e1 F1 hF1 he hj
    have g9 : Sl F1 (e1 9) 5 Book.enc [bkA, bkP, bkN] := hj 6 (by kernel_rfl) (by decide)
    have g12 : Sl F1 (e1 12) 2 Rdr.enc [rdA, rdB] := hj 9 (by kernel_rfl) (by decide)
    have g18 : Sl F1 (e1 18) 2 Seat.enc (seats3.take n) := hj 15 (by kernel_rfl) (by decide)
    have g24 : Sl F1 (e1 24) 4 Req.enc reqs5 := hj 21 (by kernel_rfl) (by decide)
    refine ⟨_, _, _, _, _, rfl, ?_⟩
    refine x_quiet (q_build bt_27 (.cons (lk_eq rfl) (cells_one g9.plain.one) (.cons (lk_eq rfl) (cells_one g12.plain.one) (.cons (lk_eq rfl) (cells_one g18.plain.one) (.cons (lk_eq rfl) (cells_one g24.plain.one) .nil)))) (.cons rfl rfl (Nat.le_of_ble_eq_true rfl) (.cons (.here) .nil) (.cons rfl rfl (Nat.le_of_ble_eq_true rfl) (.cons (.next <| .here) .nil) (.cons rfl rfl (Nat.le_of_ble_eq_true rfl) (.cons (.next <| .next <| .here) .nil) (.cons rfl rfl (Nat.le_of_ble_eq_true rfl) (.cons (.next <| .next <| .next <| .here) .nil) .nil))))).quiet ⟨_, rfl, Heap.le_refl _, ⟨_, _, _, _, rfl, ⟨g9, g12, g18, g24⟩⟩⟩
  intro e5 F2 hF3 he4 hj
  have g3 : (e5 3) = .agg #[.int .i64 40, .int .i64 60] := hj 0 (by decide)
  have g4 : (e5 4) = .agg (Book.enc bkA).toArray := hj 1 (by decide)
  have g5 : (e5 5) = .agg #[.int .i64 10, .int .i64 10] := hj 2 (by decide)
  have g6 : (e5 6) = .agg (Book.enc bkP).toArray := hj 3 (by decide)
  have g7 : (e5 7) = .agg #[.int .i64 200, .int .i64 200] := hj 4 (by decide)
  have g8 : (e5 8) = .agg (Book.enc bkN).toArray := hj 5 (by decide)
  have g9 : Sl F2 (e5 9) 5 Book.enc [bkA, bkP, bkN] := hj 6 (by decide)
  have g10 : (e5 10) = .agg (Rdr.enc rdA).toArray := hj 7 (by decide)
  have g11 : (e5 11) = .agg (Rdr.enc rdB).toArray := hj 8 (by decide)
  have g12 : Sl F2 (e5 12) 2 Rdr.enc [rdA, rdB] := hj 9 (by decide)
  have g13 : (e5 13) = .agg (Seat.enc ⟨10, false⟩).toArray := hj 10 (by decide)
  have g14 : (e5 14) = .agg (Seat.enc ⟨4, true⟩).toArray := hj 11 (by decide)
  have g15 : (e5 15) = .agg (Seat.enc ⟨5, false⟩).toArray := hj 12 (by decide)
  have g16 : Sl F2 (e5 16) 2 Seat.enc seats3 := hj 13 (by decide)
  have g17 : (e5 17) = .int .i64 (n : Int) := hj 14 (by decide)
  have g18 : Sl F2 (e5 18) 2 Seat.enc (seats3.take n) := hj 15 (by decide)
  have g19 : (e5 19) = .agg #[.int .i64 0, .int .i64 0, .int .i64 6, .int .i64 20] := hj 16 (by decide)
  have g20 : (e5 20) = .agg #[.int .i64 1, .int .i64 1, .int .i64 2, .int .i64 30] := hj 17 (by decide)
  have g21 : (e5 21) = .agg #[.int .i64 0, .int .i64 2, .int .i64 8, .int .i64 10] := hj 18 (by decide)
  have g22 : (e5 22) = .agg #[.int .i64 0, .int .i64 1, .int .i64 1, .int .i64 50] := hj 19 (by decide)
  have g23 : (e5 23) = .agg #[.int .i64 1, .int .i64 0, .int .i64 4, .int .i64 15] := hj 20 (by decide)
  have g24 : Sl F2 (e5 24) 4 Req.enc reqs5 := hj 21 (by decide)
  have g25 : ∃ vb vr vs vq, (e5 25) = .agg #[vb, vr, vs, vq] ∧ RoomR F2 vb vr vs vq (roomX n) := hj 22 (by decide)
  obtain ⟨vb, vr, vs, vq, g25, hrm⟩ := g25
  refine ⟨_, _, _, _, rfl, ?_⟩
  refine x_storeA sz_27 (lk_old (he_of he4 (by kernel_rfl)) <| lk0) (lk_eq g25) (i := 0) rfl rfl rfl rfl hrm.ones (.here) ?_
  refine then_n ?_
  refine WC_ret ?_
  refine post_ret rfl (.agg agg_27 (lk_old (he_of he4 (by kernel_rfl)) <| lk0) rfl rfl (own_whole 0 rfl) .nil) ?_
  exact ⟨_, _, _, _, rfl, hrm⟩
end Go.Proofs.Ytbcjfkcpfjccdaa
namespace Go.Proofs.Ytbcjfkcpfjccdaa
open Go.RowKit
theorem ev_w1 : whyE (roomX 3) 0 0 = (3, 0) := by kernel_rfl
theorem ev_w2 : whyE (roomX 3) 3 1 = (1, 0) := by kernel_rfl
theorem ev_c1 : canV (roomX 3) [0, 1] = .tuple #[.bool true, .int .i64 0] := by kernel_rfl
theorem ev_c2 : canV (roomX 3) [0, 4] = .tuple #[.bool false, .int .i64 0] := by kernel_rfl
theorem ev_s1 : seatsE (roomX 3) [1, 2] = ([2, 1], 42, 0) := by kernel_rfl
theorem ev_l1 : leftE (roomX 3) [0, 1] [2, 1] = ([(10, 30), (2, 2), (200, 200)], 0) := by kernel_rfl
theorem ev_t1 : turnE (roomX 3) = ([0, 1], 0) := by kernel_rfl
theorem ev_b1 : bestE (roomX 3) = ([0, 1], 50, 0) := by kernel_rfl
theorem ev_g1 : givesE (roomX 3) [0, 1] 4 = ([0, 1], 0) := by kernel_rfl
theorem ev_g2 : givesE (roomX 3) [0, 1] 3 = ([], 9) := by kernel_rfl
theorem ev_a1 : askE (roomX 1) = (0, 5, 0) := by kernel_rfl
end Go.Proofs.Ytbcjfkcpfjccdaa
namespace Go.Proofs.Ytbcjfkcpfjccdaa
open Go.RowKit
theorem bd_17 : Body Try.prog 17 := body_of (by kernel_rfl)
theorem bd_19 : Body Try.prog 19 := body_of (by kernel_rfl)
theorem bd_22 : Body Try.prog 22 := body_of (by kernel_rfl)
theorem bd_24 : Body Try.prog 24 := body_of (by kernel_rfl)
theorem bd_25 : Body Try.prog 25 := body_of (by kernel_rfl)
theorem bd_27 : Body Try.prog 27 := body_of (by kernel_rfl)
theorem bd_28 : Body Try.prog 28 := body_of (by kernel_rfl)
theorem bd_30 : Body Try.prog 30 := body_of (by kernel_rfl)
theorem bd_32 : Body Try.prog 32 := body_of (by kernel_rfl)
theorem bd_34 : Body Try.prog 34 := body_of (by kernel_rfl)
theorem bd_36 : Body Try.prog 36 := body_of (by kernel_rfl)
theorem spans_box3 {F : Heap} {b T : Nat} {a1 a2 b1 b2 c1 c2 : Int} (h : F b = some (bx T [.int .i64 a1, .int .i64 a2, .int .i64 b1, .int .i64 b2, .int .i64 c1, .int .i64 c2])) : Sl F (.slice (some ⟨b, 0, none⟩) 3 3) 2 spanE [(a1, a2), (b1, b2), (c1, c2)] :=
  sl_box (xs := [(a1, a2), (b1, b2), (c1, c2)]) h rfl rfl (fun _ => rfl) (by decide)
set_option maxRecDepth 100000 in
theorem awake_ok {F : Heap} : Ok Try.prog 21 [].toArray F fun u _ => u = .bool true := by
  refine Ok.intro Try.func21 rfl Try.ntmps21 rfl fun w0 => ?_
  refine WC_seq ?_
  refine WC_reg fun ds => ?_
  refine WL_q rfl (q_assign lk_const) ?_
  refine WL_nil ?_
  refine then_n ?_
  refine WC_seq ?_
  refine WC_reg fun ds => ?_
  refine WL_x rfl (x_call bd_36 lk_func (.cons lk_const .nil) (room_ok (n := 3) (by decide)) fun v1 F2 hr3 hF4 => ?_)
  obtain ⟨vb, vr, vs, vq, rfl, hrm⟩ := hr3
  refine WL_x rfl (x_alloc zr_27 rfl fun b5 hb5 nb5 => ?_)
  refine WL_x0 (x_storeA sz_27 (lk0) (lk1 rfl <| lk0) (i := 0) rfl rfl rfl rfl hrm.ones (.here) ?_)
  refine WL_nil ?_
  refine then_n ?_
  refine WC_seq ?_
  refine WC_reg fun ds => ?_
  refine WL_q rfl (q_loadN agg_27 (lk0) rfl rfl (own_whole 0 rfl)) ?_
  refine WL_c rfl (q_call bd_17 lk_func (.cons (lk0) (.cons lk_const (.cons lk_const .nil))) (why_top_ok hrm 0 0) (fun _ _ h => h.trans (show pairV (whyE (roomX 3) 0 0) = .tuple #[.int .i64 3, .int .i64 0] by rw [ev_w1]; rfl))) ?_
  refine WL_q rfl (q_move (lk0)) ?_
  refine WL_q rfl (q_extract (lk0) rfl) ?_
  refine WL_q rfl (q_extract (lk1 rfl <| lk0) rfl) ?_
  refine WL_q rfl (q_assign (lk1 rfl <| lk0)) ?_
  refine WL_q rfl (q_assign (lk1 rfl <| lk0)) ?_
  refine WL_nil ?_
  refine then_n ?_
  refine WC_seq ?_
  refine WC_reg fun ds => ?_
  refine WL_q rfl (q_loadN agg_27 (lk4 rfl <| lk2 rfl <| lk1 rfl <| lk0) rfl rfl (own_whole 0 rfl)) ?_
  refine WL_c rfl (q_call bd_17 lk_func (.cons (lk0) (.cons lk_const (.cons lk_const .nil))) (why_top_ok hrm 3 1) (fun _ _ h => h.trans (show pairV (whyE (roomX 3) 3 1) = .tuple #[.int .i64 1, .int .i64 0] by rw [ev_w2]; rfl))) ?_
  refine WL_q rfl (q_move (lk0)) ?_
  refine WL_q rfl (q_extract (lk0) rfl) ?_
  refine WL_q rfl (q_extract (lk1 rfl <| lk0) rfl) ?_
  refine WL_q rfl (q_assign (lk1 rfl <| lk0)) ?_
  refine WL_q rfl (q_assign (lk1 rfl <| lk0)) ?_
  refine WL_nil ?_
  refine then_n ?_
  refine WC_seq ?_
  refine WC_reg fun ds => ?_
  refine WL_q rfl (q_loadN agg_27 (lk8 rfl <| lk4 rfl <| lk2 rfl <| lk0) rfl rfl (own_whole 0 rfl)) ?_
  refine WL_x rfl (x_build sl_29 zr_3 rfl (.cons lk_const (.cons lk_const .nil)) rfl rfl (by decide) (by simp [Value.oneCell']) fun b6 hb6 nb6 => ?_)
  refine WL_freeze (i := 0) rfl hb6 .here fun F7 hF8 hz9 => ?_
  replace hrm := hrm.mono hF8
  have hsl10 := ints_box2 hz9
  refine WL_c rfl (q_call bd_19 lk_func (.cons (lk1 rfl <| lk0) (.cons (lk0) .nil)) (can_top_ok hrm hsl10) (fun _ _ h => h.trans (show canV (roomX 3) [0, 1] = .tuple #[.bool true, .int .i64 0] from ev_c1))) ?_
  refine WL_q rfl (q_move (lk0)) ?_
  refine WL_q rfl (q_extract (lk0) rfl) ?_
  refine WL_q rfl (q_extract (lk1 rfl <| lk0) rfl) ?_
  refine WL_q rfl (q_assign (lk1 rfl <| lk0)) ?_
  refine WL_q rfl (q_assign (lk1 rfl <| lk0)) ?_
  refine WL_nil ?_
  refine then_n ?_
  refine WC_seq ?_
  refine WC_reg fun ds => ?_
  refine WL_q rfl (q_loadN agg_27 (lk16 rfl <| lk4 rfl <| lk2 rfl <| lk0) rfl rfl (own_whole 0 rfl)) ?_
  refine WL_x rfl (x_build sl_29 zr_3 rfl (.cons lk_const (.cons lk_const .nil)) rfl rfl (by decide) (by simp [Value.oneCell']) fun b11 hb11 nb11 => ?_)
  refine WL_freeze (i := 0) rfl hb11 .here fun F12 hF13 hz14 => ?_
  replace hrm := hrm.mono hF13
  replace hsl10 := hsl10.mono hF13
  have hsl15 := ints_box2 hz14
  refine WL_c rfl (q_call bd_19 lk_func (.cons (lk1 rfl <| lk0) (.cons (lk0) .nil)) (can_top_ok hrm hsl15) (fun _ _ h => h.trans (show canV (roomX 3) [0, 4] = .tuple #[.bool false, .int .i64 0] from ev_c2))) ?_
  refine WL_q rfl (q_move (lk0)) ?_
  refine WL_q rfl (q_extract (lk0) rfl) ?_
  refine WL_q rfl (q_extract (lk1 rfl <| lk0) rfl) ?_
  refine WL_q rfl (q_assign (lk1 rfl <| lk0)) ?_
  refine WL_q rfl (q_assign (lk1 rfl <| lk0)) ?_
  refine WL_nil ?_
  refine then_n ?_
  refine WC_seq ?_
  refine WC_reg fun ds => ?_
  refine WL_q rfl (q_loadN agg_27 (lk16 rfl <| lk8 rfl <| lk4 rfl <| lk2 rfl <| lk0) rfl rfl (own_whole 0 rfl)) ?_
  refine WL_x rfl (x_build sl_29 zr_3 rfl (.cons lk_const (.cons lk_const .nil)) rfl rfl (by decide) (by simp [Value.oneCell']) fun b16 hb16 nb16 => ?_)
  refine WL_freeze (i := 0) rfl hb16 .here fun F17 hF18 hz19 => ?_
  replace hrm := hrm.mono hF18
  replace hsl10 := hsl10.mono hF18
  replace hsl15 := hsl15.mono hF18
  have hsl20 := ints_box2 hz19
  refine WL_x rfl (x_call bd_22 lk_func (.cons (lk1 rfl <| lk0) (.cons (lk0) .nil)) ((seats_top_ok hrm hsl20).mono fun u F2 _ h => (by rw [ev_s1] at h; exact h : ∃ ws, u = .tuple #[ws, .int .i64 42, .int .i64 0] ∧ Nats F2 ws [2, 1])) fun v21 F22 hr23 hF24 => ?_)
  replace hrm := hrm.mono hF24
  replace hsl10 := hsl10.mono hF24
  replace hsl15 := hsl15.mono hF24
  replace hsl20 := hsl20.mono hF24
  obtain ⟨hq1_, rfl, hq1⟩ := hr23
  refine WL_q rfl (q_move (lk0)) ?_
  refine WL_q rfl (q_extract (lk0) rfl) ?_
  refine WL_q rfl (q_extract (lk1 rfl <| lk0) rfl) ?_
  refine WL_q rfl (q_extract (lk2 rfl <| lk0) rfl) ?_
  refine WL_q rfl (q_assign (lk2 rfl <| lk0)) ?_
  refine WL_q rfl (q_assign (lk2 rfl <| lk0)) ?_
  refine WL_q rfl (q_assign (lk2 rfl <| lk0)) ?_
  refine WL_nil ?_
  refine then_n ?_
  refine WC_seq ?_
  refine WC_reg fun ds => ?_
  refine WL_q rfl (q_loadN agg_27 (lk32 rfl <| lk8 rfl <| lk0) rfl rfl (own_whole 0 rfl)) ?_
  refine WL_x rfl (x_build sl_29 zr_3 rfl (.cons lk_const (.cons lk_const .nil)) rfl rfl (by decide) (by simp [Value.oneCell']) fun b25 hb25 nb25 => ?_)
  refine WL_freeze (i := 0) rfl hb25 .here fun F26 hF27 hz28 => ?_
  replace hrm := hrm.mono hF27
  replace hsl10 := hsl10.mono hF27
  replace hsl15 := hsl15.mono hF27
  replace hsl20 := hsl20.mono hF27
  replace hq1 := hq1.mono hF27
  have hsl29 := ints_box2 hz28
  refine WL_x rfl (x_build sl_29 zr_3 rfl (.cons lk_const (.cons lk_const .nil)) rfl rfl (by decide) (by simp [Value.oneCell']) fun b30 hb30 nb30 => ?_)
  refine WL_freeze (i := 0) rfl hb30 .here fun F31 hF32 hz33 => ?_
  replace hrm := hrm.mono hF32
  replace hsl10 := hsl10.mono hF32
  replace hsl15 := hsl15.mono hF32
  replace hsl20 := hsl20.mono hF32
  replace hq1 := hq1.mono hF32
  replace hsl29 := hsl29.mono hF32
  have hsl34 := ints_box2 hz33
  refine WL_x rfl (x_call bd_25 lk_func (.cons (lk2 rfl <| lk0) (.cons (lk1 rfl <| lk0) (.cons (lk0) .nil))) ((left_top_ok hrm hsl29 hsl34).mono fun u F2 _ h => (by rw [ev_l1] at h; exact h : ∃ ws, u = .tuple #[ws, .int .i64 0] ∧ Sl F2 ws 2 spanE [(10, 30), (2, 2), (200, 200)])) fun v35 F36 hr37 hF38 => ?_)
  replace hrm := hrm.mono hF38
  replace hsl10 := hsl10.mono hF38
  replace hsl15 := hsl15.mono hF38
  replace hsl20 := hsl20.mono hF38
  replace hq1 := hq1.mono hF38
  replace hsl29 := hsl29.mono hF38
  replace hsl34 := hsl34.mono hF38
  obtain ⟨hq2_, rfl, hq2⟩ := hr37
  refine WL_q rfl (q_move (lk0)) ?_
  refine WL_q rfl (q_extract (lk0) rfl) ?_
  refine WL_q rfl (q_extract (lk1 rfl <| lk0) rfl) ?_
  refine WL_q rfl (q_assign (lk1 rfl <| lk0)) ?_
  refine WL_q rfl (q_assign (lk1 rfl <| lk0)) ?_
  refine WL_nil ?_
  refine then_n ?_
  refine WC_seq ?_
  refine WC_reg fun ds => ?_
  refine WL_q rfl (q_loadN agg_27 (lk32 rfl <| lk16 rfl <| lk1 rfl <| lk0) rfl rfl (own_whole 0 rfl)) ?_
  refine WL_x rfl (x_call bd_28 lk_func (.cons (lk0) .nil) ((turn_top_ok hrm).mono fun u F2 _ h => (by rw [ev_t1] at h; exact h : ∃ ws, u = .tuple #[ws, .int .i64 0] ∧ Nats F2 ws [0, 1])) fun v39 F40 hr41 hF42 => ?_)
  replace hrm := hrm.mono hF42
  replace hsl10 := hsl10.mono hF42
  replace hsl15 := hsl15.mono hF42
  replace hsl20 := hsl20.mono hF42
  replace hq1 := hq1.mono hF42
  replace hsl29 := hsl29.mono hF42
  replace hsl34 := hsl34.mono hF42
  replace hq2 := hq2.mono hF42
  obtain ⟨hq3_, rfl, hq3⟩ := hr41
  refine WL_q rfl (q_move (lk0)) ?_
  refine WL_q rfl (q_extract (lk0) rfl) ?_
  refine WL_q rfl (q_extract (lk1 rfl <| lk0) rfl) ?_
  refine WL_q rfl (q_assign (lk1 rfl <| lk0)) ?_
  refine WL_q rfl (q_assign (lk1 rfl <| lk0)) ?_
  refine WL_nil ?_
  refine then_n ?_
  refine WC_seq ?_
  refine WC_reg fun ds => ?_
  refine WL_q rfl (q_loadN agg_27 (lk32 rfl <| lk16 rfl <| lk8 rfl <| lk0) rfl rfl (own_whole 0 rfl)) ?_
  refine WL_x rfl (x_call bd_30 lk_func (.cons (lk0) .nil) ((best_top_ok hrm).mono fun u F2 _ h => (by rw [ev_b1] at h; exact h : ∃ ws, u = .tuple #[ws, .int .i64 50, .int .i64 0] ∧ Nats F2 ws [0, 1])) fun v43 F44 hr45 hF46 => ?_)
  replace hrm := hrm.mono hF46
  replace hsl10 := hsl10.mono hF46
  replace hsl15 := hsl15.mono hF46
  replace hsl20 := hsl20.mono hF46
  replace hq1 := hq1.mono hF46
  replace hsl29 := hsl29.mono hF46
  replace hsl34 := hsl34.mono hF46
  replace hq2 := hq2.mono hF46
  replace hq3 := hq3.mono hF46
  obtain ⟨hq4_, rfl, hq4⟩ := hr45
  refine WL_q rfl (q_move (lk0)) ?_
  refine WL_q rfl (q_extract (lk0) rfl) ?_
  refine WL_q rfl (q_extract (lk1 rfl <| lk0) rfl) ?_
  refine WL_q rfl (q_extract (lk2 rfl <| lk0) rfl) ?_
  refine WL_q rfl (q_assign (lk2 rfl <| lk0)) ?_
  refine WL_q rfl (q_assign (lk2 rfl <| lk0)) ?_
  refine WL_q rfl (q_assign (lk2 rfl <| lk0)) ?_
  refine WL_nil ?_
  refine then_n ?_
  refine WC_seq ?_
  refine WC_reg fun ds => ?_
  refine WL_q rfl (q_loadN agg_27 (lk32 rfl <| lk32 rfl <| lk1 rfl <| lk0) rfl rfl (own_whole 0 rfl)) ?_
  refine WL_x rfl (x_build sl_29 zr_3 rfl (.cons lk_const (.cons lk_const .nil)) rfl rfl (by decide) (by simp [Value.oneCell']) fun b47 hb47 nb47 => ?_)
  refine WL_freeze (i := 0) rfl hb47 .here fun F48 hF49 hz50 => ?_
  replace hrm := hrm.mono hF49
  replace hsl10 := hsl10.mono hF49
  replace hsl15 := hsl15.mono hF49
  replace hsl20 := hsl20.mono hF49
  replace hq1 := hq1.mono hF49
  replace hsl29 := hsl29.mono hF49
  replace hsl34 := hsl34.mono hF49
  replace hq2 := hq2.mono hF49
  replace hq3 := hq3.mono hF49
  replace hq4 := hq4.mono hF49
  have hsl51 := ints_box2 hz50
  refine WL_x rfl (x_call bd_32 lk_func (.cons (lk1 rfl <| lk0) (.cons (lk0) (.cons lk_const .nil))) ((gives_top_ok hrm hsl51 4).mono fun u F2 _ h => (by rw [ev_g1] at h; exact h : ∃ ws, u = .tuple #[ws, .int .i64 0] ∧ Nats F2 ws [0, 1])) fun v52 F53 hr54 hF55 => ?_)
  replace hrm := hrm.mono hF55
  replace hsl10 := hsl10.mono hF55
  replace hsl15 := hsl15.mono hF55
  replace hsl20 := hsl20.mono hF55
  replace hq1 := hq1.mono hF55
  replace hsl29 := hsl29.mono hF55
  replace hsl34 := hsl34.mono hF55
  replace hq2 := hq2.mono hF55
  replace hq3 := hq3.mono hF55
  replace hq4 := hq4.mono hF55
  replace hsl51 := hsl51.mono hF55
  obtain ⟨hq5_, rfl, hq5⟩ := hr54
  refine WL_q rfl (q_move (lk0)) ?_
  refine WL_q rfl (q_extract (lk0) rfl) ?_
  refine WL_q rfl (q_extract (lk1 rfl <| lk0) rfl) ?_
  refine WL_q rfl (q_assign (lk1 rfl <| lk0)) ?_
  refine WL_q rfl (q_assign (lk1 rfl <| lk0)) ?_
  refine WL_nil ?_
  refine then_n ?_
  refine WC_seq ?_
  refine WC_reg fun ds => ?_
  refine WL_q rfl (q_loadN agg_27 (lk32 rfl <| lk32 rfl <| lk8 rfl <| lk1 rfl <| lk0) rfl rfl (own_whole 0 rfl)) ?_
  refine WL_x rfl (x_build sl_29 zr_3 rfl (.cons lk_const (.cons lk_const .nil)) rfl rfl (by decide) (by simp [Value.oneCell']) fun b56 hb56 nb56 => ?_)
  refine WL_freeze (i := 0) rfl hb56 .here fun F57 hF58 hz59 => ?_
  replace hrm := hrm.mono hF58
  replace hsl10 := hsl10.mono hF58
  replace hsl15 := hsl15.mono hF58
  replace hsl20 := hsl20.mono hF58
  replace hq1 := hq1.mono hF58
  replace hsl29 := hsl29.mono hF58
  replace hsl34 := hsl34.mono hF58
  replace hq2 := hq2.mono hF58
  replace hq3 := hq3.mono hF58
  replace hq4 := hq4.mono hF58
  replace hsl51 := hsl51.mono hF58
  replace hq5 := hq5.mono hF58
  have hsl60 := ints_box2 hz59
  refine WL_x rfl (x_call bd_32 lk_func (.cons (lk1 rfl <| lk0) (.cons (lk0) (.cons lk_const .nil))) ((gives_top_ok hrm hsl60 3).mono fun u F2 _ h => (by rw [ev_g2] at h; exact h : ∃ ws, u = .tuple #[ws, .int .i64 9] ∧ Nats F2 ws [])) fun v61 F62 hr63 hF64 => ?_)
  replace hrm := hrm.mono hF64
  replace hsl10 := hsl10.mono hF64
  replace hsl15 := hsl15.mono hF64
  replace hsl20 := hsl20.mono hF64
  replace hq1 := hq1.mono hF64
  replace hsl29 := hsl29.mono hF64
  replace hsl34 := hsl34.mono hF64
  replace hq2 := hq2.mono hF64
  replace hq3 := hq3.mono hF64
  replace hq4 := hq4.mono hF64
  replace hsl51 := hsl51.mono hF64
  replace hq5 := hq5.mono hF64
  replace hsl60 := hsl60.mono hF64
  obtain ⟨hq6_, rfl, hq6⟩ := hr63
  refine WL_q rfl (q_move (lk0)) ?_
  refine WL_q rfl (q_extract (lk0) rfl) ?_
  refine WL_q rfl (q_extract (lk1 rfl <| lk0) rfl) ?_
  refine WL_q rfl (q_assign (lk1 rfl <| lk0)) ?_
  refine WL_q rfl (q_assign (lk1 rfl <| lk0)) ?_
  refine WL_nil ?_
  refine then_n ?_
  refine WC_seq ?_
  refine WC_reg fun ds => ?_
  refine WL_x rfl (x_call bd_36 lk_func (.cons lk_const .nil) (room_ok (n := 1) (by decide)) fun v65 F66 hr67 hF68 => ?_)
  replace hrm := hrm.mono hF68
  replace hsl10 := hsl10.mono hF68
  replace hsl15 := hsl15.mono hF68
  replace hsl20 := hsl20.mono hF68
  replace hq1 := hq1.mono hF68
  replace hsl29 := hsl29.mono hF68
  replace hsl34 := hsl34.mono hF68
  replace hq2 := hq2.mono hF68
  replace hq3 := hq3.mono hF68
  replace hq4 := hq4.mono hF68
  replace hsl51 := hsl51.mono hF68
  replace hq5 := hq5.mono hF68
  replace hsl60 := hsl60.mono hF68
  replace hq6 := hq6.mono hF68
  obtain ⟨wb, wr, ws, wq, rfl, hrm1⟩ := hr67
  refine WL_c rfl (q_call bd_34 lk_func (.cons (lk0) .nil) (ask_top_ok hrm1) (fun _ _ h => h.trans (show trip (askE (roomX 1)) = .tuple #[.int .i64 0, .int .i64 5, .int .i64 0] by rw [ev_a1]; rfl))) ?_
  refine WL_q rfl (q_move (lk0)) ?_
  refine WL_q rfl (q_extract (lk0) rfl) ?_
  refine WL_q rfl (q_extract (lk1 rfl <| lk0) rfl) ?_
  refine WL_q rfl (q_extract (lk2 rfl <| lk0) rfl) ?_
  refine WL_q rfl (q_assign (lk2 rfl <| lk0)) ?_
  refine WL_q rfl (q_assign (lk2 rfl <| lk0)) ?_
  refine WL_q rfl (q_assign (lk2 rfl <| lk0)) ?_
  refine WL_nil ?_
  refine then_n ?_
  refine WC_seq ?_
  refine WC_reg fun ds => ?_
  refine WL_q rfl (q_move (lk32 rfl <| lk32 rfl <| lk16 rfl <| lk2 rfl <| lk1 rfl <| lk0)) ?_
  refine WL_q rfl (q_eql (lk0) lk_const) ?_
  refine WL_q rfl (q_move (lk0)) ?_
  refine WL_want rfl rfl (lk0) (by first | rfl | decide) ?_
  refine WL_q rfl (q_move (lk32 rfl <| lk32 rfl <| lk8 rfl <| lk4 rfl <| lk2 rfl <| lk1 rfl <| lk0)) ?_
  refine WL_want rfl rfl (lk1 rfl <| lk0) (by first | rfl | decide) ?_
  refine WL_q rfl (q_eql (lk0) lk_const) ?_
  refine WL_q rfl (q_pick_true (lk2 rfl <| lk0) (by first | rfl | decide) (lk0)) ?_
  refine WL_q rfl (q_move (lk0)) ?_
  refine WL_want rfl rfl (lk0) (by first | rfl | decide) ?_
  refine WL_q rfl (q_move (lk32 rfl <| lk32 rfl <| lk8 rfl <| lk2 rfl <| lk1 rfl <| lk0)) ?_
  refine WL_want rfl rfl (lk1 rfl <| lk0) (by first | rfl | decide) ?_
  refine WL_q rfl (q_eql (lk0) lk_const) ?_
  refine WL_q rfl (q_pick_true (lk2 rfl <| lk0) (by first | rfl | decide) (lk0)) ?_
  refine WL_q rfl (q_move (lk0)) ?_
  refine WL_want rfl rfl (lk0) (by first | rfl | decide) ?_
  refine WL_q rfl (q_move (lk32 rfl <| lk32 rfl <| lk4 rfl <| lk2 rfl <| lk1 rfl <| lk0)) ?_
  refine WL_want rfl rfl (lk1 rfl <| lk0) (by first | rfl | decide) ?_
  refine WL_q rfl (q_eql (lk0) lk_const) ?_
  refine WL_q rfl (q_pick_true (lk2 rfl <| lk0) (by first | rfl | decide) (lk0)) ?_
  refine WL_q rfl (q_move (lk0)) ?_
  refine WL_want rfl rfl (lk0) (by first | rfl | decide) ?_
  refine WL_q rfl (q_move (lk32 rfl <| lk32 rfl <| lk1 rfl <| lk0)) ?_
  refine WL_want rfl rfl (lk1 rfl <| lk0) (by first | rfl | decide) ?_
  refine WL_q rfl (q_eql (lk0) lk_const) ?_
  refine WL_q rfl (q_pick_true (lk2 rfl <| lk0) (by first | rfl | decide) (lk0)) ?_
  refine WL_q rfl (q_move (lk0)) ?_
  refine WL_want rfl rfl (lk0) (by first | rfl | decide) ?_
  refine WL_q rfl (q_move (lk32 rfl <| lk16 rfl <| lk8 rfl <| lk4 rfl <| lk0)) ?_
  refine WL_want rfl rfl (lk1 rfl <| lk0) (by first | rfl | decide) ?_
  refine WL_q rfl (q_eql (lk0) lk_const) ?_
  refine WL_q rfl (q_pick_true (lk2 rfl <| lk0) (by first | rfl | decide) (lk0)) ?_
  refine WL_q rfl (q_move (lk0)) ?_
  refine WL_want rfl rfl (lk0) (by first | rfl | decide) ?_
  refine WL_q rfl (q_move (lk32 rfl <| lk16 rfl <| lk8 rfl <| lk1 rfl <| lk0)) ?_
  refine WL_want rfl rfl (lk1 rfl <| lk0) (by first | rfl | decide) ?_
  refine WL_q rfl (q_eql (lk0) lk_const) ?_
  refine WL_q rfl (q_pick_true (lk2 rfl <| lk0) (by first | rfl | decide) (lk0)) ?_
  refine WL_q rfl (q_move (lk0)) ?_
  refine WL_want rfl rfl (lk0) (by first | rfl | decide) ?_
  refine WL_q rfl (q_move (lk32 rfl <| lk16 rfl <| lk4 rfl <| lk0)) ?_
  refine WL_want rfl rfl (lk1 rfl <| lk0) (by first | rfl | decide) ?_
  refine WL_q rfl (q_eql (lk0) lk_const) ?_
  refine WL_q rfl (q_pick_true (lk2 rfl <| lk0) (by first | rfl | decide) (lk0)) ?_
  refine WL_q rfl (q_move (lk0)) ?_
  refine WL_want rfl rfl (lk0) (by first | rfl | decide) ?_
  refine WL_q rfl (q_move (lk32 rfl <| lk16 rfl <| lk0)) ?_
  refine WL_want rfl rfl (lk1 rfl <| lk0) (by first | rfl | decide) ?_
  refine WL_q rfl (q_eql (lk0) lk_const) ?_
  refine WL_q rfl (q_pick_true (lk2 rfl <| lk0) (by first | rfl | decide) (lk0)) ?_
  refine WL_q rfl (q_move (lk0)) ?_
  refine WL_want rfl rfl (lk0) (by first | rfl | decide) ?_
  refine WL_q rfl (q_move (lk32 rfl <| lk2 rfl <| lk1 rfl <| lk0)) ?_
  refine WL_want rfl rfl (lk1 rfl <| lk0) (by first | rfl | decide) ?_
  refine WL_q rfl (q_eql (lk0) lk_const) ?_
  refine WL_q rfl (q_pick_true (lk2 rfl <| lk0) (by first | rfl | decide) (lk0)) ?_
  refine WL_q rfl (q_move (lk0)) ?_
  refine WL_want rfl rfl (lk0) (by first | rfl | decide) ?_
  refine WL_q rfl (q_move (lk32 rfl <| lk16 rfl <| lk0)) ?_
  refine WL_want rfl rfl (lk1 rfl <| lk0) (by first | rfl | decide) ?_
  refine WL_q rfl (q_eql (lk0) lk_const) ?_
  refine WL_q rfl (q_pick_true (lk2 rfl <| lk0) (by first | rfl | decide) (lk0)) ?_
  refine WL_q rfl (q_move (lk0)) ?_
  refine WL_want rfl rfl (lk0) (by first | rfl | decide) ?_
  refine WL_q rfl (q_move (lk32 rfl <| lk32 rfl <| lk32 rfl <| lk16 rfl <| lk8 rfl <| lk4 rfl <| lk2 rfl <| lk1 rfl <| lk0)) ?_
  refine WL_want rfl rfl (lk1 rfl <| lk0) (by first | rfl | decide) ?_
  refine WL_q rfl (q_eql (lk0) lk_const) ?_
  refine WL_q rfl (q_pick_true (lk2 rfl <| lk0) (by first | rfl | decide) (lk0)) ?_
  refine WL_q rfl (q_move (lk0)) ?_
  refine WL_want rfl rfl (lk0) (by first | rfl | decide) ?_
  refine WL_q rfl (q_move (lk32 rfl <| lk32 rfl <| lk32 rfl <| lk16 rfl <| lk8 rfl <| lk4 rfl <| lk0)) ?_
  refine WL_want rfl rfl (lk1 rfl <| lk0) (by first | rfl | decide) ?_
  refine WL_q rfl (q_eql (lk0) lk_const) ?_
  refine WL_q rfl (q_pick_true (lk2 rfl <| lk0) (by first | rfl | decide) (lk0)) ?_
  refine WL_q rfl (q_move (lk0)) ?_
  refine WL_want rfl rfl (lk0) (by first | rfl | decide) ?_
  refine WL_q rfl (q_move (lk32 rfl <| lk32 rfl <| lk32 rfl <| lk16 rfl <| lk8 rfl <| lk0)) ?_
  refine WL_q rfl (q_pick_true (lk1 rfl <| lk0) (by first | rfl | decide) (lk0)) ?_
  refine WL_q rfl (q_move (lk0)) ?_
  refine WL_want rfl rfl (lk0) (by first | rfl | decide) ?_
  refine WL_q rfl (q_move (lk32 rfl <| lk32 rfl <| lk32 rfl <| lk16 rfl <| lk2 rfl <| lk1 rfl <| lk0)) ?_
  refine WL_want rfl rfl (lk1 rfl <| lk0) (by first | rfl | decide) ?_
  refine WL_q rfl (q_not (lk0)) ?_
  refine WL_q rfl (q_pick_true (lk2 rfl <| lk0) (by first | rfl | decide) (lk0)) ?_
  refine WL_q rfl (q_move (lk0)) ?_
  refine WL_want rfl rfl (lk0) (by first | rfl | decide) ?_
  refine WL_q rfl (q_move (lk32 rfl <| lk32 rfl <| lk32 rfl <| lk8 rfl <| lk4 rfl <| lk2 rfl <| lk0)) ?_
  refine WL_want rfl rfl (lk1 rfl <| lk0) (by first | rfl | decide) ?_
  refine WL_x rfl (x_build sl_29 zr_3 rfl (.cons lk_const (.cons lk_const .nil)) rfl rfl (by decide) (by simp [Value.oneCell']) fun b69 hb69 nb69 => ?_)
  refine WL_freeze (i := 0) rfl hb69 .here fun F70 hF71 hz72 => ?_
  replace hrm := hrm.mono hF71
  replace hsl10 := hsl10.mono hF71
  replace hsl15 := hsl15.mono hF71
  replace hsl20 := hsl20.mono hF71
  replace hq1 := hq1.mono hF71
  replace hsl29 := hsl29.mono hF71
  replace hsl34 := hsl34.mono hF71
  replace hq2 := hq2.mono hF71
  replace hq3 := hq3.mono hF71
  replace hq4 := hq4.mono hF71
  replace hsl51 := hsl51.mono hF71
  replace hq5 := hq5.mono hF71
  replace hsl60 := hsl60.mono hF71
  replace hq6 := hq6.mono hF71
  replace hrm1 := hrm1.mono hF71
  have hsl73 := ints_box2 hz72
  refine WL_want rfl rfl (lk2 rfl <| lk0) (by first | rfl | decide) ?_
  refine WL_c rfl (q_call bd_24 lk_func (.cons (lk1 rfl <| lk0) (.cons (lk0) .nil)) (refInts_ok (Nats.ints hq1) hsl73) (fun _ _ h => h)) ?_
  refine WL_q rfl (q_pick_true (lk2 rfl <| lk1 rfl <| lk0) (by first | rfl | decide) (lk0)) ?_
  refine WL_q rfl (q_move (lk0)) ?_
  refine WL_want rfl rfl (lk0) (by first | rfl | decide) ?_
  refine WL_q rfl (q_move (lk32 rfl <| lk32 rfl <| lk32 rfl <| lk16 rfl <| lk2 rfl <| lk0)) ?_
  refine WL_want rfl rfl (lk1 rfl <| lk0) (by first | rfl | decide) ?_
  refine WL_q rfl (q_eql (lk0) lk_const) ?_
  refine WL_q rfl (q_pick_true (lk2 rfl <| lk0) (by first | rfl | decide) (lk0)) ?_
  refine WL_q rfl (q_move (lk0)) ?_
  refine WL_want rfl rfl (lk0) (by first | rfl | decide) ?_
  refine WL_q rfl (q_move (lk32 rfl <| lk32 rfl <| lk32 rfl <| lk8 rfl <| lk4 rfl <| lk1 rfl <| lk0)) ?_
  refine WL_want rfl rfl (lk1 rfl <| lk0) (by first | rfl | decide) ?_
  refine WL_c rfl (q_call bd_46 lk_func (.cons lk_const (.cons lk_const .nil)) (span_ok _ _) (fun _ _ h => h)) ?_
  refine WL_want rfl rfl (lk2 rfl <| lk0) (by first | rfl | decide) ?_
  refine WL_c rfl (q_call bd_46 lk_func (.cons lk_const (.cons lk_const .nil)) (span_ok _ _) (fun _ _ h => h)) ?_
  refine WL_want rfl rfl (lk2 rfl <| lk1 rfl <| lk0) (by first | rfl | decide) ?_
  refine WL_c rfl (q_call bd_46 lk_func (.cons lk_const (.cons lk_const .nil)) (span_ok _ _) (fun _ _ h => h)) ?_
  refine WL_want rfl rfl (lk4 rfl <| lk0) (by first | rfl | decide) ?_
  refine WL_x rfl (x_buildN (offs := [(0, 2), (2, 2), (4, 2)]) (zl := [.int .i64 0, .int .i64 0, .int .i64 0, .int .i64 0, .int .i64 0, .int .i64 0]) sl_42 zr_60 rfl (.cons (lk2 rfl <| lk0) rfl (.cons (lk1 rfl <| lk0) rfl (.cons (lk0) rfl .nil))) (by intro i p h; rcases i with _ | _ | _ | i <;> simp at h <;> subst h <;> rfl) (.cons rfl rfl (Nat.le_of_ble_eq_true rfl) (.cons (.here) (.cons (.next <| .here) .nil)) (.cons rfl rfl (Nat.le_of_ble_eq_true rfl) (.cons (.next <| .next <| .here) (.cons (.next <| .next <| .next <| .here) .nil)) (.cons rfl rfl (Nat.le_of_ble_eq_true rfl) (.cons (.next <| .next <| .next <| .next <| .here) (.cons (.next <| .next <| .next <| .next <| .next <| .here) .nil)) .nil))) (by decide) (by decide) fun b74 hb74 nb74 => ?_)
  refine WL_freeze (i := 0) rfl hb74 .here fun F75 hF76 hz77 => ?_
  replace hrm := hrm.mono hF76
  replace hsl10 := hsl10.mono hF76
  replace hsl15 := hsl15.mono hF76
  replace hsl20 := hsl20.mono hF76
  replace hq1 := hq1.mono hF76
  replace hsl29 := hsl29.mono hF76
  replace hsl34 := hsl34.mono hF76
  replace hq2 := hq2.mono hF76
  replace hq3 := hq3.mono hF76
  replace hq4 := hq4.mono hF76
  replace hsl51 := hsl51.mono hF76
  replace hq5 := hq5.mono hF76
  replace hsl60 := hsl60.mono hF76
  replace hq6 := hq6.mono hF76
  replace hrm1 := hrm1.mono hF76
  replace hsl73 := hsl73.mono hF76
  have hsl78 := spans_box3 hz77
  refine WL_want rfl rfl (lk4 rfl <| lk1 rfl <| lk0) (by first | rfl | decide) ?_
  refine WL_c rfl (q_call bd_27 lk_func (.cons (lk4 rfl <| lk0) (.cons (lk0) .nil)) (refSpans_ok hq2 hsl78) (fun _ _ h => h)) ?_
  refine WL_q rfl (q_pick_true (lk4 rfl <| lk2 rfl <| lk0) (by first | rfl | decide) (lk0)) ?_
  refine WL_q rfl (q_move (lk0)) ?_
  refine WL_want rfl rfl (lk0) (by first | rfl | decide) ?_
  refine WL_q rfl (q_move (lk32 rfl <| lk32 rfl <| lk32 rfl <| lk8 rfl <| lk4 rfl <| lk2 rfl <| lk0)) ?_
  refine WL_want rfl rfl (lk1 rfl <| lk0) (by first | rfl | decide) ?_
  refine WL_x rfl (x_build sl_29 zr_3 rfl (.cons lk_const (.cons lk_const .nil)) rfl rfl (by decide) (by simp [Value.oneCell']) fun b79 hb79 nb79 => ?_)
  refine WL_freeze (i := 0) rfl hb79 .here fun F80 hF81 hz82 => ?_
  replace hrm := hrm.mono hF81
  replace hsl10 := hsl10.mono hF81
  replace hsl15 := hsl15.mono hF81
  replace hsl20 := hsl20.mono hF81
  replace hq1 := hq1.mono hF81
  replace hsl29 := hsl29.mono hF81
  replace hsl34 := hsl34.mono hF81
  replace hq2 := hq2.mono hF81
  replace hq3 := hq3.mono hF81
  replace hq4 := hq4.mono hF81
  replace hsl51 := hsl51.mono hF81
  replace hq5 := hq5.mono hF81
  replace hsl60 := hsl60.mono hF81
  replace hq6 := hq6.mono hF81
  replace hrm1 := hrm1.mono hF81
  replace hsl73 := hsl73.mono hF81
  replace hsl78 := hsl78.mono hF81
  have hsl83 := ints_box2 hz82
  refine WL_want rfl rfl (lk2 rfl <| lk0) (by first | rfl | decide) ?_
  refine WL_c rfl (q_call bd_24 lk_func (.cons (lk1 rfl <| lk0) (.cons (lk0) .nil)) (refInts_ok (Nats.ints hq3) hsl83) (fun _ _ h => h)) ?_
  refine WL_q rfl (q_pick_true (lk2 rfl <| lk1 rfl <| lk0) (by first | rfl | decide) (lk0)) ?_
  refine WL_q rfl (q_move (lk0)) ?_
  refine WL_want rfl rfl (lk0) (by first | rfl | decide) ?_
  refine WL_q rfl (q_move (lk32 rfl <| lk32 rfl <| lk32 rfl <| lk8 rfl <| lk2 rfl <| lk1 rfl <| lk0)) ?_
  refine WL_want rfl rfl (lk1 rfl <| lk0) (by first | rfl | decide) ?_
  refine WL_x rfl (x_build sl_29 zr_3 rfl (.cons lk_const (.cons lk_const .nil)) rfl rfl (by decide) (by simp [Value.oneCell']) fun b84 hb84 nb84 => ?_)
  refine WL_freeze (i := 0) rfl hb84 .here fun F85 hF86 hz87 => ?_
  replace hrm := hrm.mono hF86
  replace hsl10 := hsl10.mono hF86
  replace hsl15 := hsl15.mono hF86
  replace hsl20 := hsl20.mono hF86
  replace hq1 := hq1.mono hF86
  replace hsl29 := hsl29.mono hF86
  replace hsl34 := hsl34.mono hF86
  replace hq2 := hq2.mono hF86
  replace hq3 := hq3.mono hF86
  replace hq4 := hq4.mono hF86
  replace hsl51 := hsl51.mono hF86
  replace hq5 := hq5.mono hF86
  replace hsl60 := hsl60.mono hF86
  replace hq6 := hq6.mono hF86
  replace hrm1 := hrm1.mono hF86
  replace hsl73 := hsl73.mono hF86
  replace hsl78 := hsl78.mono hF86
  replace hsl83 := hsl83.mono hF86
  have hsl88 := ints_box2 hz87
  refine WL_want rfl rfl (lk2 rfl <| lk0) (by first | rfl | decide) ?_
  refine WL_c rfl (q_call bd_24 lk_func (.cons (lk1 rfl <| lk0) (.cons (lk0) .nil)) (refInts_ok (Nats.ints hq4) hsl88) (fun _ _ h => h)) ?_
  refine WL_q rfl (q_pick_true (lk2 rfl <| lk1 rfl <| lk0) (by first | rfl | decide) (lk0)) ?_
  refine WL_q rfl (q_move (lk0)) ?_
  refine WL_want rfl rfl (lk0) (by first | rfl | decide) ?_
  refine WL_q rfl (q_move (lk32 rfl <| lk32 rfl <| lk32 rfl <| lk8 rfl <| lk4 rfl <| lk2 rfl <| lk1 rfl <| lk0)) ?_
  refine WL_want rfl rfl (lk1 rfl <| lk0) (by first | rfl | decide) ?_
  refine WL_q rfl (q_eql (lk0) lk_const) ?_
  refine WL_q rfl (q_pick_true (lk2 rfl <| lk0) (by first | rfl | decide) (lk0)) ?_
  refine WL_q rfl (q_move (lk0)) ?_
  refine WL_want rfl rfl (lk0) (by first | rfl | decide) ?_
  refine WL_q rfl (q_move (lk32 rfl <| lk32 rfl <| lk32 rfl <| lk8 rfl <| lk2 rfl <| lk1 rfl <| lk0)) ?_
  refine WL_want rfl rfl (lk1 rfl <| lk0) (by first | rfl | decide) ?_
  refine WL_x rfl (x_build sl_29 zr_3 rfl (.cons lk_const (.cons lk_const .nil)) rfl rfl (by decide) (by simp [Value.oneCell']) fun b89 hb89 nb89 => ?_)
  refine WL_freeze (i := 0) rfl hb89 .here fun F90 hF91 hz92 => ?_
  replace hrm := hrm.mono hF91
  replace hsl10 := hsl10.mono hF91
  replace hsl15 := hsl15.mono hF91
  replace hsl20 := hsl20.mono hF91
  replace hq1 := hq1.mono hF91
  replace hsl29 := hsl29.mono hF91
  replace hsl34 := hsl34.mono hF91
  replace hq2 := hq2.mono hF91
  replace hq3 := hq3.mono hF91
  replace hq4 := hq4.mono hF91
  replace hsl51 := hsl51.mono hF91
  replace hq5 := hq5.mono hF91
  replace hsl60 := hsl60.mono hF91
  replace hq6 := hq6.mono hF91
  replace hrm1 := hrm1.mono hF91
  replace hsl73 := hsl73.mono hF91
  replace hsl78 := hsl78.mono hF91
  replace hsl83 := hsl83.mono hF91
  replace hsl88 := hsl88.mono hF91
  have hsl93 := ints_box2 hz92
  refine WL_want rfl rfl (lk2 rfl <| lk0) (by first | rfl | decide) ?_
  refine WL_c rfl (q_call bd_24 lk_func (.cons (lk1 rfl <| lk0) (.cons (lk0) .nil)) (refInts_ok (Nats.ints hq5) hsl93) (fun _ _ h => h)) ?_
  refine WL_q rfl (q_pick_true (lk2 rfl <| lk1 rfl <| lk0) (by first | rfl | decide) (lk0)) ?_
  refine WL_q rfl (q_move (lk0)) ?_
  refine WL_want rfl rfl (lk0) (by first | rfl | decide) ?_
  refine WL_q rfl (q_move (lk32 rfl <| lk32 rfl <| lk32 rfl <| lk0)) ?_
  refine WL_want rfl rfl (lk1 rfl <| lk0) (by first | rfl | decide) ?_
  refine WL_q rfl (q_eql (lk0) lk_const) ?_
  refine WL_q rfl (q_pick_true (lk2 rfl <| lk0) (by first | rfl | decide) (lk0)) ?_
  refine WL_q rfl (q_move (lk0)) ?_
  refine WL_want rfl rfl (lk0) (by first | rfl | decide) ?_
  refine WL_q rfl (q_move (lk32 rfl <| lk32 rfl <| lk32 rfl <| lk2 rfl <| lk1 rfl <| lk0)) ?_
  refine WL_want rfl rfl (lk1 rfl <| lk0) (by first | rfl | decide) ?_
  refine WL_q rfl (q_eql (lk0) lk_const) ?_
  refine WL_q rfl (q_pick_true (lk2 rfl <| lk0) (by first | rfl | decide) (lk0)) ?_
  refine WL_q rfl (q_assign (lk0)) ?_
  refine WL_nil ?_
  refine then_n ?_
  refine WC_ret ?_
  refine post_ret rfl (.tmp (lk0) .nil) ?_
  show _ = _
  first | rfl | decide
end Go.Proofs.Ytbcjfkcpfjccdaa
namespace Go.Proofs.Ytbcjfkcpfjccdaa
def canR (r : Room) (xs : List Int) : Bool := if someErr r xs = 0 then (allR r (xs.map Int.toNat)).isSome else false
theorem canV_eq (r : Room) (xs : List Int) : canV r xs = .tuple #[.bool (canR r xs), .int .i64 (someErr r xs)] := by
  unfold canV canR
  split
  · rename_i h; rw [h]
  · rfl
end Go.Proofs.Ytbcjfkcpfjccdaa
namespace Go.Proofs.Ytbcjfkcpfjccdaa
open Go.RowKit
theorem ar_28 : ArrT Try.prog 28 2 3 1 := arrT_of (by kernel_rfl)
theorem bd_18 : Body Try.prog 18 := body_of (by kernel_rfl)
theorem bd_20 : Body Try.prog 20 := body_of (by kernel_rfl)
theorem bd_21 : Body Try.prog 21 := body_of (by kernel_rfl)
set_option maxRecDepth 100000 in
theorem cans_ok {F : Heap} {vb vr vs vq : Value} {r : Room} (hr : RoomR F vb vr vs vq r) {v : Value} {xs : List Int} (hx : Ints F v xs) (a b : Int) : Ok Try.prog 3 [.agg #[vb, vr, vs, vq], .agg #[.int .i64 a, .int .i64 b], v].toArray F fun u _ => u = .bool true := by
  refine Ok.intro Try.func3 rfl Try.ntmps3 rfl fun w0 => ?_
  refine WC_seq ?_
  refine WC_reg fun ds => ?_
  refine WL_x rfl (x_box (lk_entry rfl) rfl fun b1 hb1 nb1 => ?_)
  refine WL_x rfl (x_box (lk1 rfl <| lk_entry rfl) rfl fun b2 hb2 nb2 => ?_)
  refine WL_q rfl (q_assign lk_const) ?_
  refine WL_nil ?_
  refine then_n ?_
  refine WC_seq ?_
  refine WC_reg fun ds => ?_
  refine WL_q rfl (q_loadN agg_27 (lk2 rfl <| lk0) rfl rfl (own_whole 1 rfl)) ?_
  refine WL_c rfl (q_call bd_15 lk_func (.cons (lk0) .nil) (check_ok hr) (fun _ _ h => h.trans (show checkV r = .tuple #[.int .i64 (check r).1, .int .i64 (check r).2.1, .int .i64 (check r).2.2] from rfl))) ?_
  refine WL_q rfl (q_move (lk0)) ?_
  refine WL_q rfl (q_extract (lk0) rfl) ?_
  refine WL_q rfl (q_extract (lk1 rfl <| lk0) rfl) ?_
  refine WL_q rfl (q_extract (lk2 rfl <| lk0) rfl) ?_
  refine WL_q rfl (q_assign (lk2 rfl <| lk0)) ?_
  refine WL_q rfl (q_assign (lk2 rfl <| lk0)) ?_
  refine WL_q rfl (q_assign (lk2 rfl <| lk0)) ?_
  refine WL_nil ?_
  refine then_n ?_
  refine WC_seq ?_
  refine WC_reg fun ds => ?_
  refine WL_q rfl (q_loadN agg_27 (lk8 rfl <| lk2 rfl <| lk1 rfl <| lk0) rfl rfl (own_whole 1 rfl)) ?_
  refine WL_c rfl (q_call bd_16 lk_func (.cons (lk0) .nil) (refCheck_ok hr) (fun _ _ h => h.trans (show checkV r = .tuple #[.int .i64 (check r).1, .int .i64 (check r).2.1, .int .i64 (check r).2.2] from rfl))) ?_
  refine WL_q rfl (q_move (lk0)) ?_
  refine WL_q rfl (q_extract (lk0) rfl) ?_
  refine WL_q rfl (q_extract (lk1 rfl <| lk0) rfl) ?_
  refine WL_q rfl (q_extract (lk2 rfl <| lk0) rfl) ?_
  refine WL_q rfl (q_assign (lk2 rfl <| lk0)) ?_
  refine WL_q rfl (q_assign (lk2 rfl <| lk0)) ?_
  refine WL_q rfl (q_assign (lk2 rfl <| lk0)) ?_
  refine WL_nil ?_
  refine then_n ?_
  refine WC_seq ?_
  refine WC_seq ?_
  refine WC_reg fun ds => ?_
  refine WL_q rfl (q_move (lk8 rfl <| lk2 rfl <| lk1 rfl <| lk0)) ?_
  refine WL_q rfl (q_move (lk2 rfl <| lk1 rfl <| lk0)) ?_
  refine WL_q rfl (q_neq (lk1 rfl <| lk0) (lk0)) ?_
  refine WL_q rfl (q_move (lk0)) ?_
  refine WL_want rfl rfl (lk0) (by simp) ?_
  refine WL_q rfl (q_move (lk8 rfl <| lk4 rfl <| lk2 rfl <| lk0)) ?_
  refine WL_want rfl rfl (lk1 rfl <| lk0) (by simp) ?_
  refine WL_q rfl (q_move (lk4 rfl <| lk2 rfl <| lk0)) ?_
  refine WL_want rfl rfl (lk2 rfl <| lk0) (by simp) ?_
  refine WL_q rfl (q_neq (lk1 rfl <| lk0) (lk0)) ?_
  refine WL_q rfl (q_pick_false (lk2 rfl <| lk1 rfl <| lk0) (by simp) (lk0)) ?_
  refine WL_q rfl (q_move (lk0)) ?_
  refine WL_want rfl rfl (lk0) (by simp) ?_
  refine WL_q rfl (q_move (lk16 rfl <| lk2 rfl <| lk0)) ?_
  refine WL_want rfl rfl (lk1 rfl <| lk0) (by simp) ?_
  refine WL_q rfl (q_move (lk8 rfl <| lk2 rfl <| lk0)) ?_
  refine WL_want rfl rfl (lk2 rfl <| lk0) (by simp) ?_
  refine WL_q rfl (q_neq (lk1 rfl <| lk0) (lk0)) ?_
  refine WL_q rfl (q_pick_false (lk2 rfl <| lk1 rfl <| lk0) (by simp) (lk0)) ?_
  refine WL_nil ?_
  refine then_n ?_
  refine WC_if_false (lk0) (by simp) ?_
  refine WC_skip ?_
  refine then_n ?_
  refine WC_seq ?_
  refine WC_reg fun ds => ?_
  refine WL_q rfl (q_loadN agg_27 (lk32 rfl <| lk1 rfl <| lk0) rfl rfl (own_whole 1 rfl)) ?_
  refine WL_q rfl (q_indexArrB (k := 0) ar_28 (lk32 rfl <| lk1 rfl <| lk0) lk_const rfl (by decide)) ?_
  refine WL_q rfl (q_load1 one_3 (lk0) (Cell.own 0 rfl rfl)) ?_
  refine WL_q rfl (q_indexArrB (k := 1) ar_28 (lk32 rfl <| lk2 rfl <| lk1 rfl <| lk0) lk_const rfl (by decide)) ?_
  refine WL_q rfl (q_load1 one_3 (lk0) (Cell.own 0 rfl rfl)) ?_
  refine WL_c rfl (q_call bd_17 lk_func (.cons (lk4 rfl <| lk0) (.cons (lk2 rfl <| lk0) (.cons (lk0) .nil))) (why_top_ok hr a b) (fun _ _ h => h.trans (show pairV (whyE r a b) = .tuple #[.int .i64 (whyE r a b).1, .int .i64 (whyE r a b).2] from rfl))) ?_
  refine WL_q rfl (q_move (lk0)) ?_
  refine WL_q rfl (q_extract (lk0) rfl) ?_
  refine WL_q rfl (q_extract (lk1 rfl <| lk0) rfl) ?_
  refine WL_q rfl (q_assign (lk1 rfl <| lk0)) ?_
  refine WL_q rfl (q_assign (lk1 rfl <| lk0)) ?_
  refine WL_nil ?_
  refine then_n ?_
  refine WC_seq ?_
  refine WC_reg fun ds => ?_
  refine WL_q rfl (q_loadN agg_27 (lk32 rfl <| lk8 rfl <| lk4 rfl <| lk0) rfl rfl (own_whole 1 rfl)) ?_
  refine WL_q rfl (q_indexArrB (k := 0) ar_28 (lk32 rfl <| lk8 rfl <| lk4 rfl <| lk0) lk_const rfl (by decide)) ?_
  refine WL_q rfl (q_load1 one_3 (lk0) (Cell.own 0 rfl rfl)) ?_
  refine WL_q rfl (q_indexArrB (k := 1) ar_28 (lk32 rfl <| lk8 rfl <| lk4 rfl <| lk2 rfl <| lk0) lk_const rfl (by decide)) ?_
  refine WL_q rfl (q_load1 one_3 (lk0) (Cell.own 0 rfl rfl)) ?_
  refine WL_c rfl (q_call bd_18 lk_func (.cons (lk4 rfl <| lk0) (.cons (lk2 rfl <| lk0) (.cons (lk0) .nil))) (refWhy_ok hr a b) (fun _ _ h => h.trans (show pairV (whyE r a b) = .tuple #[.int .i64 (whyE r a b).1, .int .i64 (whyE r a b).2] from rfl))) ?_
  refine WL_q rfl (q_move (lk0)) ?_
  refine WL_q rfl (q_extract (lk0) rfl) ?_
  refine WL_q rfl (q_extract (lk1 rfl <| lk0) rfl) ?_
  refine WL_q rfl (q_assign (lk1 rfl <| lk0)) ?_
  refine WL_q rfl (q_assign (lk1 rfl <| lk0)) ?_
  refine WL_nil ?_
  refine then_n ?_
  refine WC_seq ?_
  refine WC_seq ?_
  refine WC_reg fun ds => ?_
  refine WL_q rfl (q_move (lk8 rfl <| lk4 rfl <| lk0)) ?_
  refine WL_q rfl (q_move (lk2 rfl <| lk0)) ?_
  refine WL_q rfl (q_neq (lk1 rfl <| lk0) (lk0)) ?_
  refine WL_q rfl (q_move (lk0)) ?_
  refine WL_want rfl rfl (lk0) (by simp) ?_
  refine WL_q rfl (q_move (lk8 rfl <| lk4 rfl <| lk2 rfl <| lk1 rfl <| lk0)) ?_
  refine WL_want rfl rfl (lk1 rfl <| lk0) (by simp) ?_
  refine WL_q rfl (q_move (lk4 rfl <| lk1 rfl <| lk0)) ?_
  refine WL_want rfl rfl (lk2 rfl <| lk0) (by simp) ?_
  refine WL_q rfl (q_neq (lk1 rfl <| lk0) (lk0)) ?_
  refine WL_q rfl (q_pick_false (lk2 rfl <| lk1 rfl <| lk0) (by simp) (lk0)) ?_
  refine WL_nil ?_
  refine then_n ?_
  refine WC_if_false (lk0) (by simp) ?_
  refine WC_skip ?_
  refine then_n ?_
  refine WC_seq ?_
  refine WC_reg fun ds => ?_
  refine WL_q rfl (q_loadN agg_27 (lk32 rfl <| lk16 rfl <| lk8 rfl <| lk4 rfl <| lk2 rfl <| lk1 rfl <| lk0) rfl rfl (own_whole 1 rfl)) ?_
  refine WL_q rfl (q_move (lk32 rfl <| lk32 rfl <| lk1 rfl <| lk_entry rfl)) ?_
  refine WL_c rfl (q_call bd_19 lk_func (.cons (lk1 rfl <| lk0) (.cons (lk0) .nil)) (can_top_ok hr hx) (fun _ _ h => h.trans (canV_eq _ _))) ?_
  refine WL_q rfl (q_move (lk0)) ?_
  refine WL_q rfl (q_extract (lk0) rfl) ?_
  refine WL_q rfl (q_extract (lk1 rfl <| lk0) rfl) ?_
  refine WL_q rfl (q_assign (lk1 rfl <| lk0)) ?_
  refine WL_q rfl (q_assign (lk1 rfl <| lk0)) ?_
  refine WL_nil ?_
  refine then_n ?_
  refine WC_seq ?_
  refine WC_reg fun ds => ?_
  refine WL_q rfl (q_loadN agg_27 (lk32 rfl <| lk32 rfl <| lk4 rfl <| lk2 rfl <| lk1 rfl <| lk0) rfl rfl (own_whole 1 rfl)) ?_
  refine WL_q rfl (q_move (lk32 rfl <| lk32 rfl <| lk8 rfl <| lk1 rfl <| lk_entry rfl)) ?_
  refine WL_c rfl (q_call bd_20 lk_func (.cons (lk1 rfl <| lk0) (.cons (lk0) .nil)) (refCan_ok hr hx) (fun _ _ h => h.trans (canV_eq _ _))) ?_
  refine WL_q rfl (q_move (lk0)) ?_
  refine WL_q rfl (q_extract (lk0) rfl) ?_
  refine WL_q rfl (q_extract (lk1 rfl <| lk0) rfl) ?_
  refine WL_q rfl (q_assign (lk1 rfl <| lk0)) ?_
  refine WL_q rfl (q_assign (lk1 rfl <| lk0)) ?_
  refine WL_nil ?_
  refine then_n ?_
  refine WC_seq ?_
  refine WC_reg fun ds => ?_
  refine WL_q rfl (q_move (lk8 rfl <| lk1 rfl <| lk0)) ?_
  refine WL_q rfl (q_move (lk2 rfl <| lk0)) ?_
  refine WL_q rfl (q_eqb Try.underlying4 (lk1 rfl <| lk0) (lk0)) ?_
  refine WL_q rfl (q_move (lk0)) ?_
  refine WL_want rfl rfl (lk0) (by simp) ?_
  refine WL_q rfl (q_move (lk8 rfl <| lk4 rfl <| lk0)) ?_
  refine WL_want rfl rfl (lk1 rfl <| lk0) (by simp) ?_
  refine WL_q rfl (q_move (lk4 rfl <| lk1 rfl <| lk0)) ?_
  refine WL_want rfl rfl (lk2 rfl <| lk0) (by simp) ?_
  refine WL_q rfl (q_eql (lk1 rfl <| lk0) (lk0)) ?_
  refine WL_q rfl (q_pick_true (lk2 rfl <| lk1 rfl <| lk0) (by simp) (lk0)) ?_
  refine WL_q rfl (q_move (lk0)) ?_
  refine WL_want rfl rfl (lk0) (by simp) ?_
  refine WL_c rfl (q_call bd_21 lk_func .nil awake_ok (fun _ _ h => h)) ?_
  refine WL_q rfl (q_pick_true (lk1 rfl <| lk0) (by simp) (lk0)) ?_
  refine WL_q rfl (q_assign (lk0)) ?_
  refine WL_nil ?_
  refine then_n ?_
  refine WC_ret ?_
  refine post_ret rfl (.tmp (lk0) .nil) ?_
  rfl
end Go.Proofs.Ytbcjfkcpfjccdaa
namespace Go.Proofs.Ytbcjfkcpfjccdaa
open Go.ChangeShapes Go.WideShapes Go.ChangeAt Go.RowKit
set_option maxRecDepth 100000 in
theorem readerCansLifted (os : Os) (started : os.Started) (H : Type) (enc : TypeId × Value → H) :
    ReturnsInHanded {} Try.checked os 3 .any (Rows.readerCansSpec.pre6 enc Try.prog Try.f3 Rows.readerCansRow.domain false) (Rows.readerCansSpec.post enc Try.prog Try.f3 false true false false) := by
  refine returnsInHanded_of_change_sized (C := Try.checked) ownKnob0 started (by kernel_rfl) Try.func3
    (ChangeSpec.witness6 (enc := enc) (C := Try.checked) false ⟨#[], #[.agg #[.slice none 0 0, .slice none 0 0, .slice none 0 0, .slice none 0 0], .agg #[.int .i64 0, .int .i64 0], .slice none 0 0], []⟩ 8 (by kernel_rfl) (by kernel_rfl) (by kernel_rfl) (by kernel_rfl)) ?_
  intro W base args ds gs before hval0 hW hcnd hsz _
  have hval : ∀ (j : Nat) t v, Try.f3.params[j]? = some t → args[j]? = some v → Value.okWide Try.prog W .any base t v := hval0
  have hW' := hW
  obtain ⟨p, q, hA0, hV, rfl, hfz, hnd⟩ := hW
  have hA : DataW.TrodAll enc Try.prog W 0 (fun _ => true) true Try.f3.params.toList args.toList ds p := hA0
  rw [Try.params3] at hA hval
  obtain ⟨v0, vs0, d0, ds0, p0, q0, hargs, rfl, rfl, h0, r0⟩ := trodAll_cons hA
  obtain ⟨v1, vs1, d1, ds1, p1, q1, rfl, rfl, rfl, h1, r1⟩ := trodAll_cons r0
  obtain ⟨v2, vs2, d2, ds2, p2, q2, rfl, rfl, rfl, h2, r2⟩ := trodAll_cons r1
  obtain ⟨rfl, rfl, rfl⟩ := trodAll_nil r2
  obtain rfl : args = #[v0, v1, v2] := by cases args; simp_all
  obtain ⟨rfl, rfl⟩ := trodVars_none hV
  have hsz' : (DataW.weightsEach Try.prog (Try.f3.params.toList ++ []) ([d0, d1, d2] ++ [])).all (· ≤ reachBytes) = true := hsz
  rw [Try.params3] at hsz'
  have k0 := h0
  have lt0 : ∀ x ∈ p0, x.block < W.heap.size := by obtain ⟨m, hm⟩ := k0; exact DataW.trod_lt m _ _ _ hm
  have k1 := h1
  have lt1 : ∀ x ∈ p1, x.block < W.heap.size := by obtain ⟨m, hm⟩ := k1; exact DataW.trod_lt m _ _ _ hm
  have k2 := h2
  have lt2 : ∀ x ∈ p2, x.block < W.heap.size := by obtain ⟨m, hm⟩ := k2; exact DataW.trod_lt m _ _ _ hm
  obtain ⟨vb, vr, vs, vq, r, rfl, hr, hrw⟩ := arg_room (hval 0 27 v0 rfl rfl) h0 (weights_at hsz' (j := 0) rfl rfl)
  obtain ⟨a, b, rfl, wa, wb⟩ := arg_pair (hval 1 28 v1 rfl rfl) h1 (weights_at hsz' (j := 1) rfl rfl)
  obtain ⟨xs, hx, wxs⟩ := arg_ints (hval 2 29 v2 rfl rfl) h2 (weights_at hsz' (j := 2) rfl rfl)
  clear hA0 hval0
  refine (Ok.law (cans_ok hr hx a b)).mono fun e W' ⟨he, bel⟩ => ?_
  subst he
  exact ⟨_, rfl, _, _, _, [], _, [], hW', trodAll_mk1 (shut_bool Try.underlying4 _), (trodAll_cons_mk (Below.trod laidOut (by kernel_rfl) (of_decide_eq_true (by kernel_rfl)) k0 bel lt0) (trodAll_cons_mk (Below.trod laidOut (by kernel_rfl) (of_decide_eq_true (by kernel_rfl)) k1 bel lt1) (trodAll_cons_mk (Below.trod laidOut (by kernel_rfl) (of_decide_eq_true (by kernel_rfl)) k2 bel lt2) trodAll_mk0))), rfl, bel.frame _, fun h => by cases h⟩
theorem readerCans : Rows.ReaderCansSaid :=
  OpenClaim.holds_of_wide 3 Try.f3 rfl rfl rfl rfl rfl rfl rfl ⟨rfl, rfl, rfl, rfl, rfl⟩ rfl rfl rfl rfl rfl (by kernel_rfl) Try.func3 (by kernel_rfl)
    (of_decide_eq_true (by kernel_rfl)) (by unfold Func.isWrapper; first | (rw [if_pos (by decide +kernel)]; kernel_rfl) | (rw [if_neg (by decide +kernel)]; exact ⟨rfl, rfl⟩))
    (fun os started H enc _ => readerCansLifted os started H enc)
#print axioms readerCans
end Go.Proofs.Ytbcjfkcpfjccdaa
