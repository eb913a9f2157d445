/-
  A part of a proof: StemReadings returns true of any stem, numbers, edition and place, and leaves what it is handed as it was. No conditions.
-/
import Derived.Test.YtccogmkhijgelaaPaa
import Derived.Test.YtccogmkhijgelaaRows
import Derived.WalkKit
import Derived.OpenShut
import Derived.ShutString
import Derived.ChangeOld
import Derived.Below
import Derived.Test.YtccogmkhijgelaaProg
import Derived.Maps.Keyed
import Derived.DeepKeys4
namespace Go.Proofs.Ytccogmkhijgelaa
theorem plcErr_at {s : Stm} {k : Nat} (h : k < s.places.length) : plcErr s k = if nameOk s.places[k].name = false then 6 else if (s.places.take k).any (fun y => sameS y.name s.places[k].name) = true then 5 else if inB 0 1 s.places[k].kind = false then 7 else 0 := by unfold plcErr; rw [List.getElem?_eq_getElem h]
theorem E5 {s : Stm} {k : Nat} (h : k < s.editions.length) : edErr s k = if nameOk (s.ed k).name = false then 6 else if (s.editions.take k).any (fun y => sameS y.name (s.ed k).name) = true then 5 else ednErr s (s.ed k) := by unfold edErr; rw [List.getElem?_eq_getElem h, ed_at h]
theorem StmR.any {F : Heap} {vp ve : Go.Value} {ps : List (Go.Value × Edn)} {s : Stm} (h : StmR F vp ve ps s) {q : Edn → Bool} {k : Nat} : (ps.take k).any (fun y => q y.2) = (s.editions.take k).any q := by
 rw [← h.eqs, ← List.map_take, List.any_map]; rfl
def pnames (s : Stm) (k : Nat) : List ByteArray := (s.places.take k).map (·.name)
def enames (s : Stm) (k : Nat) : List ByteArray := (s.editions.take k).map (·.name)
theorem pnames_succ {s : Stm} {k : Nat} (h : k < s.places.length) : pnames s (k + 1) = pnames s k ++ [s.places[k].name] := by unfold pnames; rw [List.take_succ_eq_append_getElem h, List.map_append]; rfl
theorem pnames_len {s : Stm} {k : Nat} (h : k ≤ s.places.length) : (pnames s k).length = k := by simp [pnames]; omega
theorem enames_succ {s : Stm} {k : Nat} (h : k < s.editions.length) : enames s (k + 1) = enames s k ++ [(s.ed k).name] := by unfold enames; rw [List.take_succ_eq_append_getElem h, List.map_append, ed_at h]; rfl
theorem enames_len {s : Stm} {k : Nat} (h : k ≤ s.editions.length) : (enames s k).length = k := by simp [enames]; omega
theorem plcErr_fresh {s : Stm} {k : Nat} (h : k < s.places.length) : plcErr s k = if freshE s.places[k].name (pnames s k) ≠ 0 then freshE s.places[k].name (pnames s k) else if inB 0 1 s.places[k].kind = false then 7 else 0 := by
 rw [plcErr_at h]
 have hany : (pnames s k).any (fun x => sameS x s.places[k].name) = (s.places.take k).any fun y => sameS y.name s.places[k].name := by unfold pnames; rw [List.any_map]; rfl
 unfold freshE
 rw [hany]
 cases nameOk s.places[k].name <;> cases (s.places.take k).any (fun y => sameS y.name s.places[k].name) <;> simp
theorem edErr_fresh {s : Stm} {k : Nat} (h : k < s.editions.length) : edErr s k = if freshE (s.ed k).name (enames s k) ≠ 0 then freshE (s.ed k).name (enames s k) else ednErr s (s.ed k) := by
 rw [E5 h]
 have hany : (enames s k).any (fun x => sameS x (s.ed k).name) = (s.editions.take k).any fun y => sameS y.name (s.ed k).name := by unfold enames; rw [List.any_map]; rfl
 unfold freshE
 rw [hany]
 cases nameOk (s.ed k).name <;> cases (s.editions.take k).any (fun y => sameS y.name (s.ed k).name) <;> simp
theorem any_two {p : Int → Bool} {a b : Int} : [a, b].any p = (p a || p b) := by simp
theorem ednErr_range {s : Stm} {x : Edn} : ednErr s x = if rangeE x.lo x.hi 1450 1850 ≠ 0 then rangeE x.lo x.hi 1450 1850 else if x.rd.length ≠ s.places.length then 3 else if (x.rd.any fun z => !(inB 0 3 z)) = true then 7 else 0 := by
 unfold ednErr rangeE
 by_cases h1 : min x.lo x.hi < 1450 ∨ 1850 < max x.lo x.hi
 · rw [if_pos (by unfold inB; simp only [Bool.and_eq_false_iff, decide_eq_false_iff_not]; omega), if_pos h1]; simp
 · rw [if_neg (by unfold inB; simp only [Bool.and_eq_false_iff, decide_eq_false_iff_not]; omega), if_neg h1]
   by_cases h2 : x.hi < x.lo
   · rw [if_pos h2, if_pos h2]; simp
   · rw [if_neg h2, if_neg h2]; simp
section
variable {s : Stm}
theorem checkT_1 (h : inB 1 6 s.places.length = false) : checkTV s = .tuple #[.int .i64 1, .int .i64 0, .int .i64 3] := by unfold checkTV checkT; rw [if_pos h]
theorem checkT_p (h : inB 1 6 s.places.length = true) {i e : Int} (h2 : firstQ s.places.length (plcErr s) = (i, e)) (he : e ≠ 0) : checkTV s = .tuple #[.int .i64 1, .int .i64 i, .int .i64 e] := by
 unfold checkTV checkT; rw [if_neg (by rw [h]; simp), h2, if_pos he]
theorem checkT_2 (h : inB 1 6 s.places.length = true) (h2 : firstQ s.places.length (plcErr s) = (0, 0)) (h3 : inB 1 5 s.editions.length = false) : checkTV s = .tuple #[.int .i64 2, .int .i64 0, .int .i64 3] := by
 unfold checkTV checkT; rw [if_neg (by rw [h]; simp), h2, if_neg (by simp), if_pos h3]
theorem checkT_e (h : inB 1 6 s.places.length = true) (h2 : firstQ s.places.length (plcErr s) = (0, 0)) (h3 : inB 1 5 s.editions.length = true) {i e : Int} (h4 : firstQ s.editions.length (edErr s) = (i, e)) (he : e ≠ 0) : checkTV s = .tuple #[.int .i64 2, .int .i64 i, .int .i64 e] := by
 unfold checkTV checkT; rw [if_neg (by rw [h]; simp), h2, if_neg (by simp), if_neg (by rw [h3]; simp), h4, if_pos he]
theorem checkT_0 (h : inB 1 6 s.places.length = true) (h2 : firstQ s.places.length (plcErr s) = (0, 0)) (h3 : inB 1 5 s.editions.length = true) (h4 : firstQ s.editions.length (edErr s) = (0, 0)) : checkTV s = .tuple #[.int .i64 0, .int .i64 0, .int .i64 0] := by
 unfold checkTV checkT; rw [if_neg (by rw [h]; simp), h2, if_neg (by simp), if_neg (by rw [h3]; simp), h4, if_neg (by simp)]
end
theorem firstQ_or {n : Nat} {f : Nat → Int} : firstQ n f = (0, 0) ∨ ∃ i e, firstQ n f = (i, e) ∧ e ≠ 0 := by
 by_cases h : (firstQ n f).2 = 0
 · left; exact firstQ_ok (firstQ_zero h)
 · right; exact ⟨_, _, rfl, h⟩
end Go.Proofs.Ytccogmkhijgelaa
namespace Go.Proofs.Ytccogmkhijgelaa
def edZero (s : Stm) (x : Edn) : Int := if rangeE x.lo x.hi 1450 1850 ≠ 0 then rangeE x.lo x.hi 1450 1850 else if x.rd.length ≠ s.places.length then 3 else 0
def edTo (s : Stm) (x : Edn) (k : Nat) : Int := if edZero s x ≠ 0 then edZero s x else if ((x.rd.take k).any fun z => !(inB 0 3 z)) = true then 7 else 0
theorem edTo_zero {s : Stm} {x : Edn} : edTo s x 0 = edZero s x := by
 unfold edTo
 by_cases h : edZero s x = 0
 · rw [if_neg (fun k => k h), h]; simp
 · rw [if_pos h]
theorem edTo_full {s : Stm} {x : Edn} {k : Nat} (hk : x.rd.length ≤ k) : edTo s x k = ednErr s x := by
 unfold edTo edZero
 rw [ednErr_range, List.take_of_length_le hk]
 by_cases h1 : rangeE x.lo x.hi 1450 1850 = 0
 · rw [h1]
   by_cases h2 : x.rd.length = s.places.length
   · simp [h2]
   · simp [h2]
 · simp [h1]
theorem edTo_ok {s : Stm} {x : Edn} (h0 : edZero s x = 0) (j : Nat) : edTo s x j = if ((x.rd.take j).any fun z => !(inB 0 3 z)) = true then 7 else 0 := by
 unfold edTo; rw [if_neg (fun q => q h0)]
theorem edTo_stop {s : Stm} {x : Edn} {k : Nat} (h : edTo s x k ≠ 0) : edTo s x k = ednErr s x := by
 rw [← edTo_full (Nat.le_refl _)]
 by_cases h0 : edZero s x = 0
 · rw [edTo_ok h0] at h
   have h1 : ((x.rd.take k).any fun z => !(inB 0 3 z)) = true := by
     cases hc : (x.rd.take k).any fun z => !(inB 0 3 z) with
     | true => rfl
     | false => rw [hc] at h; simp at h
   rw [edTo_ok h0, edTo_ok h0, if_pos h1, if_pos]
   rw [List.any_eq_true] at h1 ⊢
   obtain ⟨z, hz, hb⟩ := h1
   exact ⟨z, by rw [List.take_length]; exact List.mem_of_mem_take hz, hb⟩
 · unfold edTo; rw [if_pos h0, if_pos h0]
theorem edTo_succ {s : Stm} {x : Edn} {k : Nat} (hk : k < x.rd.length) (h : edTo s x k = 0) : edTo s x (k + 1) = if inB 0 3 x.rd[k] = false then 7 else 0 := by
 by_cases h0 : edZero s x = 0
 · rw [edTo_ok h0] at h ⊢
   have h1 : ((x.rd.take k).any fun z => !(inB 0 3 z)) = false := by
     cases hc : (x.rd.take k).any fun z => !(inB 0 3 z) with
     | false => rfl
     | true => rw [hc] at h; simp at h
   have h2 : ([x.rd[k]].any fun z => !(inB 0 3 z)) = !(inB 0 3 x.rd[k]) := by simp
   rw [List.take_succ_eq_append_getElem hk, List.any_append, h1, h2]
   cases inB 0 3 x.rd[k] <;> rfl
 · unfold edTo at h; rw [if_pos h0] at h; exact absurd h h0
end Go.Proofs.Ytccogmkhijgelaa
namespace Go.Proofs.Ytccogmkhijgelaa
def Stm.r (s : Stm) (i p : Nat) : Int := (s.ed i).rd[p]?.getD 0
structure ValidT (s : Stm) : Prop where
 np : 1 ≤ s.places.length ∧ s.places.length ≤ 6
 ne : 1 ≤ s.editions.length ∧ s.editions.length ≤ 5
 kind : ∀ p, p < s.places.length → 0 ≤ (s.pl p).kind ∧ (s.pl p).kind ≤ 1
 year : ∀ i, i < s.editions.length → 1450 ≤ (s.ed i).lo ∧ (s.ed i).lo ≤ (s.ed i).hi ∧ (s.ed i).hi ≤ 1850
 rdl : ∀ i, i < s.editions.length → (s.ed i).rd.length = s.places.length
 rd : ∀ i p, i < s.editions.length → p < s.places.length → 0 ≤ s.r i p ∧ s.r i p ≤ 3
theorem C3 {s : Stm} {i p : Nat} (h : p < (s.ed i).rd.length) : (s.ed i).rd[p] = s.r i p := by simp [Stm.r, h]
theorem checkT_none {s : Stm} (h : (checkT s).2.2 = 0) : inB 1 6 s.places.length = true ∧ (∀ j, j < s.places.length → plcErr s j = 0) ∧ inB 1 5 s.editions.length = true ∧ ∀ j, j < s.editions.length → edErr s j = 0 := by
 unfold checkT at h
 split at h
 · cases h
 · rename_i h1
   split at h
   · rename_i h2; exact absurd h h2
   · rename_i h2
     split at h
     · cases h
     · rename_i h3
       split at h
       · rename_i h4; exact absurd h h4
       · rename_i h4
         exact ⟨by simpa using h1, firstQ_zero (Classical.not_not.1 h2), by simpa using h3, firstQ_zero (Classical.not_not.1 h4)⟩
theorem Ea {s : Stm} (h : (checkT s).2.2 = 0) : ValidT s := by
 obtain ⟨h1, h2, h3, h4⟩ := checkT_none h
 have hed : ∀ i, i < s.editions.length → ednErr s (s.ed i) = 0 := fun i hi => by
   have := h4 i hi
   rw [E5 hi] at this
   split at this
   · cases this
   · split at this
     · cases this
     · exact this
 have hf : ∀ i, i < s.editions.length → (1450 ≤ (s.ed i).lo ∧ (s.ed i).lo ≤ (s.ed i).hi ∧ (s.ed i).hi ≤ 1850) ∧ (s.ed i).rd.length = s.places.length ∧ ∀ z ∈ (s.ed i).rd, 0 ≤ z ∧ z ≤ 3 := fun i hi => by
   have := hed i hi
   unfold ednErr at this
   split at this
   · cases this
   · rename_i k1
     split at this
     · cases this
     · rename_i k2
       split at this
       · cases this
       · rename_i k3
         split at this
         · cases this
         · rename_i k4
           refine ⟨?_, Classical.not_not.1 k3, fun z hz => ?_⟩
           · simp only [inB, Bool.and_eq_false_iff, decide_eq_false_iff_not] at k1; omega
           · have k5 : ((s.ed i).rd.any fun z => !(inB 0 3 z)) = false := by simpa using k4
             rw [List.any_eq_false] at k5
             have := k5 z hz
             simp [inB] at this
             omega
 refine ⟨?_, ?_, fun p hp => ?_, fun i hi => (hf i hi).1, fun i hi => (hf i hi).2.1, fun i p hi hp => ?_⟩
 · simp [inB] at h1; omega
 · simp [inB] at h3; omega
 · have := h2 p hp
   rw [plcErr_at hp, pl_at hp] at this
   split at this
   · cases this
   · split at this
     · cases this
     · split at this
       · cases this
       · rename_i k
         simp [inB] at k
         omega
 · have hl : p < (s.ed i).rd.length := by rw [(hf i hi).2.1]; exact hp
   rw [← C3 hl]
   exact (hf i hi).2.2 _ (List.getElem_mem hl)
def selN (p : Nat → Bool) (k : Nat) : List Nat := (List.range k).filter p
theorem D0 {p : Nat → Bool} {k : Nat} : selN p (k + 1) = if p k = true then selN p k ++ [k] else selN p k := by
 unfold selN
 rw [List.range_succ, List.filter_append]
 by_cases h : p k = true
 · rw [if_pos h]; simp [h]
 · rw [if_neg h]; simp [h]
theorem Dq {p : Nat → Bool} {k : Nat} : (selN p k).length ≤ k := Nat.le_trans (List.length_filter_le _ _) (by simp)
theorem selN_lt {p : Nat → Bool} {k : Nat} : ∀ i ∈ selN p k, i < k := fun i hi => by simpa using (List.mem_filter.1 hi).1
def differB (s : Stm) (a b p : Nat) : Bool := decide (0 < s.r a p) && (decide (0 < s.r b p) && decide (s.r a p ≠ s.r b p))
def apartL (s : Stm) (a b : Nat) : List Nat := selN (differB s a b) s.places.length
theorem differ_mul {s : Stm} (hv : ValidT s) {a b p : Nat} (ha : a < s.editions.length) (hb : b < s.editions.length) (hp : p < s.places.length) : (s.r a p ≠ s.r b p ∧ 0 < s.r a p * s.r b p) ↔ differB s a b p = true := by
 have h1 := hv.rd a p ha hp
 have h2 := hv.rd b p hb hp
 unfold differB
 simp only [Bool.and_eq_true, decide_eq_true_eq]
 constructor
 · rintro ⟨h3, h4⟩
   refine ⟨?_, ?_, h3⟩
   · rcases Int.lt_or_eq_of_le h1.1 with h | h
     · exact h
     · rw [← h, Int.zero_mul] at h4; omega
   · rcases Int.lt_or_eq_of_le h2.1 with h | h
     · exact h
     · rw [← h, Int.mul_zero] at h4; omega
 · rintro ⟨h3, h4, h5⟩
   exact ⟨h5, Int.mul_pos h3 h4⟩
def edsErr (s : Stm) (a b : Int) : Int := if (checkT s).2.2 ≠ 0 then (checkT s).2.2 else if (inB 0 (s.editions.length - 1) a && inB 0 (s.editions.length - 1) b) = false then 4 else 0
def apartE (s : Stm) (a b : Int) : List Nat × Int := if edsErr s a b ≠ 0 then ([], edsErr s a b) else (apartL s a.toNat b.toNat, 0)
def NatsR (F : Heap) (u : Go.Value) (p : List Nat × Int) : Prop := ∃ v, u = .tuple #[v, .int .i64 p.2] ∧ Nats F v p.1
theorem NatsR.mono {F F' : Heap} {u : Go.Value} {p : List Nat × Int} (h : NatsR F u p) (hF : F.le F') : NatsR F' u p := by obtain ⟨v, h1, h2⟩ := h; exact ⟨v, h1, h2.mono hF⟩
theorem eds_bad {s : Stm} {a b : Int} (h : (checkT s).2.2 ≠ 0) : edsErr s a b = (checkT s).2.2 := if_pos h
theorem eds_none {s : Stm} {a b : Int} (h : (checkT s).2.2 = 0) (h2 : (inB 0 (s.editions.length - 1) a && inB 0 (s.editions.length - 1) b) = false) : edsErr s a b = 4 := by unfold edsErr; rw [if_neg (fun k => k h), if_pos h2]
theorem eds_ok {s : Stm} {a b : Int} (h : (checkT s).2.2 = 0) (h2 : inB 0 (s.editions.length - 1) a = true) (h3 : inB 0 (s.editions.length - 1) b = true) : edsErr s a b = 0 := by unfold edsErr; rw [if_neg (fun k => k h), if_neg (by rw [h2, h3]; simp)]
theorem apartE_bad {s : Stm} {a b e : Int} (h : edsErr s a b = e) (he : e ≠ 0) : apartE s a b = ([], e) := by subst h; exact if_pos he
theorem apartE_ok {s : Stm} {a b : Nat} (h : edsErr s (a : Int) (b : Int) = 0) : apartE s (a : Int) (b : Int) = (apartL s a b, 0) := if_neg (fun k => k h)
end Go.Proofs.Ytccogmkhijgelaa
namespace Go.Proofs.Ytccogmkhijgelaa
open Go.RowKit
theorem okWide_array {P : Program} {W : World} {r : Reach} {base : Nat} {t : TypeId} {v : Value} {n : Nat} {e : TypeId} (ht : P.underlying t = some (.array n e)) (h : Value.okWide P W r base t v) : ∃ cs, v = .agg cs ∧ cs.size = P.cellsOf t := by
 simp only [Value.okWide, ht] at h
 obtain ⟨cs, h1, h2, _⟩ := h
 exact ⟨cs, h1, h2⟩
section
variable {H : Type} {enc : TypeId × Value → H} {W : World}
theorem cells3 : Try.prog.cellsOf 3 = 1 := by kernel_rfl
theorem dec3 (cs : List Value) (h : Rd enc Try.prog W 3 cs) : ∃ z : Int, cs = intE z ∧ True := by obtain ⟨z, h, -⟩ := rd_int Try.underlying3 h; exact ⟨z, h, trivial⟩
theorem cells9 : Try.prog.cellsOf 9 = 1 := by kernel_rfl
theorem dec9 (cs : List Value) (h : Rd enc Try.prog W 9 cs) : ∃ b : ByteArray, cs = strE b ∧ True := by obtain ⟨b, h⟩ := rd_string Try.underlying9 h; exact ⟨b, h, trivial⟩
theorem cells60 : Try.prog.cellsOf 60 = 2 := by kernel_rfl
theorem len2 {α : Type} {l : List α} (h : l.length = 2) : ∃ a0 a1, l = [a0, a1] := by
 match l, h with
 | [a0, a1], _ => exact ⟨a0, a1, rfl⟩
theorem dec60 (cs : List Value) (h : Rd enc Try.prog W 60 cs) : ∃ x : Int × Int, cs = [.int .i64 x.1, .int .i64 x.2] ∧ True := by
 obtain ⟨hl, hf⟩ := rd_struct Try.underlying60 h
 rw [cells60] at hl
 obtain ⟨c0, c1, rfl⟩ := len2 hl
 obtain ⟨x0, e0, -⟩ := dec3 _ (rd_fld hf 0 (t := 3) (o := 0) rfl cells3)
 obtain ⟨x1, e1, -⟩ := dec3 _ (rd_fld hf 1 (t := 3) (o := 1) rfl cells3)
 simp [intE] at e0 e1
 obtain rfl := e0
 obtain rfl := e1
 exact ⟨(x0, x1), rfl, trivial⟩
theorem cells70 : Try.prog.cellsOf 70 = 2 := by kernel_rfl
theorem dec70 (cs : List Value) (h : Rd enc Try.prog W 70 cs) : ∃ x : Plc, cs = x.enc ∧ True := by
 obtain ⟨hl, hf⟩ := rd_struct Try.underlying70 h
 rw [cells70] at hl
 obtain ⟨c0, c1, rfl⟩ := len2 hl
 obtain ⟨x0, e0, -⟩ := dec9 _ (rd_fld hf 0 (t := 9) (o := 0) rfl cells9)
 obtain ⟨x1, e1, -⟩ := dec3 _ (rd_fld hf 1 (t := 3) (o := 1) rfl cells3)
 simp [intE, strE] at e0 e1
 obtain rfl := e0
 obtain rfl := e1
 exact ⟨⟨x0, x1⟩, rfl, trivial⟩
theorem cells26 : Try.prog.cellsOf 26 = 1 := by kernel_rfl
theorem cells64 : Try.prog.cellsOf 64 = 4 := by kernel_rfl
theorem len4 {α : Type} {l : List α} (h : l.length = 4) : ∃ a0 a1 a2 a3, l = [a0, a1, a2, a3] := by
 match l, h with
 | [a0, a1, a2, a3], _ => exact ⟨a0, a1, a2, a3, rfl⟩
theorem dec64 (cs : List Value) (h : Rd enc Try.prog W 64 cs) : ∃ x : Value × Edn, cs = edE x ∧ Ints (heapOf W) x.1 x.2.rd := by
 obtain ⟨hl, hf⟩ := rd_struct Try.underlying64 h
 rw [cells64] at hl
 obtain ⟨c0, c1, c2, c3, rfl⟩ := len4 hl
 obtain ⟨x0, e0, -⟩ := dec9 _ (rd_fld hf 0 (t := 9) (o := 0) rfl cells9)
 obtain ⟨x1, e1, -⟩ := dec60 _ (rd_fld hf 1 (t := 60) (o := 1) rfl cells60)
 obtain ⟨x2, s2, -⟩ := rd_slice Try.underlying26 cells3 (by decide) (of_decide_eq_true (by kernel_rfl)) (fun _ => rfl) dec3 (rd_fld hf 2 (t := 26) (o := 3) rfl cells26)
 simp [strE] at e0 e1
 obtain rfl := e0
 obtain ⟨rfl, rfl⟩ := e1
 exact ⟨(c3, ⟨x0, x1.1, x1.2, x2⟩), rfl, s2⟩
theorem cells22 : Try.prog.cellsOf 22 = 1 := by kernel_rfl
theorem cells23 : Try.prog.cellsOf 23 = 1 := by kernel_rfl
theorem cells25 : Try.prog.cellsOf 25 = 2 := by kernel_rfl
set_option maxRecDepth 100000 in
theorem arg_ints {base : Nat} {v : Value} {d : DataW H} {p : List MemPlace} (hok : Value.okWide Try.prog W .any base 26 v) (h : DataW.Trod enc Try.prog W 0 (fun _ => true) true 26 v d p) (hw : ∀ n ∈ d.weights Try.prog 26, n ≤ reachBytes) :
   ∃ xs : List Int, Sl (heapOf W) v 1 intE xs ∧ ∀ x ∈ xs, True := by
 obtain ⟨a, l, c, rfl⟩ := Go.WideShapes.okWide_slice Try.underlying26 hok
 exact rd_slice Try.underlying26 cells3 (by decide) (of_decide_eq_true (by kernel_rfl)) (fun _ => rfl) dec3 (rd_of h hw)
set_option maxRecDepth 100000 in
theorem arg_stem {base : Nat} {v : Value} {d : DataW H} {p : List MemPlace} (hok : Value.okWide Try.prog W .any base 25 v) (h : DataW.Trod enc Try.prog W 0 (fun _ => true) true 25 v d p) (hw : ∀ n ∈ d.weights Try.prog 25, n ≤ reachBytes) :
   ∃ vp ve ps s, v = .agg #[vp, ve] ∧ StmR (heapOf W) vp ve ps s := by
 obtain ⟨cs, rfl, hsz⟩ := Go.WideShapes.okWide_struct Try.underlying25 hok
 have hr := rd_of h hw
 obtain ⟨hl, hf⟩ := rd_struct Try.underlying25 hr
 rw [cells25] at hl
 obtain ⟨c0, c1, hcs⟩ := len2 hl
 have hcs' : cs = #[c0, c1] := by
   have : cs.toList = [c0, c1] := hcs
   exact Array.ext' (by simpa using this)
 subst hcs'
 obtain ⟨xa, sa, wa⟩ := rd_slice Try.underlying22 cells70 (by decide) (of_decide_eq_true (by kernel_rfl)) (fun _ => rfl) dec70 (rd_fld hf 0 (t := 22) (o := 0) rfl cells22)
 obtain ⟨xb, sb, wb⟩ := rd_slice Try.underlying23 cells64 (by decide) (of_decide_eq_true (by kernel_rfl)) (fun _ => rfl) dec64 (rd_fld hf 1 (t := 23) (o := 1) rfl cells23)
 exact ⟨_, _, xb, ⟨xa, xb.map (·.2)⟩, rfl, ⟨sa, sb, wb, rfl⟩⟩
theorem cells27 : Try.prog.cellsOf 27 = 2 := by kernel_rfl
set_option maxRecDepth 100000 in
theorem arg_pair {base : Nat} {v : Value} {d : DataW H} {p : List MemPlace} (hok : Value.okWide Try.prog W .any base 27 v) (h : DataW.Trod enc Try.prog W 0 (fun _ => true) true 27 v d p) (hw : ∀ n ∈ d.weights Try.prog 27, n ≤ reachBytes) :
   ∃ x y : Int, v = .agg #[.int .i64 x, .int .i64 y] := by
 obtain ⟨cs, rfl, hsz⟩ := okWide_array Try.underlying27 hok
 have hr := rd_of h hw
 obtain ⟨hl, hf⟩ := rd_array Try.underlying27 hr
 rw [cells27] at hl
 obtain ⟨c0, c1, hcs⟩ := len2 hl
 have hcs' : cs = #[c0, c1] := by
   have : cs.toList = [c0, c1] := hcs
   exact Array.ext' (by simpa using this)
 subst hcs'
 have h0 := hf 0 (by decide)
 have h1 := hf 1 (by decide)
 simp only [cells3, Value.cells] at h0 h1
 obtain ⟨y0, e0, -⟩ := dec3 _ h0
 obtain ⟨y1, e1, -⟩ := dec3 _ h1
 simp [intE] at e0 e1
 subst e0 e1
 exact ⟨_, _, rfl⟩
end
end Go.Proofs.Ytccogmkhijgelaa
namespace Go.Proofs.Ytccogmkhijgelaa
open Go.ChangeShapes Go.WideShapes Go.ChangeAt Go.RowKit
theorem ownKnob0 : ownKnob Try.prog.godebug = none := by kernel_rfl
theorem laidOut : laidOutB Try.prog = true := by kernel_rfl
theorem weights_at {H : Type} {P : Program} {ts : List TypeId} {ds : List (DataW H)} (h : (DataW.weightsEach P ts ds).all (· ≤ reachBytes) = true) {j : Nat} {t : TypeId} {d : DataW H} (ht : ts[j]? = some t) (hd : ds[j]? = some d) : ∀ n ∈ d.weights P t, n ≤ reachBytes := by
 intro n hn
 have := List.all_eq_true.1 h n (DataW.weights_mem_each ht hd n hn)
 simpa using this
end Go.Proofs.Ytccogmkhijgelaa
namespace Go.Proofs.Ytccogmkhijgelaa
open Go.RowKit
theorem agg_60 : AggT Try.prog 60 2 := aggT_of (by kernel_rfl)
theorem agg_64 : AggT Try.prog 64 4 := aggT_of (by kernel_rfl)
theorem agg_70 : AggT Try.prog 70 2 := aggT_of (by kernel_rfl)
theorem bd_100 : Body Try.prog 100 := Bq (by kernel_rfl)
theorem bd_101 : Body Try.prog 101 := Bq (by kernel_rfl)
theorem bd_102 : Body Try.prog 102 := Bq (by kernel_rfl)
theorem bd_103 : Body Try.prog 103 := Bq (by kernel_rfl)
theorem bd_121 : Body Try.prog 121 := Bq (by kernel_rfl)
theorem bd_122 : Body Try.prog 122 := Bq (by kernel_rfl)
theorem bd_123 : Body Try.prog 123 := Bq (by kernel_rfl)
theorem bd_124 : Body Try.prog 124 := Bq (by kernel_rfl)
theorem bd_98 : Body Try.prog 98 := Bq (by kernel_rfl)
theorem bd_99 : Body Try.prog 99 := Bq (by kernel_rfl)
theorem Du : FieldT Try.prog 60 0 0 := Do (by kernel_rfl)
theorem Dm : FieldT Try.prog 60 1 1 := Do (by kernel_rfl)
theorem Bj : OneT Try.prog 3 := Ef (by kernel_rfl)
theorem one_9 : OneT Try.prog 9 := Ef (by kernel_rfl)
theorem C9 : SliceT Try.prog 22 70 2 := Ep (by kernel_rfl)
theorem B5 : SliceT Try.prog 23 64 4 := Ep (by kernel_rfl)
theorem Be : SliceT Try.prog 26 3 1 := Ep (by kernel_rfl)
theorem Ex : SliceT Try.prog 36 60 2 := Ep (by kernel_rfl)
theorem sl_91 : SliceT Try.prog 91 9 1 := Ep (by kernel_rfl)
set_option maxRecDepth 100000 in
theorem letter_ok {F : Heap} (c : UInt8) : Ok Try.prog 122 [.int .u8 (c.toNat : Int)].toArray F fun r _ => r = .bool (letterB c) := by
 refine Ok.intro Try.func122 rfl Try.ntmps122 rfl fun w0 => ?_
 by_cases h1 : 97 ≤ (c.toNat : Int)
 ·
  refine Af <| Ai fun ds => Aa rfl (Ae Ab) ?_
  refine Ah <| Ac <| Af <| Ai fun ds => Aa rfl (Ag (Al rfl <| Aj rfl)) ?_
  refine Aa rfl (Eg (Ad) Ab) ?_
  refine Aa rfl (Ag (Ad)) ?_
  refine Au rfl rfl (Ad) (by first | rfl | exact decide_eq_true (by omega)) ?_
  refine Aa rfl (Ag (Ay rfl <| Aj rfl)) ?_
  refine Au rfl rfl (Al rfl <| Ad) (by first | rfl | exact decide_eq_true (by omega)) ?_
  refine Aa rfl (D7 (Ad) Ab) ?_
  refine Aa rfl (A2 (Ar rfl <| Ad) (by first | rfl | exact decide_eq_true (by omega)) (Ad)) ?_
  refine Aa rfl (Ae (Ad)) ?_
  refine Ah <| Ac ?_
  by_cases h2 : (c.toNat : Int) ≤ 122
  ·
   refine A4 <| Ax rfl (.tmp (Ad) .nil) ?_
   show _ = _; simp [outOf, letterB, h1, h2]
  ·
   refine A4 <| Ax rfl (.tmp (Ad) .nil) ?_
   show _ = _; simp [outOf, letterB, h1, h2]
 ·
  refine Af <| Ai fun ds => Aa rfl (Ae Ab) ?_
  refine Ah <| Ac <| Af <| Ai fun ds => Aa rfl (Ag (Al rfl <| Aj rfl)) ?_
  refine Aa rfl (Eg (Ad) Ab) ?_
  refine Aa rfl (Ag (Ad)) ?_
  refine At rfl rfl (Ad) (.inl (congrArg Value.bool (by first | rfl | exact decide_eq_false (by omega)))) rfl ?_
  refine At rfl rfl (Al rfl <| Ad) (.inl (congrArg Value.bool (by first | rfl | exact decide_eq_false (by omega)))) rfl ?_
  refine Aa rfl (A7 (Ar rfl <| Ad) (by first | rfl | exact decide_eq_false (by omega)) Ab) ?_
  refine Aa rfl (Ae (Ad)) ?_
  refine Ah <| Ac <| A4 <| Ax rfl (.tmp (Ad) .nil) ?_
  show _ = _; simp [outOf, letterB, h1]
set_option maxRecDepth 100000 in
theorem digit_ok {F : Heap} (c : UInt8) : Ok Try.prog 123 [.int .u8 (c.toNat : Int)].toArray F fun r _ => r = .bool (digitB c) := by
 refine Ok.intro Try.func123 rfl Try.ntmps123 rfl fun w0 => ?_
 by_cases h1 : 48 ≤ (c.toNat : Int)
 ·
  refine Af <| Ai fun ds => Aa rfl (Ae Ab) ?_
  refine Ah <| Ac <| Af <| Ai fun ds => Aa rfl (Ag (Al rfl <| Aj rfl)) ?_
  refine Aa rfl (Eg (Ad) Ab) ?_
  refine Aa rfl (Ag (Ad)) ?_
  refine Au rfl rfl (Ad) (by first | rfl | exact decide_eq_true (by omega)) ?_
  refine Aa rfl (Ag (Ay rfl <| Aj rfl)) ?_
  refine Au rfl rfl (Al rfl <| Ad) (by first | rfl | exact decide_eq_true (by omega)) ?_
  refine Aa rfl (D7 (Ad) Ab) ?_
  refine Aa rfl (A2 (Ar rfl <| Ad) (by first | rfl | exact decide_eq_true (by omega)) (Ad)) ?_
  refine Aa rfl (Ae (Ad)) ?_
  refine Ah <| Ac ?_
  by_cases h2 : (c.toNat : Int) ≤ 57
  ·
   refine A4 <| Ax rfl (.tmp (Ad) .nil) ?_
   show _ = _; simp [outOf, digitB, h1, h2]
  ·
   refine A4 <| Ax rfl (.tmp (Ad) .nil) ?_
   show _ = _; simp [outOf, digitB, h1, h2]
 ·
  refine Af <| Ai fun ds => Aa rfl (Ae Ab) ?_
  refine Ah <| Ac <| Af <| Ai fun ds => Aa rfl (Ag (Al rfl <| Aj rfl)) ?_
  refine Aa rfl (Eg (Ad) Ab) ?_
  refine Aa rfl (Ag (Ad)) ?_
  refine At rfl rfl (Ad) (.inl (congrArg Value.bool (by first | rfl | exact decide_eq_false (by omega)))) rfl ?_
  refine At rfl rfl (Al rfl <| Ad) (.inl (congrArg Value.bool (by first | rfl | exact decide_eq_false (by omega)))) rfl ?_
  refine Aa rfl (A7 (Ar rfl <| Ad) (by first | rfl | exact decide_eq_false (by omega)) Ab) ?_
  refine Aa rfl (Ae (Ad)) ?_
  refine Ah <| Ac <| A4 <| Ax rfl (.tmp (Ad) .nil) ?_
  show _ = _; simp [outOf, digitB, h1]
set_option maxRecDepth 100000 in
theorem Dn {F : Heap} (z lo hi : Int) : Ok Try.prog 62 [.int .i64 z, .int .i64 lo, .int .i64 hi].toArray F fun r _ => r = .bool (inB lo hi z) := by
 refine Ok.intro Try.func62 rfl Try.ntmps62 rfl fun w0 => ?_
 by_cases h1 : lo ≤ z
 ·
  refine Af <| Ai fun ds => Aa rfl (Ae Ab) ?_
  refine Ah <| Ac <| Af <| Ai fun ds => Aa rfl (Ag (Al rfl <| Aj rfl)) ?_
  refine Aa rfl (Ag (Ar rfl <| Aj rfl)) ?_
  refine Aa rfl (D7 (Al rfl <| Ad) (Ad)) ?_
  refine Aa rfl (Ag (Ad)) ?_
  refine Au rfl rfl (Ad) (by first | rfl | exact decide_eq_true (by omega)) ?_
  refine Aa rfl (Ag (Ay rfl <| Al rfl <| Aj rfl)) ?_
  refine Au rfl rfl (Al rfl <| Ad) (by first | rfl | exact decide_eq_true (by omega)) ?_
  refine Aa rfl (Ag (Ay rfl <| Ar rfl <| Aj rfl)) ?_
  refine Au rfl rfl (Ar rfl <| Ad) (by first | rfl | exact decide_eq_true (by omega)) ?_
  refine Aa rfl (D7 (Al rfl <| Ad) (Ad)) ?_
  refine Aa rfl (A2 (Ar rfl <| Al rfl <| Ad) (by first | rfl | exact decide_eq_true (by omega)) (Ad)) ?_
  refine Aa rfl (Ae (Ad)) ?_
  refine Ah <| Ac ?_
  by_cases h2 : z ≤ hi
  ·
   refine A4 <| Ax rfl (.tmp (Ad) .nil) ?_
   show _ = _; simp [outOf, inB, h1, h2]
  ·
   refine A4 <| Ax rfl (.tmp (Ad) .nil) ?_
   show _ = _; simp [outOf, inB, h1, h2]
 ·
  refine Af <| Ai fun ds => Aa rfl (Ae Ab) ?_
  refine Ah <| Ac <| Af <| Ai fun ds => Aa rfl (Ag (Al rfl <| Aj rfl)) ?_
  refine Aa rfl (Ag (Ar rfl <| Aj rfl)) ?_
  refine Aa rfl (D7 (Al rfl <| Ad) (Ad)) ?_
  refine Aa rfl (Ag (Ad)) ?_
  refine At rfl rfl (Ad) (.inl (congrArg Value.bool (by first | rfl | exact decide_eq_false (by omega)))) rfl ?_
  refine At rfl rfl (Al rfl <| Ad) (.inl (congrArg Value.bool (by first | rfl | exact decide_eq_false (by omega)))) rfl ?_
  refine At rfl rfl (Ar rfl <| Ad) (.inl (congrArg Value.bool (by first | rfl | exact decide_eq_false (by omega)))) rfl ?_
  refine Aa rfl (A7 (Ar rfl <| Al rfl <| Ad) (by first | rfl | exact decide_eq_false (by omega)) Ab) ?_
  refine Aa rfl (Ae (Ad)) ?_
  refine Ah <| Ac <| A4 <| Ax rfl (.tmp (Ad) .nil) ?_
  show _ = _; simp [outOf, inB, h1]
set_option maxRecDepth 100000 in
theorem refName_ok {F : Heap} (s : ByteArray) : Ok Try.prog 103 [.string s].toArray F fun r _ => r = .bool (nameOk s) := by
 refine Ok.intro Try.func103 rfl Try.ntmps103 rfl fun w0 => ?_
 by_cases h0 : (s.size : Int) = 0
 ·
  refine Af <| Ai fun ds => Aa rfl (Ae Ab) ?_
  refine Ah <| Ac <| Af <| Af <| Ai fun ds => Aa rfl (Ag (Al rfl <| Aj rfl)) ?_
  refine Aa rfl (q_lenS Try.underlying9 (Ad)) ?_
  refine Aa rfl (Bs (Ad) Ab) ?_
  refine Aa rfl (Ag (Ad)) ?_
  refine At rfl rfl (Ad) (.inl (congrArg Value.bool (by first | rfl | exact decide_eq_true (by omega)))) rfl ?_
  refine At rfl rfl (Al rfl <| Ad) (.inl (congrArg Value.bool (by first | rfl | exact decide_eq_true (by omega)))) rfl ?_
  refine At rfl rfl (Ar rfl <| Ad) (.inl (congrArg Value.bool (by first | rfl | exact decide_eq_true (by omega)))) rfl ?_
  refine Aa rfl (A2 (Ar rfl <| Al rfl <| Ad) (by first | rfl | exact decide_eq_true (by omega)) Ab) ?_
  refine Ah <| Ac <| Aq (Ad) (by first | rfl | exact decide_eq_true (by omega)) ?_
  refine Af <| Ai fun ds => Aa rfl (Ae Ab) ?_
  refine Ah <| Ac <| A4 <| Bg ?_
  refine Ax rfl (.tmp (Ad) .nil) ?_
  show _ = _
  rw [nameOk_len (by omega)]; rfl
 ·
  refine Af <| Ai fun ds => Aa rfl (Ae Ab) ?_
  refine Ah <| Ac <| Af <| Af <| Ai fun ds => Aa rfl (Ag (Al rfl <| Aj rfl)) ?_
  refine Aa rfl (q_lenS Try.underlying9 (Ad)) ?_
  refine Aa rfl (Bs (Ad) Ab) ?_
  refine Aa rfl (Ag (Ad)) ?_
  refine Au rfl rfl (Ad) (by first | rfl | exact decide_eq_false (by omega)) ?_
  refine Aa rfl (Ag (Ay rfl <| Al rfl <| Aj rfl)) ?_
  refine Au rfl rfl (Al rfl <| Ad) (by first | rfl | exact decide_eq_false (by omega)) ?_
  refine Aa rfl (q_lenS Try.underlying9 (Ad)) ?_
  refine Au rfl rfl (Ar rfl <| Ad) (by first | rfl | exact decide_eq_false (by omega)) ?_
  refine Aa rfl (De (Ad) Ab) ?_
  refine Aa rfl (A7 (Ar rfl <| Al rfl <| Ad) (by first | rfl | exact decide_eq_false (by omega)) (Ad)) ?_
  refine Ah <| Ac ?_
  by_cases h16 : (16 : Int) < s.size
  ·
   refine Aq (Ad) (by first | rfl | exact decide_eq_true (by omega)) ?_
   refine Af <| Ai fun ds => Aa rfl (Ae Ab) ?_
   refine Ah <| Ac <| A4 <| Bg ?_
   refine Ax rfl (.tmp (Ad) .nil) ?_
   show _ = _
   rw [nameOk_len (by omega)]; rfl
  ·
   refine Am (Ad) (by first | rfl | exact decide_eq_false (by omega)) ?_
   refine Aw <| Ac <| Af <| Af <| Ai fun ds => Aa rfl (Ae Ab) ?_
   refine Ah <| Ac <| Az <| Bu [2, 3, 12, 13, 14, 15, 16, 17, 18, 19, 20, 21, 22, 23, 24, 25, 26, 27, 28, 29, 30, 31, 32, 33, 34, 35, 36, 37, 38, 39] (fun m e σ => ∃ k : Nat, m + k = s.size ∧ e 3 = .int .i64 k ∧ σ = ⟨F, []⟩ ∧ ∀ j (hj : j < s.size), j < k → chOk j s[j] = true) (s.size) ?_ ?_
   · exact ⟨0, by omega, (Ad), rfl, fun j hj h => absurd h (by omega)⟩
   ·
    rintro m e _ ⟨k, hm, hs3, rfl, hno⟩
    by_cases hlt : k < s.size
    ·
     refine Af <| Af <| Ai fun ds => Aa rfl (Ag (As rfl hs3)) ?_
     refine Aa rfl (Ag (Al rfl <| Ak rfl <| A6 rfl <| Ar rfl <| Aj rfl)) ?_
     refine Aa rfl (q_lenS Try.underlying9 (Ad)) ?_
     refine Aa rfl (Bw (Ar rfl <| Ad) (Ad)) ?_
     refine Ah <| Ac <| Aq (Ad) (by first | rfl | exact decide_eq_true (by omega)) ?_
     by_cases hl : letterB s[k] = true
     ·
      have hch : chOk k s[k] = true := by unfold chOk; rw [hl]; rfl
      refine Aw <| Ac <| Af <| Az <| Af <| Ai fun ds => Aa rfl (Ag (Ay rfl <| Ak rfl <| A6 rfl <| Ar rfl <| Aj rfl)) ?_
      refine Aa rfl (Ag (Ay rfl <| Al rfl <| As rfl hs3)) ?_
      refine Aa rfl (q_indexS Try.underlying9 (Al rfl <| Ad) (Ad) rfl hlt) ?_
      refine Bx rfl (Bi bd_122 A0 (.cons (Ad) .nil) (letter_ok _) (fun _ _ h => h)) ?_
      refine Aa rfl (Ci (Ad)) ?_
      refine Aa rfl (Ag (Ad)) ?_
      refine At rfl rfl (Ad) (.inl (congrArg Value.bool (by first | rfl | (simp [hl]; done)))) rfl ?_
      refine At rfl rfl (Al rfl <| Ad) (.inl (congrArg Value.bool (by first | rfl | (simp [hl]; done)))) rfl ?_
      refine At rfl rfl (Ar rfl <| Ad) (.inl (congrArg Value.bool (by first | rfl | (simp [hl]; done)))) rfl ?_
      refine At rfl rfl (Ad) (.inr rfl) rfl ?_
      refine At rfl rfl (Al rfl <| Ad) (.inr rfl) rfl ?_
      refine At rfl rfl (Ar rfl <| Ad) (.inr rfl) rfl ?_
      refine At rfl rfl (Ar rfl <| Al rfl <| Ad) (.inr rfl) rfl ?_
      refine At rfl rfl (Ay rfl <| Ad) (.inr rfl) rfl ?_
      refine At rfl rfl (Ay rfl <| Al rfl <| Ad) (.inr rfl) rfl ?_
      refine At rfl rfl (Ad) (.inr rfl) rfl ?_
      refine At rfl rfl (Al rfl <| Ad) (.inr rfl) rfl ?_
      refine At rfl rfl (Ar rfl <| Ad) (.inr rfl) rfl ?_
      refine At rfl rfl (Ar rfl <| Al rfl <| Ad) (.inr rfl) rfl ?_
      refine At rfl rfl (A6 rfl <| Ar rfl <| Ad) (.inr rfl) rfl ?_
      refine At rfl rfl (A6 rfl <| Ay rfl <| Ar rfl <| Ad) (.inl (congrArg Value.bool (by first | rfl | (simp [hl]; done)))) rfl ?_
      refine Aa rfl (A7 (A6 rfl <| Ay rfl <| Ar rfl <| Al rfl <| Ad) (by first | rfl | (simp [hl]; done)) Ab) ?_
      refine Ah <| Ac <| Am (Ad) (by first | rfl | (simp [hl]; done)) ?_
      refine Aw <| Bb <| Ac <| Ai fun ds => Aa rfl (Ag (A3 rfl <| A6 rfl <| Ar rfl <| As rfl hs3)) ?_
      refine Aa rfl (Br (Ad) Ab rfl (by omega) (by omega)) ?_
      refine Aa rfl (Ae (Ad)) ?_
      refine Ah <| Ac ⟨_, m - 1, Off.eq (Cr rfl <| Dj rfl <| Dv rfl <| Dk rfl <| Bd), by omega, ?_⟩
      refine ⟨k + 1, by omega, (Ad), rfl, fun j hj hjk => ?_⟩
      rcases Nat.lt_succ_iff_lt_or_eq.1 hjk with hjk | rfl
      · exact hno j hj hjk
      · exact hch
     ·
      replace hl : letterB s[k] = false := by simpa using hl
      refine Aw <| Ac <| Af <| Az <| Af <| Ai fun ds => Aa rfl (Ag (Ay rfl <| Ak rfl <| A6 rfl <| Ar rfl <| Aj rfl)) ?_
      refine Aa rfl (Ag (Ay rfl <| Al rfl <| As rfl hs3)) ?_
      refine Aa rfl (q_indexS Try.underlying9 (Al rfl <| Ad) (Ad) rfl hlt) ?_
      refine Bx rfl (Bi bd_122 A0 (.cons (Ad) .nil) (letter_ok _) (fun _ _ h => h)) ?_
      refine Aa rfl (Ci (Ad)) ?_
      refine Aa rfl (Ag (Ad)) ?_
      refine Au rfl rfl (Ad) (by first | rfl | (simp [hl]; done)) ?_
      refine Aa rfl (Ag (A6 rfl <| Ar rfl <| As rfl hs3)) ?_
      refine Au rfl rfl (Al rfl <| Ad) (by first | rfl | (simp [hl]; done)) ?_
      refine Aa rfl (Bs (Ad) Ab) ?_
      refine Au rfl rfl (Ar rfl <| Ad) (by first | rfl | (simp [hl]; done)) ?_
      refine Aa rfl (Ag (Ad)) ?_
      by_cases hz : k = 0
      ·
       have hch : chOk k s[k] = false := by unfold chOk; rw [hl]; simp [hz]
       refine At rfl rfl (Ad) (.inl (congrArg Value.bool (by first | rfl | exact decide_eq_true (by omega)))) rfl ?_
       refine At rfl rfl (Al rfl <| Ad) (.inl (congrArg Value.bool (by first | rfl | exact decide_eq_true (by omega)))) rfl ?_
       refine At rfl rfl (Ar rfl <| Ad) (.inl (congrArg Value.bool (by first | rfl | exact decide_eq_true (by omega)))) rfl ?_
       refine At rfl rfl (Ar rfl <| Al rfl <| Ad) (.inl (congrArg Value.bool (by first | rfl | exact decide_eq_true (by omega)))) rfl ?_
       refine At rfl rfl (Ay rfl <| Ad) (.inl (congrArg Value.bool (by first | rfl | exact decide_eq_true (by omega)))) rfl ?_
       refine At rfl rfl (Ay rfl <| Al rfl <| Ad) (.inl (congrArg Value.bool (by first | rfl | exact decide_eq_true (by omega)))) rfl ?_
       refine At rfl rfl (Ad) (.inr rfl) rfl ?_
       refine At rfl rfl (Al rfl <| Ad) (.inr rfl) rfl ?_
       refine At rfl rfl (Ar rfl <| Ad) (.inr rfl) rfl ?_
       refine At rfl rfl (Ar rfl <| Al rfl <| Ad) (.inr rfl) rfl ?_
       refine At rfl rfl (A6 rfl <| Ar rfl <| Ad) (.inl (congrArg Value.bool (by first | rfl | exact decide_eq_true (by omega)))) rfl ?_
       refine Au rfl rfl (A6 rfl <| Ay rfl <| Ar rfl <| Ad) (by first | rfl | (simp [hl]; done)) ?_
       refine Aa rfl (A2 (A6 rfl <| Ar rfl <| Al rfl <| Ad) (by first | rfl | exact decide_eq_true (by omega)) Ab) ?_
       refine Aa rfl (A2 (A6 rfl <| Ay rfl <| Ar rfl <| Al rfl <| Ad) (by first | rfl | (simp [hl]; done)) (Ad)) ?_
       refine Ah <| Ac <| Aq (Ad) (by first | rfl | exact decide_eq_true (by omega)) ?_
       refine Af <| Ai fun ds => Aa rfl (Ae Ab) ?_
       refine Ah <| Ac <| A4 <| Bl (Bg (Bg (Bl (Bg ?_))))
       refine Ax rfl (.tmp (Ad) .nil) ?_
       show _ = _
       rw [Di (i := k) hlt hch]; rfl
      ·
       refine Au rfl rfl (Ad) (by first | rfl | exact decide_eq_false (by omega)) ?_
       refine Aa rfl (Ag (A6 rfl <| Ay rfl <| Al rfl <| Ak rfl <| A6 rfl <| Ar rfl <| Aj rfl)) ?_
       refine Au rfl rfl (Al rfl <| Ad) (by first | rfl | exact decide_eq_false (by omega)) ?_
       refine Aa rfl (Ag (A6 rfl <| Ay rfl <| Ar rfl <| As rfl hs3)) ?_
       refine Au rfl rfl (Ar rfl <| Ad) (by first | rfl | exact decide_eq_false (by omega)) ?_
       refine Aa rfl (q_indexS Try.underlying9 (Al rfl <| Ad) (Ad) rfl hlt) ?_
       refine Au rfl rfl (Ar rfl <| Al rfl <| Ad) (by first | rfl | exact decide_eq_false (by omega)) ?_
       refine Bx rfl (Bi bd_123 A0 (.cons (Ad) .nil) (digit_ok _) (fun _ _ h => h)) ?_
       refine Au rfl rfl (Ay rfl <| Ad) (by first | rfl | exact decide_eq_false (by omega)) ?_
       refine Aa rfl (Ci (Ad)) ?_
       refine Au rfl rfl (Ay rfl <| Al rfl <| Ad) (by first | rfl | exact decide_eq_false (by omega)) ?_
       refine Aa rfl (Ag (Ad)) ?_
       by_cases hd : digitB s[k] = true
       ·
        have hch : chOk k s[k] = true := by unfold chOk; rw [hd]; simp [hz]
        refine At rfl rfl (Ad) (.inl (congrArg Value.bool (by first | rfl | (simp [hd]; done)))) rfl ?_
        refine At rfl rfl (Al rfl <| Ad) (.inl (congrArg Value.bool (by first | rfl | (simp [hd]; done)))) rfl ?_
        refine At rfl rfl (Ar rfl <| Ad) (.inl (congrArg Value.bool (by first | rfl | (simp [hd]; done)))) rfl ?_
        refine At rfl rfl (Ar rfl <| Al rfl <| Ad) (.inl (congrArg Value.bool (by first | rfl | (simp [hd]; done)))) rfl ?_
        refine Au rfl rfl (A6 rfl <| Ar rfl <| Ad) (by first | rfl | exact decide_eq_false (by omega)) ?_
        refine Aa rfl (A7 (Ay rfl <| Ad) (by first | rfl | (simp [hd]; done)) Ab) ?_
        refine Au rfl rfl (A6 rfl <| Ay rfl <| Ar rfl <| Ad) (by first | rfl | (simp [hl]; done)) ?_
        refine Aa rfl (A7 (A6 rfl <| Ar rfl <| Al rfl <| Ad) (by first | rfl | exact decide_eq_false (by omega)) (Ad)) ?_
        refine Aa rfl (A2 (A6 rfl <| Ay rfl <| Ar rfl <| Al rfl <| Ad) (by first | rfl | (simp [hl]; done)) (Ad)) ?_
        refine Ah <| Ac <| Am (Ad) (by first | rfl | (simp [hd]; done)) ?_
        refine Aw <| Bb <| Ac <| Ai fun ds => Aa rfl (Ag (A3 rfl <| A6 rfl <| Ar rfl <| As rfl hs3)) ?_
        refine Aa rfl (Br (Ad) Ab rfl (by omega) (by omega)) ?_
        refine Aa rfl (Ae (Ad)) ?_
        refine Ah <| Ac ⟨_, m - 1, Off.eq (Cr rfl <| Dj rfl <| Dv rfl <| Dk rfl <| Bd), by omega, ?_⟩
        refine ⟨k + 1, by omega, (Ad), rfl, fun j hj hjk => ?_⟩
        rcases Nat.lt_succ_iff_lt_or_eq.1 hjk with hjk | rfl
        · exact hno j hj hjk
        · exact hch
       ·
        replace hd : digitB s[k] = false := by simpa using hd
        refine Au rfl rfl (Ad) (by first | rfl | (simp [hd]; done)) ?_
        refine Aa rfl (Ag (A3 rfl <| Ar rfl <| Al rfl <| Ak rfl <| A6 rfl <| Ar rfl <| Aj rfl)) ?_
        refine Au rfl rfl (Al rfl <| Ad) (by first | rfl | (simp [hd]; done)) ?_
        refine Aa rfl (Ag (A3 rfl <| Ay rfl <| As rfl hs3)) ?_
        refine Au rfl rfl (Ar rfl <| Ad) (by first | rfl | (simp [hd]; done)) ?_
        refine Aa rfl (q_indexS Try.underlying9 (Al rfl <| Ad) (Ad) rfl hlt) ?_
        refine Au rfl rfl (Ar rfl <| Al rfl <| Ad) (by first | rfl | (simp [hd]; done)) ?_
        refine Aa rfl (By (Ad) Ab) ?_
        refine Au rfl rfl (A6 rfl <| Ar rfl <| Ad) (by first | rfl | exact decide_eq_false (by omega)) ?_
        refine Aa rfl (A2 (Ay rfl <| Ad) (by first | rfl | (simp [hd]; done)) (Ad)) ?_
        refine Au rfl rfl (A6 rfl <| Ay rfl <| Ar rfl <| Ad) (by first | rfl | (simp [hl]; done)) ?_
        refine Aa rfl (A7 (A6 rfl <| Ar rfl <| Al rfl <| Ad) (by first | rfl | exact decide_eq_false (by omega)) (Ad)) ?_
        refine Aa rfl (A2 (A6 rfl <| Ay rfl <| Ar rfl <| Al rfl <| Ad) (by first | rfl | (simp [hl]; done)) (Ad)) ?_
        refine Ah <| Ac ?_
        by_cases hp : (s[k].toNat : Int) = 46
        ·
         have hch : chOk k s[k] = true := by unfold chOk; simp [hz, hp]
         refine Am (Ad) (by first | rfl | exact decide_eq_false (by omega)) ?_
         refine Aw <| Bb <| Ac <| Ai fun ds => Aa rfl (Ag (A3 rfl <| A6 rfl <| Ar rfl <| As rfl hs3)) ?_
         refine Aa rfl (Br (Ad) Ab rfl (by omega) (by omega)) ?_
         refine Aa rfl (Ae (Ad)) ?_
         refine Ah <| Ac ⟨_, m - 1, Off.eq (Cr rfl <| Dj rfl <| Dv rfl <| Dk rfl <| Bd), by omega, ?_⟩
         refine ⟨k + 1, by omega, (Ad), rfl, fun j hj hjk => ?_⟩
         rcases Nat.lt_succ_iff_lt_or_eq.1 hjk with hjk | rfl
         · exact hno j hj hjk
         · exact hch
        ·
         have hch : chOk k s[k] = false := by unfold chOk; simp [hl, hd, hp]
         refine Aq (Ad) (by first | rfl | exact decide_eq_true (by omega)) ?_
         refine Af <| Ai fun ds => Aa rfl (Ae Ab) ?_
         refine Ah <| Ac <| A4 <| Bl (Bg (Bg (Bl (Bg ?_))))
         refine Ax rfl (.tmp (Ad) .nil) ?_
         show _ = _
         rw [Di (i := k) hlt hch]; rfl
    ·
     refine Af <| Af <| Ai fun ds => Aa rfl (Ag (As rfl hs3)) ?_
     refine Aa rfl (Ag (Al rfl <| Ak rfl <| A6 rfl <| Ar rfl <| Aj rfl)) ?_
     refine Aa rfl (q_lenS Try.underlying9 (Ad)) ?_
     refine Aa rfl (Bw (Ar rfl <| Ad) (Ad)) ?_
     refine Ah <| Ac <| Am (Ad) (by first | rfl | exact decide_eq_false (by omega)) ?_
     refine Bn ?_
     refine Ba <| Ba <| Bh <| Ac <| Af <| Ai fun ds => Aa rfl (Ae Ab) ?_
     refine Ah <| Ac <| A4 <| Ax rfl (.tmp (Ad) .nil) ?_
     show _ = _
     rw [nameOk_true (by omega) (by omega) fun j hj => hno j hj (by omega)]; rfl
set_option maxRecDepth 100000 in
theorem quireName_ok {F : Heap} (s : ByteArray) : Ok Try.prog 55 [.string s].toArray F fun r _ => r = .bool (nameOk s) := by
 refine Ok.intro Try.func55 rfl Try.ntmps55 rfl fun w0 => ?_
 refine Af <| Ai fun ds => Aa rfl (Ae Ab) ?_
 refine Ah <| Ac <| Af <| Af <| Ai fun ds => Aa rfl (Ag (Al rfl <| Aj rfl)) ?_
 refine Bm rfl (x_rangeS Try.underlying9 (Ad) fun b1 hb1 nb1 => ?_)
 refine Ah <| Ac <| Az <| Bu [2, 3, 4, 7, 8, 9, 10, 11, 12, 13, 14, 15, 16, 17, 18, 19, 20, 21, 22, 23, 24, 25, 26, 27, 28, 29, 30, 31, 32] (fun m e σ => ∃ k : Nat, m + k = s.size ∧ σ = ⟨F, [(b1, .stringIter s k)]⟩ ∧ ∀ j (hj : j < s.size), j < k → chOk j s[j] = true) (s.size) ?_ ?_
 · exact ⟨0, by omega, rfl, fun j hj h => absurd h (by omega)⟩
 ·
  rintro m e _ ⟨k, hm, rfl, hno⟩
  by_cases hlt : k < s.size
  ·
   by_cases ha : s[k].toNat < 128
   ·
    have hdec := decode_ascii s k hlt ha
    refine Af <| Ai fun ds => Bm rfl (x_nextS (Ak rfl <| Ad) (i := 0) rfl hlt hdec (.here) ?_)
    refine Aa rfl (A1 (Ad) rfl) ?_
    refine Ah <| Ac <| Af <| Aq (Ad) rfl ?_
    by_cases hl1 : 97 ≤ (s[k].toNat : Int)
    ·
     refine Aw <| Ac <| Az <| Af <| Ai fun ds => Aa rfl (A1 (Al rfl <| Ad) rfl) ?_
     refine Aa rfl (A1 (Ar rfl <| Ad) rfl) ?_
     refine Aa rfl (Ae (Al rfl <| Ad)) ?_
     refine Aa rfl (Ae (Al rfl <| Ad)) ?_
     refine Ah <| Ac <| Az <| Af <| Ai fun ds => Aa rfl (Ag (Ad)) ?_
     refine Aa rfl (Eg (Ad) Ab) ?_
     refine Aa rfl (Ag (Ad)) ?_
     refine Au rfl rfl (Ad) (by first | rfl | exact decide_eq_true (by omega)) ?_
     refine Aa rfl (Ag (Ar rfl <| Al rfl <| Ad)) ?_
     refine Au rfl rfl (Al rfl <| Ad) (by first | rfl | exact decide_eq_true (by omega)) ?_
     refine Aa rfl (D7 (Ad) Ab) ?_
     refine Aa rfl (A2 (Ar rfl <| Ad) (by first | rfl | exact decide_eq_true (by omega)) (Ad)) ?_
     refine Aa rfl (Ae (Ad)) ?_
     refine Ah <| Ac ?_
     by_cases hl2 : (s[k].toNat : Int) ≤ 122
     ·
      have hch : chOk k s[k] = true := by unfold chOk letterB digitB; simp; omega
      refine Aq (Ad) (by first | rfl | exact decide_eq_true (by omega)) ?_
      refine Aw <| Bb (Bb ?_)
      refine Ac ⟨_, m - 1, Off.eq (Dj rfl <| Dv rfl <| Dk rfl <| Bd), by omega, ?_⟩
      refine ⟨k + 1, by omega, rfl, fun j hj hjk => ?_⟩
      rcases Nat.lt_succ_iff_lt_or_eq.1 hjk with hjk | rfl
      · exact hno j hj hjk
      · exact hch
     ·
      refine Am (Ad) (by first | rfl | exact decide_eq_false (by omega)) ?_
      by_cases hz : k = 0
      ·
       refine Af <| Ai fun ds => Aa rfl (Ag (A6 rfl <| Ad)) ?_
       refine Aa rfl (De (Ad) Ab) ?_
       refine Aa rfl (Ag (Ad)) ?_
       refine At rfl rfl (Ad) (.inl (congrArg Value.bool (by first | rfl | exact decide_eq_false (by omega)))) rfl ?_
       refine At rfl rfl (Al rfl <| Ad) (.inl (congrArg Value.bool (by first | rfl | exact decide_eq_false (by omega)))) rfl ?_
       refine At rfl rfl (Ar rfl <| Ad) (.inl (congrArg Value.bool (by first | rfl | exact decide_eq_false (by omega)))) rfl ?_
       refine At rfl rfl (Ad) (.inr rfl) rfl ?_
       refine At rfl rfl (Al rfl <| Ad) (.inr rfl) rfl ?_
       refine At rfl rfl (Ay rfl <| Al rfl <| Ad) (.inl (congrArg Value.bool (by first | rfl | exact decide_eq_false (by omega)))) rfl ?_
       refine At rfl rfl (Ay rfl <| Ar rfl <| Ad) (.inl (congrArg Value.bool (by first | rfl | exact decide_eq_false (by omega)))) rfl ?_
       refine At rfl rfl (Ad) (.inr rfl) rfl ?_
       refine At rfl rfl (Al rfl <| Ad) (.inr rfl) rfl ?_
       refine At rfl rfl (A6 rfl <| Al rfl <| Ad) (.inl (congrArg Value.bool (by first | rfl | exact decide_eq_false (by omega)))) rfl ?_
       refine Aa rfl (A7 (A6 rfl <| Ar rfl <| Ad) (by first | rfl | exact decide_eq_false (by omega)) Ab) ?_
       refine Aa rfl (Ae (Ad)) ?_
       refine Ah <| Ac ?_
       have hch : chOk k s[k] = false := by unfold chOk letterB digitB; simp; omega
       refine Am (Ad) (by first | rfl | exact decide_eq_false (by omega)) ?_
       refine Af <| Ai fun ds => Aa rfl (Ae Ab) ?_
       refine Ah <| Ac <| A4 <| Bl (Bl (Bg (Bl (Bg ?_))))
       refine Ax rfl (.tmp (Ad) .nil) ?_
       show _ = _
       rw [Di (i := k) hlt hch]; rfl
      ·
       refine Af <| Ai fun ds => Aa rfl (Ag (A6 rfl <| Ad)) ?_
       refine Aa rfl (De (Ad) Ab) ?_
       refine Aa rfl (Ag (Ad)) ?_
       refine Au rfl rfl (Ad) (by first | rfl | exact decide_eq_true (by omega)) ?_
       refine Aa rfl (Ag (A6 rfl <| Ar rfl <| Ad)) ?_
       refine Au rfl rfl (Al rfl <| Ad) (by first | rfl | exact decide_eq_true (by omega)) ?_
       refine Aa rfl (Eg (Ad) Ab) ?_
       refine Au rfl rfl (Ar rfl <| Ad) (by first | rfl | exact decide_eq_true (by omega)) ?_
       refine Aa rfl (Ag (Ad)) ?_
       by_cases hd1 : 48 ≤ (s[k].toNat : Int)
       ·
        refine Au rfl rfl (Ad) (by first | rfl | exact decide_eq_true (by omega)) ?_
        refine Aa rfl (Ag (A6 rfl <| Ay rfl <| Al rfl <| Ad)) ?_
        refine Au rfl rfl (Al rfl <| Ad) (by first | rfl | exact decide_eq_true (by omega)) ?_
        refine Aa rfl (D7 (Ad) Ab) ?_
        refine Au rfl rfl (Ay rfl <| Al rfl <| Ad) (by first | rfl | exact decide_eq_true (by omega)) ?_
        refine Aa rfl (A2 (Ar rfl <| Ad) (by first | rfl | exact decide_eq_true (by omega)) (Ad)) ?_
        refine Au rfl rfl (Ay rfl <| Ar rfl <| Ad) (by first | rfl | exact decide_eq_true (by omega)) ?_
        refine Aa rfl (Ag (Ad)) ?_
        by_cases hd2 : (s[k].toNat : Int) ≤ 57
        ·
         refine At rfl rfl (Ad) (.inl (congrArg Value.bool (by first | rfl | exact decide_eq_true (by omega)))) rfl ?_
         refine At rfl rfl (Al rfl <| Ad) (.inl (congrArg Value.bool (by first | rfl | exact decide_eq_true (by omega)))) rfl ?_
         refine Au rfl rfl (A6 rfl <| Al rfl <| Ad) (by first | rfl | exact decide_eq_true (by omega)) ?_
         refine Aa rfl (A2 (Ar rfl <| Ad) (by first | rfl | exact decide_eq_true (by omega)) Ab) ?_
         refine Aa rfl (A2 (A6 rfl <| Ar rfl <| Ad) (by first | rfl | exact decide_eq_true (by omega)) (Ad)) ?_
         refine Aa rfl (Ae (Ad)) ?_
         refine Ah <| Ac ?_
         have hch : chOk k s[k] = true := by unfold chOk letterB digitB; simp; omega
         refine Aq (Ad) (by first | rfl | exact decide_eq_true (by omega)) ?_
         refine Aw <| Bb (Bb ?_)
         refine Ac ⟨_, m - 1, Off.eq (Cr rfl <| Dj rfl <| Dv rfl <| Bd), by omega, ?_⟩
         refine ⟨k + 1, by omega, rfl, fun j hj hjk => ?_⟩
         rcases Nat.lt_succ_iff_lt_or_eq.1 hjk with hjk | rfl
         · exact hno j hj hjk
         · exact hch
        ·
         refine Au rfl rfl (Ad) (by first | rfl | exact decide_eq_false (by omega)) ?_
         refine Aa rfl (Ag (A3 rfl <| Al rfl <| Ad)) ?_
         refine Au rfl rfl (Al rfl <| Ad) (by first | rfl | exact decide_eq_false (by omega)) ?_
         refine Aa rfl (Bs (Ad) Ab) ?_
         refine Au rfl rfl (A6 rfl <| Al rfl <| Ad) (by first | rfl | exact decide_eq_true (by omega)) ?_
         refine Aa rfl (A7 (Ar rfl <| Ad) (by first | rfl | exact decide_eq_false (by omega)) (Ad)) ?_
         refine Aa rfl (A2 (A6 rfl <| Ar rfl <| Ad) (by first | rfl | exact decide_eq_true (by omega)) (Ad)) ?_
         refine Aa rfl (Ae (Ad)) ?_
         refine Ah <| Ac ?_
         by_cases hp : (s[k].toNat : Int) = 46
         ·
          have hch : chOk k s[k] = true := by unfold chOk letterB digitB; simp; omega
          refine Aq (Ad) (by first | rfl | exact decide_eq_true (by omega)) ?_
          refine Aw <| Bb (Bb ?_)
          refine Ac ⟨_, m - 1, Off.eq (Cr rfl <| Dj rfl <| Dv rfl <| Bd), by omega, ?_⟩
          refine ⟨k + 1, by omega, rfl, fun j hj hjk => ?_⟩
          rcases Nat.lt_succ_iff_lt_or_eq.1 hjk with hjk | rfl
          · exact hno j hj hjk
          · exact hch
         ·
          have hch : chOk k s[k] = false := by unfold chOk letterB digitB; simp; omega
          refine Am (Ad) (by first | rfl | exact decide_eq_false (by omega)) ?_
          refine Af <| Ai fun ds => Aa rfl (Ae Ab) ?_
          refine Ah <| Ac <| A4 <| Bl (Bl (Bg (Bl (Bg ?_))))
          refine Ax rfl (.tmp (Ad) .nil) ?_
          show _ = _
          rw [Di (i := k) hlt hch]; rfl
       ·
        refine At rfl rfl (Ad) (.inl (congrArg Value.bool (by first | rfl | exact decide_eq_false (by omega)))) rfl ?_
        refine At rfl rfl (Al rfl <| Ad) (.inl (congrArg Value.bool (by first | rfl | exact decide_eq_false (by omega)))) rfl ?_
        refine Au rfl rfl (Ay rfl <| Al rfl <| Ad) (by first | rfl | exact decide_eq_true (by omega)) ?_
        refine Aa rfl (A7 (Ar rfl <| Ad) (by first | rfl | exact decide_eq_false (by omega)) Ab) ?_
        refine Au rfl rfl (Ay rfl <| Ar rfl <| Ad) (by first | rfl | exact decide_eq_true (by omega)) ?_
        refine Aa rfl (Ag (Ad)) ?_
        refine Au rfl rfl (Ad) (by first | rfl | exact decide_eq_false (by omega)) ?_
        refine Aa rfl (Ag (A3 rfl <| Al rfl <| Ad)) ?_
        refine Au rfl rfl (Al rfl <| Ad) (by first | rfl | exact decide_eq_false (by omega)) ?_
        refine Aa rfl (Bs (Ad) Ab) ?_
        refine Au rfl rfl (A6 rfl <| Al rfl <| Ad) (by first | rfl | exact decide_eq_true (by omega)) ?_
        refine Aa rfl (A7 (Ar rfl <| Ad) (by first | rfl | exact decide_eq_false (by omega)) (Ad)) ?_
        refine Aa rfl (A2 (A6 rfl <| Ar rfl <| Ad) (by first | rfl | exact decide_eq_true (by omega)) (Ad)) ?_
        refine Aa rfl (Ae (Ad)) ?_
        refine Ah <| Ac ?_
        by_cases hp : (s[k].toNat : Int) = 46
        ·
         have hch : chOk k s[k] = true := by unfold chOk letterB digitB; simp; omega
         refine Aq (Ad) (by first | rfl | exact decide_eq_true (by omega)) ?_
         refine Aw <| Bb (Bb ?_)
         refine Ac ⟨_, m - 1, Off.eq (Cr rfl <| Dj rfl <| Dv rfl <| Bd), by omega, ?_⟩
         refine ⟨k + 1, by omega, rfl, fun j hj hjk => ?_⟩
         rcases Nat.lt_succ_iff_lt_or_eq.1 hjk with hjk | rfl
         · exact hno j hj hjk
         · exact hch
        ·
         have hch : chOk k s[k] = false := by unfold chOk letterB digitB; simp; omega
         refine Am (Ad) (by first | rfl | exact decide_eq_false (by omega)) ?_
         refine Af <| Ai fun ds => Aa rfl (Ae Ab) ?_
         refine Ah <| Ac <| A4 <| Bl (Bl (Bg (Bl (Bg ?_))))
         refine Ax rfl (.tmp (Ad) .nil) ?_
         show _ = _
         rw [Di (i := k) hlt hch]; rfl
    ·
     refine Aw <| Ac <| Az <| Af <| Ai fun ds => Aa rfl (A1 (Al rfl <| Ad) rfl) ?_
     refine Aa rfl (A1 (Ar rfl <| Ad) rfl) ?_
     refine Aa rfl (Ae (Al rfl <| Ad)) ?_
     refine Aa rfl (Ae (Al rfl <| Ad)) ?_
     refine Ah <| Ac <| Az <| Af <| Ai fun ds => Aa rfl (Ag (Ad)) ?_
     refine Aa rfl (Eg (Ad) Ab) ?_
     refine Aa rfl (Ag (Ad)) ?_
     refine At rfl rfl (Ad) (.inl (congrArg Value.bool (by first | rfl | exact decide_eq_false (by omega)))) rfl ?_
     refine At rfl rfl (Al rfl <| Ad) (.inl (congrArg Value.bool (by first | rfl | exact decide_eq_false (by omega)))) rfl ?_
     refine Aa rfl (A7 (Ar rfl <| Ad) (by first | rfl | exact decide_eq_false (by omega)) Ab) ?_
     refine Aa rfl (Ae (Ad)) ?_
     refine Ah <| Ac <| Am (Ad) (by first | rfl | exact decide_eq_false (by omega)) ?_
     by_cases hz : k = 0
     ·
      refine Af <| Ai fun ds => Aa rfl (Ag (A6 rfl <| Ad)) ?_
      refine Aa rfl (De (Ad) Ab) ?_
      refine Aa rfl (Ag (Ad)) ?_
      refine At rfl rfl (Ad) (.inl (congrArg Value.bool (by first | rfl | exact decide_eq_false (by omega)))) rfl ?_
      refine At rfl rfl (Al rfl <| Ad) (.inl (congrArg Value.bool (by first | rfl | exact decide_eq_false (by omega)))) rfl ?_
      refine At rfl rfl (Ar rfl <| Ad) (.inl (congrArg Value.bool (by first | rfl | exact decide_eq_false (by omega)))) rfl ?_
      refine At rfl rfl (Ad) (.inr rfl) rfl ?_
      refine At rfl rfl (Al rfl <| Ad) (.inr rfl) rfl ?_
      refine At rfl rfl (Ay rfl <| Al rfl <| Ad) (.inl (congrArg Value.bool (by first | rfl | exact decide_eq_false (by omega)))) rfl ?_
      refine At rfl rfl (Ay rfl <| Ar rfl <| Ad) (.inl (congrArg Value.bool (by first | rfl | exact decide_eq_false (by omega)))) rfl ?_
      refine At rfl rfl (Ad) (.inr rfl) rfl ?_
      refine At rfl rfl (Al rfl <| Ad) (.inr rfl) rfl ?_
      refine At rfl rfl (A6 rfl <| Al rfl <| Ad) (.inl (congrArg Value.bool (by first | rfl | exact decide_eq_false (by omega)))) rfl ?_
      refine Aa rfl (A7 (A6 rfl <| Ar rfl <| Ad) (by first | rfl | exact decide_eq_false (by omega)) Ab) ?_
      refine Aa rfl (Ae (Ad)) ?_
      refine Ah <| Ac ?_
      have hch : chOk k s[k] = false := by unfold chOk letterB digitB; simp; omega
      refine Am (Ad) (by first | rfl | exact decide_eq_false (by omega)) ?_
      refine Af <| Ai fun ds => Aa rfl (Ae Ab) ?_
      refine Ah <| Ac <| A4 <| Bl (Bl (Bg (Bl (Bg ?_))))
      refine Ax rfl (.tmp (Ad) .nil) ?_
      show _ = _
      rw [Di (i := k) hlt hch]; rfl
     ·
      refine Af <| Ai fun ds => Aa rfl (Ag (A6 rfl <| Ad)) ?_
      refine Aa rfl (De (Ad) Ab) ?_
      refine Aa rfl (Ag (Ad)) ?_
      refine Au rfl rfl (Ad) (by first | rfl | exact decide_eq_true (by omega)) ?_
      refine Aa rfl (Ag (A6 rfl <| Ar rfl <| Ad)) ?_
      refine Au rfl rfl (Al rfl <| Ad) (by first | rfl | exact decide_eq_true (by omega)) ?_
      refine Aa rfl (Eg (Ad) Ab) ?_
      refine Au rfl rfl (Ar rfl <| Ad) (by first | rfl | exact decide_eq_true (by omega)) ?_
      refine Aa rfl (Ag (Ad)) ?_
      by_cases hd1 : 48 ≤ (s[k].toNat : Int)
      ·
       refine Au rfl rfl (Ad) (by first | rfl | exact decide_eq_true (by omega)) ?_
       refine Aa rfl (Ag (A6 rfl <| Ay rfl <| Al rfl <| Ad)) ?_
       refine Au rfl rfl (Al rfl <| Ad) (by first | rfl | exact decide_eq_true (by omega)) ?_
       refine Aa rfl (D7 (Ad) Ab) ?_
       refine Au rfl rfl (Ay rfl <| Al rfl <| Ad) (by first | rfl | exact decide_eq_true (by omega)) ?_
       refine Aa rfl (A2 (Ar rfl <| Ad) (by first | rfl | exact decide_eq_true (by omega)) (Ad)) ?_
       refine Au rfl rfl (Ay rfl <| Ar rfl <| Ad) (by first | rfl | exact decide_eq_true (by omega)) ?_
       refine Aa rfl (Ag (Ad)) ?_
       by_cases hd2 : (s[k].toNat : Int) ≤ 57
       ·
        refine At rfl rfl (Ad) (.inl (congrArg Value.bool (by first | rfl | exact decide_eq_true (by omega)))) rfl ?_
        refine At rfl rfl (Al rfl <| Ad) (.inl (congrArg Value.bool (by first | rfl | exact decide_eq_true (by omega)))) rfl ?_
        refine Au rfl rfl (A6 rfl <| Al rfl <| Ad) (by first | rfl | exact decide_eq_true (by omega)) ?_
        refine Aa rfl (A2 (Ar rfl <| Ad) (by first | rfl | exact decide_eq_true (by omega)) Ab) ?_
        refine Aa rfl (A2 (A6 rfl <| Ar rfl <| Ad) (by first | rfl | exact decide_eq_true (by omega)) (Ad)) ?_
        refine Aa rfl (Ae (Ad)) ?_
        refine Ah <| Ac ?_
        have hch : chOk k s[k] = true := by unfold chOk letterB digitB; simp; omega
        refine Aq (Ad) (by first | rfl | exact decide_eq_true (by omega)) ?_
        refine Aw <| Bb (Bb ?_)
        refine Ac ⟨_, m - 1, Off.eq (Cr rfl <| Dj rfl <| Dv rfl <| Bd), by omega, ?_⟩
        refine ⟨k + 1, by omega, rfl, fun j hj hjk => ?_⟩
        rcases Nat.lt_succ_iff_lt_or_eq.1 hjk with hjk | rfl
        · exact hno j hj hjk
        · exact hch
       ·
        refine Au rfl rfl (Ad) (by first | rfl | exact decide_eq_false (by omega)) ?_
        refine Aa rfl (Ag (A3 rfl <| Al rfl <| Ad)) ?_
        refine Au rfl rfl (Al rfl <| Ad) (by first | rfl | exact decide_eq_false (by omega)) ?_
        refine Aa rfl (Bs (Ad) Ab) ?_
        refine Au rfl rfl (A6 rfl <| Al rfl <| Ad) (by first | rfl | exact decide_eq_true (by omega)) ?_
        refine Aa rfl (A7 (Ar rfl <| Ad) (by first | rfl | exact decide_eq_false (by omega)) (Ad)) ?_
        refine Aa rfl (A2 (A6 rfl <| Ar rfl <| Ad) (by first | rfl | exact decide_eq_true (by omega)) (Ad)) ?_
        refine Aa rfl (Ae (Ad)) ?_
        refine Ah <| Ac ?_
        by_cases hp : (s[k].toNat : Int) = 46
        ·
         have hch : chOk k s[k] = true := by unfold chOk letterB digitB; simp; omega
         refine Aq (Ad) (by first | rfl | exact decide_eq_true (by omega)) ?_
         refine Aw <| Bb (Bb ?_)
         refine Ac ⟨_, m - 1, Off.eq (Cr rfl <| Dj rfl <| Dv rfl <| Bd), by omega, ?_⟩
         refine ⟨k + 1, by omega, rfl, fun j hj hjk => ?_⟩
         rcases Nat.lt_succ_iff_lt_or_eq.1 hjk with hjk | rfl
         · exact hno j hj hjk
         · exact hch
        ·
         have hch : chOk k s[k] = false := by unfold chOk letterB digitB; simp; omega
         refine Am (Ad) (by first | rfl | exact decide_eq_false (by omega)) ?_
         refine Af <| Ai fun ds => Aa rfl (Ae Ab) ?_
         refine Ah <| Ac <| A4 <| Bl (Bl (Bg (Bl (Bg ?_))))
         refine Ax rfl (.tmp (Ad) .nil) ?_
         show _ = _
         rw [Di (i := k) hlt hch]; rfl
      ·
       refine At rfl rfl (Ad) (.inl (congrArg Value.bool (by first | rfl | exact decide_eq_false (by omega)))) rfl ?_
       refine At rfl rfl (Al rfl <| Ad) (.inl (congrArg Value.bool (by first | rfl | exact decide_eq_false (by omega)))) rfl ?_
       refine Au rfl rfl (Ay rfl <| Al rfl <| Ad) (by first | rfl | exact decide_eq_true (by omega)) ?_
       refine Aa rfl (A7 (Ar rfl <| Ad) (by first | rfl | exact decide_eq_false (by omega)) Ab) ?_
       refine Au rfl rfl (Ay rfl <| Ar rfl <| Ad) (by first | rfl | exact decide_eq_true (by omega)) ?_
       refine Aa rfl (Ag (Ad)) ?_
       refine Au rfl rfl (Ad) (by first | rfl | exact decide_eq_false (by omega)) ?_
       refine Aa rfl (Ag (A3 rfl <| Al rfl <| Ad)) ?_
       refine Au rfl rfl (Al rfl <| Ad) (by first | rfl | exact decide_eq_false (by omega)) ?_
       refine Aa rfl (Bs (Ad) Ab) ?_
       refine Au rfl rfl (A6 rfl <| Al rfl <| Ad) (by first | rfl | exact decide_eq_true (by omega)) ?_
       refine Aa rfl (A7 (Ar rfl <| Ad) (by first | rfl | exact decide_eq_false (by omega)) (Ad)) ?_
       refine Aa rfl (A2 (A6 rfl <| Ar rfl <| Ad) (by first | rfl | exact decide_eq_true (by omega)) (Ad)) ?_
       refine Aa rfl (Ae (Ad)) ?_
       refine Ah <| Ac ?_
       by_cases hp : (s[k].toNat : Int) = 46
       ·
        have hch : chOk k s[k] = true := by unfold chOk letterB digitB; simp; omega
        refine Aq (Ad) (by first | rfl | exact decide_eq_true (by omega)) ?_
        refine Aw <| Bb (Bb ?_)
        refine Ac ⟨_, m - 1, Off.eq (Cr rfl <| Dj rfl <| Dv rfl <| Bd), by omega, ?_⟩
        refine ⟨k + 1, by omega, rfl, fun j hj hjk => ?_⟩
        rcases Nat.lt_succ_iff_lt_or_eq.1 hjk with hjk | rfl
        · exact hno j hj hjk
        · exact hch
       ·
        have hch : chOk k s[k] = false := by unfold chOk letterB digitB; simp; omega
        refine Am (Ad) (by first | rfl | exact decide_eq_false (by omega)) ?_
        refine Af <| Ai fun ds => Aa rfl (Ae Ab) ?_
        refine Ah <| Ac <| A4 <| Bl (Bl (Bg (Bl (Bg ?_))))
        refine Ax rfl (.tmp (Ad) .nil) ?_
        show _ = _
        rw [Di (i := k) hlt hch]; rfl
   ·
    obtain ⟨rc, wd, hdec⟩ : ∃ rc wd, Utf8.decode s k = (rc, wd) := ⟨_, _, rfl⟩
    have hrc : 128 ≤ rc := by have := decode_high s k hlt (by omega); rw [hdec] at this; exact this
    refine Af <| Ai fun ds => Bm rfl (x_nextS (Ak rfl <| Ad) (i := 0) rfl hlt hdec (.here) ?_)
    refine Aa rfl (A1 (Ad) rfl) ?_
    refine Ah <| Ac <| Af <| Aq (Ad) rfl ?_
    refine Aw <| Ac <| Az <| Af <| Ai fun ds => Aa rfl (A1 (Al rfl <| Ad) rfl) ?_
    refine Aa rfl (A1 (Ar rfl <| Ad) rfl) ?_
    refine Aa rfl (Ae (Al rfl <| Ad)) ?_
    refine Aa rfl (Ae (Al rfl <| Ad)) ?_
    refine Ah <| Ac <| Az <| Af <| Ai fun ds => Aa rfl (Ag (Ad)) ?_
    refine Aa rfl (Eg (Ad) Ab) ?_
    refine Aa rfl (Ag (Ad)) ?_
    refine Au rfl rfl (Ad) (by first | rfl | exact decide_eq_true (by omega)) ?_
    refine Aa rfl (Ag (Ar rfl <| Al rfl <| Ad)) ?_
    refine Au rfl rfl (Al rfl <| Ad) (by first | rfl | exact decide_eq_true (by omega)) ?_
    refine Aa rfl (D7 (Ad) Ab) ?_
    refine Aa rfl (A2 (Ar rfl <| Ad) (by first | rfl | exact decide_eq_true (by omega)) (Ad)) ?_
    refine Aa rfl (Ae (Ad)) ?_
    refine Ah <| Ac <| Am (Ad) (by first | rfl | exact decide_eq_false (by omega)) ?_
    have hch : chOk k s[k] = false := by unfold chOk letterB digitB; simp; omega
    by_cases hz : k = 0
    ·
     refine Af <| Ai fun ds => Aa rfl (Ag (A6 rfl <| Ad)) ?_
     refine Aa rfl (De (Ad) Ab) ?_
     refine Aa rfl (Ag (Ad)) ?_
     refine At rfl rfl (Ad) (.inl (congrArg Value.bool (by first | rfl | exact decide_eq_false (by omega)))) rfl ?_
     refine At rfl rfl (Al rfl <| Ad) (.inl (congrArg Value.bool (by first | rfl | exact decide_eq_false (by omega)))) rfl ?_
     refine At rfl rfl (Ar rfl <| Ad) (.inl (congrArg Value.bool (by first | rfl | exact decide_eq_false (by omega)))) rfl ?_
     refine At rfl rfl (Ad) (.inr rfl) rfl ?_
     refine At rfl rfl (Al rfl <| Ad) (.inr rfl) rfl ?_
     refine At rfl rfl (Ay rfl <| Al rfl <| Ad) (.inl (congrArg Value.bool (by first | rfl | exact decide_eq_false (by omega)))) rfl ?_
     refine At rfl rfl (Ay rfl <| Ar rfl <| Ad) (.inl (congrArg Value.bool (by first | rfl | exact decide_eq_false (by omega)))) rfl ?_
     refine At rfl rfl (Ad) (.inr rfl) rfl ?_
     refine At rfl rfl (Al rfl <| Ad) (.inr rfl) rfl ?_
     refine At rfl rfl (A6 rfl <| Al rfl <| Ad) (.inl (congrArg Value.bool (by first | rfl | exact decide_eq_false (by omega)))) rfl ?_
     refine Aa rfl (A7 (A6 rfl <| Ar rfl <| Ad) (by first | rfl | exact decide_eq_false (by omega)) Ab) ?_
     refine Aa rfl (Ae (Ad)) ?_
     refine Ah <| Ac <| Am (Ad) (by first | rfl | exact decide_eq_false (by omega)) ?_
     refine Af <| Ai fun ds => Aa rfl (Ae Ab) ?_
     refine Ah <| Ac <| A4 <| Bl (Bl (Bg (Bl (Bg ?_))))
     refine Ax rfl (.tmp (Ad) .nil) ?_
     show _ = _
     rw [Di (i := k) hlt hch]; rfl
    ·
     refine Af <| Ai fun ds => Aa rfl (Ag (A6 rfl <| Ad)) ?_
     refine Aa rfl (De (Ad) Ab) ?_
     refine Aa rfl (Ag (Ad)) ?_
     refine Au rfl rfl (Ad) (by first | rfl | exact decide_eq_true (by omega)) ?_
     refine Aa rfl (Ag (A6 rfl <| Ar rfl <| Ad)) ?_
     refine Au rfl rfl (Al rfl <| Ad) (by first | rfl | exact decide_eq_true (by omega)) ?_
     refine Aa rfl (Eg (Ad) Ab) ?_
     refine Au rfl rfl (Ar rfl <| Ad) (by first | rfl | exact decide_eq_true (by omega)) ?_
     refine Aa rfl (Ag (Ad)) ?_
     refine Au rfl rfl (Ad) (by first | rfl | exact decide_eq_true (by omega)) ?_
     refine Aa rfl (Ag (A6 rfl <| Ay rfl <| Al rfl <| Ad)) ?_
     refine Au rfl rfl (Al rfl <| Ad) (by first | rfl | exact decide_eq_true (by omega)) ?_
     refine Aa rfl (D7 (Ad) Ab) ?_
     refine Au rfl rfl (Ay rfl <| Al rfl <| Ad) (by first | rfl | exact decide_eq_true (by omega)) ?_
     refine Aa rfl (A2 (Ar rfl <| Ad) (by first | rfl | exact decide_eq_true (by omega)) (Ad)) ?_
     refine Au rfl rfl (Ay rfl <| Ar rfl <| Ad) (by first | rfl | exact decide_eq_true (by omega)) ?_
     refine Aa rfl (Ag (Ad)) ?_
     refine Au rfl rfl (Ad) (by first | rfl | exact decide_eq_false (by omega)) ?_
     refine Aa rfl (Ag (A3 rfl <| Al rfl <| Ad)) ?_
     refine Au rfl rfl (Al rfl <| Ad) (by first | rfl | exact decide_eq_false (by omega)) ?_
     refine Aa rfl (Bs (Ad) Ab) ?_
     refine Au rfl rfl (A6 rfl <| Al rfl <| Ad) (by first | rfl | exact decide_eq_true (by omega)) ?_
     refine Aa rfl (A7 (Ar rfl <| Ad) (by first | rfl | exact decide_eq_false (by omega)) (Ad)) ?_
     refine Aa rfl (A2 (A6 rfl <| Ar rfl <| Ad) (by first | rfl | exact decide_eq_true (by omega)) (Ad)) ?_
     refine Aa rfl (Ae (Ad)) ?_
     refine Ah <| Ac <| Am (Ad) (by first | rfl | exact decide_eq_false (by omega)) ?_
     refine Af <| Ai fun ds => Aa rfl (Ae Ab) ?_
     refine Ah <| Ac <| A4 <| Bl (Bl (Bg (Bl (Bg ?_))))
     refine Ax rfl (.tmp (Ad) .nil) ?_
     show _ = _
     rw [Di (i := k) hlt hch]; rfl
  ·
   refine Af <| Ai fun ds => Bm rfl (x_nextE (Ak rfl <| Ad) (i := 0) rfl hlt ?_)
   refine Aa rfl (A1 (Ad) rfl) ?_
   refine Ah <| Ac <| Af <| Am (Ad) rfl ?_
   by_cases h0 : s.size = 0
   ·
    refine Bn ?_
    refine Ba <| Ba <| Bh <| Ac <| Af <| Ai fun ds => Aa rfl (Ag (Ar rfl <| Ak rfl <| Ar rfl <| Al rfl <| Aj rfl)) ?_
    refine Aa rfl (q_nes (Ad) Ab) ?_
    refine Aa rfl (Ag (Ad)) ?_
    refine At rfl rfl (Ad) (.inl (congrArg Value.bool (by rw [emptyS]; simp [h0]))) rfl ?_
    refine At rfl rfl (Al rfl <| Ad) (.inl (congrArg Value.bool (by rw [emptyS]; simp [h0]))) rfl ?_
    refine At rfl rfl (Ar rfl <| Ad) (.inl (congrArg Value.bool (by rw [emptyS]; simp [h0]))) rfl ?_
    refine Aa rfl (A7 (Ar rfl <| Al rfl <| Ad) (by rw [emptyS]; simp [h0]) Ab) ?_
    refine Aa rfl (Ae (Ad)) ?_
    refine Ah <| Ac <| A4 <| Ax rfl (.tmp (Ad) .nil) ?_
    show _ = _
    rw [nameOk_len (by omega)]; rfl
   ·
    refine Bn ?_
    refine Ba <| Ba <| Bh <| Ac <| Af <| Ai fun ds => Aa rfl (Ag (Ar rfl <| Ak rfl <| Ar rfl <| Al rfl <| Aj rfl)) ?_
    refine Aa rfl (q_nes (Ad) Ab) ?_
    refine Aa rfl (Ag (Ad)) ?_
    refine Au rfl rfl (Ad) (by rw [emptyS]; simp [h0]) ?_
    refine Aa rfl (Ag (Ay rfl <| Al rfl <| Ak rfl <| Ar rfl <| Al rfl <| Aj rfl)) ?_
    refine Au rfl rfl (Al rfl <| Ad) (by rw [emptyS]; simp [h0]) ?_
    refine Aa rfl (q_lenS Try.underlying9 (Ad)) ?_
    refine Au rfl rfl (Ar rfl <| Ad) (by rw [emptyS]; simp [h0]) ?_
    refine Aa rfl (D7 (Ad) Ab) ?_
    refine Aa rfl (A2 (Ar rfl <| Al rfl <| Ad) (by rw [emptyS]; simp [h0]) (Ad)) ?_
    refine Aa rfl (Ae (Ad)) ?_
    refine Ah <| Ac ?_
    by_cases h16 : (s.size : Int) ≤ 16
    ·
     refine A4 <| Ax rfl (.tmp (Ad) .nil) ?_
     show _ = _
     rw [nameOk_true (by omega) (by omega) fun j hj => hno j hj (by omega)]; simp [outOf, h16]
    ·
     refine A4 <| Ax rfl (.tmp (Ad) .nil) ?_
     show _ = _
     rw [nameOk_len (by omega)]; simp [outOf, h16]
set_option maxRecDepth 100000 in
theorem place_ok {F : Heap} {v : Value} {xs : List ByteArray} (h : Sl F v 1 strE xs) (wd : ByteArray) : Ok Try.prog 102 [v, .string wd].toArray F fun r _ => r = .int .i64 (findI (fun x => sameS x wd) xs) := by
 refine Ok.intro Try.func102 rfl Try.ntmps102 rfl fun w0 => ?_
 have hlen := h.plain.lt
 refine Af <| Ai fun ds => Aa rfl (Ae Ab) ?_
 refine Ah <| Ac <| Af <| Ai fun ds => Aa rfl (Ag (Al rfl <| Aj rfl)) ?_
 refine Aa rfl (Bk sl_91 (Ad) h.plain) ?_
 refine Aa rfl (D2 (Ad) Ab rfl (by omega) (by omega)) ?_
 refine Aa rfl (Ae (Ad)) ?_
 refine Ah <| Ac <| Af <| Az <| Bu [5, 10, 11, 12, 13, 14, 15, 16, 17, 18, 19, 20, 21] (fun m e σ => ∃ z : Int, m = (z + 1).toNat ∧ -1 ≤ z ∧ z < xs.length ∧ e 5 = .int .i64 z ∧ σ = ⟨F, []⟩ ∧ ∀ j (hj : j < xs.length), z < j → sameS xs[j] wd = false) (xs.length) ?_ ?_
 · exact ⟨xs.length - 1, by omega, by omega, by omega, (Ad), rfl, fun j hj h => absurd h (by omega)⟩
 ·
  rintro m e _ ⟨z, hm, hz1, hz2, hs5, rfl, hno⟩
  by_cases hz : 0 ≤ z
  ·
   obtain ⟨k, rfl⟩ := Int.eq_ofNat_of_zero_le hz
   have hk : k < xs.length := by omega
   refine Af <| Af <| Ai fun ds => Aa rfl (Ag (As rfl hs5)) ?_
   refine Aa rfl (Eg (Ad) Ab) ?_
   refine Aa rfl (Ag (Ad)) ?_
   refine Au rfl rfl (Ad) (by first | rfl | exact decide_eq_true (by omega)) ?_
   refine Aa rfl (Ag (Ar rfl <| Al rfl <| Ak rfl <| Ay rfl <| Al rfl <| Aj rfl)) ?_
   refine Au rfl rfl (Al rfl <| Ad) (by first | rfl | exact decide_eq_true (by omega)) ?_
   refine Aa rfl (Ag (Ay rfl <| As rfl hs5)) ?_
   refine Au rfl rfl (Ar rfl <| Ad) (by first | rfl | exact decide_eq_true (by omega)) ?_
   refine Aa rfl (A9  sl_91 (Al rfl <| Ad) h.plain (Ad) rfl (by omega)) ?_
   refine Au rfl rfl (Ar rfl <| Al rfl <| Ad) (by first | rfl | exact decide_eq_true (by omega)) ?_
   refine Aa rfl (Ap one_9 (Ad) (h.cell1 (by omega) rfl)) ?_
   refine Au rfl rfl (Ay rfl <| Ad) (by first | rfl | exact decide_eq_true (by omega)) ?_
   refine Aa rfl (Ag (Ay rfl <| Ar rfl <| Al rfl <| Ak rfl <| Ay rfl <| Al rfl <| Aj rfl)) ?_
   refine Au rfl rfl (Ay rfl <| Al rfl <| Ad) (by first | rfl | exact decide_eq_true (by omega)) ?_
   refine Aa rfl (q_nes (Al rfl <| Ad) (Ad)) ?_
   refine Aa rfl (A2 (Ay rfl <| Ar rfl <| Ad) (by first | rfl | exact decide_eq_true (by omega)) (Ad)) ?_
   refine Ah <| Ac ?_
   by_cases hsm : sameS xs[k] wd = true
   ·
    refine Am (Ad) (by simpa [sameS] using hsm) ?_
    refine Bn ?_
    refine Ba <| Ba <| Bh <| Ac <| Af <| Af <| Ai fun ds => Aa rfl (Ae Ab) ?_
    refine Ah <| Ac <| Az <| Bu [4, 6, 22, 23, 24, 25, 26, 27, 28, 29, 30, 31, 32, 33] (fun m e σ => ∃ q : Nat, m + q = k ∧ e 6 = .int .i64 q ∧ σ = ⟨F, []⟩ ∧ ∀ j (hj : j < xs.length), j < q → sameS xs[j] wd = false) (k) ?_ ?_
    · exact ⟨0, by omega, (Ad), rfl, fun j hj h => absurd h (by omega)⟩
    ·
     rintro m2 e2 _ ⟨q, hm2, ht6, rfl, hno2⟩
     by_cases hq : q < k
     ·
      refine Af <| Af <| Ai fun ds => Aa rfl (Ag (As rfl ht6)) ?_
      refine Aa rfl (Ag (Al rfl <| Ak rfl <| A6 rfl <| Ar rfl <| Al rfl <| As rfl hs5)) ?_
      refine Aa rfl (Bw (Al rfl <| Ad) (Ad)) ?_
      refine Ah <| Ac <| Aq (Ad) (by first | rfl | exact decide_eq_true (by omega)) ?_
      by_cases hsq : sameS xs[q] wd = true
      ·
       refine Aw <| Ac <| Af <| Az <| Af <| Ai fun ds => Aa rfl (Ag (Ar rfl <| Al rfl <| Ak rfl <| A6 rfl <| Ar rfl <| Al rfl <| Ak rfl <| Ay rfl <| Al rfl <| Aj rfl)) ?_
       refine Aa rfl (Ag (Ay rfl <| As rfl ht6)) ?_
       refine Aa rfl (A9  sl_91 (Al rfl <| Ad) h.plain (Ad) rfl (by omega)) ?_
       refine Aa rfl (Ap one_9 (Ad) (h.cell1 (by omega) rfl)) ?_
       refine Aa rfl (Ag (Ay rfl <| Ar rfl <| Al rfl <| Ak rfl <| A6 rfl <| Ar rfl <| Al rfl <| Ak rfl <| Ay rfl <| Al rfl <| Aj rfl)) ?_
       refine Aa rfl (q_eqs (Al rfl <| Ad) (Ad)) ?_
       refine Ah <| Ac <| Aq (Ad) hsq ?_
       refine Af <| Ai fun ds => Aa rfl (Ag (A6 rfl <| Al rfl <| As rfl ht6)) ?_
       refine Aa rfl (Ae (Ad)) ?_
       refine Ah <| Ac <| A4 <| Bl (Bg (Bg (Bl (Bg ?_))))
       refine Ax rfl (.tmp (Ad) .nil) ?_
       show _ = _
       rw [Dt (p := fun x => sameS x wd) (k := q) (by omega) hsq hno2]; rfl
      ·
       replace hsq : sameS xs[q] wd = false := by simpa using hsq
       refine Aw <| Ac <| Af <| Az <| Af <| Ai fun ds => Aa rfl (Ag (Ar rfl <| Al rfl <| Ak rfl <| A6 rfl <| Ar rfl <| Al rfl <| Ak rfl <| Ay rfl <| Al rfl <| Aj rfl)) ?_
       refine Aa rfl (Ag (Ay rfl <| As rfl ht6)) ?_
       refine Aa rfl (A9  sl_91 (Al rfl <| Ad) h.plain (Ad) rfl (by omega)) ?_
       refine Aa rfl (Ap one_9 (Ad) (h.cell1 (by omega) rfl)) ?_
       refine Aa rfl (Ag (Ay rfl <| Ar rfl <| Al rfl <| Ak rfl <| A6 rfl <| Ar rfl <| Al rfl <| Ak rfl <| Ay rfl <| Al rfl <| Aj rfl)) ?_
       refine Aa rfl (q_eqs (Al rfl <| Ad) (Ad)) ?_
       refine Ah <| Ac <| Am (Ad) hsq ?_
       refine Aw <| Bb <| Ac <| Ai fun ds => Aa rfl (Ag (A6 rfl <| Al rfl <| As rfl ht6)) ?_
       refine Aa rfl (Br (Ad) Ab rfl (by omega) (by omega)) ?_
       refine Aa rfl (Ae (Ad)) ?_
       refine Ah <| Ac ⟨_, m2 - 1, Off.eq (Dj rfl <| Dv rfl <| Bd), by omega, ?_⟩
       refine ⟨q + 1, by omega, (Ad), rfl, fun j hj hjk => ?_⟩
       rcases Nat.lt_succ_iff_lt_or_eq.1 hjk with hjk | rfl
       · exact hno2 j hj hjk
       · exact hsq
     ·
      refine Af <| Af <| Ai fun ds => Aa rfl (Ag (As rfl ht6)) ?_
      refine Aa rfl (Ag (Al rfl <| Ak rfl <| A6 rfl <| Ar rfl <| Al rfl <| As rfl hs5)) ?_
      refine Aa rfl (Bw (Al rfl <| Ad) (Ad)) ?_
      refine Ah <| Ac <| Am (Ad) (by first | rfl | exact decide_eq_false (by omega)) ?_
      refine Bn ?_
      refine Ba <| Ba <| Bh <| Ac <| Af <| Ai fun ds => Aa rfl (Ag (Ar rfl <| Al rfl <| Ak rfl <| A6 rfl <| Ar rfl <| Al rfl <| As rfl hs5)) ?_
      refine Aa rfl (Ae (Ad)) ?_
      refine Ah <| Ac <| A4 <| Ax rfl (.tmp (Ad) .nil) ?_
      show _ = _
      rw [Dt (p := fun x => sameS x wd) (k := k) hk hsm (fun j hj hjk => hno2 j hj (by omega))]; rfl
   ·
    replace hsm : sameS xs[k] wd = false := by simpa using hsm
    refine Aq (Ad) (by simpa [sameS] using hsm) ?_
    refine Aw <| Ac <| Az <| Ai fun ds => Aa rfl (Ag (A6 rfl <| Ar rfl <| As rfl hs5)) ?_
    refine Aa rfl (D2 (Ad) Ab rfl (by omega) (by omega)) ?_
    refine Aa rfl (Ae (Ad)) ?_
    refine Ah <| Bb ?_
    refine Ac ⟨_, m - 1, Off.eq (Dj rfl <| Dv rfl <| Dk rfl <| Bd), by omega, ?_⟩
    refine ⟨(k : Int) - 1, by omega, by omega, by omega, (Ad), rfl, fun j hj hjk => ?_⟩
    by_cases hjk2 : j = k
    · subst hjk2; exact hsm
    · exact hno j hj (by omega)
  ·
   refine Af <| Af <| Ai fun ds => Aa rfl (Ag (As rfl hs5)) ?_
   refine Aa rfl (Eg (Ad) Ab) ?_
   refine Aa rfl (Ag (Ad)) ?_
   refine At rfl rfl (Ad) (.inl (congrArg Value.bool (by first | rfl | exact decide_eq_false (by omega)))) rfl ?_
   refine At rfl rfl (Al rfl <| Ad) (.inl (congrArg Value.bool (by first | rfl | exact decide_eq_false (by omega)))) rfl ?_
   refine At rfl rfl (Ar rfl <| Ad) (.inl (congrArg Value.bool (by first | rfl | exact decide_eq_false (by omega)))) rfl ?_
   refine At rfl rfl (Ar rfl <| Al rfl <| Ad) (.inl (congrArg Value.bool (by first | rfl | exact decide_eq_false (by omega)))) rfl ?_
   refine At rfl rfl (Ay rfl <| Ad) (.inl (congrArg Value.bool (by first | rfl | exact decide_eq_false (by omega)))) rfl ?_
   refine At rfl rfl (Ay rfl <| Al rfl <| Ad) (.inl (congrArg Value.bool (by first | rfl | exact decide_eq_false (by omega)))) rfl ?_
   refine Aa rfl (A7 (Ay rfl <| Ar rfl <| Ad) (by first | rfl | exact decide_eq_false (by omega)) Ab) ?_
   refine Ah <| Ac <| Am (Ad) (by first | rfl | exact decide_eq_false (by omega)) ?_
   refine Bn ?_
   refine Ba <| Ba <| Bh <| Ac <| Af <| Af <| Ai fun ds => Aa rfl (Ae Ab) ?_
   refine Ah <| Ac <| Az <| Bu [4, 6, 22, 23, 24, 25, 26, 27, 28, 29, 30, 31, 32, 33] (fun m e σ => m = 0 ∧ e 6 = .int .i64 0 ∧ σ = ⟨F, []⟩) (0) ?_ ?_
   · exact ⟨rfl, (Ad), rfl⟩
   ·
    rintro m2 e2 _ ⟨hm2, ht6, rfl⟩
    refine Af <| Af <| Ai fun ds => Aa rfl (Ag (As rfl ht6)) ?_
    refine Aa rfl (Ag (Al rfl <| Ak rfl <| A6 rfl <| Ar rfl <| Al rfl <| As rfl hs5)) ?_
    refine Aa rfl (Bw (Al rfl <| Ad) (Ad)) ?_
    refine Ah <| Ac <| Am (Ad) (by first | rfl | exact decide_eq_false (by omega)) ?_
    refine Bn ?_
    refine Ba <| Ba <| Bh <| Ac <| Af <| Ai fun ds => Aa rfl (Ag (Ar rfl <| Al rfl <| Ak rfl <| A6 rfl <| Ar rfl <| Al rfl <| As rfl hs5)) ?_
    refine Aa rfl (Ae (Ad)) ?_
    refine Ah <| Ac <| A4 <| Ax rfl (.tmp (Ad) .nil) ?_
    show _ = _
    obtain rfl : z = -1 := by omega
    rw [Eo (p := fun x => sameS x wd) (fun j hj => hno j hj (by omega))]; rfl
set_option maxRecDepth 100000 in
theorem fresh_ok {F : Heap} {v : Value} {xs : List ByteArray} (h : Sl F v 1 strE xs) (wd : ByteArray) : Ok Try.prog 63 [.string wd, v].toArray F fun r _ => r = .int .i64 (freshE wd xs) := by
 refine Ok.intro Try.func63 rfl Try.ntmps63 rfl fun w0 => ?_
 by_cases hp : 0 ≤ findI (fun x => sameS x wd) xs
 ·
  refine Af <| Ai fun ds => Aa rfl (Ae Ab) ?_
  refine Ah <| Ac <| Af <| Ai fun ds => Aa rfl (Ae Ab) ?_
  refine Ah <| Ac <| Af <| Af <| Ai fun ds => Aa rfl (Ag (Ar rfl <| Aj rfl)) ?_
  refine Aa rfl (Ag (Ar rfl <| Al rfl <| Aj rfl)) ?_
  refine Bx rfl (Bi bd_102 A0 (.cons (Al rfl <| Ad) (.cons (Ad) .nil)) (place_ok h wd) (fun _ _ h => h)) ?_
  refine Aa rfl (Eg (Ad) Ab) ?_
  refine Ah <| Ac <| Aq (Ad) (by first | rfl | exact decide_eq_true (by omega)) ?_
  by_cases hn : nameOk wd = true
  ·
   refine Ai fun ds => Aa rfl (Ae Ab) ?_
   refine Ah <| Ac <| Af <| Af <| Ai fun ds => Aa rfl (Ag (Ay rfl <| Ar rfl <| Al rfl <| Aj rfl)) ?_
   refine Bx rfl (Bi bd_103 A0 (.cons (Ad) .nil) (refName_ok wd) (fun _ _ h => h)) ?_
   refine Aa rfl (Ci (Ad)) ?_
   refine Ah <| Ac <| Am (Ad) (by rw [hn]; rfl) ?_
   refine Aw <| Ac <| Af <| Ai fun ds => Aa rfl (Ag (Ar rfl <| Al rfl <| Ad)) ?_
   refine Aa rfl (Ae (Ad)) ?_
   refine Ah <| Ac <| A4 <| Ax rfl (.tmp (Ad) .nil) ?_
   show _ = _
   simp [outOf, freshE, hn, ← findI_any, hp]
  ·
   refine Ai fun ds => Aa rfl (Ae Ab) ?_
   refine Ah <| Ac <| Af <| Af <| Ai fun ds => Aa rfl (Ag (Ay rfl <| Ar rfl <| Al rfl <| Aj rfl)) ?_
   refine Bx rfl (Bi bd_103 A0 (.cons (Ad) .nil) (refName_ok wd) (fun _ _ h => h)) ?_
   refine Aa rfl (Ci (Ad)) ?_
   refine Ah <| Ac <| Aq (Ad) (by simpa using hn) ?_
   refine Ai fun ds => Aa rfl (Ae Ab) ?_
   refine Ah <| Ac <| Af <| Ai fun ds => Aa rfl (Ag (Ad)) ?_
   refine Aa rfl (Ae (Ad)) ?_
   refine Ah <| Ac <| A4 <| Ax rfl (.tmp (Ad) .nil) ?_
   show _ = _
   simp [outOf, freshE, hn]
 ·
  refine Af <| Ai fun ds => Aa rfl (Ae Ab) ?_
  refine Ah <| Ac <| Af <| Ai fun ds => Aa rfl (Ae Ab) ?_
  refine Ah <| Ac <| Af <| Af <| Ai fun ds => Aa rfl (Ag (Ar rfl <| Aj rfl)) ?_
  refine Aa rfl (Ag (Ar rfl <| Al rfl <| Aj rfl)) ?_
  refine Bx rfl (Bi bd_102 A0 (.cons (Al rfl <| Ad) (.cons (Ad) .nil)) (place_ok h wd) (fun _ _ h => h)) ?_
  refine Aa rfl (Eg (Ad) Ab) ?_
  refine Ah <| Ac <| Am (Ad) (by first | rfl | exact decide_eq_false (by omega)) ?_
  by_cases hn : nameOk wd = true
  ·
   refine Aw <| Ac <| Af <| Af <| Ai fun ds => Aa rfl (Ag (Ay rfl <| Ar rfl <| Aj rfl)) ?_
   refine Bx rfl (Bi bd_103 A0 (.cons (Ad) .nil) (refName_ok wd) (fun _ _ h => h)) ?_
   refine Aa rfl (Ci (Ad)) ?_
   refine Ah <| Ac <| Am (Ad) (by rw [hn]; rfl) ?_
   refine Aw <| Ac <| Af <| Ai fun ds => Aa rfl (Ag (Ay rfl <| Ar rfl <| Al rfl <| Ad)) ?_
   refine Aa rfl (Ae (Ad)) ?_
   refine Ah <| Ac <| A4 <| Ax rfl (.tmp (Ad) .nil) ?_
   show _ = _
   simp [outOf, freshE, hn, ← findI_any, hp]
  ·
   refine Aw <| Ac <| Af <| Af <| Ai fun ds => Aa rfl (Ag (Ay rfl <| Ar rfl <| Aj rfl)) ?_
   refine Bx rfl (Bi bd_103 A0 (.cons (Ad) .nil) (refName_ok wd) (fun _ _ h => h)) ?_
   refine Aa rfl (Ci (Ad)) ?_
   refine Ah <| Ac <| Aq (Ad) (by simpa using hn) ?_
   refine Ai fun ds => Aa rfl (Ae Ab) ?_
   refine Ah <| Ac <| Af <| Ai fun ds => Aa rfl (Ag (Ad)) ?_
   refine Aa rfl (Ae (Ad)) ?_
   refine Ah <| Ac <| A4 <| Ax rfl (.tmp (Ad) .nil) ?_
   show _ = _
   simp [outOf, freshE, hn]
set_option maxRecDepth 100000 in
theorem range_ok {F : Heap} (a b lo hi : Int) : Ok Try.prog 104 [.agg #[.int .i64 a, .int .i64 b], .int .i64 lo, .int .i64 hi].toArray F fun r _ => r = .int .i64 (rangeE a b lo hi) := by
 refine Ok.intro Try.func104 rfl Try.ntmps104 rfl fun w0 => ?_
 by_cases h1 : min a b < lo
 ·
  refine Af <| Ai fun ds => Bm rfl (B2 (Aj rfl) rfl fun b1 hb1 nb1 => ?_)
  refine Aa rfl (Ae Ab) ?_
  refine Ah <| Ac <| Af <| Af <| Ai fun ds => Aa rfl (Ao Du (Al rfl <| Ad)) ?_
  refine Aa rfl (Ap Bj (Ad) (Cell.own 0 rfl rfl)) ?_
  refine Aa rfl (Ao Dm (Ar rfl <| Al rfl <| Ad)) ?_
  refine Aa rfl (Ap Bj (Ad) (Cell.own 0 rfl rfl)) ?_
  refine Aa rfl (q_min2 (Ar rfl <| Ad) (Ad)) ?_
  refine Aa rfl (Ag (Ay rfl <| Ar rfl <| Al rfl <| Aj rfl)) ?_
  refine Aa rfl (Bw (Al rfl <| Ad) (Ad)) ?_
  refine Aa rfl (Ag (Ad)) ?_
  refine At rfl rfl (Ad) (.inl (congrArg Value.bool (by first | rfl | exact decide_eq_true (by omega)))) rfl ?_
  refine At rfl rfl (Al rfl <| Ad) (.inl (congrArg Value.bool (by first | rfl | exact decide_eq_true (by omega)))) rfl ?_
  refine At rfl rfl (Ar rfl <| Ad) (.inl (congrArg Value.bool (by first | rfl | exact decide_eq_true (by omega)))) rfl ?_
  refine At rfl rfl (Ar rfl <| Al rfl <| Ad) (.inl (congrArg Value.bool (by first | rfl | exact decide_eq_true (by omega)))) rfl ?_
  refine At rfl rfl (Ay rfl <| Ad) (.inl (congrArg Value.bool (by first | rfl | exact decide_eq_true (by omega)))) rfl ?_
  refine At rfl rfl (Ay rfl <| Al rfl <| Ad) (.inl (congrArg Value.bool (by first | rfl | exact decide_eq_true (by omega)))) rfl ?_
  refine At rfl rfl (Ay rfl <| Ar rfl <| Ad) (.inl (congrArg Value.bool (by first | rfl | exact decide_eq_true (by omega)))) rfl ?_
  refine Aa rfl (A2 (Ay rfl <| Ar rfl <| Al rfl <| Ad) (by first | rfl | exact decide_eq_true (by omega)) Ab) ?_
  refine Ah <| Ac <| Aq (Ad) (by first | rfl | exact decide_eq_true (by omega)) ?_
  refine Af <| Ai fun ds => Aa rfl (Ae Ab) ?_
  refine Ah <| Ac <| A4 <| Bg ?_
  refine Ax rfl (.tmp (Ad) .nil) ?_
  show _ = _
  unfold rangeE; simp only [outOf]; rw [if_pos (Or.inl h1)]
 ·
  refine Af <| Ai fun ds => Bm rfl (B2 (Aj rfl) rfl fun b2 hb2 nb2 => ?_)
  refine Aa rfl (Ae Ab) ?_
  refine Ah <| Ac <| Af <| Af <| Ai fun ds => Aa rfl (Ao Du (Al rfl <| Ad)) ?_
  refine Aa rfl (Ap Bj (Ad) (Cell.own 0 rfl rfl)) ?_
  refine Aa rfl (Ao Dm (Ar rfl <| Al rfl <| Ad)) ?_
  refine Aa rfl (Ap Bj (Ad) (Cell.own 0 rfl rfl)) ?_
  refine Aa rfl (q_min2 (Ar rfl <| Ad) (Ad)) ?_
  refine Aa rfl (Ag (Ay rfl <| Ar rfl <| Al rfl <| Aj rfl)) ?_
  refine Aa rfl (Bw (Al rfl <| Ad) (Ad)) ?_
  refine Aa rfl (Ag (Ad)) ?_
  refine Au rfl rfl (Ad) (by first | rfl | exact decide_eq_false (by omega)) ?_
  refine Aa rfl (Ao Du (A6 rfl <| Al rfl <| Ad)) ?_
  refine Au rfl rfl (Al rfl <| Ad) (by first | rfl | exact decide_eq_false (by omega)) ?_
  refine Aa rfl (Ap Bj (Ad) (Cell.own 0 rfl rfl)) ?_
  refine Au rfl rfl (Ar rfl <| Ad) (by first | rfl | exact decide_eq_false (by omega)) ?_
  refine Aa rfl (Ao Dm (A6 rfl <| Ar rfl <| Al rfl <| Ad)) ?_
  refine Au rfl rfl (Ar rfl <| Al rfl <| Ad) (by first | rfl | exact decide_eq_false (by omega)) ?_
  refine Aa rfl (Ap Bj (Ad) (Cell.own 0 rfl rfl)) ?_
  refine Au rfl rfl (Ay rfl <| Ad) (by first | rfl | exact decide_eq_false (by omega)) ?_
  refine Aa rfl (q_max2 (Ar rfl <| Ad) (Ad)) ?_
  refine Au rfl rfl (Ay rfl <| Al rfl <| Ad) (by first | rfl | exact decide_eq_false (by omega)) ?_
  refine Aa rfl (Ag (A6 rfl <| Ay rfl <| Ar rfl <| Al rfl <| Aj rfl)) ?_
  refine Au rfl rfl (Ay rfl <| Ar rfl <| Ad) (by first | rfl | exact decide_eq_false (by omega)) ?_
  refine Aa rfl (De (Al rfl <| Ad) (Ad)) ?_
  refine Aa rfl (A7 (Ay rfl <| Ar rfl <| Al rfl <| Ad) (by first | rfl | exact decide_eq_false (by omega)) (Ad)) ?_
  refine Ah <| Ac ?_
  by_cases h2 : hi < max a b
  ·
   refine Aq (Ad) (by first | rfl | exact decide_eq_true (by omega)) ?_
   refine Af <| Ai fun ds => Aa rfl (Ae Ab) ?_
   refine Ah <| Ac <| A4 <| Bg ?_
   refine Ax rfl (.tmp (Ad) .nil) ?_
   show _ = _
   unfold rangeE; simp only [outOf]; rw [if_pos (Or.inr h2)]
  ·
   refine Am (Ad) (by first | rfl | exact decide_eq_false (by omega)) ?_
   by_cases h3 : b < a
   ·
    refine Aw <| Ac <| Af <| Af <| Ai fun ds => Aa rfl (Ao Dm (A3 rfl <| Al rfl <| Ad)) ?_
    refine Aa rfl (Ap Bj (Ad) (Cell.own 0 rfl rfl)) ?_
    refine Aa rfl (Ao Du (A3 rfl <| Ar rfl <| Al rfl <| Ad)) ?_
    refine Aa rfl (Ap Bj (Ad) (Cell.own 0 rfl rfl)) ?_
    refine Aa rfl (Bw (Ar rfl <| Ad) (Ad)) ?_
    refine Ah <| Ac <| Aq (Ad) (by first | rfl | exact decide_eq_true (by omega)) ?_
    refine Af <| Ai fun ds => Aa rfl (Ae Ab) ?_
    refine Ah <| Ac <| A4 <| Bg ?_
    refine Ax rfl (.tmp (Ad) .nil) ?_
    show _ = _
    unfold rangeE; simp only [outOf]; rw [if_neg (by omega), if_pos h3]
   ·
    refine Aw <| Ac <| Af <| Af <| Ai fun ds => Aa rfl (Ao Dm (A3 rfl <| Al rfl <| Ad)) ?_
    refine Aa rfl (Ap Bj (Ad) (Cell.own 0 rfl rfl)) ?_
    refine Aa rfl (Ao Du (A3 rfl <| Ar rfl <| Al rfl <| Ad)) ?_
    refine Aa rfl (Ap Bj (Ad) (Cell.own 0 rfl rfl)) ?_
    refine Aa rfl (Bw (Ar rfl <| Ad) (Ad)) ?_
    refine Ah <| Ac <| Am (Ad) (by first | rfl | exact decide_eq_false (by omega)) ?_
    refine Aw <| Ac <| Af <| Ai fun ds => Aa rfl (Ae Ab) ?_
    refine Ah <| Ac <| A4 <| Ax rfl (.tmp (Ad) .nil) ?_
    show _ = _
    unfold rangeE; simp only [outOf]; rw [if_neg (by omega), if_neg h3]
set_option maxRecDepth 100000 in
theorem indexInt_ok {F : Heap} {v : Value} {xs : List Int} (h : Ints F v xs) (p : _ → Bool) {g : FuncId} {cs : List Value} (hg : Body Try.prog g) (hp : ∀ k (hk : k < xs.length), Ok Try.prog g ([Value.int .i64 xs[k]] ++ cs).toArray F fun r _ => r = .bool (p xs[k])) : Ok Try.prog 121 [v, .func (.func g) #[] cs.toArray].toArray F fun r _ => r = .int .i64 (findI p xs) := by
 refine Ok.intro Try.func121 rfl Try.ntmps121 rfl fun w0 => ?_
 have hlen := h.plain.lt
 refine Af <| Ai fun ds => Aa rfl (Ae Ab) ?_
 refine Ah <| Ac <| Af <| Af <| Ai fun ds => Aa rfl (Ag (Al rfl <| Aj rfl)) ?_
 refine Aa rfl (Bk Be (Ad) h.plain) ?_
 refine Aa rfl (Ag Ab) ?_
 refine Ah <| Ac <| Az <| Bu [4, 5, 8, 9, 10, 11, 12, 13, 14, 15, 16, 17, 18] (fun m e σ => ∃ k : Nat, m + k = xs.length ∧ e 8 = .int .i64 k ∧ σ = ⟨F, []⟩ ∧ ∀ j (hj : j < xs.length), j < k → p xs[j] = false) (xs.length) ?_ ?_
 · exact ⟨0, by omega, (Ad), rfl, fun j hj h => absurd h (by omega)⟩
 ·
  rintro m e _ ⟨k, hm, hs8, rfl, hno⟩
  by_cases hlt : k < xs.length
  ·
   refine Af <| Ai fun ds => Aa rfl (Bw (As rfl hs8) (Ak rfl <| Al rfl <| Ad)) ?_
   refine Ah <| Ac <| Af <| Aq (Ad) (by first | rfl | exact decide_eq_true (by omega)) ?_
   by_cases hpk : p xs[k] = true
   ·
    refine Aw <| Ac <| Af <| Az <| Af <| Ai fun ds => Aa rfl (Ag (Al rfl <| As rfl hs8)) ?_
    refine Aa rfl (Ae (Ad)) ?_
    refine Ah <| Ac <| Af <| Ai fun ds => Aa rfl (Ag (Ar rfl <| Al rfl <| Ak rfl <| Ay rfl <| Aj rfl)) ?_
    refine Aa rfl (Ag (Ay rfl <| Ak rfl <| Ay rfl <| Aj rfl)) ?_
    refine Aa rfl (Ag (Ar rfl <| Ad)) ?_
    refine Aa rfl (A9  Be (Al rfl <| Ad) h.plain (Ad) rfl (by omega)) ?_
    refine Aa rfl (Ap Bj (Ad) (h.cell1 (by omega) rfl)) ?_
    refine Bx rfl (Bi hg (Ay rfl <| Ad) (.cons (Ad) .nil) (hp k hlt) (fun _ _ h => h)) ?_
    refine Ah <| Ac <| Aq (Ad) hpk ?_
    refine Af <| Ai fun ds => Aa rfl (Ag (Ay rfl <| Ar rfl <| Ad)) ?_
    refine Aa rfl (Ae (Ad)) ?_
    refine Ah <| Ac <| A4 <| Bl (Bg (Bg (Bl (Bg ?_))))
    refine Ax rfl (.tmp (Ad) .nil) ?_
    show _ = _
    rw [Dt hlt hpk hno]; rfl
   ·
    replace hpk : p xs[k] = false := by simpa using hpk
    refine Aw <| Ac <| Af <| Az <| Af <| Ai fun ds => Aa rfl (Ag (Al rfl <| As rfl hs8)) ?_
    refine Aa rfl (Ae (Ad)) ?_
    refine Ah <| Ac <| Af <| Ai fun ds => Aa rfl (Ag (Ar rfl <| Al rfl <| Ak rfl <| Ay rfl <| Aj rfl)) ?_
    refine Aa rfl (Ag (Ay rfl <| Ak rfl <| Ay rfl <| Aj rfl)) ?_
    refine Aa rfl (Ag (Ar rfl <| Ad)) ?_
    refine Aa rfl (A9  Be (Al rfl <| Ad) h.plain (Ad) rfl (by omega)) ?_
    refine Aa rfl (Ap Bj (Ad) (h.cell1 (by omega) rfl)) ?_
    refine Bx rfl (Bi hg (Ay rfl <| Ad) (.cons (Ad) .nil) (hp k hlt) (fun _ _ h => h)) ?_
    refine Ah <| Ac <| Am (Ad) hpk ?_
    refine Aw <| Bb <| Ac <| Ai fun ds => Aa rfl (Br (A6 rfl <| Al rfl <| As rfl hs8) Ab rfl (by omega) (by omega)) ?_
    refine Aa rfl (Ag (Ad)) ?_
    refine Ah <| Ac ⟨_, m - 1, Off.eq (Dj rfl <| ou2 rfl <| Dk rfl <| Bd), by omega, ?_⟩
    refine ⟨k + 1, by omega, (Ad), rfl, fun j hj hjk => ?_⟩
    rcases Nat.lt_succ_iff_lt_or_eq.1 hjk with hjk | rfl
    · exact hno j hj hjk
    · exact hpk
  ·
   refine Af <| Ai fun ds => Aa rfl (Bw (As rfl hs8) (Ak rfl <| Al rfl <| Ad)) ?_
   refine Ah <| Ac <| Af <| Am (Ad) (by first | rfl | exact decide_eq_false (by omega)) ?_
   refine Bn ?_
   refine Ba <| Ba <| Bh <| Ac <| Af <| Ai fun ds => Aa rfl (Ae Ab) ?_
   refine Ah <| Ac <| A4 <| Ax rfl (.tmp (Ad) .nil) ?_
   show _ = _
   rw [Eo fun j hj => hno j hj (by omega)]; rfl
set_option maxRecDepth 100000 in
theorem containsInt_ok {F : Heap} {v : Value} {xs : List Int} (h : Ints F v xs) (p : _ → Bool) {g : FuncId} {cs : List Value} (hg : Body Try.prog g) (hp : ∀ k (hk : k < xs.length), Ok Try.prog g ([Value.int .i64 xs[k]] ++ cs).toArray F fun r _ => r = .bool (p xs[k])) : Ok Try.prog 98 [v, .func (.func g) #[] cs.toArray].toArray F fun r _ => r = .bool (xs.any p) := by
 refine Ok.intro Try.func98 rfl Try.ntmps98 rfl fun w0 => ?_
 refine Af <| Ai fun ds => Aa rfl (Ae Ab) ?_
 refine Ah <| Ac <| Af <| Ai fun ds => Aa rfl (Ag (Al rfl <| Aj rfl)) ?_
 refine Aa rfl (Ag (Ar rfl <| Aj rfl)) ?_
 refine Bx rfl (Bi bd_121 A0 (.cons (Al rfl <| Ad) (.cons (Ad) .nil)) (indexInt_ok h p hg hp) (fun _ _ h => h)) ?_
 refine Aa rfl (Eg (Ad) Ab) ?_
 refine Aa rfl (Ae (Ad)) ?_
 refine Ah <| Ac <| A4 <| Ax rfl (.tmp (Ad) .nil) ?_
 show _ = _
 rw [← findI_any]; rfl
set_option maxRecDepth 100000 in
theorem outside1_ok {F : Heap} {b1 b2 T1 T2 : Nat} {lo hi : Int} (h1 : F b1 = some (bx T1 [.int .i64 lo])) (h2 : F b2 = some (bx T2 [.int .i64 hi])) (z : Int) : Ok Try.prog 99 [.int .i64 z, .pointer (some ⟨b1, 0, none⟩), .pointer (some ⟨b2, 0, none⟩)].toArray F fun r _ => r = .bool (!(inB lo hi z)) := by
 refine Ok.intro Try.func99 rfl Try.ntmps99 rfl fun w0 => ?_
 by_cases hz : z < lo
 ·
  refine Af <| Ai fun ds => Aa rfl (Ae Ab) ?_
  refine Ah <| Ac <| Af <| Ai fun ds => Aa rfl (Ag (Al rfl <| Aj rfl)) ?_
  refine Aa rfl (Ap Bj (Ar rfl <| Aj rfl) (CellF.own h1 rfl).cell) ?_
  refine Aa rfl (Bw (Al rfl <| Ad) (Ad)) ?_
  refine Aa rfl (Ag (Ad)) ?_
  refine At rfl rfl (Ad) (.inl (congrArg Value.bool (by first | rfl | exact decide_eq_true (by omega)))) rfl ?_
  refine At rfl rfl (Al rfl <| Ad) (.inl (congrArg Value.bool (by first | rfl | exact decide_eq_true (by omega)))) rfl ?_
  refine At rfl rfl (Ar rfl <| Ad) (.inl (congrArg Value.bool (by first | rfl | exact decide_eq_true (by omega)))) rfl ?_
  refine Aa rfl (A2 (Ar rfl <| Al rfl <| Ad) (by first | rfl | exact decide_eq_true (by omega)) Ab) ?_
  refine Aa rfl (Ae (Ad)) ?_
  refine Ah <| Ac <| A4 <| Ax rfl (.tmp (Ad) .nil) ?_
  show _ = _
  have : ¬ lo ≤ z := by omega
  simp [outOf, inB, this]
 ·
  refine Af <| Ai fun ds => Aa rfl (Ae Ab) ?_
  refine Ah <| Ac <| Af <| Ai fun ds => Aa rfl (Ag (Al rfl <| Aj rfl)) ?_
  refine Aa rfl (Ap Bj (Ar rfl <| Aj rfl) (CellF.own h1 rfl).cell) ?_
  refine Aa rfl (Bw (Al rfl <| Ad) (Ad)) ?_
  refine Aa rfl (Ag (Ad)) ?_
  refine Au rfl rfl (Ad) (by first | rfl | exact decide_eq_false (by omega)) ?_
  refine Aa rfl (Ag (Ay rfl <| Al rfl <| Aj rfl)) ?_
  refine Au rfl rfl (Al rfl <| Ad) (by first | rfl | exact decide_eq_false (by omega)) ?_
  refine Aa rfl (Ap Bj (Ay rfl <| Ar rfl <| Aj rfl) (CellF.own h2 rfl).cell) ?_
  refine Au rfl rfl (Ar rfl <| Ad) (by first | rfl | exact decide_eq_false (by omega)) ?_
  refine Aa rfl (De (Al rfl <| Ad) (Ad)) ?_
  refine Aa rfl (A7 (Ar rfl <| Al rfl <| Ad) (by first | rfl | exact decide_eq_false (by omega)) (Ad)) ?_
  refine Aa rfl (Ae (Ad)) ?_
  refine Ah <| Ac ?_
  by_cases hz2 : hi < z
  ·
   refine A4 <| Ax rfl (.tmp (Ad) .nil) ?_
   show _ = _
   have : ¬ z ≤ hi := by omega
   simp [outOf, inB, hz2, this]
  ·
   refine A4 <| Ax rfl (.tmp (Ad) .nil) ?_
   show _ = _
   have e1 : lo ≤ z := by omega
   have e2 : z ≤ hi := by omega
   simp [outOf, inB, hz2, e1, e2]
set_option maxRecDepth 100000 in
theorem Ck {F : Heap} {v : Value} {xs : List Int} (lo hi : Int) (h : Ints F v xs) : Ok Try.prog 52 [.int .i64 lo, .int .i64 hi, v].toArray F fun r _ => r = .bool (xs.any fun z => !(inB lo hi z)) := by
 refine Ok.intro Try.func52 rfl Try.ntmps52 rfl fun w0 => ?_
 refine Af <| Ai fun ds => Bm rfl (B2 (Aj rfl) rfl fun b1 hb1 nb1 => ?_)
 refine Bm rfl (B2 (Al rfl <| Aj rfl) rfl fun b2 hb2 nb2 => ?_)
 refine Aa rfl (Ae Ab) ?_
 refine Ah <| Ac <| Cg (i := 1) rfl hb1 (.next <| .here) fun F3 hF4 hz1 => ?_
 replace h := h.mono hF4
 refine Cg (i := 0) rfl hb2 (.here) fun F5 hF6 hz2 => ?_
 replace h := h.mono hF6
 replace hz1 := hF6 _ _ hz1
 refine Af <| Ai fun ds => Aa rfl (Ag (Ar rfl <| Al rfl <| Aj rfl)) ?_
 refine Aa rfl (Cq (.cons (Ar rfl <| Al rfl <| Ad) (.cons (Ar rfl <| Ad) .nil))) ?_
 refine Bx rfl (Bi bd_98 A0 (.cons (Al rfl <| Ad) (.cons (Ad) .nil)) (containsInt_ok h (fun z => !(inB lo hi z)) bd_99 fun k hk => outside1_ok hz1 hz2 _) (fun _ _ h => h)) ?_
 refine Aa rfl (Ae (Ad)) ?_
 refine Ah <| Ac <| A4 <| Ax rfl (.tmp (Ad) .nil) ?_
 rfl
set_option maxRecDepth 100000 in
theorem indexPlc_ok {F : Heap} {v : Value} {xs : List Plc} (h : Sl F v 2 Plc.enc xs) (p : _ → Bool) {g : FuncId} {cs : List Value} (hg : Body Try.prog g) (hp : ∀ k (hk : k < xs.length), Ok Try.prog g ([Value.agg (Plc.enc xs[k]).toArray] ++ cs).toArray F fun r _ => r = .bool (p xs[k])) : Ok Try.prog 100 [v, .func (.func g) #[] cs.toArray].toArray F fun r _ => r = .int .i64 (findI p xs) := by
 refine Ok.intro Try.func100 rfl Try.ntmps100 rfl fun w0 => ?_
 have hlen := h.plain.lt
 refine Af <| Ai fun ds => Aa rfl (Ae Ab) ?_
 refine Ah <| Ac <| Af <| Af <| Ai fun ds => Aa rfl (Ag (Al rfl <| Aj rfl)) ?_
 refine Aa rfl (Bk C9 (Ad) h.plain) ?_
 refine Aa rfl (Ag Ab) ?_
 refine Ah <| Ac <| Az <| Bu [4, 5, 8, 9, 10, 11, 12, 13, 14, 15, 16, 17, 18] (fun m e σ => ∃ k : Nat, m + k = xs.length ∧ e 8 = .int .i64 k ∧ σ = ⟨F, []⟩ ∧ ∀ j (hj : j < xs.length), j < k → p xs[j] = false) (xs.length) ?_ ?_
 · exact ⟨0, by omega, (Ad), rfl, fun j hj h => absurd h (by omega)⟩
 ·
  rintro m e _ ⟨k, hm, hs8, rfl, hno⟩
  by_cases hlt : k < xs.length
  ·
   refine Af <| Ai fun ds => Aa rfl (Bw (As rfl hs8) (Ak rfl <| Al rfl <| Ad)) ?_
   refine Ah <| Ac <| Af <| Aq (Ad) (by first | rfl | exact decide_eq_true (by omega)) ?_
   by_cases hpk : p xs[k] = true
   ·
    refine Aw <| Ac <| Af <| Az <| Af <| Ai fun ds => Aa rfl (Ag (Al rfl <| As rfl hs8)) ?_
    refine Aa rfl (Ae (Ad)) ?_
    refine Ah <| Ac <| Af <| Ai fun ds => Aa rfl (Ag (Ar rfl <| Al rfl <| Ak rfl <| Ay rfl <| Aj rfl)) ?_
    refine Aa rfl (Ag (Ay rfl <| Ak rfl <| Ay rfl <| Aj rfl)) ?_
    refine Aa rfl (Ag (Ar rfl <| Ad)) ?_
    refine Aa rfl (A9  C9 (Al rfl <| Ad) h.plain (Ad) rfl (by omega)) ?_
    refine Aa rfl (Bf agg_70 (Ad) rfl rfl (h.whole (by omega))) ?_
    refine Bx rfl (Bi hg (Ay rfl <| Ad) (.cons (Ad) .nil) (hp k hlt) (fun _ _ h => h)) ?_
    refine Ah <| Ac <| Aq (Ad) hpk ?_
    refine Af <| Ai fun ds => Aa rfl (Ag (Ay rfl <| Ar rfl <| Ad)) ?_
    refine Aa rfl (Ae (Ad)) ?_
    refine Ah <| Ac <| A4 <| Bl (Bg (Bg (Bl (Bg ?_))))
    refine Ax rfl (.tmp (Ad) .nil) ?_
    show _ = _
    rw [Dt hlt hpk hno]; rfl
   ·
    replace hpk : p xs[k] = false := by simpa using hpk
    refine Aw <| Ac <| Af <| Az <| Af <| Ai fun ds => Aa rfl (Ag (Al rfl <| As rfl hs8)) ?_
    refine Aa rfl (Ae (Ad)) ?_
    refine Ah <| Ac <| Af <| Ai fun ds => Aa rfl (Ag (Ar rfl <| Al rfl <| Ak rfl <| Ay rfl <| Aj rfl)) ?_
    refine Aa rfl (Ag (Ay rfl <| Ak rfl <| Ay rfl <| Aj rfl)) ?_
    refine Aa rfl (Ag (Ar rfl <| Ad)) ?_
    refine Aa rfl (A9  C9 (Al rfl <| Ad) h.plain (Ad) rfl (by omega)) ?_
    refine Aa rfl (Bf agg_70 (Ad) rfl rfl (h.whole (by omega))) ?_
    refine Bx rfl (Bi hg (Ay rfl <| Ad) (.cons (Ad) .nil) (hp k hlt) (fun _ _ h => h)) ?_
    refine Ah <| Ac <| Am (Ad) hpk ?_
    refine Aw <| Bb <| Ac <| Ai fun ds => Aa rfl (Br (A6 rfl <| Al rfl <| As rfl hs8) Ab rfl (by omega) (by omega)) ?_
    refine Aa rfl (Ag (Ad)) ?_
    refine Ah <| Ac ⟨_, m - 1, Off.eq (Dj rfl <| ou2 rfl <| Dk rfl <| Bd), by omega, ?_⟩
    refine ⟨k + 1, by omega, (Ad), rfl, fun j hj hjk => ?_⟩
    rcases Nat.lt_succ_iff_lt_or_eq.1 hjk with hjk | rfl
    · exact hno j hj hjk
    · exact hpk
  ·
   refine Af <| Ai fun ds => Aa rfl (Bw (As rfl hs8) (Ak rfl <| Al rfl <| Ad)) ?_
   refine Ah <| Ac <| Af <| Am (Ad) (by first | rfl | exact decide_eq_false (by omega)) ?_
   refine Bn ?_
   refine Ba <| Ba <| Bh <| Ac <| Af <| Ai fun ds => Aa rfl (Ae Ab) ?_
   refine Ah <| Ac <| A4 <| Ax rfl (.tmp (Ad) .nil) ?_
   show _ = _
   rw [Eo fun j hj => hno j hj (by omega)]; rfl
set_option maxRecDepth 100000 in
theorem containsPlc_ok {F : Heap} {v : Value} {xs : List Plc} (h : Sl F v 2 Plc.enc xs) (p : _ → Bool) {g : FuncId} {cs : List Value} (hg : Body Try.prog g) (hp : ∀ k (hk : k < xs.length), Ok Try.prog g ([Value.agg (Plc.enc xs[k]).toArray] ++ cs).toArray F fun r _ => r = .bool (p xs[k])) : Ok Try.prog 56 [v, .func (.func g) #[] cs.toArray].toArray F fun r _ => r = .bool (xs.any p) := by
 refine Ok.intro Try.func56 rfl Try.ntmps56 rfl fun w0 => ?_
 refine Af <| Ai fun ds => Aa rfl (Ae Ab) ?_
 refine Ah <| Ac <| Af <| Ai fun ds => Aa rfl (Ag (Al rfl <| Aj rfl)) ?_
 refine Aa rfl (Ag (Ar rfl <| Aj rfl)) ?_
 refine Bx rfl (Bi bd_100 A0 (.cons (Al rfl <| Ad) (.cons (Ad) .nil)) (indexPlc_ok h p hg hp) (fun _ _ h => h)) ?_
 refine Aa rfl (Eg (Ad) Ab) ?_
 refine Aa rfl (Ae (Ad)) ?_
 refine Ah <| Ac <| A4 <| Ax rfl (.tmp (Ad) .nil) ?_
 show _ = _
 rw [← findI_any]; rfl
set_option maxRecDepth 100000 in
theorem indexEdn_ok {F : Heap} {v : Value} {xs : List (Value × Edn)} (h : Sl F v 4 edE xs) (p : _ → Bool) {g : FuncId} {cs : List Value} (hg : Body Try.prog g) (hp : ∀ k (hk : k < xs.length), Ok Try.prog g ([Value.agg (edE xs[k]).toArray] ++ cs).toArray F fun r _ => r = .bool (p xs[k])) : Ok Try.prog 101 [v, .func (.func g) #[] cs.toArray].toArray F fun r _ => r = .int .i64 (findI p xs) := by
 refine Ok.intro Try.func101 rfl Try.ntmps101 rfl fun w0 => ?_
 have hlen := h.plain.lt
 refine Af <| Ai fun ds => Aa rfl (Ae Ab) ?_
 refine Ah <| Ac <| Af <| Af <| Ai fun ds => Aa rfl (Ag (Al rfl <| Aj rfl)) ?_
 refine Aa rfl (Bk B5 (Ad) h.plain) ?_
 refine Aa rfl (Ag Ab) ?_
 refine Ah <| Ac <| Az <| Bu [4, 5, 8, 9, 10, 11, 12, 13, 14, 15, 16, 17, 18] (fun m e σ => ∃ k : Nat, m + k = xs.length ∧ e 8 = .int .i64 k ∧ σ = ⟨F, []⟩ ∧ ∀ j (hj : j < xs.length), j < k → p xs[j] = false) (xs.length) ?_ ?_
 · exact ⟨0, by omega, (Ad), rfl, fun j hj h => absurd h (by omega)⟩
 ·
  rintro m e _ ⟨k, hm, hs8, rfl, hno⟩
  by_cases hlt : k < xs.length
  ·
   refine Af <| Ai fun ds => Aa rfl (Bw (As rfl hs8) (Ak rfl <| Al rfl <| Ad)) ?_
   refine Ah <| Ac <| Af <| Aq (Ad) (by first | rfl | exact decide_eq_true (by omega)) ?_
   by_cases hpk : p xs[k] = true
   ·
    refine Aw <| Ac <| Af <| Az <| Af <| Ai fun ds => Aa rfl (Ag (Al rfl <| As rfl hs8)) ?_
    refine Aa rfl (Ae (Ad)) ?_
    refine Ah <| Ac <| Af <| Ai fun ds => Aa rfl (Ag (Ar rfl <| Al rfl <| Ak rfl <| Ay rfl <| Aj rfl)) ?_
    refine Aa rfl (Ag (Ay rfl <| Ak rfl <| Ay rfl <| Aj rfl)) ?_
    refine Aa rfl (Ag (Ar rfl <| Ad)) ?_
    refine Aa rfl (A9  B5 (Al rfl <| Ad) h.plain (Ad) rfl (by omega)) ?_
    refine Aa rfl (Bf agg_64 (Ad) rfl rfl (h.whole (by omega))) ?_
    refine Bx rfl (Bi hg (Ay rfl <| Ad) (.cons (Ad) .nil) (hp k hlt) (fun _ _ h => h)) ?_
    refine Ah <| Ac <| Aq (Ad) hpk ?_
    refine Af <| Ai fun ds => Aa rfl (Ag (Ay rfl <| Ar rfl <| Ad)) ?_
    refine Aa rfl (Ae (Ad)) ?_
    refine Ah <| Ac <| A4 <| Bl (Bg (Bg (Bl (Bg ?_))))
    refine Ax rfl (.tmp (Ad) .nil) ?_
    show _ = _
    rw [Dt hlt hpk hno]; rfl
   ·
    replace hpk : p xs[k] = false := by simpa using hpk
    refine Aw <| Ac <| Af <| Az <| Af <| Ai fun ds => Aa rfl (Ag (Al rfl <| As rfl hs8)) ?_
    refine Aa rfl (Ae (Ad)) ?_
    refine Ah <| Ac <| Af <| Ai fun ds => Aa rfl (Ag (Ar rfl <| Al rfl <| Ak rfl <| Ay rfl <| Aj rfl)) ?_
    refine Aa rfl (Ag (Ay rfl <| Ak rfl <| Ay rfl <| Aj rfl)) ?_
    refine Aa rfl (Ag (Ar rfl <| Ad)) ?_
    refine Aa rfl (A9  B5 (Al rfl <| Ad) h.plain (Ad) rfl (by omega)) ?_
    refine Aa rfl (Bf agg_64 (Ad) rfl rfl (h.whole (by omega))) ?_
    refine Bx rfl (Bi hg (Ay rfl <| Ad) (.cons (Ad) .nil) (hp k hlt) (fun _ _ h => h)) ?_
    refine Ah <| Ac <| Am (Ad) hpk ?_
    refine Aw <| Bb <| Ac <| Ai fun ds => Aa rfl (Br (A6 rfl <| Al rfl <| As rfl hs8) Ab rfl (by omega) (by omega)) ?_
    refine Aa rfl (Ag (Ad)) ?_
    refine Ah <| Ac ⟨_, m - 1, Off.eq (Dj rfl <| ou2 rfl <| Dk rfl <| Bd), by omega, ?_⟩
    refine ⟨k + 1, by omega, (Ad), rfl, fun j hj hjk => ?_⟩
    rcases Nat.lt_succ_iff_lt_or_eq.1 hjk with hjk | rfl
    · exact hno j hj hjk
    · exact hpk
  ·
   refine Af <| Ai fun ds => Aa rfl (Bw (As rfl hs8) (Ak rfl <| Al rfl <| Ad)) ?_
   refine Ah <| Ac <| Af <| Am (Ad) (by first | rfl | exact decide_eq_false (by omega)) ?_
   refine Bn ?_
   refine Ba <| Ba <| Bh <| Ac <| Af <| Ai fun ds => Aa rfl (Ae Ab) ?_
   refine Ah <| Ac <| A4 <| Ax rfl (.tmp (Ad) .nil) ?_
   show _ = _
   rw [Eo fun j hj => hno j hj (by omega)]; rfl
set_option maxRecDepth 100000 in
theorem containsEdn_ok {F : Heap} {v : Value} {xs : List (Value × Edn)} (h : Sl F v 4 edE xs) (p : _ → Bool) {g : FuncId} {cs : List Value} (hg : Body Try.prog g) (hp : ∀ k (hk : k < xs.length), Ok Try.prog g ([Value.agg (edE xs[k]).toArray] ++ cs).toArray F fun r _ => r = .bool (p xs[k])) : Ok Try.prog 60 [v, .func (.func g) #[] cs.toArray].toArray F fun r _ => r = .bool (xs.any p) := by
 refine Ok.intro Try.func60 rfl Try.ntmps60 rfl fun w0 => ?_
 refine Af <| Ai fun ds => Aa rfl (Ae Ab) ?_
 refine Ah <| Ac <| Af <| Ai fun ds => Aa rfl (Ag (Al rfl <| Aj rfl)) ?_
 refine Aa rfl (Ag (Ar rfl <| Aj rfl)) ?_
 refine Bx rfl (Bi bd_101 A0 (.cons (Al rfl <| Ad) (.cons (Ad) .nil)) (indexEdn_ok h p hg hp) (fun _ _ h => h)) ?_
 refine Aa rfl (Eg (Ad) Ab) ?_
 refine Aa rfl (Ae (Ad)) ?_
 refine Ah <| Ac <| A4 <| Ax rfl (.tmp (Ad) .nil) ?_
 show _ = _
 rw [← findI_any]; rfl
set_option maxRecDepth 100000 in
theorem indexSpn_ok {F : Heap} {v : Value} {xs : List (Int × Int)} (h : Sl F v 2 spanE xs) (p : _ → Bool) {g : FuncId} {cs : List Value} (hg : Body Try.prog g) (hp : ∀ k (hk : k < xs.length), Ok Try.prog g ([Value.agg (spanE xs[k]).toArray] ++ cs).toArray F fun r _ => r = .bool (p xs[k])) : Ok Try.prog 124 [v, .func (.func g) #[] cs.toArray].toArray F fun r _ => r = .int .i64 (findI p xs) := by
 refine Ok.intro Try.func124 rfl Try.ntmps124 rfl fun w0 => ?_
 have hlen := h.plain.lt
 refine Af <| Ai fun ds => Aa rfl (Ae Ab) ?_
 refine Ah <| Ac <| Af <| Af <| Ai fun ds => Aa rfl (Ag (Al rfl <| Aj rfl)) ?_
 refine Aa rfl (Bk Ex (Ad) h.plain) ?_
 refine Aa rfl (Ag Ab) ?_
 refine Ah <| Ac <| Az <| Bu [4, 5, 8, 9, 10, 11, 12, 13, 14, 15, 16, 17, 18] (fun m e σ => ∃ k : Nat, m + k = xs.length ∧ e 8 = .int .i64 k ∧ σ = ⟨F, []⟩ ∧ ∀ j (hj : j < xs.length), j < k → p xs[j] = false) (xs.length) ?_ ?_
 · exact ⟨0, by omega, (Ad), rfl, fun j hj h => absurd h (by omega)⟩
 ·
  rintro m e _ ⟨k, hm, hs8, rfl, hno⟩
  by_cases hlt : k < xs.length
  ·
   refine Af <| Ai fun ds => Aa rfl (Bw (As rfl hs8) (Ak rfl <| Al rfl <| Ad)) ?_
   refine Ah <| Ac <| Af <| Aq (Ad) (by first | rfl | exact decide_eq_true (by omega)) ?_
   by_cases hpk : p xs[k] = true
   ·
    refine Aw <| Ac <| Af <| Az <| Af <| Ai fun ds => Aa rfl (Ag (Al rfl <| As rfl hs8)) ?_
    refine Aa rfl (Ae (Ad)) ?_
    refine Ah <| Ac <| Af <| Ai fun ds => Aa rfl (Ag (Ar rfl <| Al rfl <| Ak rfl <| Ay rfl <| Aj rfl)) ?_
    refine Aa rfl (Ag (Ay rfl <| Ak rfl <| Ay rfl <| Aj rfl)) ?_
    refine Aa rfl (Ag (Ar rfl <| Ad)) ?_
    refine Aa rfl (A9  Ex (Al rfl <| Ad) h.plain (Ad) rfl (by omega)) ?_
    refine Aa rfl (Bf agg_60 (Ad) rfl rfl (h.whole (by omega))) ?_
    refine Bx rfl (Bi hg (Ay rfl <| Ad) (.cons (Ad) .nil) (hp k hlt) (fun _ _ h => h)) ?_
    refine Ah <| Ac <| Aq (Ad) hpk ?_
    refine Af <| Ai fun ds => Aa rfl (Ag (Ay rfl <| Ar rfl <| Ad)) ?_
    refine Aa rfl (Ae (Ad)) ?_
    refine Ah <| Ac <| A4 <| Bl (Bg (Bg (Bl (Bg ?_))))
    refine Ax rfl (.tmp (Ad) .nil) ?_
    show _ = _
    rw [Dt hlt hpk hno]; rfl
   ·
    replace hpk : p xs[k] = false := by simpa using hpk
    refine Aw <| Ac <| Af <| Az <| Af <| Ai fun ds => Aa rfl (Ag (Al rfl <| As rfl hs8)) ?_
    refine Aa rfl (Ae (Ad)) ?_
    refine Ah <| Ac <| Af <| Ai fun ds => Aa rfl (Ag (Ar rfl <| Al rfl <| Ak rfl <| Ay rfl <| Aj rfl)) ?_
    refine Aa rfl (Ag (Ay rfl <| Ak rfl <| Ay rfl <| Aj rfl)) ?_
    refine Aa rfl (Ag (Ar rfl <| Ad)) ?_
    refine Aa rfl (A9  Ex (Al rfl <| Ad) h.plain (Ad) rfl (by omega)) ?_
    refine Aa rfl (Bf agg_60 (Ad) rfl rfl (h.whole (by omega))) ?_
    refine Bx rfl (Bi hg (Ay rfl <| Ad) (.cons (Ad) .nil) (hp k hlt) (fun _ _ h => h)) ?_
    refine Ah <| Ac <| Am (Ad) hpk ?_
    refine Aw <| Bb <| Ac <| Ai fun ds => Aa rfl (Br (A6 rfl <| Al rfl <| As rfl hs8) Ab rfl (by omega) (by omega)) ?_
    refine Aa rfl (Ag (Ad)) ?_
    refine Ah <| Ac ⟨_, m - 1, Off.eq (Dj rfl <| ou2 rfl <| Dk rfl <| Bd), by omega, ?_⟩
    refine ⟨k + 1, by omega, (Ad), rfl, fun j hj hjk => ?_⟩
    rcases Nat.lt_succ_iff_lt_or_eq.1 hjk with hjk | rfl
    · exact hno j hj hjk
    · exact hpk
  ·
   refine Af <| Ai fun ds => Aa rfl (Bw (As rfl hs8) (Ak rfl <| Al rfl <| Ad)) ?_
   refine Ah <| Ac <| Af <| Am (Ad) (by first | rfl | exact decide_eq_false (by omega)) ?_
   refine Bn ?_
   refine Ba <| Ba <| Bh <| Ac <| Af <| Ai fun ds => Aa rfl (Ae Ab) ?_
   refine Ah <| Ac <| A4 <| Ax rfl (.tmp (Ad) .nil) ?_
   show _ = _
   rw [Eo fun j hj => hno j hj (by omega)]; rfl
set_option maxRecDepth 100000 in
theorem containsSpn_ok {F : Heap} {v : Value} {xs : List (Int × Int)} (h : Sl F v 2 spanE xs) (p : _ → Bool) {g : FuncId} {cs : List Value} (hg : Body Try.prog g) (hp : ∀ k (hk : k < xs.length), Ok Try.prog g ([Value.agg (spanE xs[k]).toArray] ++ cs).toArray F fun r _ => r = .bool (p xs[k])) : Ok Try.prog 108 [v, .func (.func g) #[] cs.toArray].toArray F fun r _ => r = .bool (xs.any p) := by
 refine Ok.intro Try.func108 rfl Try.ntmps108 rfl fun w0 => ?_
 refine Af <| Ai fun ds => Aa rfl (Ae Ab) ?_
 refine Ah <| Ac <| Af <| Ai fun ds => Aa rfl (Ag (Al rfl <| Aj rfl)) ?_
 refine Aa rfl (Ag (Ar rfl <| Aj rfl)) ?_
 refine Bx rfl (Bi bd_124 A0 (.cons (Al rfl <| Ad) (.cons (Ad) .nil)) (indexSpn_ok h p hg hp) (fun _ _ h => h)) ?_
 refine Aa rfl (Eg (Ad) Ab) ?_
 refine Aa rfl (Ae (Ad)) ?_
 refine Ah <| Ac <| A4 <| Ax rfl (.tmp (Ad) .nil) ?_
 show _ = _
 rw [← findI_any]; rfl
end Go.Proofs.Ytccogmkhijgelaa
namespace Go.Proofs.Ytccogmkhijgelaa
open Go.RowKit
theorem Da : ZeroT Try.prog 3 (.int .i64 0) := C7 (by kernel_rfl)
theorem zr_64 : ZeroT Try.prog 64 (.agg #[.string ⟨#[]⟩, .int .i64 0, .int .i64 0, .slice none 0 0]) := C7 (by kernel_rfl)
theorem zr_70 : ZeroT Try.prog 70 (.agg #[.string ⟨#[]⟩, .int .i64 0]) := C7 (by kernel_rfl)
theorem Ei : Body Try.prog 52 := Bq (by kernel_rfl)
theorem bd_55 : Body Try.prog 55 := Bq (by kernel_rfl)
theorem bd_56 : Body Try.prog 56 := Bq (by kernel_rfl)
theorem bd_57 : Body Try.prog 57 := Bq (by kernel_rfl)
theorem bd_60 : Body Try.prog 60 := Bq (by kernel_rfl)
theorem bd_61 : Body Try.prog 61 := Bq (by kernel_rfl)
theorem Co : FieldT Try.prog 25 0 0 := Do (by kernel_rfl)
theorem Bv : FieldT Try.prog 25 1 1 := Do (by kernel_rfl)
theorem fd_64_0 : FieldT Try.prog 64 0 0 := Do (by kernel_rfl)
theorem Dl : FieldT Try.prog 64 1 1 := Do (by kernel_rfl)
theorem Ca : FieldT Try.prog 64 2 3 := Do (by kernel_rfl)
theorem fd_70_0 : FieldT Try.prog 70 0 0 := Do (by kernel_rfl)
theorem fd_70_1 : FieldT Try.prog 70 1 1 := Do (by kernel_rfl)
theorem Cy : OneT Try.prog 22 := Ef (by kernel_rfl)
theorem Bz : OneT Try.prog 23 := Ef (by kernel_rfl)
theorem Cb : OneT Try.prog 26 := Ef (by kernel_rfl)
theorem sz_64 : SizeT Try.prog 64 4 := Cx (by kernel_rfl)
theorem sz_70 : SizeT Try.prog 70 2 := Cx (by kernel_rfl)
theorem edE_one {p : Value × Edn} (h : p.1.oneCell' = true) : ∀ u ∈ edE p, u.oneCell' = true := by
 intro u hu
 simp only [edE, List.mem_cons, List.not_mem_nil, or_false] at hu
 rcases hu with rfl | rfl | rfl | rfl
 · rfl
 · rfl
 · rfl
 · exact h
theorem StmR.ones {F : Heap} {vp ve : Value} {ps : List (Value × Edn)} {s : Stm} (hr : StmR F vp ve ps s) : ∀ u ∈ [vp, ve], u.oneCell' = true := by
 intro u hu
 simp only [List.mem_cons, List.not_mem_nil, or_false] at hu
 rcases hu with rfl | rfl
 · exact hr.places.plain.one
 · exact hr.eds.plain.one
set_option maxRecDepth 100000 in
theorem firstPlc_ok {F : Heap} {v : Value} {xs : List Plc} (h : Sl F v 2 Plc.enc xs) (f : Nat → Int) {g : FuncId} {cs : List Value} (hg : Body Try.prog g) (hp : ∀ k (hk : k < xs.length), (∀ j, j < k → f j = 0) → Ok Try.prog g ([Value.int .i64 (k : Int), Value.agg (Plc.enc xs[k]).toArray] ++ cs).toArray F fun r _ => r = .int .i64 (f k)) : Ok Try.prog 53 [v, .func (.func g) #[] cs.toArray].toArray F fun r _ => r = .tuple #[.int .i64 (firstQ xs.length f).1, .int .i64 (firstQ xs.length f).2] := by
 refine Ok.intro Try.func53 rfl Try.ntmps53 rfl fun w0 => ?_
 have hlen := h.plain.lt
 refine Af <| Ai fun ds => Aa rfl (Ae Ab) ?_
 refine Aa rfl (Ae Ab) ?_
 refine Ah <| Ac <| Af <| Af <| Ai fun ds => Aa rfl (Ag (Ar rfl <| Aj rfl)) ?_
 refine Aa rfl (Bk C9 (Ad) h.plain) ?_
 refine Aa rfl (Ag Ab) ?_
 refine Ah <| Ac <| Az <| Bu [4, 5, 6, 7, 8, 11, 12, 13, 14, 15, 16, 17, 18, 19, 20, 21, 22, 23, 24] (fun m e σ => ∃ k : Nat, m + k = xs.length ∧ e 11 = .int .i64 (k : Int) ∧ σ = ⟨F, []⟩ ∧ ∀ j, j < k → f j = 0) (xs.length) ?_ ?_
 · exact ⟨0, by omega, (Ad), rfl, fun j h => absurd h (by omega)⟩
 ·
  rintro m e _ ⟨k, hm, hs11, rfl, hno⟩
  by_cases hlt : k < xs.length
  ·
   refine Af <| Ai fun ds => Aa rfl (Bw (As rfl hs11) (Ak rfl <| Al rfl <| Ad)) ?_
   refine Ah <| Ac <| Af <| Aq (Ad) (by first | rfl | exact decide_eq_true (by omega)) ?_
   by_cases hfk : f k = 0
   ·
    refine Aw <| Ac <| Af <| Az <| Af <| Ai fun ds => Aa rfl (Ag (Al rfl <| As rfl hs11)) ?_
    refine Aa rfl (A9  C9 (Ar rfl <| Ak rfl <| Ar rfl <| Ad) h.plain (Ar rfl <| As rfl hs11) rfl (by omega)) ?_
    refine Aa rfl (Bf agg_70 (Ad) rfl rfl (h.whole (by omega))) ?_
    refine Bm rfl (Cf zr_70 rfl fun b2 hb2 nb2 => ?_)
    refine Aa rfl (Ae (Ar rfl <| Al rfl <| Ad)) ?_
    refine Cm (Cj sz_70 (Al rfl <| Ad) (Ar rfl <| Ad) (i := 0) rfl rfl rfl rfl Plc.enc_one (.here) ?_)
    refine Ah <| Ac <| Af <| Ai fun ds => Aa rfl (Ag (Ay rfl <| Ar rfl <| Ak rfl <| Ay rfl <| Al rfl <| Aj rfl)) ?_
    refine Aa rfl (Ag (Al rfl <| Ad)) ?_
    refine Aa rfl (Bf agg_70 (Ar rfl <| Al rfl <| Ad) rfl rfl (A8 0 rfl)) ?_
    refine Bx rfl (Bi hg (Ar rfl <| Ad) (.cons (Al rfl <| Ad) (.cons (Ad) .nil)) (hp k hlt hno) (fun _ _ h => h)) ?_
    refine Aa rfl (Ae (Ad)) ?_
    refine Ah <| Ac <| Af <| Ai fun ds => Aa rfl (Ag (Ad)) ?_
    refine Aa rfl (By (Ad) Ab) ?_
    refine Ah <| Ac <| Am (Ad) (decide_eq_false (fun h => h hfk)) ?_
    refine Aw <| Bb <| Ac <| C5 (fun _ _ h => h.drop (.cons _ <| .refl _)) ?_
    refine Ai fun ds => Aa rfl (Br (A6 rfl <| Ay rfl <| Al rfl <| As rfl hs11) Ab rfl (by omega) (by omega)) ?_
    refine Aa rfl (Ag (Ad)) ?_
    refine Ah <| Ac ⟨_, m - 1, Off.eq (Dj rfl <| Dv rfl <| ou2 rfl <| Dk rfl <| Bd), by omega, ?_⟩
    refine ⟨k + 1, by omega, (Ad), rfl, fun j hjk => ?_⟩
    rcases Nat.lt_succ_iff_lt_or_eq.1 hjk with hjk | rfl
    · exact hno j hjk
    · exact hfk
   ·
    refine Aw <| Ac <| Af <| Az <| Af <| Ai fun ds => Aa rfl (Ag (Al rfl <| As rfl hs11)) ?_
    refine Aa rfl (A9  C9 (Ar rfl <| Ak rfl <| Ar rfl <| Ad) h.plain (Ar rfl <| As rfl hs11) rfl (by omega)) ?_
    refine Aa rfl (Bf agg_70 (Ad) rfl rfl (h.whole (by omega))) ?_
    refine Bm rfl (Cf zr_70 rfl fun b3 hb3 nb3 => ?_)
    refine Aa rfl (Ae (Ar rfl <| Al rfl <| Ad)) ?_
    refine Cm (Cj sz_70 (Al rfl <| Ad) (Ar rfl <| Ad) (i := 0) rfl rfl rfl rfl Plc.enc_one (.here) ?_)
    refine Ah <| Ac <| Af <| Ai fun ds => Aa rfl (Ag (Ay rfl <| Ar rfl <| Ak rfl <| Ay rfl <| Al rfl <| Aj rfl)) ?_
    refine Aa rfl (Ag (Al rfl <| Ad)) ?_
    refine Aa rfl (Bf agg_70 (Ar rfl <| Al rfl <| Ad) rfl rfl (A8 0 rfl)) ?_
    refine Bx rfl (Bi hg (Ar rfl <| Ad) (.cons (Al rfl <| Ad) (.cons (Ad) .nil)) (hp k hlt hno) (fun _ _ h => h)) ?_
    refine Aa rfl (Ae (Ad)) ?_
    refine Ah <| Ac <| Af <| Ai fun ds => Aa rfl (Ag (Ad)) ?_
    refine Aa rfl (By (Ad) Ab) ?_
    refine Ah <| Ac <| Aq (Ad) (decide_eq_true hfk) ?_
    refine Af <| Ai fun ds => Aa rfl (Ag (Ay rfl <| Ar rfl <| Al rfl <| Ad)) ?_
    refine Aa rfl (Ag (Ar rfl <| Al rfl <| Ad)) ?_
    refine Aa rfl (Ae (Al rfl <| Ad)) ?_
    refine Aa rfl (Ae (Al rfl <| Ad)) ?_
    refine Ah <| Ac <| A4 <| Bl (Bg (Bg (Bl (Bg ?_))))
    refine Ax rfl (.tmp (Al rfl <| Ad) (.tmp (Ad) .nil)) ?_
    show _ = _
    rw [firstQ_bad hlt hno hfk]; rfl
  ·
   refine Af <| Ai fun ds => Aa rfl (Bw (As rfl hs11) (Ak rfl <| Al rfl <| Ad)) ?_
   refine Ah <| Ac <| Af <| Am (Ad) (by first | rfl | exact decide_eq_false (by omega)) ?_
   refine Bn ?_
   refine Ba <| Ba <| Bh <| Ac <| Af <| Ai fun ds => Aa rfl (Ae Ab) ?_
   refine Aa rfl (Ae Ab) ?_
   refine Ah <| Ac <| A4 <| Ax rfl (.tmp (Al rfl <| Ad) (.tmp (Ad) .nil)) ?_
   show _ = _
   rw [firstQ_ok fun j hj => hno j (by omega)]; rfl
set_option maxRecDepth 100000 in
theorem firstEdn_ok {F : Heap} {v : Value} {xs : List (Value × Edn)} (h : Sl F v 4 edE xs) (hone : ∀ p ∈ xs, p.1.oneCell' = true) (f : Nat → Int) {g : FuncId} {cs : List Value} (hg : Body Try.prog g) (hp : ∀ k (hk : k < xs.length), (∀ j, j < k → f j = 0) → Ok Try.prog g ([Value.int .i64 (k : Int), Value.agg (edE xs[k]).toArray] ++ cs).toArray F fun r _ => r = .int .i64 (f k)) : Ok Try.prog 58 [v, .func (.func g) #[] cs.toArray].toArray F fun r _ => r = .tuple #[.int .i64 (firstQ xs.length f).1, .int .i64 (firstQ xs.length f).2] := by
 refine Ok.intro Try.func58 rfl Try.ntmps58 rfl fun w0 => ?_
 have hlen := h.plain.lt
 refine Af <| Ai fun ds => Aa rfl (Ae Ab) ?_
 refine Aa rfl (Ae Ab) ?_
 refine Ah <| Ac <| Af <| Af <| Ai fun ds => Aa rfl (Ag (Ar rfl <| Aj rfl)) ?_
 refine Aa rfl (Bk B5 (Ad) h.plain) ?_
 refine Aa rfl (Ag Ab) ?_
 refine Ah <| Ac <| Az <| Bu [4, 5, 6, 7, 8, 11, 12, 13, 14, 15, 16, 17, 18, 19, 20, 21, 22, 23, 24] (fun m e σ => ∃ k : Nat, m + k = xs.length ∧ e 11 = .int .i64 (k : Int) ∧ σ = ⟨F, []⟩ ∧ ∀ j, j < k → f j = 0) (xs.length) ?_ ?_
 · exact ⟨0, by omega, (Ad), rfl, fun j h => absurd h (by omega)⟩
 ·
  rintro m e _ ⟨k, hm, hs11, rfl, hno⟩
  by_cases hlt : k < xs.length
  ·
   refine Af <| Ai fun ds => Aa rfl (Bw (As rfl hs11) (Ak rfl <| Al rfl <| Ad)) ?_
   refine Ah <| Ac <| Af <| Aq (Ad) (by first | rfl | exact decide_eq_true (by omega)) ?_
   by_cases hfk : f k = 0
   ·
    refine Aw <| Ac <| Af <| Az <| Af <| Ai fun ds => Aa rfl (Ag (Al rfl <| As rfl hs11)) ?_
    refine Aa rfl (A9  B5 (Ar rfl <| Ak rfl <| Ar rfl <| Ad) h.plain (Ar rfl <| As rfl hs11) rfl (by omega)) ?_
    refine Aa rfl (Bf agg_64 (Ad) rfl rfl (h.whole (by omega))) ?_
    refine Bm rfl (Cf zr_64 rfl fun b2 hb2 nb2 => ?_)
    refine Aa rfl (Ae (Ar rfl <| Al rfl <| Ad)) ?_
    refine Cm (Cj sz_64 (Al rfl <| Ad) (Ar rfl <| Ad) (i := 0) rfl rfl rfl rfl (edE_one (hone _ (List.getElem_mem hlt))) (.here) ?_)
    refine Ah <| Ac <| Af <| Ai fun ds => Aa rfl (Ag (Ay rfl <| Ar rfl <| Ak rfl <| Ay rfl <| Al rfl <| Aj rfl)) ?_
    refine Aa rfl (Ag (Al rfl <| Ad)) ?_
    refine Aa rfl (Bf agg_64 (Ar rfl <| Al rfl <| Ad) rfl rfl (A8 0 rfl)) ?_
    refine Bx rfl (Bi hg (Ar rfl <| Ad) (.cons (Al rfl <| Ad) (.cons (Ad) .nil)) (hp k hlt hno) (fun _ _ h => h)) ?_
    refine Aa rfl (Ae (Ad)) ?_
    refine Ah <| Ac <| Af <| Ai fun ds => Aa rfl (Ag (Ad)) ?_
    refine Aa rfl (By (Ad) Ab) ?_
    refine Ah <| Ac <| Am (Ad) (decide_eq_false (fun h => h hfk)) ?_
    refine Aw <| Bb <| Ac <| C5 (fun _ _ h => h.drop (.cons _ <| .refl _)) ?_
    refine Ai fun ds => Aa rfl (Br (A6 rfl <| Ay rfl <| Al rfl <| As rfl hs11) Ab rfl (by omega) (by omega)) ?_
    refine Aa rfl (Ag (Ad)) ?_
    refine Ah <| Ac ⟨_, m - 1, Off.eq (Dj rfl <| Dv rfl <| ou2 rfl <| Dk rfl <| Bd), by omega, ?_⟩
    refine ⟨k + 1, by omega, (Ad), rfl, fun j hjk => ?_⟩
    rcases Nat.lt_succ_iff_lt_or_eq.1 hjk with hjk | rfl
    · exact hno j hjk
    · exact hfk
   ·
    refine Aw <| Ac <| Af <| Az <| Af <| Ai fun ds => Aa rfl (Ag (Al rfl <| As rfl hs11)) ?_
    refine Aa rfl (A9  B5 (Ar rfl <| Ak rfl <| Ar rfl <| Ad) h.plain (Ar rfl <| As rfl hs11) rfl (by omega)) ?_
    refine Aa rfl (Bf agg_64 (Ad) rfl rfl (h.whole (by omega))) ?_
    refine Bm rfl (Cf zr_64 rfl fun b3 hb3 nb3 => ?_)
    refine Aa rfl (Ae (Ar rfl <| Al rfl <| Ad)) ?_
    refine Cm (Cj sz_64 (Al rfl <| Ad) (Ar rfl <| Ad) (i := 0) rfl rfl rfl rfl (edE_one (hone _ (List.getElem_mem hlt))) (.here) ?_)
    refine Ah <| Ac <| Af <| Ai fun ds => Aa rfl (Ag (Ay rfl <| Ar rfl <| Ak rfl <| Ay rfl <| Al rfl <| Aj rfl)) ?_
    refine Aa rfl (Ag (Al rfl <| Ad)) ?_
    refine Aa rfl (Bf agg_64 (Ar rfl <| Al rfl <| Ad) rfl rfl (A8 0 rfl)) ?_
    refine Bx rfl (Bi hg (Ar rfl <| Ad) (.cons (Al rfl <| Ad) (.cons (Ad) .nil)) (hp k hlt hno) (fun _ _ h => h)) ?_
    refine Aa rfl (Ae (Ad)) ?_
    refine Ah <| Ac <| Af <| Ai fun ds => Aa rfl (Ag (Ad)) ?_
    refine Aa rfl (By (Ad) Ab) ?_
    refine Ah <| Ac <| Aq (Ad) (decide_eq_true hfk) ?_
    refine Af <| Ai fun ds => Aa rfl (Ag (Ay rfl <| Ar rfl <| Al rfl <| Ad)) ?_
    refine Aa rfl (Ag (Ar rfl <| Al rfl <| Ad)) ?_
    refine Aa rfl (Ae (Al rfl <| Ad)) ?_
    refine Aa rfl (Ae (Al rfl <| Ad)) ?_
    refine Ah <| Ac <| A4 <| Bl (Bg (Bg (Bl (Bg ?_))))
    refine Ax rfl (.tmp (Al rfl <| Ad) (.tmp (Ad) .nil)) ?_
    show _ = _
    rw [firstQ_bad hlt hno hfk]; rfl
  ·
   refine Af <| Ai fun ds => Aa rfl (Bw (As rfl hs11) (Ak rfl <| Al rfl <| Ad)) ?_
   refine Ah <| Ac <| Af <| Am (Ad) (by first | rfl | exact decide_eq_false (by omega)) ?_
   refine Bn ?_
   refine Ba <| Ba <| Bh <| Ac <| Af <| Ai fun ds => Aa rfl (Ae Ab) ?_
   refine Aa rfl (Ae Ab) ?_
   refine Ah <| Ac <| A4 <| Ax rfl (.tmp (Al rfl <| Ad) (.tmp (Ad) .nil)) ?_
   show _ = _
   rw [firstQ_ok fun j hj => hno j (by omega)]; rfl
set_option maxRecDepth 100000 in
theorem check11_ok {F : Heap} {c TB : Nat} {b : Plc} (hb : F c = some (bx TB b.enc)) (x : Plc) : Ok Try.prog 57 [.agg x.enc.toArray, .pointer (some ⟨c, 0, none⟩)].toArray F fun r _ => r = .bool (sameS x.name b.name) := by
 refine Ok.intro Try.func57 rfl Try.ntmps57 rfl fun w0 => ?_
 refine Af <| Ai fun ds => Bm rfl (B2 (Aj rfl) rfl fun b1 hb1 nb1 => ?_)
 refine Aa rfl (Ae Ab) ?_
 refine Ah <| Ac <| Af <| Ai fun ds => Aa rfl (Ao fd_70_0 (Al rfl <| Ad)) ?_
 refine Aa rfl (Ap one_9 (Ad) (Cell.own 0 rfl rfl)) ?_
 refine Aa rfl (Ao fd_70_0 (Ay rfl <| Aj rfl)) ?_
 refine Aa rfl (Ap one_9 (Ad) (CellF.own hb rfl).cell) ?_
 refine Aa rfl (q_eqs (Ar rfl <| Ad) (Ad)) ?_
 refine Aa rfl (Ae (Ad)) ?_
 refine Ah <| Ac <| A4 <| Ax rfl (.tmp (Ad) .nil) ?_
 rfl
set_option maxRecDepth 100000 in
theorem check21_ok {F : Heap} {c TB : Nat} {b : Value × Edn} (hb : F c = some (bx TB (edE b))) (x : Value × Edn) : Ok Try.prog 61 [.agg (edE x).toArray, .pointer (some ⟨c, 0, none⟩)].toArray F fun r _ => r = .bool (sameS x.2.name b.2.name) := by
 refine Ok.intro Try.func61 rfl Try.ntmps61 rfl fun w0 => ?_
 refine Af <| Ai fun ds => Bm rfl (B2 (Aj rfl) rfl fun b1 hb1 nb1 => ?_)
 refine Aa rfl (Ae Ab) ?_
 refine Ah <| Ac <| Af <| Ai fun ds => Aa rfl (Ao fd_64_0 (Al rfl <| Ad)) ?_
 refine Aa rfl (Ap one_9 (Ad) (Cell.own 0 rfl rfl)) ?_
 refine Aa rfl (Ao fd_64_0 (Ay rfl <| Aj rfl)) ?_
 refine Aa rfl (Ap one_9 (Ad) (CellF.own hb rfl).cell) ?_
 refine Aa rfl (q_eqs (Ar rfl <| Ad) (Ad)) ?_
 refine Aa rfl (Ae (Ad)) ?_
 refine Ah <| Ac <| A4 <| Ax rfl (.tmp (Ad) .nil) ?_
 rfl
set_option maxRecDepth 100000 in
theorem check1_ok {F : Heap} {vp ve : Value} {ps : List (Value × Edn)} {s : Stm} (hr : StmR F vp ve ps s) {c TC : Nat} (hc : F c = some (bx TC [vp, ve])) {k : Nat} (hk : k < s.places.length) : Ok Try.prog 54 [.int .i64 (k : Int), .agg (s.places[k].enc).toArray, .pointer (some ⟨c, 0, none⟩)].toArray F fun r _ => r = .int .i64 (plcErr s k) := by
 refine Ok.intro Try.func54 rfl Try.ntmps54 rfl fun w0 => ?_
 have hL1 := hr.places.plain.lt
 by_cases hn : nameOk s.places[k].name = true
 ·
  refine Af <| Ai fun ds => Bm rfl (B2 (Aj rfl) rfl fun b1 hb1 nb1 => ?_)
  refine Aa rfl (Ae Ab) ?_
  refine Ah <| Ac <| Af <| Az <| Af <| Ai fun ds => Aa rfl (Ao fd_70_0 (Al rfl <| Ad)) ?_
  refine Aa rfl (Ap one_9 (Ad) (Cell.own 0 rfl rfl)) ?_
  refine Bx rfl (Bi bd_55 A0 (.cons (Ad) .nil) (quireName_ok _) (fun _ _ h => h)) ?_
  refine Aa rfl (Ci (Ad)) ?_
  refine Aa rfl (Ae (Ad)) ?_
  refine Ah <| Ac <| Am (Ad) (by rw [hn]; rfl) ?_
  refine Af <| Cg (i := 0) rfl hb1 (.here) fun F2 hF3 hq => ?_
  replace hr := hr.mono hF3
  replace hc := hF3 _ _ hc
  by_cases ht : (s.places.take k).any (fun y => sameS y.name s.places[k].name) = true
  ·
   refine Ai fun ds => Aa rfl (Ao Co (Ay rfl <| Ar rfl <| Al rfl <| Aj rfl)) ?_
   refine Aa rfl (Ap Cy (Ad) (CellF.own hc rfl).cell) ?_
   refine Aa rfl (Ag (A6 rfl <| Al rfl <| Aj rfl)) ?_
   refine Aa rfl (q_sliceTo C9 (Al rfl <| Ad) hr.places.plain (Ad) (k := k) rfl (by omega)) ?_
   refine Aa rfl (Cq (.cons (A6 rfl <| Ar rfl <| Ad) .nil)) ?_
   refine Bx rfl (Bi bd_56 A0 (.cons (Al rfl <| Ad) (.cons (Ad) .nil)) (containsPlc_ok (hr.places.to (k := k) (by omega)) (fun y => sameS y.name s.places[k].name) bd_57 fun i hi => check11_ok hq _) (fun _ _ h => h)) ?_
   refine Aa rfl (Ae (Ad)) ?_
   refine Ah <| Ac <| Aq (Ad) ht ?_
   refine Af <| Ai fun ds => Aa rfl (Ae Ab) ?_
   refine Ah <| Ac <| A4 <| Bl (Bg ?_)
   refine Ax rfl (.tmp (Ad) .nil) ?_
   show _ = _
   rw [plcErr_at hk]; simp [outOf, hn, ht]
  ·
   replace ht : (s.places.take k).any (fun y => sameS y.name s.places[k].name) = false := by simpa using ht
   refine Ai fun ds => Aa rfl (Ao Co (Ay rfl <| Ar rfl <| Al rfl <| Aj rfl)) ?_
   refine Aa rfl (Ap Cy (Ad) (CellF.own hc rfl).cell) ?_
   refine Aa rfl (Ag (A6 rfl <| Al rfl <| Aj rfl)) ?_
   refine Aa rfl (q_sliceTo C9 (Al rfl <| Ad) hr.places.plain (Ad) (k := k) rfl (by omega)) ?_
   refine Aa rfl (Cq (.cons (A6 rfl <| Ar rfl <| Ad) .nil)) ?_
   refine Bx rfl (Bi bd_56 A0 (.cons (Al rfl <| Ad) (.cons (Ad) .nil)) (containsPlc_ok (hr.places.to (k := k) (by omega)) (fun y => sameS y.name s.places[k].name) bd_57 fun i hi => check11_ok hq _) (fun _ _ h => h)) ?_
   refine Aa rfl (Ae (Ad)) ?_
   refine Ah <| Ac <| Am (Ad) ht ?_
   by_cases hv : inB 0 1 s.places[k].kind = true
   ·
    refine Af <| Ai fun ds => Aa rfl (Ao fd_70_1 (A6 rfl <| Ay rfl <| Al rfl <| Ad)) ?_
    refine Aa rfl (Ap Bj (Ad) (CellF.own hq rfl).cell) ?_
    refine Bm rfl (B6 Be Da rfl (.cons (Ad) .nil) rfl rfl (by decide) (by simp [Value.oneCell']) fun b4 hb4 nb4 => ?_)
    refine B8 (i := 0) rfl hb4 .here fun F5 hF6 hz7 => ?_
    have hsl8 := C0 hz7
    refine Bx rfl (Bi Ei A0 (.cons Ab (.cons Ab (.cons (Ad) .nil))) (Ck _ _ hsl8) (fun _ _ h => h)) ?_
    refine Aa rfl (Ae (Ad)) ?_
    refine Ah <| Ac <| Am (Ad) (by simp [hv]) ?_
    refine Aw <| Bb <| Ac <| Af <| Ai fun ds => Aa rfl (Ae Ab) ?_
    refine Ah <| Ac <| A4 <| Ax rfl (.tmp (Ad) .nil) ?_
    show _ = _
    rw [plcErr_at hk]; simp [outOf, hn, ht, hv]
   ·
    replace hv : inB 0 1 s.places[k].kind = false := by simpa using hv
    refine Af <| Ai fun ds => Aa rfl (Ao fd_70_1 (A6 rfl <| Ay rfl <| Al rfl <| Ad)) ?_
    refine Aa rfl (Ap Bj (Ad) (CellF.own hq rfl).cell) ?_
    refine Bm rfl (B6 Be Da rfl (.cons (Ad) .nil) rfl rfl (by decide) (by simp [Value.oneCell']) fun b9 hb9 nb9 => ?_)
    refine B8 (i := 0) rfl hb9 .here fun F10 hF11 hz12 => ?_
    have hsl13 := C0 hz12
    refine Bx rfl (Bi Ei A0 (.cons Ab (.cons Ab (.cons (Ad) .nil))) (Ck _ _ hsl13) (fun _ _ h => h)) ?_
    refine Aa rfl (Ae (Ad)) ?_
    refine Ah <| Ac <| Aq (Ad) (by simp [hv]) ?_
    refine Af <| Ai fun ds => Aa rfl (Ae Ab) ?_
    refine Ah <| Ac <| A4 <| Bl (Bg ?_)
    refine Ax rfl (.tmp (Ad) .nil) ?_
    show _ = _
    rw [plcErr_at hk]; simp [outOf, hn, ht, hv]
 ·
  replace hn : nameOk s.places[k].name = false := by simpa using hn
  refine Af <| Ai fun ds => Bm rfl (B2 (Aj rfl) rfl fun b14 hb14 nb14 => ?_)
  refine Aa rfl (Ae Ab) ?_
  refine Ah <| Ac <| Af <| Az <| Af <| Ai fun ds => Aa rfl (Ao fd_70_0 (Al rfl <| Ad)) ?_
  refine Aa rfl (Ap one_9 (Ad) (Cell.own 0 rfl rfl)) ?_
  refine Bx rfl (Bi bd_55 A0 (.cons (Ad) .nil) (quireName_ok _) (fun _ _ h => h)) ?_
  refine Aa rfl (Ci (Ad)) ?_
  refine Aa rfl (Ae (Ad)) ?_
  refine Ah <| Ac <| Aq (Ad) (by rw [hn]; rfl) ?_
  refine Af <| Ai fun ds => Aa rfl (Ae Ab) ?_
  refine Ah <| Ac <| A4 <| Bl (Bg ?_)
  refine Ax rfl (.tmp (Ad) .nil) ?_
  show _ = _
  rw [plcErr_at hk]; simp [outOf, hn]
set_option maxRecDepth 100000 in
theorem check2_ok {F : Heap} {vp ve : Value} {ps : List (Value × Edn)} {s : Stm} (hr : StmR F vp ve ps s) {c TC : Nat} (hc : F c = some (bx TC [vp, ve])) {k : Nat} (hk : k < ps.length) : Ok Try.prog 59 [.int .i64 (k : Int), .agg (edE ps[k]).toArray, .pointer (some ⟨c, 0, none⟩)].toArray F fun r _ => r = .int .i64 (edErr s k) := by
 refine Ok.intro Try.func59 rfl Try.ntmps59 rfl fun w0 => ?_
 have hL1 := hr.eds.plain.lt
 have hL2 := hr.places.plain.lt
 have hke : k < s.editions.length := by rw [← hr.len]; exact hk
 have hea := hr.at hk
 have hrd := hr.rds _ (List.getElem_mem hk)
 have hL3 := hrd.plain.lt
 have hany := hr.any (q := fun y => sameS y.name ps[k].2.name) (k := k)
 by_cases hn : nameOk ps[k].2.name = true
 ·
  refine Af <| Ai fun ds => Bm rfl (B2 (Aj rfl) rfl fun b1 hb1 nb1 => ?_)
  refine Aa rfl (Ae Ab) ?_
  refine Ah <| Ac <| Af <| Az <| Af <| Ai fun ds => Aa rfl (Ao fd_64_0 (Al rfl <| Ad)) ?_
  refine Aa rfl (Ap one_9 (Ad) (Cell.own 0 rfl rfl)) ?_
  refine Bx rfl (Bi bd_55 A0 (.cons (Ad) .nil) (quireName_ok _) (fun _ _ h => h)) ?_
  refine Aa rfl (Ci (Ad)) ?_
  refine Aa rfl (Ae (Ad)) ?_
  refine Ah <| Ac <| Am (Ad) (by rw [hn]; rfl) ?_
  refine Af <| Cg (i := 0) rfl hb1 (.here) fun F2 hF3 hq => ?_
  replace hr := hr.mono hF3
  replace hrd := hrd.mono hF3
  replace hc := hF3 _ _ hc
  by_cases ht : (ps.take k).any (fun y => sameS y.2.name ps[k].2.name) = true
  ·
   refine Ai fun ds => Aa rfl (Ao Bv (Ay rfl <| Ar rfl <| Al rfl <| Aj rfl)) ?_
   refine Aa rfl (Ap Bz (Ad) (CellF.own hc rfl).cell) ?_
   refine Aa rfl (Ag (A6 rfl <| Al rfl <| Aj rfl)) ?_
   refine Aa rfl (q_sliceTo B5 (Al rfl <| Ad) hr.eds.plain (Ad) (k := k) rfl (by omega)) ?_
   refine Aa rfl (Cq (.cons (A6 rfl <| Ar rfl <| Ad) .nil)) ?_
   refine Bx rfl (Bi bd_60 A0 (.cons (Al rfl <| Ad) (.cons (Ad) .nil)) (containsEdn_ok (hr.eds.to (k := k) (by omega)) (fun y => sameS y.2.name ps[k].2.name) bd_61 fun i hi => check21_ok hq _) (fun _ _ h => h)) ?_
   refine Aa rfl (Ae (Ad)) ?_
   refine Ah <| Ac <| Aq (Ad) ht ?_
   rw [hany, hea] at ht
   rw [hea] at hn
   refine Af <| Ai fun ds => Aa rfl (Ae Ab) ?_
   refine Ah <| Ac <| A4 <| Bl (Bg ?_)
   refine Ax rfl (.tmp (Ad) .nil) ?_
   show _ = _
   rw [E5 hke]; simp [outOf, hn, ht]
  ·
   replace ht : (ps.take k).any (fun y => sameS y.2.name ps[k].2.name) = false := by simpa using ht
   refine Ai fun ds => Aa rfl (Ao Bv (Ay rfl <| Ar rfl <| Al rfl <| Aj rfl)) ?_
   refine Aa rfl (Ap Bz (Ad) (CellF.own hc rfl).cell) ?_
   refine Aa rfl (Ag (A6 rfl <| Al rfl <| Aj rfl)) ?_
   refine Aa rfl (q_sliceTo B5 (Al rfl <| Ad) hr.eds.plain (Ad) (k := k) rfl (by omega)) ?_
   refine Aa rfl (Cq (.cons (A6 rfl <| Ar rfl <| Ad) .nil)) ?_
   refine Bx rfl (Bi bd_60 A0 (.cons (Al rfl <| Ad) (.cons (Ad) .nil)) (containsEdn_ok (hr.eds.to (k := k) (by omega)) (fun y => sameS y.2.name ps[k].2.name) bd_61 fun i hi => check21_ok hq _) (fun _ _ h => h)) ?_
   refine Aa rfl (Ae (Ad)) ?_
   refine Ah <| Ac <| Am (Ad) ht ?_
   have ht2 := ht
   rw [hany, hea] at ht2
   have hn2 := hn
   rw [hea] at hn2
   by_cases hy : (inB 1450 1850 ps[k].2.lo && inB 1450 1850 ps[k].2.hi) = true
   ·
    refine Af <| Ai fun ds => Aa rfl (Ao Dl (A6 rfl <| Ay rfl <| Al rfl <| Ad)) ?_
    refine Aa rfl (Ao Du (Ad)) ?_
    refine Aa rfl (Ap Bj (Ad) (CellF.own hq rfl).cell) ?_
    refine Aa rfl (Ao Dl (A3 rfl <| Ad)) ?_
    refine Aa rfl (Ao Dm (Ad)) ?_
    refine Aa rfl (Ap Bj (Ad) (CellF.own hq rfl).cell) ?_
    refine Bm rfl (B6 Be Da rfl (.cons (Ar rfl <| Al rfl <| Ad) (.cons (Ad) .nil)) rfl rfl (by decide) (by simp [Value.oneCell']) fun b4 hb4 nb4 => ?_)
    refine B8 (i := 0) rfl hb4 .here fun F5 hF6 hz7 => ?_
    replace hr := hr.mono hF6
    replace hrd := hrd.mono hF6
    replace hc := hF6 _ _ hc
    replace hq := hF6 _ _ hq
    have hsl8 := ints_box2 hz7
    refine Bx rfl (Bi Ei A0 (.cons Ab (.cons Ab (.cons (Ad) .nil))) (Ck _ _ hsl8) (fun _ _ h => h)) ?_
    refine Aa rfl (Ae (Ad)) ?_
    refine Ah <| Ac <| Am (Ad) (by first | (rw [any_two]; simp only [Bool.and_eq_true] at hy; rw [hy.1, hy.2]; done) | (rw [any_two]; simp only [Bool.and_eq_true] at hy; rw [hy.1, hy.2]; rfl)) ?_
    by_cases hlh : ps[k].2.hi < ps[k].2.lo
    ·
     refine Af <| Ai fun ds => Aa rfl (Ao Dl (A3 rfl <| Ay rfl <| Ar rfl <| Ad)) ?_
     refine Aa rfl (Ao Du (Ad)) ?_
     refine Aa rfl (Ap Bj (Ad) (CellF.own hq rfl).cell) ?_
     refine Aa rfl (Ao Dl (A3 rfl <| A6 rfl <| Al rfl <| Ad)) ?_
     refine Aa rfl (Ao Dm (Ad)) ?_
     refine Aa rfl (Ap Bj (Ad) (CellF.own hq rfl).cell) ?_
     refine Aa rfl (De (Ar rfl <| Al rfl <| Ad) (Ad)) ?_
     refine Aa rfl (Ae (Ad)) ?_
     refine Ah <| Ac <| Aq (Ad) (decide_eq_true hlh) ?_
     rw [hea] at hy hlh
     refine Af <| Ai fun ds => Aa rfl (Ae Ab) ?_
     refine Ah <| Ac <| A4 <| Bl (Bg ?_)
     refine Ax rfl (.tmp (Ad) .nil) ?_
     show _ = _
     rw [E5 hke, ednErr]; simp [outOf, hn2, ht2, hy, hlh]
    ·
     refine Af <| Ai fun ds => Aa rfl (Ao Dl (A3 rfl <| Ay rfl <| Ar rfl <| Ad)) ?_
     refine Aa rfl (Ao Du (Ad)) ?_
     refine Aa rfl (Ap Bj (Ad) (CellF.own hq rfl).cell) ?_
     refine Aa rfl (Ao Dl (A3 rfl <| A6 rfl <| Al rfl <| Ad)) ?_
     refine Aa rfl (Ao Dm (Ad)) ?_
     refine Aa rfl (Ap Bj (Ad) (CellF.own hq rfl).cell) ?_
     refine Aa rfl (De (Ar rfl <| Al rfl <| Ad) (Ad)) ?_
     refine Aa rfl (Ae (Ad)) ?_
     refine Ah <| Ac <| Am (Ad) (decide_eq_false hlh) ?_
     by_cases hle : ps[k].2.rd.length = s.places.length
     ·
      refine Af <| Ai fun ds => Aa rfl (Ao Ca (A3 rfl <| A6 rfl <| Ay rfl <| Ar rfl <| Ad)) ?_
      refine Aa rfl (Ap Cb (Ad) (CellF.own hq rfl).cell) ?_
      refine Aa rfl (Bk Be (Ad) hrd.plain) ?_
      refine Aa rfl (Ao Co (Bp rfl <| Ar rfl <| Aj rfl)) ?_
      refine Aa rfl (Ap Cy (Ad) (CellF.own hc rfl).cell) ?_
      refine Aa rfl (Bk C9 (Ad) hr.places.plain) ?_
      refine Aa rfl (By (Ar rfl <| Al rfl <| Ad) (Ad)) ?_
      refine Aa rfl (Ae (Ad)) ?_
      refine Ah <| Ac <| Am (Ad) (decide_eq_false (by omega)) ?_
      by_cases hv : (ps[k].2.rd.any fun z => !(inB 0 3 z)) = true
      ·
       refine Af <| Ai fun ds => Aa rfl (Ao Ca (Bp rfl <| Ay rfl <| Ar rfl <| Ad)) ?_
       refine Aa rfl (Ap Cb (Ad) (CellF.own hq rfl).cell) ?_
       refine Bx rfl (Bi Ei A0 (.cons Ab (.cons Ab (.cons (Ad) .nil))) (Ck _ _ hrd) (fun _ _ h => h)) ?_
       refine Aa rfl (Ae (Ad)) ?_
       refine Ah <| Ac <| Aq (Ad) hv ?_
       rw [hea] at hy hlh hle hv
       refine Af <| Ai fun ds => Aa rfl (Ae Ab) ?_
       refine Ah <| Ac <| A4 <| Bl (Bg ?_)
       refine Ax rfl (.tmp (Ad) .nil) ?_
       show _ = _
       rw [E5 hke, ednErr]; simp [outOf, hn2, ht2, hy, hlh, hle, hv]
      ·
       replace hv : (ps[k].2.rd.any fun z => !(inB 0 3 z)) = false := by simpa using hv
       refine Af <| Ai fun ds => Aa rfl (Ao Ca (Bp rfl <| Ay rfl <| Ar rfl <| Ad)) ?_
       refine Aa rfl (Ap Cb (Ad) (CellF.own hq rfl).cell) ?_
       refine Bx rfl (Bi Ei A0 (.cons Ab (.cons Ab (.cons (Ad) .nil))) (Ck _ _ hrd) (fun _ _ h => h)) ?_
       refine Aa rfl (Ae (Ad)) ?_
       refine Ah <| Ac <| Am (Ad) hv ?_
       rw [hea] at hy hlh hle hv
       refine Aw <| Bb <| Ac <| Af <| Ai fun ds => Aa rfl (Ae Ab) ?_
       refine Ah <| Ac <| A4 <| Ax rfl (.tmp (Ad) .nil) ?_
       show _ = _
       rw [E5 hke, ednErr]; simp [outOf, hn2, ht2, hy, hlh, hle, hv]
     ·
      refine Af <| Ai fun ds => Aa rfl (Ao Ca (A3 rfl <| A6 rfl <| Ay rfl <| Ar rfl <| Ad)) ?_
      refine Aa rfl (Ap Cb (Ad) (CellF.own hq rfl).cell) ?_
      refine Aa rfl (Bk Be (Ad) hrd.plain) ?_
      refine Aa rfl (Ao Co (Bp rfl <| Ar rfl <| Aj rfl)) ?_
      refine Aa rfl (Ap Cy (Ad) (CellF.own hc rfl).cell) ?_
      refine Aa rfl (Bk C9 (Ad) hr.places.plain) ?_
      refine Aa rfl (By (Ar rfl <| Al rfl <| Ad) (Ad)) ?_
      refine Aa rfl (Ae (Ad)) ?_
      refine Ah <| Ac <| Aq (Ad) (decide_eq_true (by omega)) ?_
      rw [hea] at hy hlh hle
      refine Af <| Ai fun ds => Aa rfl (Ae Ab) ?_
      refine Ah <| Ac <| A4 <| Bl (Bg ?_)
      refine Ax rfl (.tmp (Ad) .nil) ?_
      show _ = _
      rw [E5 hke, ednErr]; simp [outOf, hn2, ht2, hy, hlh, hle]
   ·
    replace hy : (inB 1450 1850 ps[k].2.lo && inB 1450 1850 ps[k].2.hi) = false := by simpa using hy
    refine Af <| Ai fun ds => Aa rfl (Ao Dl (A6 rfl <| Ay rfl <| Al rfl <| Ad)) ?_
    refine Aa rfl (Ao Du (Ad)) ?_
    refine Aa rfl (Ap Bj (Ad) (CellF.own hq rfl).cell) ?_
    refine Aa rfl (Ao Dl (A3 rfl <| Ad)) ?_
    refine Aa rfl (Ao Dm (Ad)) ?_
    refine Aa rfl (Ap Bj (Ad) (CellF.own hq rfl).cell) ?_
    refine Bm rfl (B6 Be Da rfl (.cons (Ar rfl <| Al rfl <| Ad) (.cons (Ad) .nil)) rfl rfl (by decide) (by simp [Value.oneCell']) fun b9 hb9 nb9 => ?_)
    refine B8 (i := 0) rfl hb9 .here fun F10 hF11 hz12 => ?_
    have hsl13 := ints_box2 hz12
    refine Bx rfl (Bi Ei A0 (.cons Ab (.cons Ab (.cons (Ad) .nil))) (Ck _ _ hsl13) (fun _ _ h => h)) ?_
    refine Aa rfl (Ae (Ad)) ?_
    refine Ah <| Ac <| Aq (Ad) (by rw [any_two]; rw [Bool.and_eq_false_iff] at hy; rcases hy with hy | hy <;> rw [hy] <;> simp) ?_
    rw [hea] at hy
    refine Af <| Ai fun ds => Aa rfl (Ae Ab) ?_
    refine Ah <| Ac <| A4 <| Bl (Bg ?_)
    refine Ax rfl (.tmp (Ad) .nil) ?_
    show _ = _
    rw [E5 hke, ednErr]; simp [outOf, hn2, ht2, hy]
 ·
  replace hn : nameOk ps[k].2.name = false := by simpa using hn
  refine Af <| Ai fun ds => Bm rfl (B2 (Aj rfl) rfl fun b14 hb14 nb14 => ?_)
  refine Aa rfl (Ae Ab) ?_
  refine Ah <| Ac <| Af <| Az <| Af <| Ai fun ds => Aa rfl (Ao fd_64_0 (Al rfl <| Ad)) ?_
  refine Aa rfl (Ap one_9 (Ad) (Cell.own 0 rfl rfl)) ?_
  refine Bx rfl (Bi bd_55 A0 (.cons (Ad) .nil) (quireName_ok _) (fun _ _ h => h)) ?_
  refine Aa rfl (Ci (Ad)) ?_
  refine Aa rfl (Ae (Ad)) ?_
  refine Ah <| Ac <| Aq (Ad) (by rw [hn]; rfl) ?_
  rw [hea] at hn
  refine Af <| Ai fun ds => Aa rfl (Ae Ab) ?_
  refine Ah <| Ac <| A4 <| Bl (Bg ?_)
  refine Ax rfl (.tmp (Ad) .nil) ?_
  show _ = _
  rw [E5 hke]; simp [outOf, hn]
end Go.Proofs.Ytccogmkhijgelaa
namespace Go.Proofs.Ytccogmkhijgelaa
open Go.RowKit
theorem bd_104 : Body Try.prog 104 := Bq (by kernel_rfl)
theorem bd_53 : Body Try.prog 53 := Bq (by kernel_rfl)
theorem bd_54 : Body Try.prog 54 := Bq (by kernel_rfl)
theorem bd_58 : Body Try.prog 58 := Bq (by kernel_rfl)
theorem bd_59 : Body Try.prog 59 := Bq (by kernel_rfl)
theorem Ew : Body Try.prog 62 := Bq (by kernel_rfl)
set_option maxRecDepth 100000 in
theorem checkT_ok {F : Heap} {vp ve : Value} {ps : List (Value × Edn)} {s : Stm} (hr : StmR F vp ve ps s) : Ok Try.prog 16 [.agg #[vp, ve]].toArray F fun r _ => r = checkTV s := by
 refine Ok.intro Try.func16 rfl Try.ntmps16 rfl fun w0 => ?_
 have hL1 := hr.places.plain.lt
 have hL2 := hr.eds.plain.lt
 by_cases h1 : inB 1 6 s.places.length = true
 ·
  refine Af <| Ai fun ds => Bm rfl (B2 (Aj rfl) rfl fun b1 hb1 nb1 => ?_)
  refine Aa rfl (Ae Ab) ?_
  refine Aa rfl (Ae Ab) ?_
  refine Aa rfl (Ae Ab) ?_
  refine Ah <| Ac <| Af <| Af <| Ai fun ds => Aa rfl (Ao Co (Ar rfl <| Al rfl <| Ad)) ?_
  refine Aa rfl (Ap Cy (Ad) (Cell.own 0 rfl rfl)) ?_
  refine Aa rfl (Bk C9 (Ad) hr.places.plain) ?_
  refine Bm rfl (B6 Be Da rfl (.cons (Ad) .nil) rfl rfl (by decide) (by simp [Value.oneCell']) fun b2 hb2 nb2 => ?_)
  refine B8 (i := 0) rfl hb2 .here fun F3 hF4 hz5 => ?_
  replace hr := hr.mono hF4
  have hsl6 := C0 hz5
  refine Bx rfl (Bi Ei A0 (.cons Ab (.cons Ab (.cons (Ad) .nil))) (Ck _ _ hsl6) (fun _ _ h => h)) ?_
  refine Ah <| Ac <| Am (Ad) (by simp [h1]) ?_
  refine Aw <| Ac <| Af <| Cg (i := 0) rfl hb1 (.here) fun F7 hF8 hc1 => ?_
  replace hr := hr.mono hF8
  rcases firstQ_or (n := s.places.length) (f := plcErr s) with h2 | ⟨i2, e2, h2, he2⟩
  ·
   refine Ai fun ds => Aa rfl (Ao Co (A6 rfl <| Ad)) ?_
   refine Aa rfl (Ap Cy (Ad) (CellF.own hc1 rfl).cell) ?_
   refine Aa rfl (Cq (.cons (A6 rfl <| Ar rfl <| Ad) .nil)) ?_
   refine Bx rfl (Bi bd_53 A0 (.cons (Al rfl <| Ad) (.cons (Ad) .nil)) (firstPlc_ok hr.places (plcErr s) bd_54 fun k hk _ => check1_ok hr hc1 hk) (fun _ _ h => h.trans (show Value.tuple #[.int .i64 (firstQ s.places.length (plcErr s)).1, .int .i64 (firstQ s.places.length (plcErr s)).2] = Value.tuple #[.int .i64 0, .int .i64 0] by rw [h2]))) ?_
   refine Aa rfl (Ag (Ad)) ?_
   refine Aa rfl (A1 (Ad) rfl) ?_
   refine Aa rfl (A1 (Al rfl <| Ad) rfl) ?_
   refine Aa rfl (Ae (Al rfl <| Ad)) ?_
   refine Aa rfl (Ae (Al rfl <| Ad)) ?_
   refine Ah <| Ac <| Af <| Az <| Af <| Ai fun ds => Aa rfl (Ag (Ad)) ?_
   refine Aa rfl (By (Ad) Ab) ?_
   refine Aa rfl (Ae (Ad)) ?_
   refine Ah <| Ac <| Am (Ad) (by first | rfl | decide) ?_
   by_cases h3 : inB 1 5 s.editions.length = true
   ·
    refine Af <| Ai fun ds => Aa rfl (Ao Bv (A3 rfl <| Ay rfl <| Ad)) ?_
    refine Aa rfl (Ap Bz (Ad) (CellF.own hc1 rfl).cell) ?_
    refine Aa rfl (Bk B5 (Ad) hr.eds.plain) ?_
    refine Bm rfl (B6 Be Da rfl (.cons (Ad) .nil) rfl rfl (by decide) (by simp [Value.oneCell']) fun b9 hb9 nb9 => ?_)
    refine B8 (i := 0) rfl hb9 .here fun F10 hF11 hz12 => ?_
    replace hr := hr.mono hF11
    replace hc1 := hF11 _ _ hc1
    have hsl13 := C0 hz12
    refine Bx rfl (Bi Ei A0 (.cons Ab (.cons Ab (.cons (Ad) .nil))) (Ck _ _ hsl13) (fun _ _ h => h)) ?_
    refine Aa rfl (Ae (Ad)) ?_
    refine Ah <| Ac <| Am (Ad) (by simp [hr.len, h3]) ?_
    rcases firstQ_or (n := s.editions.length) (f := edErr s) with h4 | ⟨i4, e4, h4, he4⟩
    ·
     refine Aw <| Bb <| Ac <| Af <| Ai fun ds => Aa rfl (Ao Bv (A3 rfl <| A6 rfl <| Ar rfl <| Ad)) ?_
     refine Aa rfl (Ap Bz (Ad) (CellF.own hc1 rfl).cell) ?_
     refine Aa rfl (Cq (.cons (A3 rfl <| A6 rfl <| Ay rfl <| Ad) .nil)) ?_
     refine Bx rfl (Bi bd_58 A0 (.cons (Al rfl <| Ad) (.cons (Ad) .nil)) (firstEdn_ok hr.eds hr.one (edErr s) bd_59 fun k hk _ => check2_ok hr hc1 hk) (fun _ _ h => h.trans (show Value.tuple #[.int .i64 (firstQ ps.length (edErr s)).1, .int .i64 (firstQ ps.length (edErr s)).2] = Value.tuple #[.int .i64 0, .int .i64 0] by rw [hr.len, h4]))) ?_
     refine Aa rfl (Ag (Ad)) ?_
     refine Aa rfl (A1 (Ad) rfl) ?_
     refine Aa rfl (A1 (Al rfl <| Ad) rfl) ?_
     refine Aa rfl (Ae (Al rfl <| Ad)) ?_
     refine Aa rfl (Ae (Al rfl <| Ad)) ?_
     refine Ah <| Ac <| Af <| Af <| Ai fun ds => Aa rfl (Ag (Ad)) ?_
     refine Aa rfl (By (Ad) Ab) ?_
     refine Ah <| Ac <| Am (Ad) (by first | rfl | decide) ?_
     refine Aw <| Ac <| Af <| Ai fun ds => Aa rfl (Ae Ab) ?_
     refine Aa rfl (Ae Ab) ?_
     refine Aa rfl (Ae Ab) ?_
     refine Ah <| Ac <| A4 <| Ax rfl (.tmp (Ar rfl <| Ad) (.tmp (Al rfl <| Ad) (.tmp (Ad) .nil))) ?_
     exact (checkT_0 h1 h2 h3 h4).symm
    ·
     refine Aw <| Bb <| Ac <| Af <| Ai fun ds => Aa rfl (Ao Bv (A3 rfl <| A6 rfl <| Ar rfl <| Ad)) ?_
     refine Aa rfl (Ap Bz (Ad) (CellF.own hc1 rfl).cell) ?_
     refine Aa rfl (Cq (.cons (A3 rfl <| A6 rfl <| Ay rfl <| Ad) .nil)) ?_
     refine Bx rfl (Bi bd_58 A0 (.cons (Al rfl <| Ad) (.cons (Ad) .nil)) (firstEdn_ok hr.eds hr.one (edErr s) bd_59 fun k hk _ => check2_ok hr hc1 hk) (fun _ _ h => h.trans (show Value.tuple #[.int .i64 (firstQ ps.length (edErr s)).1, .int .i64 (firstQ ps.length (edErr s)).2] = Value.tuple #[.int .i64 i4, .int .i64 e4] by rw [hr.len, h4]))) ?_
     refine Aa rfl (Ag (Ad)) ?_
     refine Aa rfl (A1 (Ad) rfl) ?_
     refine Aa rfl (A1 (Al rfl <| Ad) rfl) ?_
     refine Aa rfl (Ae (Al rfl <| Ad)) ?_
     refine Aa rfl (Ae (Al rfl <| Ad)) ?_
     refine Ah <| Ac <| Af <| Af <| Ai fun ds => Aa rfl (Ag (Ad)) ?_
     refine Aa rfl (By (Ad) Ab) ?_
     refine Ah <| Ac <| Aq (Ad) (decide_eq_true he4) ?_
     refine Af <| Ai fun ds => Aa rfl (Ag (Ar rfl <| Al rfl <| Ad)) ?_
     refine Aa rfl (Ag (Ar rfl <| Al rfl <| Ad)) ?_
     refine Aa rfl (Ae Ab) ?_
     refine Aa rfl (Ae (Ar rfl <| Ad)) ?_
     refine Aa rfl (Ae (Ar rfl <| Ad)) ?_
     refine Ah <| Ac <| A4 <| Bg ?_
     refine Ax rfl (.tmp (Ar rfl <| Ad) (.tmp (Al rfl <| Ad) (.tmp (Ad) .nil))) ?_
     exact (checkT_e h1 h2 h3 h4 he4).symm
   ·
    replace h3 : inB 1 5 s.editions.length = false := by simpa using h3
    refine Af <| Ai fun ds => Aa rfl (Ao Bv (A3 rfl <| Ay rfl <| Ad)) ?_
    refine Aa rfl (Ap Bz (Ad) (CellF.own hc1 rfl).cell) ?_
    refine Aa rfl (Bk B5 (Ad) hr.eds.plain) ?_
    refine Bm rfl (B6 Be Da rfl (.cons (Ad) .nil) rfl rfl (by decide) (by simp [Value.oneCell']) fun b14 hb14 nb14 => ?_)
    refine B8 (i := 0) rfl hb14 .here fun F15 hF16 hz17 => ?_
    replace hr := hr.mono hF16
    have hsl18 := C0 hz17
    refine Bx rfl (Bi Ei A0 (.cons Ab (.cons Ab (.cons (Ad) .nil))) (Ck _ _ hsl18) (fun _ _ h => h)) ?_
    refine Aa rfl (Ae (Ad)) ?_
    refine Ah <| Ac <| Aq (Ad) (by simp [hr.len, h3]) ?_
    refine Af <| Ai fun ds => Aa rfl (Ae Ab) ?_
    refine Aa rfl (Ae Ab) ?_
    refine Aa rfl (Ae Ab) ?_
    refine Ah <| Ac <| A4 <| Bl (Bg ?_)
    refine Ax rfl (.tmp (Ar rfl <| Ad) (.tmp (Al rfl <| Ad) (.tmp (Ad) .nil))) ?_
    exact (checkT_2 h1 h2 h3).symm
  ·
   refine Ai fun ds => Aa rfl (Ao Co (A6 rfl <| Ad)) ?_
   refine Aa rfl (Ap Cy (Ad) (CellF.own hc1 rfl).cell) ?_
   refine Aa rfl (Cq (.cons (A6 rfl <| Ar rfl <| Ad) .nil)) ?_
   refine Bx rfl (Bi bd_53 A0 (.cons (Al rfl <| Ad) (.cons (Ad) .nil)) (firstPlc_ok hr.places (plcErr s) bd_54 fun k hk _ => check1_ok hr hc1 hk) (fun _ _ h => h.trans (show Value.tuple #[.int .i64 (firstQ s.places.length (plcErr s)).1, .int .i64 (firstQ s.places.length (plcErr s)).2] = Value.tuple #[.int .i64 i2, .int .i64 e2] by rw [h2]))) ?_
   refine Aa rfl (Ag (Ad)) ?_
   refine Aa rfl (A1 (Ad) rfl) ?_
   refine Aa rfl (A1 (Al rfl <| Ad) rfl) ?_
   refine Aa rfl (Ae (Al rfl <| Ad)) ?_
   refine Aa rfl (Ae (Al rfl <| Ad)) ?_
   refine Ah <| Ac <| Af <| Az <| Af <| Ai fun ds => Aa rfl (Ag (Ad)) ?_
   refine Aa rfl (By (Ad) Ab) ?_
   refine Aa rfl (Ae (Ad)) ?_
   refine Ah <| Ac <| Aq (Ad) (decide_eq_true he2) ?_
   refine Af <| Ai fun ds => Aa rfl (Ag (Ay rfl <| Ad)) ?_
   refine Aa rfl (Ag (Ay rfl <| Ad)) ?_
   refine Aa rfl (Ae Ab) ?_
   refine Aa rfl (Ae (Ar rfl <| Ad)) ?_
   refine Aa rfl (Ae (Ar rfl <| Ad)) ?_
   refine Ah <| Ac <| A4 <| Bl (Bg ?_)
   refine Ax rfl (.tmp (Ar rfl <| Ad) (.tmp (Al rfl <| Ad) (.tmp (Ad) .nil))) ?_
   exact (checkT_p h1 h2 he2).symm
 ·
  replace h1 : inB 1 6 s.places.length = false := by simpa using h1
  refine Af <| Ai fun ds => Bm rfl (B2 (Aj rfl) rfl fun b19 hb19 nb19 => ?_)
  refine Aa rfl (Ae Ab) ?_
  refine Aa rfl (Ae Ab) ?_
  refine Aa rfl (Ae Ab) ?_
  refine Ah <| Ac <| Af <| Af <| Ai fun ds => Aa rfl (Ao Co (Ar rfl <| Al rfl <| Ad)) ?_
  refine Aa rfl (Ap Cy (Ad) (Cell.own 0 rfl rfl)) ?_
  refine Aa rfl (Bk C9 (Ad) hr.places.plain) ?_
  refine Bm rfl (B6 Be Da rfl (.cons (Ad) .nil) rfl rfl (by decide) (by simp [Value.oneCell']) fun b20 hb20 nb20 => ?_)
  refine B8 (i := 0) rfl hb20 .here fun F21 hF22 hz23 => ?_
  have hsl24 := C0 hz23
  refine Bx rfl (Bi Ei A0 (.cons Ab (.cons Ab (.cons (Ad) .nil))) (Ck _ _ hsl24) (fun _ _ h => h)) ?_
  refine Ah <| Ac <| Aq (Ad) (by simp [h1]) ?_
  refine Af <| Ai fun ds => Aa rfl (Ae Ab) ?_
  refine Aa rfl (Ae Ab) ?_
  refine Aa rfl (Ae Ab) ?_
  refine Ah <| Ac <| A4 <| Bg ?_
  refine Ax rfl (.tmp (Ar rfl <| Ad) (.tmp (Al rfl <| Ad) (.tmp (Ad) .nil))) ?_
  exact (checkT_1 h1).symm
set_option maxRecDepth 100000 in
theorem refEdition_ok {F : Heap} {vp ve : Value} {ps : List (Value × Edn)} {s : Stm} (hr : StmR F vp ve ps s) {v : Value} {x : Edn} (hx : Ints F v x.rd) : Ok Try.prog 64 [.agg #[vp, ve], .agg #[.string x.name, .int .i64 x.lo, .int .i64 x.hi, v]].toArray F fun r _ => r = .int .i64 (ednErr s x) := by
 refine Ok.intro Try.func64 rfl Try.ntmps64 rfl fun w0 => ?_
 have hL1 := hr.places.plain.lt
 have hL2 := hx.plain.lt
 by_cases hrz : rangeE x.lo x.hi 1450 1850 = 0
 ·
  refine Af <| Ai fun ds => Bm rfl (B2 (Aj rfl) rfl fun b1 hb1 nb1 => ?_)
  refine Bm rfl (B2 (Al rfl <| Aj rfl) rfl fun b2 hb2 nb2 => ?_)
  refine Aa rfl (Ae Ab) ?_
  refine Ah <| Ac <| Af <| Ai fun ds => Aa rfl (Ao Dl (Al rfl <| Ad)) ?_
  refine Aa rfl (Bf (vs := [.int .i64 x.lo, .int .i64 x.hi]) agg_60 (Ad) rfl rfl (own_part 0 rfl rfl)) ?_
  refine Bx rfl (Bi bd_104 A0 (.cons (Ad) (.cons Ab (.cons Ab .nil))) (range_ok _ _ _ _) (fun _ _ h => h)) ?_
  refine Aa rfl (Ae (Ad)) ?_
  refine Ah <| Ac <| Af <| Af <| Ai fun ds => Aa rfl (Ag (Ad)) ?_
  refine Aa rfl (Bs (Ad) Ab) ?_
  refine Aa rfl (Ag (Ad)) ?_
  refine Au rfl rfl (Ad) (decide_eq_true hrz) ?_
  refine Aa rfl (Ao Ca (A6 rfl <| Ad)) ?_
  refine Au rfl rfl (Al rfl <| Ad) (decide_eq_true hrz) ?_
  refine Aa rfl (Ap Cb (Ad) (Cell.own 0 rfl rfl)) ?_
  refine Au rfl rfl (Ar rfl <| Ad) (decide_eq_true hrz) ?_
  refine Aa rfl (Bk Be (Ad) hx.plain) ?_
  refine Au rfl rfl (Ar rfl <| Al rfl <| Ad) (decide_eq_true hrz) ?_
  refine Aa rfl (Ao Co (A6 rfl <| Ay rfl <| Ad)) ?_
  refine Au rfl rfl (Ay rfl <| Ad) (decide_eq_true hrz) ?_
  refine Aa rfl (Ap Cy (Ad) (Cell.own 1 rfl rfl)) ?_
  refine Au rfl rfl (Ay rfl <| Al rfl <| Ad) (decide_eq_true hrz) ?_
  refine Aa rfl (Bk C9 (Ad) hr.places.plain) ?_
  refine Au rfl rfl (Ay rfl <| Ar rfl <| Ad) (decide_eq_true hrz) ?_
  refine Aa rfl (By (Ar rfl <| Al rfl <| Ad) (Ad)) ?_
  refine Aa rfl (A2 (Ay rfl <| Ar rfl <| Al rfl <| Ad) (decide_eq_true hrz) (Ad)) ?_
  refine Ah <| Ac ?_
  by_cases hle : x.rd.length = s.places.length
  ·
   refine Am (Ad) (decide_eq_false (by omega)) ?_
   refine Aw <| Ac <| Af <| Af <| Ai fun ds => Aa rfl (Ae Ab) ?_
   refine Ah <| Ac <| Az <| Bu [5, 6, 21, 22, 23, 24, 25, 26, 27, 28, 29, 30, 31, 32, 33, 34, 35, 36, 37, 38] (fun m e σ => ∃ k : Nat, m + k = x.rd.length ∧ e 6 = .int .i64 (k : Int) ∧ e 5 = .int .i64 (edTo s x k) ∧ σ = ⟨F, [(b2, bx 64 [.string x.name, .int .i64 x.lo, .int .i64 x.hi, v]), (b1, bx 25 [vp, ve])]⟩) (x.rd.length) ?_ ?_
   · exact ⟨0, by omega, (Ad), by rw [edTo_zero, show edZero s x = rangeE x.lo x.hi 1450 1850 by unfold edZero; rw [if_neg (fun h => h hrz), if_neg (fun h => h hle), hrz]]; exact (A6 rfl <| Ay rfl <| Ad), rfl⟩
   ·
    rintro m e _ ⟨k, hm, ht6, ht5, rfl⟩
    by_cases hlt : k < x.rd.length
    ·
     refine Af <| Af <| Ai fun ds => Aa rfl (Ag (As rfl ht6)) ?_
     refine Aa rfl (Ao Ca (Al rfl <| Ak rfl <| A3 rfl <| Al rfl <| Ad)) ?_
     refine Aa rfl (Ap Cb (Ad) (Cell.own 0 rfl rfl)) ?_
     refine Aa rfl (Bk Be (Ad) hx.plain) ?_
     refine Aa rfl (Bw (Ar rfl <| Al rfl <| Ad) (Ad)) ?_
     refine Aa rfl (Ag (Ad)) ?_
     refine Au rfl rfl (Ad) (by first | rfl | exact decide_eq_true (by omega)) ?_
     refine Aa rfl (Ag (Ay rfl <| Ar rfl <| As rfl ht5)) ?_
     refine Au rfl rfl (Al rfl <| Ad) (by first | rfl | exact decide_eq_true (by omega)) ?_
     refine Aa rfl (Bs (Ad) Ab) ?_
     refine Aa rfl (A2 (Ar rfl <| Ad) (by first | rfl | exact decide_eq_true (by omega)) (Ad)) ?_
     refine Ah <| Ac ?_
     by_cases hz : edTo s x k = 0
     ·
      refine Aq (Ad) (decide_eq_true hz) ?_
      by_cases hv : inB 0 3 x.rd[k] = true
      ·
       refine Aw <| Ac <| Af <| Az <| Af <| Ai fun ds => Aa rfl (Ao Ca (A6 rfl <| Al rfl <| Ak rfl <| A3 rfl <| Al rfl <| Ad)) ?_
       refine Aa rfl (Ap Cb (Ad) (Cell.own 0 rfl rfl)) ?_
       refine Aa rfl (Ag (A6 rfl <| Ar rfl <| Al rfl <| As rfl ht6)) ?_
       refine Aa rfl (A9  Be (Al rfl <| Ad) hx.plain (Ad) rfl hlt) ?_
       refine Aa rfl (Ap Bj (Ad) (hx.cell1 hlt rfl)) ?_
       refine Bx rfl (Bi Ew A0 (.cons (Ad) (.cons Ab (.cons Ab .nil))) (Dn _ _ _) (fun _ _ h => h)) ?_
       refine Aa rfl (Ci (Ad)) ?_
       refine Ah <| Ac <| Am (Ad) (by rw [hv]; rfl) ?_
       refine Aw <| Bb <| Ac <| Ai fun ds => Aa rfl (Ag (A3 rfl <| As rfl ht6)) ?_
       refine Aa rfl (Br (Ad) Ab rfl (by omega) (by omega)) ?_
       refine Aa rfl (Ae (Ad)) ?_
       refine Ah <| Ac ⟨_, m - 1, Off.eq (Cr rfl <| ou2 rfl <| Dk rfl <| Bd), by omega, ?_⟩
       exact ⟨k + 1, by omega, (Ad), by rw [edTo_succ hlt hz, hv]; rw [hz] at ht5; exact (A3 rfl <| Ar rfl <| Al rfl <| As rfl ht5), rfl⟩
      ·
       replace hv : inB 0 3 x.rd[k] = false := by simpa using hv
       refine Aw <| Ac <| Af <| Az <| Af <| Ai fun ds => Aa rfl (Ao Ca (A6 rfl <| Al rfl <| Ak rfl <| A3 rfl <| Al rfl <| Ad)) ?_
       refine Aa rfl (Ap Cb (Ad) (Cell.own 0 rfl rfl)) ?_
       refine Aa rfl (Ag (A6 rfl <| Ar rfl <| Al rfl <| As rfl ht6)) ?_
       refine Aa rfl (A9  Be (Al rfl <| Ad) hx.plain (Ad) rfl hlt) ?_
       refine Aa rfl (Ap Bj (Ad) (hx.cell1 hlt rfl)) ?_
       refine Bx rfl (Bi Ew A0 (.cons (Ad) (.cons Ab (.cons Ab .nil))) (Dn _ _ _) (fun _ _ h => h)) ?_
       refine Aa rfl (Ci (Ad)) ?_
       refine Ah <| Ac <| Aq (Ad) (by rw [hv]; rfl) ?_
       refine Ai fun ds => Aa rfl (Ae Ab) ?_
       refine Ah <| Bb <| Ac <| Ai fun ds => Aa rfl (Ag (A3 rfl <| Al rfl <| As rfl ht6)) ?_
       refine Aa rfl (Br (Ad) Ab rfl (by omega) (by omega)) ?_
       refine Aa rfl (Ae (Ad)) ?_
       refine Ah <| Ac ⟨_, m - 1, Off.eq (Cr rfl <| Dv rfl <| Bd), by omega, ?_⟩
       exact ⟨k + 1, by omega, (Ad), by rw [edTo_succ hlt hz, hv]; exact (Ar rfl <| Al rfl <| Ad), rfl⟩
     ·
      refine Am (Ad) (decide_eq_false hz) ?_
      refine Bn ?_
      refine Ba <| Ba <| Bh <| Ac <| Af <| Ai fun ds => Aa rfl (Ag (A6 rfl <| Al rfl <| As rfl ht5)) ?_
      refine Aa rfl (Ae (Ad)) ?_
      refine Ah <| Ac <| A4 <| Ax rfl (.tmp (Ad) .nil) ?_
      show _ = _
      rw [← edTo_stop hz]; rfl
    ·
     refine Af <| Af <| Ai fun ds => Aa rfl (Ag (As rfl ht6)) ?_
     refine Aa rfl (Ao Ca (Al rfl <| Ak rfl <| A3 rfl <| Al rfl <| Ad)) ?_
     refine Aa rfl (Ap Cb (Ad) (Cell.own 0 rfl rfl)) ?_
     refine Aa rfl (Bk Be (Ad) hx.plain) ?_
     refine Aa rfl (Bw (Ar rfl <| Al rfl <| Ad) (Ad)) ?_
     refine Aa rfl (Ag (Ad)) ?_
     refine At rfl rfl (Ad) (.inl (congrArg Value.bool (by first | rfl | exact decide_eq_false (by omega)))) rfl ?_
     refine At rfl rfl (Al rfl <| Ad) (.inl (congrArg Value.bool (by first | rfl | exact decide_eq_false (by omega)))) rfl ?_
     refine Aa rfl (A7 (Ar rfl <| Ad) (by first | rfl | exact decide_eq_false (by omega)) Ab) ?_
     refine Ah <| Ac <| Am (Ad) rfl ?_
     obtain rfl : k = x.rd.length := by omega
     refine Bn ?_
     refine Ba <| Ba <| Bh <| Ac <| Af <| Ai fun ds => Aa rfl (Ag (A6 rfl <| Al rfl <| As rfl ht5)) ?_
     refine Aa rfl (Ae (Ad)) ?_
     refine Ah <| Ac <| A4 <| Ax rfl (.tmp (Ad) .nil) ?_
     show _ = _
     rw [← edTo_full (Nat.le_refl _)]; rfl
  ·
   refine Aq (Ad) (decide_eq_true (by omega)) ?_
   refine Ai fun ds => Aa rfl (Ae Ab) ?_
   refine Ah <| Ac <| Af <| Af <| Ai fun ds => Aa rfl (Ae Ab) ?_
   refine Ah <| Ac <| Az <| Bu [5, 6, 21, 22, 23, 24, 25, 26, 27, 28, 29, 30, 31, 32, 33, 34, 35, 36, 37, 38] (fun m e σ => ∃ k : Nat, m + k = x.rd.length ∧ e 6 = .int .i64 (k : Int) ∧ e 5 = .int .i64 (edTo s x k) ∧ σ = ⟨F, [(b2, bx 64 [.string x.name, .int .i64 x.lo, .int .i64 x.hi, v]), (b1, bx 25 [vp, ve])]⟩) (x.rd.length) ?_ ?_
   · exact ⟨0, by omega, (Ad), by rw [edTo_zero, show edZero s x = 3 by unfold edZero; rw [if_neg (fun h => h hrz), if_pos hle]]; exact (Al rfl <| Ad), rfl⟩
   ·
    rintro m e _ ⟨k, hm, ht6, ht5, rfl⟩
    by_cases hlt : k < x.rd.length
    ·
     refine Af <| Af <| Ai fun ds => Aa rfl (Ag (As rfl ht6)) ?_
     refine Aa rfl (Ao Ca (Al rfl <| Ak rfl <| A3 rfl <| Ar rfl <| Ad)) ?_
     refine Aa rfl (Ap Cb (Ad) (Cell.own 0 rfl rfl)) ?_
     refine Aa rfl (Bk Be (Ad) hx.plain) ?_
     refine Aa rfl (Bw (Ar rfl <| Al rfl <| Ad) (Ad)) ?_
     refine Aa rfl (Ag (Ad)) ?_
     refine Au rfl rfl (Ad) (by first | rfl | exact decide_eq_true (by omega)) ?_
     refine Aa rfl (Ag (Ay rfl <| Ar rfl <| As rfl ht5)) ?_
     refine Au rfl rfl (Al rfl <| Ad) (by first | rfl | exact decide_eq_true (by omega)) ?_
     refine Aa rfl (Bs (Ad) Ab) ?_
     refine Aa rfl (A2 (Ar rfl <| Ad) (by first | rfl | exact decide_eq_true (by omega)) (Ad)) ?_
     refine Ah <| Ac ?_
     by_cases hz : edTo s x k = 0
     ·
      refine Aq (Ad) (decide_eq_true hz) ?_
      by_cases hv : inB 0 3 x.rd[k] = true
      ·
       refine Aw <| Ac <| Af <| Az <| Af <| Ai fun ds => Aa rfl (Ao Ca (A6 rfl <| Al rfl <| Ak rfl <| A3 rfl <| Ar rfl <| Ad)) ?_
       refine Aa rfl (Ap Cb (Ad) (Cell.own 0 rfl rfl)) ?_
       refine Aa rfl (Ag (A6 rfl <| Ar rfl <| Al rfl <| As rfl ht6)) ?_
       refine Aa rfl (A9  Be (Al rfl <| Ad) hx.plain (Ad) rfl hlt) ?_
       refine Aa rfl (Ap Bj (Ad) (hx.cell1 hlt rfl)) ?_
       refine Bx rfl (Bi Ew A0 (.cons (Ad) (.cons Ab (.cons Ab .nil))) (Dn _ _ _) (fun _ _ h => h)) ?_
       refine Aa rfl (Ci (Ad)) ?_
       refine Ah <| Ac <| Am (Ad) (by rw [hv]; rfl) ?_
       refine Aw <| Bb <| Ac <| Ai fun ds => Aa rfl (Ag (A3 rfl <| As rfl ht6)) ?_
       refine Aa rfl (Br (Ad) Ab rfl (by omega) (by omega)) ?_
       refine Aa rfl (Ae (Ad)) ?_
       refine Ah <| Ac ⟨_, m - 1, Off.eq (Cr rfl <| ou2 rfl <| Dk rfl <| Bd), by omega, ?_⟩
       exact ⟨k + 1, by omega, (Ad), by rw [edTo_succ hlt hz, hv]; rw [hz] at ht5; exact (A3 rfl <| Ar rfl <| Al rfl <| As rfl ht5), rfl⟩
      ·
       replace hv : inB 0 3 x.rd[k] = false := by simpa using hv
       refine Aw <| Ac <| Af <| Az <| Af <| Ai fun ds => Aa rfl (Ao Ca (A6 rfl <| Al rfl <| Ak rfl <| A3 rfl <| Ar rfl <| Ad)) ?_
       refine Aa rfl (Ap Cb (Ad) (Cell.own 0 rfl rfl)) ?_
       refine Aa rfl (Ag (A6 rfl <| Ar rfl <| Al rfl <| As rfl ht6)) ?_
       refine Aa rfl (A9  Be (Al rfl <| Ad) hx.plain (Ad) rfl hlt) ?_
       refine Aa rfl (Ap Bj (Ad) (hx.cell1 hlt rfl)) ?_
       refine Bx rfl (Bi Ew A0 (.cons (Ad) (.cons Ab (.cons Ab .nil))) (Dn _ _ _) (fun _ _ h => h)) ?_
       refine Aa rfl (Ci (Ad)) ?_
       refine Ah <| Ac <| Aq (Ad) (by rw [hv]; rfl) ?_
       refine Ai fun ds => Aa rfl (Ae Ab) ?_
       refine Ah <| Bb <| Ac <| Ai fun ds => Aa rfl (Ag (A3 rfl <| Al rfl <| As rfl ht6)) ?_
       refine Aa rfl (Br (Ad) Ab rfl (by omega) (by omega)) ?_
       refine Aa rfl (Ae (Ad)) ?_
       refine Ah <| Ac ⟨_, m - 1, Off.eq (Cr rfl <| Dv rfl <| Bd), by omega, ?_⟩
       exact ⟨k + 1, by omega, (Ad), by rw [edTo_succ hlt hz, hv]; exact (Ar rfl <| Al rfl <| Ad), rfl⟩
     ·
      refine Am (Ad) (decide_eq_false hz) ?_
      refine Bn ?_
      refine Ba <| Ba <| Bh <| Ac <| Af <| Ai fun ds => Aa rfl (Ag (A6 rfl <| Al rfl <| As rfl ht5)) ?_
      refine Aa rfl (Ae (Ad)) ?_
      refine Ah <| Ac <| A4 <| Ax rfl (.tmp (Ad) .nil) ?_
      show _ = _
      rw [← edTo_stop hz]; rfl
    ·
     refine Af <| Af <| Ai fun ds => Aa rfl (Ag (As rfl ht6)) ?_
     refine Aa rfl (Ao Ca (Al rfl <| Ak rfl <| A3 rfl <| Ar rfl <| Ad)) ?_
     refine Aa rfl (Ap Cb (Ad) (Cell.own 0 rfl rfl)) ?_
     refine Aa rfl (Bk Be (Ad) hx.plain) ?_
     refine Aa rfl (Bw (Ar rfl <| Al rfl <| Ad) (Ad)) ?_
     refine Aa rfl (Ag (Ad)) ?_
     refine At rfl rfl (Ad) (.inl (congrArg Value.bool (by first | rfl | exact decide_eq_false (by omega)))) rfl ?_
     refine At rfl rfl (Al rfl <| Ad) (.inl (congrArg Value.bool (by first | rfl | exact decide_eq_false (by omega)))) rfl ?_
     refine Aa rfl (A7 (Ar rfl <| Ad) (by first | rfl | exact decide_eq_false (by omega)) Ab) ?_
     refine Ah <| Ac <| Am (Ad) rfl ?_
     obtain rfl : k = x.rd.length := by omega
     refine Bn ?_
     refine Ba <| Ba <| Bh <| Ac <| Af <| Ai fun ds => Aa rfl (Ag (A6 rfl <| Al rfl <| As rfl ht5)) ?_
     refine Aa rfl (Ae (Ad)) ?_
     refine Ah <| Ac <| A4 <| Ax rfl (.tmp (Ad) .nil) ?_
     show _ = _
     rw [← edTo_full (Nat.le_refl _)]; rfl
 ·
  refine Af <| Ai fun ds => Bm rfl (B2 (Aj rfl) rfl fun b5 hb5 nb5 => ?_)
  refine Bm rfl (B2 (Al rfl <| Aj rfl) rfl fun b6 hb6 nb6 => ?_)
  refine Aa rfl (Ae Ab) ?_
  refine Ah <| Ac <| Af <| Ai fun ds => Aa rfl (Ao Dl (Al rfl <| Ad)) ?_
  refine Aa rfl (Bf (vs := [.int .i64 x.lo, .int .i64 x.hi]) agg_60 (Ad) rfl rfl (own_part 0 rfl rfl)) ?_
  refine Bx rfl (Bi bd_104 A0 (.cons (Ad) (.cons Ab (.cons Ab .nil))) (range_ok _ _ _ _) (fun _ _ h => h)) ?_
  refine Aa rfl (Ae (Ad)) ?_
  refine Ah <| Ac <| Af <| Af <| Ai fun ds => Aa rfl (Ag (Ad)) ?_
  refine Aa rfl (Bs (Ad) Ab) ?_
  refine Aa rfl (Ag (Ad)) ?_
  refine At rfl rfl (Ad) (.inl (congrArg Value.bool (decide_eq_false hrz))) rfl ?_
  refine At rfl rfl (Al rfl <| Ad) (.inl (congrArg Value.bool (decide_eq_false hrz))) rfl ?_
  refine At rfl rfl (Ar rfl <| Ad) (.inl (congrArg Value.bool (decide_eq_false hrz))) rfl ?_
  refine At rfl rfl (Ar rfl <| Al rfl <| Ad) (.inl (congrArg Value.bool (decide_eq_false hrz))) rfl ?_
  refine At rfl rfl (Ay rfl <| Ad) (.inl (congrArg Value.bool (decide_eq_false hrz))) rfl ?_
  refine At rfl rfl (Ay rfl <| Al rfl <| Ad) (.inl (congrArg Value.bool (decide_eq_false hrz))) rfl ?_
  refine At rfl rfl (Ay rfl <| Ar rfl <| Ad) (.inl (congrArg Value.bool (decide_eq_false hrz))) rfl ?_
  refine Aa rfl (A7 (Ay rfl <| Ar rfl <| Al rfl <| Ad) (decide_eq_false hrz) Ab) ?_
  refine Ah <| Ac <| Am (Ad) rfl ?_
  refine Aw <| Ac <| Af <| Af <| Ai fun ds => Aa rfl (Ae Ab) ?_
  refine Ah <| Ac <| Az <| Bu [5, 6, 21, 22, 23, 24, 25, 26, 27, 28, 29, 30, 31, 32, 33, 34, 35, 36, 37, 38] (fun m e σ => ∃ k : Nat, m + k = x.rd.length ∧ e 6 = .int .i64 (k : Int) ∧ e 5 = .int .i64 (edTo s x k) ∧ σ = ⟨F, [(b6, bx 64 [.string x.name, .int .i64 x.lo, .int .i64 x.hi, v]), (b5, bx 25 [vp, ve])]⟩) (x.rd.length) ?_ ?_
  · exact ⟨0, by omega, (Ad), by rw [edTo_zero, show edZero s x = rangeE x.lo x.hi 1450 1850 by unfold edZero; rw [if_pos hrz]]; exact (A6 rfl <| Ay rfl <| Ad), rfl⟩
  ·
   rintro m e _ ⟨k, hm, ht6, ht5, rfl⟩
   by_cases hlt : k < x.rd.length
   ·
    refine Af <| Af <| Ai fun ds => Aa rfl (Ag (As rfl ht6)) ?_
    refine Aa rfl (Ao Ca (Al rfl <| Ak rfl <| A3 rfl <| Al rfl <| Ad)) ?_
    refine Aa rfl (Ap Cb (Ad) (Cell.own 0 rfl rfl)) ?_
    refine Aa rfl (Bk Be (Ad) hx.plain) ?_
    refine Aa rfl (Bw (Ar rfl <| Al rfl <| Ad) (Ad)) ?_
    refine Aa rfl (Ag (Ad)) ?_
    refine Au rfl rfl (Ad) (by first | rfl | exact decide_eq_true (by omega)) ?_
    refine Aa rfl (Ag (Ay rfl <| Ar rfl <| As rfl ht5)) ?_
    refine Au rfl rfl (Al rfl <| Ad) (by first | rfl | exact decide_eq_true (by omega)) ?_
    refine Aa rfl (Bs (Ad) Ab) ?_
    refine Aa rfl (A2 (Ar rfl <| Ad) (by first | rfl | exact decide_eq_true (by omega)) (Ad)) ?_
    refine Ah <| Ac ?_
    by_cases hz : edTo s x k = 0
    ·
     refine Aq (Ad) (decide_eq_true hz) ?_
     by_cases hv : inB 0 3 x.rd[k] = true
     ·
      refine Aw <| Ac <| Af <| Az <| Af <| Ai fun ds => Aa rfl (Ao Ca (A6 rfl <| Al rfl <| Ak rfl <| A3 rfl <| Al rfl <| Ad)) ?_
      refine Aa rfl (Ap Cb (Ad) (Cell.own 0 rfl rfl)) ?_
      refine Aa rfl (Ag (A6 rfl <| Ar rfl <| Al rfl <| As rfl ht6)) ?_
      refine Aa rfl (A9  Be (Al rfl <| Ad) hx.plain (Ad) rfl hlt) ?_
      refine Aa rfl (Ap Bj (Ad) (hx.cell1 hlt rfl)) ?_
      refine Bx rfl (Bi Ew A0 (.cons (Ad) (.cons Ab (.cons Ab .nil))) (Dn _ _ _) (fun _ _ h => h)) ?_
      refine Aa rfl (Ci (Ad)) ?_
      refine Ah <| Ac <| Am (Ad) (by rw [hv]; rfl) ?_
      refine Aw <| Bb <| Ac <| Ai fun ds => Aa rfl (Ag (A3 rfl <| As rfl ht6)) ?_
      refine Aa rfl (Br (Ad) Ab rfl (by omega) (by omega)) ?_
      refine Aa rfl (Ae (Ad)) ?_
      refine Ah <| Ac ⟨_, m - 1, Off.eq (Cr rfl <| ou2 rfl <| Dk rfl <| Bd), by omega, ?_⟩
      exact ⟨k + 1, by omega, (Ad), by rw [edTo_succ hlt hz, hv]; rw [hz] at ht5; exact (A3 rfl <| Ar rfl <| Al rfl <| As rfl ht5), rfl⟩
     ·
      replace hv : inB 0 3 x.rd[k] = false := by simpa using hv
      refine Aw <| Ac <| Af <| Az <| Af <| Ai fun ds => Aa rfl (Ao Ca (A6 rfl <| Al rfl <| Ak rfl <| A3 rfl <| Al rfl <| Ad)) ?_
      refine Aa rfl (Ap Cb (Ad) (Cell.own 0 rfl rfl)) ?_
      refine Aa rfl (Ag (A6 rfl <| Ar rfl <| Al rfl <| As rfl ht6)) ?_
      refine Aa rfl (A9  Be (Al rfl <| Ad) hx.plain (Ad) rfl hlt) ?_
      refine Aa rfl (Ap Bj (Ad) (hx.cell1 hlt rfl)) ?_
      refine Bx rfl (Bi Ew A0 (.cons (Ad) (.cons Ab (.cons Ab .nil))) (Dn _ _ _) (fun _ _ h => h)) ?_
      refine Aa rfl (Ci (Ad)) ?_
      refine Ah <| Ac <| Aq (Ad) (by rw [hv]; rfl) ?_
      refine Ai fun ds => Aa rfl (Ae Ab) ?_
      refine Ah <| Bb <| Ac <| Ai fun ds => Aa rfl (Ag (A3 rfl <| Al rfl <| As rfl ht6)) ?_
      refine Aa rfl (Br (Ad) Ab rfl (by omega) (by omega)) ?_
      refine Aa rfl (Ae (Ad)) ?_
      refine Ah <| Ac ⟨_, m - 1, Off.eq (Cr rfl <| Dv rfl <| Bd), by omega, ?_⟩
      exact ⟨k + 1, by omega, (Ad), by rw [edTo_succ hlt hz, hv]; exact (Ar rfl <| Al rfl <| Ad), rfl⟩
    ·
     refine Am (Ad) (decide_eq_false hz) ?_
     refine Bn ?_
     refine Ba <| Ba <| Bh <| Ac <| Af <| Ai fun ds => Aa rfl (Ag (A6 rfl <| Al rfl <| As rfl ht5)) ?_
     refine Aa rfl (Ae (Ad)) ?_
     refine Ah <| Ac <| A4 <| Ax rfl (.tmp (Ad) .nil) ?_
     show _ = _
     rw [← edTo_stop hz]; rfl
   ·
    refine Af <| Af <| Ai fun ds => Aa rfl (Ag (As rfl ht6)) ?_
    refine Aa rfl (Ao Ca (Al rfl <| Ak rfl <| A3 rfl <| Al rfl <| Ad)) ?_
    refine Aa rfl (Ap Cb (Ad) (Cell.own 0 rfl rfl)) ?_
    refine Aa rfl (Bk Be (Ad) hx.plain) ?_
    refine Aa rfl (Bw (Ar rfl <| Al rfl <| Ad) (Ad)) ?_
    refine Aa rfl (Ag (Ad)) ?_
    refine At rfl rfl (Ad) (.inl (congrArg Value.bool (by first | rfl | exact decide_eq_false (by omega)))) rfl ?_
    refine At rfl rfl (Al rfl <| Ad) (.inl (congrArg Value.bool (by first | rfl | exact decide_eq_false (by omega)))) rfl ?_
    refine Aa rfl (A7 (Ar rfl <| Ad) (by first | rfl | exact decide_eq_false (by omega)) Ab) ?_
    refine Ah <| Ac <| Am (Ad) rfl ?_
    obtain rfl : k = x.rd.length := by omega
    refine Bn ?_
    refine Ba <| Ba <| Bh <| Ac <| Af <| Ai fun ds => Aa rfl (Ag (A6 rfl <| Al rfl <| As rfl ht5)) ?_
    refine Aa rfl (Ae (Ad)) ?_
    refine Ah <| Ac <| A4 <| Ax rfl (.tmp (Ad) .nil) ?_
    show _ = _
    rw [← edTo_full (Nat.le_refl _)]; rfl
end Go.Proofs.Ytccogmkhijgelaa
namespace Go.Proofs.Ytccogmkhijgelaa
open Go.RowKit
theorem zr_9 : ZeroT Try.prog 9 (.string ⟨#[]⟩) := C7 (by kernel_rfl)
theorem B0 : AggT Try.prog 25 2 := aggT_of (by kernel_rfl)
theorem bd_63 : Body Try.prog 63 := Bq (by kernel_rfl)
theorem bd_64 : Body Try.prog 64 := Bq (by kernel_rfl)
theorem el_9 : ElemT Try.prog 9 1 16 (.string ⟨#[]⟩) := elemT_of (by kernel_rfl) rfl (by decide)
set_option maxRecDepth 100000 in
theorem refCheckT_ok {F : Heap} {vp ve : Value} {ps : List (Value × Edn)} {s : Stm} (hr : StmR F vp ve ps s) : Ok Try.prog 17 [.agg #[vp, ve]].toArray F fun r _ => r = checkTV s := by
 refine Ok.intro Try.func17 rfl Try.ntmps17 rfl fun w0 => ?_
 have hL1 := hr.places.plain.lt
 have hL2 := hr.eds.plain.lt
 by_cases h1 : inB 1 6 s.places.length = true
 ·
  have hp6 : s.places.length ≤ 6 := by have h := h1; unfold inB at h; simp at h; omega
  refine Af <| Ai fun ds => Bm rfl (B2 (Aj rfl) rfl fun b1 hb1 nb1 => ?_)
  refine Aa rfl (Ae Ab) ?_
  refine Aa rfl (Ae Ab) ?_
  refine Aa rfl (Ae Ab) ?_
  refine Ah <| Ac <| Af <| Af <| Ai fun ds => Aa rfl (Ao Co (Ar rfl <| Al rfl <| Ad)) ?_
  refine Aa rfl (Ap Cy (Ad) (Cell.own 0 rfl rfl)) ?_
  refine Aa rfl (Bk C9 (Ad) hr.places.plain) ?_
  refine Bx rfl (Bi Ew A0 (.cons (Ad) (.cons Ab (.cons Ab .nil))) (Dn _ _ _) (fun _ _ h => h)) ?_
  refine Aa rfl (Ci (Ad)) ?_
  refine Ah <| Ac <| Am (Ad) (by rw [h1]; rfl) ?_
  refine Aw <| Ac <| Af <| Ai fun ds => Aa rfl (Ae Ab) ?_
  refine Ah <| Ac <| Af <| Af <| Ai fun ds => Aa rfl (Ae Ab) ?_
  refine Ah <| Ac <| Az <| Bu [2, 3, 4, 5, 6, 7, 15, 16, 17, 18, 19, 20, 21, 22, 23, 24, 25, 26, 27, 28, 29, 30, 31, 32, 33, 34, 35, 36, 37, 38, 39, 40, 41, 42, 43, 44, 45, 46, 47, 48, 49, 50, 51, 52, 53, 54] (fun m e σ => ∃ k : Nat, m + k = s.places.length ∧ e 6 = .int .i64 (k : Int) ∧ ∃ (v : Value) (R : List (Nat × Obj)), e 5 = v ∧ Own 9 1 v (pnames s k).length ((pnames s k).flatMap strE) R ∧ σ = ⟨F, (b1, bx 25 [vp, ve]) :: R⟩ ∧ ∀ j, j < k → plcErr s j = 0) (s.places.length) ?_ ?_
  · exact ⟨0, by omega, (Ad), _, _, (Al rfl <| Ad), Own.nil, rfl, fun j h => absurd h (by omega)⟩
  ·
   rintro m e _ ⟨k, hm, hs6, v4, R4, hs5, ho, rfl, hno⟩
   by_cases hlt : k < s.places.length
   ·
    have hnl := pnames_len (Nat.le_of_lt hlt)
    refine Af <| Af <| Ai fun ds => Aa rfl (Ag (As rfl hs6)) ?_
    refine Aa rfl (Ao Co (Al rfl <| Ak rfl <| A6 rfl <| Ar rfl <| Ad)) ?_
    refine Aa rfl (Ap Cy (Ad) (Cell.own 0 rfl rfl)) ?_
    refine Aa rfl (Bk C9 (Ad) hr.places.plain) ?_
    refine Aa rfl (Bw (Ar rfl <| Al rfl <| Ad) (Ad)) ?_
    refine Ah <| Ac <| Aq (Ad) (by first | rfl | exact decide_eq_true (by omega)) ?_
    by_cases hf : freshE s.places[k].name (pnames s k) = 0
    ·
     refine Aw <| Ac <| Af <| Az <| Af <| Ai fun ds => Aa rfl (Ao Co (Ay rfl <| Al rfl <| Ak rfl <| A6 rfl <| Ar rfl <| Ad)) ?_
     refine Aa rfl (Ap Cy (Ad) (Cell.own 0 rfl rfl)) ?_
     refine Aa rfl (Ag (Ay rfl <| Ar rfl <| Al rfl <| As rfl hs6)) ?_
     refine Aa rfl (A9 (k := k) C9 (Al rfl <| Ad) hr.places.plain (Ad) rfl hlt) ?_
     refine Aa rfl (Bo fd_70_0 (Ad)) ?_
     refine Aa rfl (Ap one_9 (Ad) (hr.places.cell hlt rfl)) ?_
     refine Aa rfl (Ag (A6 rfl <| Ar rfl <| Al rfl <| As rfl hs5)) ?_
     refine Bx rfl (q_callH bd_63 A0 (.cons (Al rfl <| Ad) (.cons (Ad) .nil)) (fun G _ hG => fresh_ok (ho.sl (fun _ => rfl) (fun p hp => hG p (List.mem_cons_of_mem _ hp)) (by omega)) _) (fun _ _ h => h)) ?_
     refine Aa rfl (Ae (Ad)) ?_
     refine Ah <| Ac <| Af <| Af <| Ai fun ds => Aa rfl (Ag (Ad)) ?_
     refine Aa rfl (Bs (Ad) Ab) ?_
     refine Aa rfl (Ag (Ad)) ?_
     refine Au rfl rfl (Ad) (decide_eq_true hf) ?_
     refine Aa rfl (Ao Co (A3 rfl <| Al rfl <| Ak rfl <| A6 rfl <| Ar rfl <| Ad)) ?_
     refine Au rfl rfl (Al rfl <| Ad) (decide_eq_true hf) ?_
     refine Aa rfl (Ap Cy (Ad) (Cell.own 0 rfl rfl)) ?_
     refine Au rfl rfl (Ar rfl <| Ad) (decide_eq_true hf) ?_
     refine Aa rfl (Ag (A3 rfl <| Ar rfl <| Al rfl <| As rfl hs6)) ?_
     refine Au rfl rfl (Ar rfl <| Al rfl <| Ad) (decide_eq_true hf) ?_
     refine Aa rfl (A9 (k := k) C9 (Al rfl <| Ad) hr.places.plain (Ad) rfl hlt) ?_
     refine Au rfl rfl (Ay rfl <| Ad) (decide_eq_true hf) ?_
     refine Aa rfl (Bo fd_70_1 (Ad)) ?_
     refine Au rfl rfl (Ay rfl <| Al rfl <| Ad) (decide_eq_true hf) ?_
     refine Aa rfl (Ap Bj (Ad) (hr.places.cell hlt rfl)) ?_
     refine Au rfl rfl (Ay rfl <| Ar rfl <| Ad) (decide_eq_true hf) ?_
     refine Bx rfl (Bi Ew A0 (.cons (Ad) (.cons Ab (.cons Ab .nil))) (Dn _ _ _) (fun _ _ h => h)) ?_
     refine Au rfl rfl (Ay rfl <| Ar rfl <| Al rfl <| Ad) (decide_eq_true hf) ?_
     refine Aa rfl (Ci (Ad)) ?_
     refine Aa rfl (A2 (A6 rfl <| Ad) (decide_eq_true hf) (Ad)) ?_
     refine Ah <| Ac ?_
     by_cases hv : inB 0 1 s.places[k].kind = true
     ·
      refine Am (Ad) (by rw [hv]; rfl) ?_
      refine Aw <| Ac <| Af <| Af <| Ai fun ds => Aa rfl (Ag (A6 rfl <| Ay rfl <| Ad)) ?_
      refine Aa rfl (By (Ad) Ab) ?_
      refine Ah <| Ac <| Am (Ad) (decide_eq_false (fun h => h hf)) ?_
      refine Aw <| Ac <| Ai fun ds => Aa rfl (Ag (A3 rfl <| A6 rfl <| Ay rfl <| As rfl hs5)) ?_
      refine Aa rfl (Ao Co (A3 rfl <| A6 rfl <| Ay rfl <| Al rfl <| Ak rfl <| A6 rfl <| Ar rfl <| Ad)) ?_
      refine Aa rfl (Ap Cy (Ad) (Cell.own 0 rfl rfl)) ?_
      refine Aa rfl (Ag (A3 rfl <| A6 rfl <| Ay rfl <| Ar rfl <| Al rfl <| As rfl hs6)) ?_
      refine Aa rfl (A9 (k := k) C9 (Al rfl <| Ad) hr.places.plain (Ad) rfl hlt) ?_
      refine Aa rfl (Bo fd_70_0 (Ad)) ?_
      refine Aa rfl (Ap one_9 (Ad) (hr.places.cell hlt rfl)) ?_
      refine Bm rfl (B6 sl_91 zr_9 rfl (.cons (Ad) .nil) rfl rfl (by decide) (by simp [Value.oneCell']) fun b3 hb3 nb3 => ?_)
      refine Bm rfl (B9 sl_91 el_9 (Ay rfl <| Ar rfl <| Al rfl <| Ad) ho (Ad) (Dd (s := 1) 0 rfl rfl (by simp [Value.oneCell'])) (by omega) (by omega) (.s <| .s <| .z) .last fun v4 R5 ho6 => ?_)
      have ho2 := ho6.snoc (x := s.places[k].name) rfl rfl
      refine Aa rfl (Ae (Ad)) ?_
      refine Ah <| Bb <| Ac <| C5 (fun _ _ h => h.drop (.cons _ <| .cons_cons _ <| .refl _)) ?_
      refine Ai fun ds => Aa rfl (Ag (Bp rfl <| Ay rfl <| Ar rfl <| As rfl hs6)) ?_
      refine Aa rfl (Br (Ad) Ab rfl (by omega) (by omega)) ?_
      refine Aa rfl (Ae (Ad)) ?_
      refine Ah <| Ac ⟨_, m - 1, Off.eq (ou32 rfl <| Dj rfl <| Dk rfl <| Bd), by omega, ?_⟩
      refine ⟨k + 1, by omega, (Ad), _, _, (Ar rfl <| Al rfl <| Ad), by rw [pnames_succ hlt]; exact ho2, rfl, fun j hjk => ?_⟩
      rcases Nat.lt_succ_iff_lt_or_eq.1 hjk with hjk | rfl
      · exact hno j hjk
      · rw [plcErr_fresh hlt, if_neg (fun h => h hf), hv]; rfl
     ·
      replace hv : inB 0 1 s.places[k].kind = false := by simpa using hv
      refine Aq (Ad) (by rw [hv]; rfl) ?_
      refine Ai fun ds => Aa rfl (Ae Ab) ?_
      refine Ah <| Ac <| Af <| Af <| Ai fun ds => Aa rfl (Ag (Ad)) ?_
      refine Aa rfl (By (Ad) Ab) ?_
      refine Ah <| Ac <| Aq (Ad) (by first | rfl | decide) ?_
      refine Af <| Ai fun ds => Aa rfl (Ag (A3 rfl <| A6 rfl <| Ay rfl <| Al rfl <| As rfl hs6)) ?_
      refine Aa rfl (Ag (Ar rfl <| Al rfl <| Ad)) ?_
      refine Aa rfl (Ae Ab) ?_
      refine Aa rfl (Ae (Ar rfl <| Ad)) ?_
      refine Aa rfl (Ae (Ar rfl <| Ad)) ?_
      refine Ah <| Ac <| A4 <| Bg (Bl (Bg (Bg (Bl (Bg ?_)))))
      refine Ax rfl (.tmp (Ar rfl <| Ad) (.tmp (Al rfl <| Ad) (.tmp (Ad) .nil))) ?_
      have hE : plcErr s k = 7 := by rw [plcErr_fresh hlt]; simp [hf, hv]
      rw [← hE]
      exact (checkT_p h1 (firstQ_bad hlt hno (by rw [hE]; decide)) (by rw [hE]; decide)).symm
    ·
     refine Aw <| Ac <| Af <| Az <| Af <| Ai fun ds => Aa rfl (Ao Co (Ay rfl <| Al rfl <| Ak rfl <| A6 rfl <| Ar rfl <| Ad)) ?_
     refine Aa rfl (Ap Cy (Ad) (Cell.own 0 rfl rfl)) ?_
     refine Aa rfl (Ag (Ay rfl <| Ar rfl <| Al rfl <| As rfl hs6)) ?_
     refine Aa rfl (A9 (k := k) C9 (Al rfl <| Ad) hr.places.plain (Ad) rfl hlt) ?_
     refine Aa rfl (Bo fd_70_0 (Ad)) ?_
     refine Aa rfl (Ap one_9 (Ad) (hr.places.cell hlt rfl)) ?_
     refine Aa rfl (Ag (A6 rfl <| Ar rfl <| Al rfl <| As rfl hs5)) ?_
     refine Bx rfl (q_callH bd_63 A0 (.cons (Al rfl <| Ad) (.cons (Ad) .nil)) (fun G _ hG => fresh_ok (ho.sl (fun _ => rfl) (fun p hp => hG p (List.mem_cons_of_mem _ hp)) (by omega)) _) (fun _ _ h => h)) ?_
     refine Aa rfl (Ae (Ad)) ?_
     refine Ah <| Ac <| Af <| Af <| Ai fun ds => Aa rfl (Ag (Ad)) ?_
     refine Aa rfl (Bs (Ad) Ab) ?_
     refine Aa rfl (Ag (Ad)) ?_
     refine At rfl rfl (Ad) (.inl (congrArg Value.bool (decide_eq_false hf))) rfl ?_
     refine At rfl rfl (Al rfl <| Ad) (.inl (congrArg Value.bool (decide_eq_false hf))) rfl ?_
     refine At rfl rfl (Ar rfl <| Ad) (.inl (congrArg Value.bool (decide_eq_false hf))) rfl ?_
     refine At rfl rfl (Ar rfl <| Al rfl <| Ad) (.inl (congrArg Value.bool (decide_eq_false hf))) rfl ?_
     refine At rfl rfl (Ay rfl <| Ad) (.inl (congrArg Value.bool (decide_eq_false hf))) rfl ?_
     refine At rfl rfl (Ay rfl <| Al rfl <| Ad) (.inl (congrArg Value.bool (decide_eq_false hf))) rfl ?_
     refine At rfl rfl (Ay rfl <| Ar rfl <| Ad) (.inl (congrArg Value.bool (decide_eq_false hf))) rfl ?_
     refine At rfl rfl (Ay rfl <| Ar rfl <| Al rfl <| Ad) (.inl (congrArg Value.bool (decide_eq_false hf))) rfl ?_
     refine Aa rfl (A7 (A6 rfl <| Ad) (decide_eq_false hf) Ab) ?_
     refine Ah <| Ac <| Am (Ad) rfl ?_
     refine Aw <| Ac <| Af <| Af <| Ai fun ds => Aa rfl (Ag (A6 rfl <| Ay rfl <| Ad)) ?_
     refine Aa rfl (By (Ad) Ab) ?_
     refine Ah <| Ac <| Aq (Ad) (decide_eq_true hf) ?_
     refine Af <| Ai fun ds => Aa rfl (Ag (A3 rfl <| A6 rfl <| Ay rfl <| As rfl hs6)) ?_
     refine Aa rfl (Ag (A6 rfl <| Ay rfl <| Ar rfl <| Al rfl <| Ad)) ?_
     refine Aa rfl (Ae Ab) ?_
     refine Aa rfl (Ae (Ar rfl <| Ad)) ?_
     refine Aa rfl (Ae (Ar rfl <| Ad)) ?_
     refine Ah <| Ac <| A4 <| Bg (Bl (Bg (Bg (Bl (Bg ?_)))))
     refine Ax rfl (.tmp (Ar rfl <| Ad) (.tmp (Al rfl <| Ad) (.tmp (Ad) .nil))) ?_
     have hE : plcErr s k = freshE s.places[k].name (pnames s k) := by rw [plcErr_fresh hlt]; simp [hf]
     rw [← hE]
     exact (checkT_p h1 (firstQ_bad hlt hno (by rw [hE]; exact hf)) (by rw [hE]; exact hf)).symm
   ·
    refine Af <| Af <| Ai fun ds => Aa rfl (Ag (As rfl hs6)) ?_
    refine Aa rfl (Ao Co (Al rfl <| Ak rfl <| A6 rfl <| Ar rfl <| Ad)) ?_
    refine Aa rfl (Ap Cy (Ad) (Cell.own 0 rfl rfl)) ?_
    refine Aa rfl (Bk C9 (Ad) hr.places.plain) ?_
    refine Aa rfl (Bw (Ar rfl <| Al rfl <| Ad) (Ad)) ?_
    refine Ah <| Ac <| Am (Ad) (by first | rfl | exact decide_eq_false (by omega)) ?_
    have h2 : firstQ s.places.length (plcErr s) = (0, 0) := firstQ_ok fun j hj => hno j (by omega)
    refine WC_pick (.cons (.here) <| .nil) ?_
    by_cases h3 : inB 1 5 s.editions.length = true
    ·
     have he5 : ps.length ≤ 5 := by have h := h3; have := hr.len; unfold inB at h; simp at h; omega
     refine Bn ?_
     refine Ba <| Ba <| Bh <| Ac <| Af <| Af <| Ai fun ds => Aa rfl (Ao Bv (Ay rfl <| Al rfl <| Ak rfl <| A6 rfl <| Ar rfl <| Ad)) ?_
     refine Aa rfl (Ap Bz (Ad) (Cell.own 0 rfl rfl)) ?_
     refine Aa rfl (Bk B5 (Ad) hr.eds.plain) ?_
     refine Bx rfl (Bi Ew A0 (.cons (Ad) (.cons Ab (.cons Ab .nil))) (Dn _ _ _) (fun _ _ h => h)) ?_
     refine Aa rfl (Ci (Ad)) ?_
     refine Ah <| Ac <| Am (Ad) (by simp [hr.len, h3]) ?_
     refine Aw <| Ac <| Af <| Ai fun ds => Aa rfl (Ae Ab) ?_
     refine Ah <| Ac <| Af <| Af <| Ai fun ds => Aa rfl (Ae Ab) ?_
     refine Ah <| Ac <| Az <| Bu [2, 3, 4, 5, 8, 9, 60, 61, 62, 63, 64, 65, 66, 67, 68, 69, 70, 71, 72, 73, 74, 75, 76, 77, 78, 79, 80, 81, 82, 83, 84, 85, 86, 87, 88, 89, 90, 91, 92, 93, 94, 95, 96] (fun m e σ => ∃ k : Nat, m + k = ps.length ∧ e 8 = .int .i64 (k : Int) ∧ ∃ (v : Value) (R : List (Nat × Obj)), e 5 = v ∧ Own 9 1 v (enames s k).length ((enames s k).flatMap strE) R ∧ σ = ⟨F, (b1, bx 25 [vp, ve]) :: R⟩ ∧ ∀ j, j < k → edErr s j = 0) (ps.length) ?_ ?_
     · exact ⟨0, by omega, (Ad), _, _, (Al rfl <| Ad), Own.nil, rfl, fun j h => absurd h (by omega)⟩
     ·
      rintro m e _ ⟨k, hm, hs8, v5, R5, hs5, ho, rfl, hno⟩
      by_cases hlt : k < ps.length
      ·
       have hke : k < s.editions.length := by rw [← hr.len]; exact hlt
       have hea := hr.at hlt
       have hnl := enames_len (Nat.le_of_lt hke)
       refine Af <| Af <| Ai fun ds => Aa rfl (Ag (As rfl hs8)) ?_
       refine Aa rfl (Ao Bv (Al rfl <| Ak rfl <| A6 rfl <| Ay rfl <| Ak rfl <| A6 rfl <| Ar rfl <| Ad)) ?_
       refine Aa rfl (Ap Bz (Ad) (Cell.own 0 rfl rfl)) ?_
       refine Aa rfl (Bk B5 (Ad) hr.eds.plain) ?_
       refine Aa rfl (Bw (Ar rfl <| Al rfl <| Ad) (Ad)) ?_
       refine Ah <| Ac <| Aq (Ad) (by first | rfl | exact decide_eq_true (by omega)) ?_
       by_cases hf : freshE ps[k].2.name (enames s k) = 0
       ·
        refine Aw <| Ac <| Af <| Az <| Af <| Ai fun ds => Aa rfl (Ao Bv (Ay rfl <| Al rfl <| Ak rfl <| A6 rfl <| Ay rfl <| Ak rfl <| A6 rfl <| Ar rfl <| Ad)) ?_
        refine Aa rfl (Ap Bz (Ad) (Cell.own 0 rfl rfl)) ?_
        refine Aa rfl (Ag (Ay rfl <| Ar rfl <| Al rfl <| As rfl hs8)) ?_
        refine Aa rfl (A9 (k := k) B5 (Al rfl <| Ad) hr.eds.plain (Ad) rfl hlt) ?_
        refine Aa rfl (Bo fd_64_0 (Ad)) ?_
        refine Aa rfl (Ap one_9 (Ad) (hr.eds.cell hlt rfl)) ?_
        refine Aa rfl (Ag (A6 rfl <| Ar rfl <| Al rfl <| As rfl hs5)) ?_
        refine Bx rfl (q_callH bd_63 A0 (.cons (Al rfl <| Ad) (.cons (Ad) .nil)) (fun G _ hG => fresh_ok (ho.sl (fun _ => rfl) (fun p hp => hG p (List.mem_cons_of_mem _ hp)) (by omega)) _) (fun _ _ h => h)) ?_
        refine Aa rfl (Ae (Ad)) ?_
        refine Ah <| Ac <| Af <| Af <| Ai fun ds => Aa rfl (Ag (Ad)) ?_
        refine Aa rfl (Bs (Ad) Ab) ?_
        refine Ah <| Ac <| Aq (Ad) (decide_eq_true hf) ?_
        by_cases he : ednErr s ps[k].2 = 0
        ·
         refine Cu (.inl rfl) (fun _ _ h => h) (by kernel_rfl) (by kernel_rfl) fun ds => ?_
         refine Bc rfl (Bf B0 (A3 rfl <| Ak rfl <| A6 rfl <| Ay rfl <| Ak rfl <| A6 rfl <| Ar rfl <| Ad) rfl rfl (A8 0 rfl)) ?_
         refine Bc rfl (Ao Bv (A3 rfl <| Al rfl <| Ak rfl <| A6 rfl <| Ay rfl <| Ak rfl <| A6 rfl <| Ar rfl <| Ad)) ?_
         refine Bc rfl (Ap Bz (Ad) (Cell.own 0 rfl rfl)) ?_
         refine Bc rfl (Ag (A3 rfl <| Ar rfl <| Al rfl <| As rfl hs8)) ?_
         refine Bc rfl (A9 (k := k) B5 (Al rfl <| Ad) hr.eds.plain (Ad) rfl hlt) ?_
         refine Bc rfl (Bf agg_64 (Ad) rfl rfl (hr.eds.whole hlt)) ?_
         refine WQ_c rfl (Bi bd_64 A0 (.cons (Ay rfl <| Al rfl <| Ad) (.cons (Ad) .nil)) (refEdition_ok hr (hr.rds _ (List.getElem_mem hlt))) (fun _ _ h => h)) ?_
         refine Bc rfl (Ae (Ad)) ?_
         refine C4 ?_
         refine Ac <| Af <| Af <| Ai fun ds => Aa rfl (Ag (Ad)) ?_
         refine Aa rfl (By (Ad) Ab) ?_
         refine Ah <| Ac <| Am (Ad) (decide_eq_false (fun h => h he)) ?_
         refine Aw <| Ac <| Ai fun ds => Aa rfl (Ag (A3 rfl <| A6 rfl <| Ar rfl <| As rfl hs5)) ?_
         refine Aa rfl (Ao Bv (A3 rfl <| A6 rfl <| Ar rfl <| Al rfl <| Ak rfl <| A6 rfl <| Ay rfl <| Ak rfl <| A6 rfl <| Ar rfl <| Ad)) ?_
         refine Aa rfl (Ap Bz (Ad) (Cell.own 0 rfl rfl)) ?_
         refine Aa rfl (Ag (A3 rfl <| A6 rfl <| Ay rfl <| Al rfl <| As rfl hs8)) ?_
         refine Aa rfl (A9 (k := k) B5 (Al rfl <| Ad) hr.eds.plain (Ad) rfl hlt) ?_
         refine Aa rfl (Bo fd_64_0 (Ad)) ?_
         refine Aa rfl (Ap one_9 (Ad) (hr.eds.cell hlt rfl)) ?_
         refine Bm rfl (B6 sl_91 zr_9 rfl (.cons (Ad) .nil) rfl rfl (by decide) (by simp [Value.oneCell']) fun b8 hb8 nb8 => ?_)
         refine Bm rfl (B9 sl_91 el_9 (Ay rfl <| Ar rfl <| Al rfl <| Ad) ho (Ad) (Dd (s := 1) 0 rfl rfl (by simp [Value.oneCell'])) (by omega) (by omega) (.s <| .s <| .z) .last fun v9 R10 ho11 => ?_)
         have ho2 := ho11.snoc (x := ps[k].2.name) rfl rfl
         refine Aa rfl (Ae (Ad)) ?_
         refine Ah <| Bb <| Ac <| C5 (fun _ _ h => h.drop (.cons _ <| .cons_cons _ <| .refl _)) ?_
         refine Ai fun ds => Aa rfl (Ag (Bp rfl <| Ay rfl <| As rfl hs8)) ?_
         refine Aa rfl (Br (Ad) Ab rfl (by omega) (by omega)) ?_
         refine Aa rfl (Ae (Ad)) ?_
         refine Ah <| Ac ⟨_, m - 1, Off.eq (ou32 rfl <| Dv rfl <| ou2 rfl <| Dk rfl <| Bd), by omega, ?_⟩
         refine ⟨k + 1, by omega, (Ad), _, _, (Ar rfl <| Al rfl <| Ad), by rw [enames_succ hke, ← hea]; exact ho2, rfl, fun j hjk => ?_⟩
         rcases Nat.lt_succ_iff_lt_or_eq.1 hjk with hjk | rfl
         · exact hno j hjk
         · rw [edErr_fresh hke, ← hea, if_neg (fun h => h hf)]; exact he
        ·
         refine Cu (.inl rfl) (fun _ _ h => h) (by kernel_rfl) (by kernel_rfl) fun ds => ?_
         refine Bc rfl (Bf B0 (A3 rfl <| Ak rfl <| A6 rfl <| Ay rfl <| Ak rfl <| A6 rfl <| Ar rfl <| Ad) rfl rfl (A8 0 rfl)) ?_
         refine Bc rfl (Ao Bv (A3 rfl <| Al rfl <| Ak rfl <| A6 rfl <| Ay rfl <| Ak rfl <| A6 rfl <| Ar rfl <| Ad)) ?_
         refine Bc rfl (Ap Bz (Ad) (Cell.own 0 rfl rfl)) ?_
         refine Bc rfl (Ag (A3 rfl <| Ar rfl <| Al rfl <| As rfl hs8)) ?_
         refine Bc rfl (A9 (k := k) B5 (Al rfl <| Ad) hr.eds.plain (Ad) rfl hlt) ?_
         refine Bc rfl (Bf agg_64 (Ad) rfl rfl (hr.eds.whole hlt)) ?_
         refine WQ_c rfl (Bi bd_64 A0 (.cons (Ay rfl <| Al rfl <| Ad) (.cons (Ad) .nil)) (refEdition_ok hr (hr.rds _ (List.getElem_mem hlt))) (fun _ _ h => h)) ?_
         refine Bc rfl (Ae (Ad)) ?_
         refine C4 ?_
         refine Ac <| Af <| Af <| Ai fun ds => Aa rfl (Ag (Ad)) ?_
         refine Aa rfl (By (Ad) Ab) ?_
         refine Ah <| Ac <| Aq (Ad) (decide_eq_true he) ?_
         refine Af <| Ai fun ds => Aa rfl (Ag (A3 rfl <| A6 rfl <| Ar rfl <| As rfl hs8)) ?_
         refine Aa rfl (Ag (Ar rfl <| Al rfl <| Ad)) ?_
         refine Aa rfl (Ae Ab) ?_
         refine Aa rfl (Ae (Ar rfl <| Ad)) ?_
         refine Aa rfl (Ae (Ar rfl <| Ad)) ?_
         refine Ah <| Ac <| A4 <| Bg (Bl (Bg (Bg (Bl (Bg ?_)))))
         refine Ax rfl (.tmp (Ar rfl <| Ad) (.tmp (Al rfl <| Ad) (.tmp (Ad) .nil))) ?_
         have hE : edErr s k = ednErr s ps[k].2 := by rw [edErr_fresh hke, ← hea]; simp [hf]
         rw [← hE]
         exact (checkT_e h1 h2 h3 (firstQ_bad hke hno (by rw [hE]; exact he)) (by rw [hE]; exact he)).symm
       ·
        refine Aw <| Ac <| Af <| Az <| Af <| Ai fun ds => Aa rfl (Ao Bv (Ay rfl <| Al rfl <| Ak rfl <| A6 rfl <| Ay rfl <| Ak rfl <| A6 rfl <| Ar rfl <| Ad)) ?_
        refine Aa rfl (Ap Bz (Ad) (Cell.own 0 rfl rfl)) ?_
        refine Aa rfl (Ag (Ay rfl <| Ar rfl <| Al rfl <| As rfl hs8)) ?_
        refine Aa rfl (A9 (k := k) B5 (Al rfl <| Ad) hr.eds.plain (Ad) rfl hlt) ?_
        refine Aa rfl (Bo fd_64_0 (Ad)) ?_
        refine Aa rfl (Ap one_9 (Ad) (hr.eds.cell hlt rfl)) ?_
        refine Aa rfl (Ag (A6 rfl <| Ar rfl <| Al rfl <| As rfl hs5)) ?_
        refine Bx rfl (q_callH bd_63 A0 (.cons (Al rfl <| Ad) (.cons (Ad) .nil)) (fun G _ hG => fresh_ok (ho.sl (fun _ => rfl) (fun p hp => hG p (List.mem_cons_of_mem _ hp)) (by omega)) _) (fun _ _ h => h)) ?_
        refine Aa rfl (Ae (Ad)) ?_
        refine Ah <| Ac <| Af <| Af <| Ai fun ds => Aa rfl (Ag (Ad)) ?_
        refine Aa rfl (Bs (Ad) Ab) ?_
        refine Ah <| Ac <| Am (Ad) (decide_eq_false hf) ?_
        refine Aw <| Ac <| Af <| Af <| Ai fun ds => Aa rfl (Ag (Ar rfl <| Ad)) ?_
        refine Aa rfl (By (Ad) Ab) ?_
        refine Ah <| Ac <| Aq (Ad) (decide_eq_true hf) ?_
        refine Af <| Ai fun ds => Aa rfl (Ag (A3 rfl <| Ar rfl <| As rfl hs8)) ?_
        refine Aa rfl (Ag (Ay rfl <| Al rfl <| Ad)) ?_
        refine Aa rfl (Ae Ab) ?_
        refine Aa rfl (Ae (Ar rfl <| Ad)) ?_
        refine Aa rfl (Ae (Ar rfl <| Ad)) ?_
        refine Ah <| Ac <| A4 <| Bg (Bl (Bg (Bg (Bl (Bg ?_)))))
        refine Ax rfl (.tmp (Ar rfl <| Ad) (.tmp (Al rfl <| Ad) (.tmp (Ad) .nil))) ?_
        have hE : edErr s k = freshE ps[k].2.name (enames s k) := by rw [edErr_fresh hke, ← hea]; simp [hf]
        rw [← hE]
        exact (checkT_e h1 h2 h3 (firstQ_bad hke hno (by rw [hE]; exact hf)) (by rw [hE]; exact hf)).symm
      ·
       refine Af <| Af <| Ai fun ds => Aa rfl (Ag (As rfl hs8)) ?_
       refine Aa rfl (Ao Bv (Al rfl <| Ak rfl <| A6 rfl <| Ay rfl <| Ak rfl <| A6 rfl <| Ar rfl <| Ad)) ?_
       refine Aa rfl (Ap Bz (Ad) (Cell.own 0 rfl rfl)) ?_
       refine Aa rfl (Bk B5 (Ad) hr.eds.plain) ?_
       refine Aa rfl (Bw (Ar rfl <| Al rfl <| Ad) (Ad)) ?_
       refine Ah <| Ac <| Am (Ad) (by first | rfl | exact decide_eq_false (by omega)) ?_
       refine Bn ?_
       refine Ba <| Ba <| Bh <| Ac <| Af <| Ai fun ds => Aa rfl (Ae Ab) ?_
       refine Aa rfl (Ae Ab) ?_
       refine Aa rfl (Ae Ab) ?_
       refine Ah <| Ac <| A4 <| Ax rfl (.tmp (Ar rfl <| Ad) (.tmp (Al rfl <| Ad) (.tmp (Ad) .nil))) ?_
       exact (checkT_0 h1 h2 h3 (firstQ_ok fun j hj => hno j (by have := hr.len; omega))).symm
    ·
     replace h3 : inB 1 5 s.editions.length = false := by simpa using h3
     refine Bn ?_
     refine Ba <| Ba <| Bh <| Ac <| Af <| Af <| Ai fun ds => Aa rfl (Ao Bv (Ay rfl <| Al rfl <| Ak rfl <| A6 rfl <| Ar rfl <| Ad)) ?_
     refine Aa rfl (Ap Bz (Ad) (Cell.own 0 rfl rfl)) ?_
     refine Aa rfl (Bk B5 (Ad) hr.eds.plain) ?_
     refine Bx rfl (Bi Ew A0 (.cons (Ad) (.cons Ab (.cons Ab .nil))) (Dn _ _ _) (fun _ _ h => h)) ?_
     refine Aa rfl (Ci (Ad)) ?_
     refine Ah <| Ac <| Aq (Ad) (by simp [hr.len, h3]) ?_
     refine Af <| Ai fun ds => Aa rfl (Ae Ab) ?_
     refine Aa rfl (Ae Ab) ?_
     refine Aa rfl (Ae Ab) ?_
     refine Ah <| Ac <| A4 <| Bg ?_
     refine Ax rfl (.tmp (Ar rfl <| Ad) (.tmp (Al rfl <| Ad) (.tmp (Ad) .nil))) ?_
     exact (checkT_2 h1 h2 h3).symm
 ·
  replace h1 : inB 1 6 s.places.length = false := by simpa using h1
  refine Af <| Ai fun ds => Bm rfl (B2 (Aj rfl) rfl fun b12 hb12 nb12 => ?_)
  refine Aa rfl (Ae Ab) ?_
  refine Aa rfl (Ae Ab) ?_
  refine Aa rfl (Ae Ab) ?_
  refine Ah <| Ac <| Af <| Af <| Ai fun ds => Aa rfl (Ao Co (Ar rfl <| Al rfl <| Ad)) ?_
  refine Aa rfl (Ap Cy (Ad) (Cell.own 0 rfl rfl)) ?_
  refine Aa rfl (Bk C9 (Ad) hr.places.plain) ?_
  refine Bx rfl (Bi Ew A0 (.cons (Ad) (.cons Ab (.cons Ab .nil))) (Dn _ _ _) (fun _ _ h => h)) ?_
  refine Aa rfl (Ci (Ad)) ?_
  refine Ah <| Ac <| Aq (Ad) (by rw [h1]; rfl) ?_
  refine Af <| Ai fun ds => Aa rfl (Ae Ab) ?_
  refine Aa rfl (Ae Ab) ?_
  refine Aa rfl (Ae Ab) ?_
  refine Ah <| Ac <| A4 <| Bg ?_
  refine Ax rfl (.tmp (Ar rfl <| Ad) (.tmp (Al rfl <| Ad) (.tmp (Ad) .nil))) ?_
  exact (checkT_1 h1).symm
end Go.Proofs.Ytccogmkhijgelaa
namespace Go.Proofs.Ytccogmkhijgelaa
open Go.RowKit
theorem bd_105 : Body Try.prog 105 := Bq (by kernel_rfl)
theorem el_3 : ElemT Try.prog 3 1 8 (.int .i64 0) := elemT_of (by kernel_rfl) rfl (by decide)
set_option maxRecDepth 100000 in
theorem refDiffer_ok {F : Heap} {vp ve : Value} {ps : List (Value × Edn)} {s : Stm} (hr : StmR F vp ve ps s) (hv : ValidT s) {a b : Nat} (ha : a < s.editions.length) (hb : b < s.editions.length) {p : Nat} (hp : p < s.places.length) : Ok Try.prog 105 [.agg #[vp, ve], .int .i64 (a : Int), .int .i64 (b : Int), .int .i64 (p : Int)].toArray F fun r _ => r = .bool (differB s a b p) := by
 refine Ok.intro Try.func105 rfl Try.ntmps105 rfl fun w0 => ?_
 have hap : a < ps.length := by rw [hr.len]; exact ha
 have hbp : b < ps.length := by rw [hr.len]; exact hb
 have hra := hr.rd hap
 have hrb := hr.rd hbp
 have hpa : p < (s.ed a).rd.length := by rw [hv.rdl a ha]; exact hp
 have hpb : p < (s.ed b).rd.length := by rw [hv.rdl b hb]; exact hp
 by_cases h1 : 0 < s.r a p
 ·
  refine Af <| Ai fun ds => Bm rfl (B2 (Aj rfl) rfl fun b1 hb1 nb1 => ?_)
  refine Aa rfl (Ae Ab) ?_
  refine Ah <| Ac <| Af <| Cu (.inl rfl) (fun _ _ h => h) (by kernel_rfl) (by kernel_rfl) fun ds => ?_
  refine Bc rfl (Ao Bv (Al rfl <| Ad)) ?_
  refine Bc rfl (Ap Bz (Ad) (Cell.own 0 rfl rfl)) ?_
  refine Bc rfl (Ag (Ay rfl <| Aj rfl)) ?_
  refine Bc rfl (A9 (k := a) B5 (Al rfl <| Ad) hr.eds.plain (Ad) rfl hap) ?_
  refine Bc rfl (Bo Ca (Ad)) ?_
  refine Bc rfl (Ap Cb (Ad) (hr.eds.cell hap rfl)) ?_
  refine Bc rfl (Ag (A6 rfl <| Aj rfl)) ?_
  refine Bc rfl (A9 (k := p) Be (Al rfl <| Ad) hra.plain (Ad) rfl hpa) ?_
  refine Bc rfl (Ap Bj (Ad) (hra.cell1 hpa rfl)) ?_
  refine Bc rfl (Ao Bv (A6 rfl <| Ar rfl <| Ad)) ?_
  refine Bc rfl (Ap Bz (Ad) (Cell.own 0 rfl rfl)) ?_
  refine Bc rfl (Ag (A6 rfl <| Ay rfl <| Al rfl <| Aj rfl)) ?_
  refine Bc rfl (A9 (k := b) B5 (Al rfl <| Ad) hr.eds.plain (Ad) rfl hbp) ?_
  refine Bc rfl (Bo Ca (Ad)) ?_
  refine Bc rfl (Ap Cb (Ad) (hr.eds.cell hbp rfl)) ?_
  refine Bc rfl (Ag (A3 rfl <| Al rfl <| Aj rfl)) ?_
  refine Bc rfl (A9 (k := p) Be (Al rfl <| Ad) hrb.plain (Ad) rfl hpb) ?_
  refine Bc rfl (Ap Bj (Ad) (hrb.cell1 hpb rfl)) ?_
  refine Bc rfl (Ae (A6 rfl <| Al rfl <| Ad)) ?_
  refine Bc rfl (Ae (Al rfl <| Ad)) ?_
  refine C4 ?_
  refine Ac <| Af <| Ai fun ds => Aa rfl (Ag (Al rfl <| Ad)) ?_
  refine Aa rfl (De (Ad) Ab) ?_
  refine Aa rfl (Ag (Ad)) ?_
  refine Au rfl rfl (Ad) (by rw [C3 hpa]; exact decide_eq_true h1) ?_
  refine Aa rfl (Ag (Ar rfl <| Al rfl <| Ad)) ?_
  refine Au rfl rfl (Al rfl <| Ad) (by rw [C3 hpa]; exact decide_eq_true h1) ?_
  refine Aa rfl (De (Ad) Ab) ?_
  refine Aa rfl (A2 (Ar rfl <| Ad) (by rw [C3 hpa]; exact decide_eq_true h1) (Ad)) ?_
  refine Aa rfl (Ag (Ad)) ?_
  by_cases h2 : 0 < s.r b p
  ·
   refine Au rfl rfl (Ad) (by rw [C3 hpb]; exact decide_eq_true h2) ?_
   refine Aa rfl (Ag (A6 rfl <| Ad)) ?_
   refine Au rfl rfl (Al rfl <| Ad) (by rw [C3 hpb]; exact decide_eq_true h2) ?_
   refine Aa rfl (Ag (A6 rfl <| Ad)) ?_
   refine Au rfl rfl (Ar rfl <| Ad) (by rw [C3 hpb]; exact decide_eq_true h2) ?_
   refine Aa rfl (By (Al rfl <| Ad) (Ad)) ?_
   refine Aa rfl (A2 (Ar rfl <| Al rfl <| Ad) (by rw [C3 hpb]; exact decide_eq_true h2) (Ad)) ?_
   refine Aa rfl (Ae (Ad)) ?_
   refine Ah <| Ac <| A4 <| Ax rfl (.tmp (Ad) .nil) ?_
   show _ = _
   unfold differB; rw [decide_eq_true h1, decide_eq_true h2, ← C3 hpa, ← C3 hpb]; rfl
  ·
   refine At rfl rfl (Ad) (.inl (congrArg Value.bool (by rw [C3 hpb]; exact decide_eq_false h2))) rfl ?_
   refine At rfl rfl (Al rfl <| Ad) (.inl (congrArg Value.bool (by rw [C3 hpb]; exact decide_eq_false h2))) rfl ?_
   refine At rfl rfl (Ar rfl <| Ad) (.inl (congrArg Value.bool (by rw [C3 hpb]; exact decide_eq_false h2))) rfl ?_
   refine Aa rfl (A7 (Ar rfl <| Al rfl <| Ad) (by rw [C3 hpb]; exact decide_eq_false h2) Ab) ?_
   refine Aa rfl (Ae (Ad)) ?_
   refine Ah <| Ac <| A4 <| Ax rfl (.tmp (Ad) .nil) ?_
   show _ = _
   unfold differB; rw [decide_eq_true h1, decide_eq_false h2]; rfl
 ·
  refine Af <| Ai fun ds => Bm rfl (B2 (Aj rfl) rfl fun b2 hb2 nb2 => ?_)
  refine Aa rfl (Ae Ab) ?_
  refine Ah <| Ac <| Af <| Cu (.inl rfl) (fun _ _ h => h) (by kernel_rfl) (by kernel_rfl) fun ds => ?_
  refine Bc rfl (Ao Bv (Al rfl <| Ad)) ?_
  refine Bc rfl (Ap Bz (Ad) (Cell.own 0 rfl rfl)) ?_
  refine Bc rfl (Ag (Ay rfl <| Aj rfl)) ?_
  refine Bc rfl (A9 (k := a) B5 (Al rfl <| Ad) hr.eds.plain (Ad) rfl hap) ?_
  refine Bc rfl (Bo Ca (Ad)) ?_
  refine Bc rfl (Ap Cb (Ad) (hr.eds.cell hap rfl)) ?_
  refine Bc rfl (Ag (A6 rfl <| Aj rfl)) ?_
  refine Bc rfl (A9 (k := p) Be (Al rfl <| Ad) hra.plain (Ad) rfl hpa) ?_
  refine Bc rfl (Ap Bj (Ad) (hra.cell1 hpa rfl)) ?_
  refine Bc rfl (Ao Bv (A6 rfl <| Ar rfl <| Ad)) ?_
  refine Bc rfl (Ap Bz (Ad) (Cell.own 0 rfl rfl)) ?_
  refine Bc rfl (Ag (A6 rfl <| Ay rfl <| Al rfl <| Aj rfl)) ?_
  refine Bc rfl (A9 (k := b) B5 (Al rfl <| Ad) hr.eds.plain (Ad) rfl hbp) ?_
  refine Bc rfl (Bo Ca (Ad)) ?_
  refine Bc rfl (Ap Cb (Ad) (hr.eds.cell hbp rfl)) ?_
  refine Bc rfl (Ag (A3 rfl <| Al rfl <| Aj rfl)) ?_
  refine Bc rfl (A9 (k := p) Be (Al rfl <| Ad) hrb.plain (Ad) rfl hpb) ?_
  refine Bc rfl (Ap Bj (Ad) (hrb.cell1 hpb rfl)) ?_
  refine Bc rfl (Ae (A6 rfl <| Al rfl <| Ad)) ?_
  refine Bc rfl (Ae (Al rfl <| Ad)) ?_
  refine C4 ?_
  refine Ac <| Af <| Ai fun ds => Aa rfl (Ag (Al rfl <| Ad)) ?_
  refine Aa rfl (De (Ad) Ab) ?_
  refine Aa rfl (Ag (Ad)) ?_
  refine At rfl rfl (Ad) (.inl (congrArg Value.bool (by rw [C3 hpa]; exact decide_eq_false h1))) rfl ?_
  refine At rfl rfl (Al rfl <| Ad) (.inl (congrArg Value.bool (by rw [C3 hpa]; exact decide_eq_false h1))) rfl ?_
  refine Aa rfl (A7 (Ar rfl <| Ad) (by rw [C3 hpa]; exact decide_eq_false h1) Ab) ?_
  refine Aa rfl (Ag (Ad)) ?_
  refine At rfl rfl (Ad) (.inl (congrArg Value.bool rfl)) rfl ?_
  refine At rfl rfl (Al rfl <| Ad) (.inl (congrArg Value.bool rfl)) rfl ?_
  refine At rfl rfl (Ar rfl <| Ad) (.inl (congrArg Value.bool rfl)) rfl ?_
  refine Aa rfl (A7 (Ar rfl <| Al rfl <| Ad) rfl Ab) ?_
  refine Aa rfl (Ae (Ad)) ?_
  refine Ah <| Ac <| A4 <| Ax rfl (.tmp (Ad) .nil) ?_
  show _ = _
  unfold differB; rw [decide_eq_false h1]; rfl
set_option maxRecDepth 100000 in
theorem refPlaces_ok {F : Heap} {vp ve : Value} {ps : List (Value × Edn)} {s : Stm} (hr : StmR F vp ve ps s) (hv : ValidT s) {a b : Nat} (ha : a < s.editions.length) (hb : b < s.editions.length) : Ok Try.prog 67 [.agg #[vp, ve], .int .i64 (a : Int), .int .i64 (b : Int)].toArray F fun u F' => Nats F' u (apartL s a b) := by
 refine Ok.intro Try.func67 rfl Try.ntmps67 rfl fun w0 => ?_
 have hL := hv.np
 have hL1 := hr.places.plain.lt
 refine Af <| Ai fun ds => Bm rfl (B2 (Aj rfl) rfl fun b1 hb1 nb1 => ?_)
 refine Aa rfl (Ae Ab) ?_
 refine Ah <| Ac <| Af <| Ai fun ds => Aa rfl (Ae Ab) ?_
 refine Ah <| Ac <| Af <| Af <| Ai fun ds => Aa rfl (Ae Ab) ?_
 refine Ah <| Ac <| Az <| Bu [7, 8, 9, 10, 11, 12, 13, 14, 15, 16, 17, 18, 19, 20, 21, 22, 23, 24] (fun m e σ => ∃ k : Nat, m + k = s.places.length ∧ e 8 = .int .i64 (k : Int) ∧ ∃ v7 R7, e 7 = v7 ∧ Own 3 1 v7 (selN (differB s a b) k).length ((selN (differB s a b) k).flatMap natE) R7 ∧ σ = ⟨F, (b1, bx 25 [vp, ve]) :: R7⟩) (s.places.length) ?_ ?_
 · exact ⟨0, by omega, (Ad), _, _, (Al rfl <| Ad), Own.nil, rfl⟩
 ·
  rintro m e _ ⟨k, hm, hs8, v7, R7, hs7, ho, rfl⟩; have hsl := Dq (p := differB s a b) (k := k)
  by_cases hlt : k < s.places.length
  ·
   refine Af <| Af <| Ai fun ds => Aa rfl (Ag (As rfl hs8)) ?_
   refine Aa rfl (Ao Co (Al rfl <| Ak rfl <| Ar rfl <| Al rfl <| Ad)) ?_
   refine Aa rfl (Ap Cy (Ad) (Cell.own 0 rfl rfl)) ?_
   refine Aa rfl (Bk C9 (Ad) hr.places.plain) ?_
   refine Aa rfl (Bw (Ar rfl <| Al rfl <| Ad) (Ad)) ?_
   refine Ah <| Ac <| Aq (Ad) (by first | rfl | exact decide_eq_true (by omega)) ?_
   by_cases hd : differB s a b k = true
   ·
    refine Aw <| Ac <| Af <| Az <| Af <| Ai fun ds => Aa rfl (Bf B0 (Ay rfl <| Al rfl <| Ak rfl <| Ar rfl <| Al rfl <| Ad) rfl rfl (A8 0 rfl)) ?_
    refine Aa rfl (Ag (Ay rfl <| Ar rfl <| Ak rfl <| Ay rfl <| Aj rfl)) ?_
    refine Aa rfl (Ag (Ay rfl <| Ar rfl <| Al rfl <| Ak rfl <| Ay rfl <| Aj rfl)) ?_
    refine Aa rfl (Ag (A6 rfl <| As rfl hs8)) ?_
    refine Bx rfl (Bi bd_105 A0 (.cons (Ar rfl <| Al rfl <| Ad) (.cons (Ar rfl <| Ad) (.cons (Al rfl <| Ad) (.cons (Ad) .nil)))) (refDiffer_ok hr hv ha hb hlt) (fun _ _ h => h)) ?_
    refine Ah <| Ac <| Aq (Ad) hd ?_
    refine Ai fun ds => Aa rfl (Ag (A6 rfl <| Ar rfl <| As rfl hs7)) ?_
    refine Aa rfl (Ag (A6 rfl <| Ar rfl <| Al rfl <| As rfl hs8)) ?_
    refine Bm rfl (B6 Be Da rfl (.cons (Ad) .nil) rfl rfl (by decide) (by simp [Value.oneCell']) fun b3 hb3 nb3 => ?_)
    refine Bm rfl (B9 Be el_3 (Ar rfl <| Ad) ho (Ad) (Dd (s := 1) 0 rfl rfl (by simp [Value.oneCell'])) (by omega) (by omega) (.s <| .s <| .z) .last fun v4 R5 ho6 => ?_)
    have ho2 := ho6.snoc (x := k) rfl rfl
    refine Aa rfl (Ae (Ad)) ?_
    refine Ah <| Bb <| Ac <| C5 (fun _ _ h => h.drop (.cons _ <| .cons_cons _ <| .refl _)) ?_
    refine Ai fun ds => Aa rfl (Ag (A6 rfl <| Ay rfl <| Ar rfl <| Al rfl <| As rfl hs8)) ?_
    refine Aa rfl (Br (Ad) Ab rfl (by omega) (by omega)) ?_
    refine Aa rfl (Ae (Ad)) ?_
    refine Ah <| Ac ⟨_, m - 1, Off.eq (Cr rfl <| ou2 rfl <| Bd), by omega, ?_⟩
    exact ⟨k + 1, by omega, (Ad), _, _, (Ar rfl <| Al rfl <| Ad), by rw [D0, if_pos hd]; exact ho2, rfl⟩
   ·
    replace hd : differB s a b k = false := by simpa using hd
    refine Aw <| Ac <| Af <| Az <| Af <| Ai fun ds => Aa rfl (Bf B0 (Ay rfl <| Al rfl <| Ak rfl <| Ar rfl <| Al rfl <| Ad) rfl rfl (A8 0 rfl)) ?_
    refine Aa rfl (Ag (Ay rfl <| Ar rfl <| Ak rfl <| Ay rfl <| Aj rfl)) ?_
    refine Aa rfl (Ag (Ay rfl <| Ar rfl <| Al rfl <| Ak rfl <| Ay rfl <| Aj rfl)) ?_
    refine Aa rfl (Ag (A6 rfl <| As rfl hs8)) ?_
    refine Bx rfl (Bi bd_105 A0 (.cons (Ar rfl <| Al rfl <| Ad) (.cons (Ar rfl <| Ad) (.cons (Al rfl <| Ad) (.cons (Ad) .nil)))) (refDiffer_ok hr hv ha hb hlt) (fun _ _ h => h)) ?_
    refine Ah <| Ac <| Am (Ad) hd ?_
    refine Aw <| Bb <| Ac <| Ai fun ds => Aa rfl (Ag (A6 rfl <| Ar rfl <| As rfl hs8)) ?_
    refine Aa rfl (Br (Ad) Ab rfl (by omega) (by omega)) ?_
    refine Aa rfl (Ae (Ad)) ?_
    refine Ah <| Ac ⟨_, m - 1, Off.eq (Dj rfl <| Dv rfl <| Dk rfl <| Bd), by omega, ?_⟩
    exact ⟨k + 1, by omega, (Ad), _, _, (A6 rfl <| Ay rfl <| Al rfl <| As rfl hs7), by rw [D0, if_neg (by rw [hd]; simp)]; exact ho, rfl⟩
  ·
   refine Af <| Af <| Ai fun ds => Aa rfl (Ag (As rfl hs8)) ?_
   refine Aa rfl (Ao Co (Al rfl <| Ak rfl <| Ar rfl <| Al rfl <| Ad)) ?_
   refine Aa rfl (Ap Cy (Ad) (Cell.own 0 rfl rfl)) ?_
   refine Aa rfl (Bk C9 (Ad) hr.places.plain) ?_
   refine Aa rfl (Bw (Ar rfl <| Al rfl <| Ad) (Ad)) ?_
   refine Ah <| Ac <| Am (Ad) (by first | rfl | exact decide_eq_false (by omega)) ?_
   obtain rfl : k = s.places.length := by omega
   refine Cw (σ := ⟨_, _⟩) (by rfl) ho (.s <| .z) .last fun F7 hF8 hz9 => ?_
   have hn2 := ho.sl (fun _ => rfl) hz9 (by omega)
   refine Bn ?_
   refine Ba <| Ba <| Bh <| Ac <| Af <| Ai fun ds => Aa rfl (Ag (Ay rfl <| Al rfl <| As rfl hs7)) ?_
   refine Aa rfl (Ae (Ad)) ?_
   refine Ah <| Ac <| A4 <| Ax rfl (.tmp (Ad) .nil) ?_
   exact hn2
end Go.Proofs.Ytccogmkhijgelaa
namespace Go.Proofs.Ytccogmkhijgelaa
open Go.RowKit
def IsK (P : Program) (K : Nat) (v : Value) : Prop := ∃ l, keyOf P K v = some l
structure MapT (P : Program) (M K E : Nat) (z : Value) : Prop where
 under : P.underlying M = some (.map K E)
 zero : ZeroT P E z
 keyed : Go.Maps.Keyed P K
def entryO (p : (Value × Value) × Nat) : MapEntry := ⟨p.1.1, p.1.2, p.2⟩
/-- A map from which nothing was ever taken out. -/
def mapO (es : List (Value × Value)) : Obj := .map (es.zipIdx.map entryO).toArray es.length
theorem mapO_at {es : List (Value × Value)} {j : Nat} {e : MapEntry} (h : (es.zipIdx.map entryO)[j]? = some e) : ∃ p, es[j]? = some p ∧ e = ⟨p.1, p.2, j⟩ := by
 rw [List.getElem?_map, List.getElem?_zipIdx] at h
 cases hj : es[j]? with
 | none => rw [hj] at h; simp at h
 | some p => rw [hj] at h; simp [entryO] at h; exact ⟨p, rfl, h.symm⟩
theorem mapO_mem {es : List (Value × Value)} {e : MapEntry} (h : e ∈ es.zipIdx.map entryO) : ∃ j p, es[j]? = some p ∧ e = ⟨p.1, p.2, j⟩ := by
 obtain ⟨j, hj⟩ := List.getElem?_of_mem h
 obtain ⟨p, h1, h2⟩ := mapO_at hj
 exact ⟨j, p, h1, h2⟩
section
variable {P : Program} {n : Nat} {B : Base} {e : Env} {σ : St} {d : Option Nat} {ty : TypeId} {pos : String} {af : Array Edge} {gd : Option (Nat × Bool)}
theorem find_map {K : Nat} (hK : Go.Maps.Keyed P K) {k : Value} (hk : IsK P K k) {es : List (Value × Value)} (hall : ∀ p ∈ es, IsK P K p.1) (w : World) :
   ((Instr.findKey K k (es.zipIdx.map entryO)).run P w = .ok none w ∧ ∀ p ∈ es, p.1 ≠ k) ∨ ∃ j u, (Instr.findKey K k (es.zipIdx.map entryO)).run P w = .ok (some (j, u)) w ∧ es[j]? = some (k, u) := by
 obtain ⟨l, hl⟩ := hk
 rcases hK.find w hl (es.zipIdx.map entryO) (fun e he => by obtain ⟨j, p, h1, rfl⟩ := mapO_mem he; exact hall p (List.mem_of_getElem? h1)) with ⟨h1, h2⟩ | ⟨j, e0, h1, h2, h3⟩
 · refine .inl ⟨h1, fun p hp => ?_⟩
   obtain ⟨j, hj⟩ := List.getElem?_of_mem hp
   have : entryO (p, j) ∈ es.zipIdx.map entryO := by
     refine List.mem_map.2 ⟨(p, j), ?_, rfl⟩
     rw [List.mem_zipIdx_iff_getElem?]; exact hj
   exact h2 _ this
 · obtain ⟨p, q1, rfl⟩ := mapO_at h2
   refine .inr ⟨j, p.2, h1, ?_⟩
   rw [q1]
   simp only at h3
   rw [← h3]
theorem x_makeMap {M : Nat} {K : Value → St → Prop} (hn : ∀ b, B.w0.heap.size ≤ b → σ.F b = none → K (.map (some b)) ⟨σ.F, (b, mapO []) :: σ.H⟩) : OpX P n B ⟨d, .makeMap M none, ty, pos, af, gd⟩ e σ K :=
 .run fun w hw => ⟨_, _, _, .inl (by simp [execOp, Instr.makeMap]; rfl), hw.alloc (mapO []), hn _ hw.size hw.fresh⟩
theorem run_getMap {b : Nat} {es : List (Value × Value)} {w : World} (h : w.heap[b]? = some (mapO es)) : (Go.getObj b).run P w = .ok (mapO es) w := by
 simp only [Go.getObj, Sem.run, h]; simp [mapO]
theorem run_setMap {b : Nat} {es es' : List (Value × Value)} {w : World} (h : w.heap[b]? = some (mapO es)) : (Go.setObj b (mapO es')).run P w = .ok () { w with heap := w.heap.setIfInBounds b (mapO es') } := by
 simp only [Go.setObj, Sem.run, h]; simp [mapO]
theorem nodup_key {es : List (Value × Value)} (hd : (es.map (·.1)).Nodup) {i j : Nat} {k u v : Value} (hi : es[i]? = some (k, u)) (hj : es[j]? = some (k, v)) : i = j := by
 have h1 : (es.map (·.1))[i]? = some k := by simp [hi]
 have h2 : (es.map (·.1))[j]? = some k := by simp [hj]
 have hl : i < (es.map (·.1)).length := (List.getElem?_eq_some_iff.1 h1).1
 exact (List.getElem?_inj hl hd).1 (by rw [h1, h2])
theorem run_lookupN {M K E : Nat} {z k : Value} {b : Nat} {es : List (Value × Value)} (hT : MapT P M K E z) (hk : IsK P K k) (hall : ∀ p ∈ es, IsK P K p.1) (hno : ∀ p ∈ es, p.1 ≠ k) {w : World} (hb : w.heap[b]? = some (mapO es)) (ok : Bool) :
   (Instr.lookup M (.map (some b)) k ok).run P w = .ok (if ok then .tuple #[z, .bool false] else z) w := by
 obtain ⟨l, hl⟩ := hk
 have hc := fun em => hT.keyed.check w em hl
 have hb' := run_getMap (P := P) hb; unfold mapO at hb'
 have hf : (Instr.findKey K k (es.zipIdx.map entryO)).run P w = .ok none w := by
   rcases find_map hT.keyed ⟨l, hl⟩ hall w with ⟨h, -⟩ | ⟨j, u, -, h⟩
   · exact h
   · exact absurd rfl (hno _ (List.mem_of_getElem? h))
 cases ok <;> simp [Instr.lookup, Cc hT.under, hb', hc, hf, run_zero hT.zero]
theorem run_lookupS {M K E : Nat} {z k u : Value} {b j : Nat} {es : List (Value × Value)} (hT : MapT P M K E z) (hk : IsK P K k) (hall : ∀ p ∈ es, IsK P K p.1) (hd : (es.map (·.1)).Nodup) (hj : es[j]? = some (k, u)) {w : World} (hb : w.heap[b]? = some (mapO es)) (ok : Bool) :
   (Instr.lookup M (.map (some b)) k ok).run P w = .ok (if ok then .tuple #[u, .bool true] else u) w := by
 obtain ⟨l, hl⟩ := hk
 have hc := fun em => hT.keyed.check w em hl
 have hb' := run_getMap (P := P) hb; unfold mapO at hb'
 have hf : (Instr.findKey K k (es.zipIdx.map entryO)).run P w = .ok (some (j, u)) w := by
   rcases find_map hT.keyed ⟨l, hl⟩ hall w with ⟨-, h⟩ | ⟨i, v, h1, h2⟩
   · exact absurd rfl (h _ (List.mem_of_getElem? hj))
   · have := nodup_key hd h2 hj
     subst this
     rw [h2] at hj
     simp only [Option.some.injEq, Prod.mk.injEq] at hj
     rw [h1, hj.2]
 cases ok <;> simp [Instr.lookup, Cc hT.under, hb', hc, hf]
theorem q_lookup2N {M K E i b : Nat} {x y : Operand} {z k : Value} {es : List (Value × Value)} (hT : MapT P M K E z) (hx : ev e x = .map (some b)) (hy : ev e y = k) (hi : σ.H[i]? = some (b, mapO es)) (hk : IsK P K k) (hall : ∀ p ∈ es, IsK P K p.1) (hno : ∀ p ∈ es, p.1 ≠ k) :
   OpR P B ⟨d, .lookup M x y true, ty, pos, af, gd⟩ e σ (.tuple #[z, .bool false]) := fun w hw => by
 have := run_lookupN hT hk hall hno (hw.own _ (List.mem_of_getElem? hi)).1 true
 simp [execOp, hx, hy, this]
theorem q_lookup2S {M K E i b j : Nat} {x y : Operand} {z k u : Value} {es : List (Value × Value)} (hT : MapT P M K E z) (hx : ev e x = .map (some b)) (hy : ev e y = k) (hi : σ.H[i]? = some (b, mapO es)) (hk : IsK P K k) (hall : ∀ p ∈ es, IsK P K p.1) (hd : (es.map (·.1)).Nodup) (hj : es[j]? = some (k, u)) :
   OpR P B ⟨d, .lookup M x y true, ty, pos, af, gd⟩ e σ (.tuple #[u, .bool true]) := fun w hw => by
 have := run_lookupS hT hk hall hd hj (hw.own _ (List.mem_of_getElem? hi)).1 true
 simp [execOp, hx, hy, this]
theorem lits_int {T d : Nat} {q : IntKind} (hu : P.underlying T = some (.int q)) {z : Int} (hz : (Lit.int q z).wf = true) : P.keyLits (d + 1) T [.int q z] = some [.int q z] := by simp [Program.keyLits, hu, hz]
theorem wf64 {z : Int} (h1 : -9223372036854775808 ≤ z) (h2 : z ≤ 9223372036854775807) : (Lit.int .i64 z).wf = true := by
 have e1 : IntKind.i64.min = -9223372036854775808 := by decide
 have e2 : IntKind.i64.max = 9223372036854775807 := by decide
 simp [Lit.wf, e1, e2, h1, h2]
theorem keys_or {es : List (Value × Value)} (k : Value) : (∀ p ∈ es, p.1 ≠ k) ∨ ∃ (j : Nat) (u : Value), es[j]? = some (k, u) := by
 by_cases h : ∃ p ∈ es, p.1 = k
 · obtain ⟨p, hp, rfl⟩ := h
   obtain ⟨j, hj⟩ := List.getElem?_of_mem hp
   exact .inr ⟨j, p.2, hj⟩
 · exact .inl fun p hp he => h ⟨p, hp, he⟩
theorem all_snoc {K : Nat} {es : List (Value × Value)} {k v : Value} (h : ∀ p ∈ es, IsK P K p.1) (hk : IsK P K k) : ∀ p ∈ es ++ [(k, v)], IsK P K p.1 := by
 intro p hp
 rcases List.mem_append.1 hp with hp | hp
 · exact h p hp
 · simp at hp; subst hp; exact hk
theorem nd_snoc {es : List (Value × Value)} {k v : Value} (h : (es.map (·.1)).Nodup) (hk : ∀ p ∈ es, p.1 ≠ k) : ((es ++ [(k, v)]).map (·.1)).Nodup := by
 rw [List.map_append, List.nodup_append]
 refine ⟨h, by simp, fun a ha b hb => ?_⟩
 obtain ⟨p, hp, rfl⟩ := List.mem_map.1 ha
 simp at hb; subst hb
 exact hk p hp
theorem map_set {es : List (Value × Value)} {j : Nat} {k u v : Value} (hj : es[j]? = some (k, u)) : (es.set j (k, v)).map (·.1) = es.map (·.1) := by
 apply List.ext_getElem?
 intro m
 rw [List.getElem?_map, List.getElem?_map, List.getElem?_set]
 by_cases hm : j = m
 · subst hm; rw [if_pos rfl, hj]; simp [(List.getElem?_eq_some_iff.1 hj).1]
 · rw [if_neg hm]
theorem snoc_at {es : List (Value × Value)} {p : Value × Value} : (es ++ [p])[es.length]? = some p := by simp
end
end Go.Proofs.Ytccogmkhijgelaa
namespace Go.Proofs.Ytccogmkhijgelaa
open Go.RowKit
theorem zr_128 : ZeroT Try.prog 128 (.agg #[.slice none 0 0, .slice none 0 0, .map none]) := C7 (by kernel_rfl)
theorem bd_16 : Body Try.prog 16 := Bq (by kernel_rfl)
theorem bt_128 : BuildT Try.prog 128 [.slice none 0 0, .slice none 0 0, .map none] [(0, 2), (2, 1)] := buildT_of zr_128 (by kernel_rfl) (by decide)
theorem Cd : FieldT Try.prog 128 0 0 := Do (by kernel_rfl)
structure StmX (F : Heap) (b : Nat) (vp ve vm : Value) (ps : List (Value × Edn)) (s : Stm) : Prop where
 r : StmR F vp ve ps s
 blk : F b = some (bx 128 [vp, ve, vm])
theorem StmX.mono {F F' : Heap} {b : Nat} {vp ve vm : Value} {ps : List (Value × Edn)} {s : Stm} (h : StmX F b vp ve vm ps s) (hF : F.le F') : StmX F' b vp ve vm ps s := ⟨h.r.mono hF, hF _ _ h.blk⟩
def OpenR (F : Heap) (u : Value) (Hn : List (Nat × Obj)) (vp ve : Value) (ps : List (Value × Edn)) (s : Stm) : Prop := ∃ b kb, u = .tuple #[.pointer (some ⟨b, 0, none⟩), .int .i64 0] ∧ StmX F b vp ve (.map (some kb)) ps s ∧ Hn = [(kb, mapO [])]
set_option maxRecDepth 100000 in
theorem open_ok {F : Heap} {vp ve : Value} {ps : List (Value × Edn)} {s : Stm} (hr : StmR F vp ve ps s) (h0 : (checkT s).2.2 = 0) : OkN Try.prog 65 [.agg #[vp, ve]].toArray F fun u F' Hn => OpenR F' u Hn vp ve ps s := by
 refine OkN.intro Try.func65 rfl Try.ntmps65 rfl fun w0 => ?_
 refine Af <| Ai fun ds => Bm rfl (B2 (Aj rfl) rfl fun b1 hb1 nb1 => ?_)
 refine Aa rfl (Ae Ab) ?_
 refine Aa rfl (Ae Ab) ?_
 refine Ah <| Ac <| Af <| Af <| Ai fun ds => Aa rfl (Bf B0 (Ar rfl <| Ad) rfl rfl (A8 0 rfl)) ?_
 refine Bx rfl (Bi bd_16 A0 (.cons (Ad) .nil) (checkT_ok hr) (fun _ _ h => h.trans (show checkTV s = .tuple #[.int .i64 (checkT s).1, .int .i64 (checkT s).2.1, .int .i64 (checkT s).2.2] from rfl))) ?_
 refine Aa rfl (Ag (Ad)) ?_
 refine Aa rfl (A1 (Ad) rfl) ?_
 refine Aa rfl (A1 (Al rfl <| Ad) rfl) ?_
 refine Aa rfl (A1 (Ar rfl <| Ad) rfl) ?_
 refine Aa rfl (Ae (Ar rfl <| Ad)) ?_
 refine Aa rfl (Ae (Ar rfl <| Ad)) ?_
 refine Aa rfl (Ae (Ar rfl <| Ad)) ?_
 refine Ah <| Ac <| Af <| Ai fun ds => Aa rfl (Ag (Ad)) ?_
 refine Aa rfl (By (Ad) Ab) ?_
 refine Ah <| Ac <| Am (Ad) (decide_eq_false (fun h => h h0)) ?_
 refine Aw <| Ac <| Af <| Ai fun ds => Aa rfl (Bf B0 (A6 rfl <| Ay rfl <| Al rfl <| Ad) rfl rfl (A8 0 rfl)) ?_
 refine Bm rfl (x_makeMap fun b2 hb2 nb2 => ?_)
 refine Aa rfl (E1 bt_128 (.cons (Al rfl <| Ad) rfl (.cons (Ad) rfl .nil)) (.cons rfl rfl (Nat.le_of_ble_eq_true rfl) (.cons (.here) (.cons (.next <| .here) .nil)) (.cons rfl rfl (Nat.le_of_ble_eq_true rfl) (.cons (.next <| .next <| .here) .nil) .nil))) ?_
 refine Bm rfl (B2 (Ad) rfl fun b3 hb3 nb3 => ?_)
 refine Aa rfl (Ae (Ad)) ?_
 refine Aa rfl (Ae Ab) ?_
 refine Ah <| Ac <| Cg (i := 0) rfl hb3 (.here) fun F4 hF5 hz => ?_
 replace hr := hr.mono hF5
 refine A4 <| Es rfl (.tmp (Al rfl <| Ad) (.tmp (Ad) .nil)) (.cons_cons _ <| .cons _ <| .refl _) ?_
 exact ⟨_, _, rfl, ⟨hr, hz⟩, rfl⟩
set_option maxRecDepth 100000 in
theorem open_bad {F : Heap} {vp ve : Value} {ps : List (Value × Edn)} {s : Stm} (hr : StmR F vp ve ps s) (h0 : (checkT s).2.2 ≠ 0) : Ok Try.prog 65 [.agg #[vp, ve]].toArray F fun u _ => u = .tuple #[.pointer none, .int .i64 (checkT s).2.2] := by
 refine Ok.intro Try.func65 rfl Try.ntmps65 rfl fun w0 => ?_
 refine Af <| Ai fun ds => Bm rfl (B2 (Aj rfl) rfl fun b1 hb1 nb1 => ?_)
 refine Aa rfl (Ae Ab) ?_
 refine Aa rfl (Ae Ab) ?_
 refine Ah <| Ac <| Af <| Af <| Ai fun ds => Aa rfl (Bf B0 (Ar rfl <| Ad) rfl rfl (A8 0 rfl)) ?_
 refine Bx rfl (Bi bd_16 A0 (.cons (Ad) .nil) (checkT_ok hr) (fun _ _ h => h.trans (show checkTV s = .tuple #[.int .i64 (checkT s).1, .int .i64 (checkT s).2.1, .int .i64 (checkT s).2.2] from rfl))) ?_
 refine Aa rfl (Ag (Ad)) ?_
 refine Aa rfl (A1 (Ad) rfl) ?_
 refine Aa rfl (A1 (Al rfl <| Ad) rfl) ?_
 refine Aa rfl (A1 (Ar rfl <| Ad) rfl) ?_
 refine Aa rfl (Ae (Ar rfl <| Ad)) ?_
 refine Aa rfl (Ae (Ar rfl <| Ad)) ?_
 refine Aa rfl (Ae (Ar rfl <| Ad)) ?_
 refine Ah <| Ac <| Af <| Ai fun ds => Aa rfl (Ag (Ad)) ?_
 refine Aa rfl (By (Ad) Ab) ?_
 refine Ah <| Ac <| Aq (Ad) (decide_eq_true h0) ?_
 refine Af <| Ai fun ds => Aa rfl (Ag (Ar rfl <| Ad)) ?_
 refine Aa rfl (Ae Ab) ?_
 refine Aa rfl (Ae (Al rfl <| Ad)) ?_
 refine Ah <| Ac <| A4 <| Bg ?_
 refine Ax rfl (.tmp (Al rfl <| Ad) (.tmp (Ad) .nil)) ?_
 rfl
set_option maxRecDepth 100000 in
theorem apart_ok {F : Heap} {b : Nat} {vp ve vm : Value} {ps : List (Value × Edn)} {s : Stm} (hX : StmX F b vp ve vm ps s) (hv : ValidT s) {a c : Nat} (ha : a < s.editions.length) (hb : c < s.editions.length) : Ok Try.prog 66 [.pointer (some ⟨b, 0, none⟩), .int .i64 (a : Int), .int .i64 (c : Int)].toArray F fun u F' => Nats F' u (apartL s a c) := by
 refine Ok.intro Try.func66 rfl Try.ntmps66 rfl fun w0 => ?_
 have hap : a < ps.length := by rw [hX.r.len]; exact ha
 have hbp : c < ps.length := by rw [hX.r.len]; exact hb
 have hL := hv.np
 have hL1 := hX.r.places.plain.lt
 refine Af <| Ai fun ds => Aa rfl (Ae Ab) ?_
 refine Ah <| Ac <| Af <| Af <| Ai fun ds => Aa rfl (Ag (Al rfl <| Aj rfl)) ?_
 refine Aa rfl (B3 (Ad)) ?_
 refine Aa rfl (Ao Cd (Ad)) ?_
 refine Aa rfl (Ao Co (Ad)) ?_
 refine Aa rfl (Ap Cy (Ad) (CellF.own hX.blk rfl).cell) ?_
 refine Aa rfl (Bk C9 (Ad) hX.r.places.plain) ?_
 refine Aa rfl (Ag Ab) ?_
 refine Ah <| Ac <| Az <| Bu [6, 7, 8, 9, 16, 17, 18, 19, 20, 21, 22, 23, 24, 25, 26, 27, 28, 29, 30, 31, 32, 33, 34, 35, 36, 37, 38, 39, 40, 41, 42, 43, 44, 45, 46, 47, 48, 49, 50, 51, 52, 53, 54, 55, 56] (fun m e σ => ∃ k : Nat, m + k = s.places.length ∧ e 16 = .int .i64 (k : Int) ∧ ∃ v6 R6, e 6 = v6 ∧ Own 3 1 v6 (selN (differB s a c) k).length ((selN (differB s a c) k).flatMap natE) R6 ∧ σ = ⟨F, R6⟩) (s.places.length) ?_ ?_
 · exact ⟨0, by omega, (Ad), _, _, (Ay rfl <| Ar rfl <| Al rfl <| Ad), Own.nil, rfl⟩
 ·
  rintro m e _ ⟨k, hm, hs16, v6, R6, hs6, ho, rfl⟩; have hsl := Dq (p := differB s a c) (k := k)
  by_cases hlt : k < s.places.length
  ·
   have hpa : k < (s.ed a).rd.length := by rw [hv.rdl a ha]; exact hlt
   have hpb : k < (s.ed c).rd.length := by rw [hv.rdl c hb]; exact hlt
   have hra := hX.r.rd hap
   have hrb := hX.r.rd hbp
   have hd3 := differ_mul hv ha hb hlt
   have e1 := C3 hpa
   have e2 := C3 hpb
   have k1 := hv.rd a k ha hlt
   have k2 := hv.rd c k hb hlt
   have k3 : 0 ≤ s.r a k * s.r c k ∧ s.r a k * s.r c k ≤ 9 := ⟨Int.mul_nonneg k1.1 k2.1, Int.le_trans (Int.mul_le_mul_of_nonneg_left k2.2 k1.1) (by omega)⟩
   refine Af <| Ai fun ds => Aa rfl (Bw (As rfl hs16) (Ak rfl <| Al rfl <| Ad)) ?_
   refine Ah <| Ac <| Af <| Aq (Ad) (by first | rfl | exact decide_eq_true (by omega)) ?_
   by_cases hne : s.r a k ≠ s.r c k
   ·
    refine Aw <| Ac <| Af <| Az <| Af <| Ai fun ds => Aa rfl (Ag (Al rfl <| As rfl hs16)) ?_
    refine Aa rfl (Ae (Ad)) ?_
    refine Ah <| Ac <| Af <| Cu (.inl rfl) (fun _ _ h => h) (by kernel_rfl) (by kernel_rfl) fun ds => ?_
    refine Bc rfl (Ag (Ar rfl <| Al rfl <| Ak rfl <| A6 rfl <| Aj rfl)) ?_
    refine Bc rfl (B3 (Ad)) ?_
    refine Bc rfl (Ao Cd (Ad)) ?_
    refine Bc rfl (Ao Bv (Ad)) ?_
    refine Bc rfl (Ap Bz (Ad) (CellF.own hX.blk rfl).cell) ?_
    refine Bc rfl (Ag (A6 rfl <| Ak rfl <| A6 rfl <| Aj rfl)) ?_
    refine Bc rfl (A9 (k := a) B5 (Al rfl <| Ad) hX.r.eds.plain (Ad) rfl hap) ?_
    refine Bc rfl (Bo Ca (Ad)) ?_
    refine Bc rfl (Ap Cb (Ad) (hX.r.eds.cell hap rfl)) ?_
    refine Bc rfl (Ag (A6 rfl <| Al rfl <| Ad)) ?_
    refine Bc rfl (A9 (k := k) Be (Al rfl <| Ad) hra.plain (Ad) rfl hpa) ?_
    refine Bc rfl (Ap Bj (Ad) (hra.cell1 hpa rfl)) ?_
    refine Bc rfl (Ag (A6 rfl <| Ay rfl <| Ar rfl <| Al rfl <| Ak rfl <| A6 rfl <| Aj rfl)) ?_
    refine Bc rfl (B3 (Ad)) ?_
    refine Bc rfl (Ao Cd (Ad)) ?_
    refine Bc rfl (Ao Bv (Ad)) ?_
    refine Bc rfl (Ap Bz (Ad) (CellF.own hX.blk rfl).cell) ?_
    refine Bc rfl (Ag (A3 rfl <| Ay rfl <| Ak rfl <| A6 rfl <| Aj rfl)) ?_
    refine Bc rfl (A9 (k := c) B5 (Al rfl <| Ad) hX.r.eds.plain (Ad) rfl hbp) ?_
    refine Bc rfl (Bo Ca (Ad)) ?_
    refine Bc rfl (Ap Cb (Ad) (hX.r.eds.cell hbp rfl)) ?_
    refine Bc rfl (Ag (A3 rfl <| Ay rfl <| Al rfl <| Ad)) ?_
    refine Bc rfl (A9 (k := k) Be (Al rfl <| Ad) hrb.plain (Ad) rfl hpb) ?_
    refine Bc rfl (Ap Bj (Ad) (hrb.cell1 hpb rfl)) ?_
    refine Bc rfl (Ae (A6 rfl <| Ay rfl <| Ad)) ?_
    refine Bc rfl (Ae (Al rfl <| Ad)) ?_
    refine C4 ?_
    refine Ac <| Af <| Ai fun ds => Aa rfl (Ag (Al rfl <| Ad)) ?_
    refine Aa rfl (Ag (Al rfl <| Ad)) ?_
    refine Aa rfl (By (Al rfl <| Ad) (Ad)) ?_
    refine Aa rfl (Ag (Ad)) ?_
    refine Au rfl rfl (Ad) (by rw [e1, e2]; exact decide_eq_true hne) ?_
    refine Aa rfl (Ag (Ay rfl <| Al rfl <| Ad)) ?_
    refine Au rfl rfl (Al rfl <| Ad) (by rw [e1, e2]; exact decide_eq_true hne) ?_
    refine Aa rfl (Ag (Ay rfl <| Al rfl <| Ad)) ?_
    refine Au rfl rfl (Ar rfl <| Ad) (by rw [e1, e2]; exact decide_eq_true hne) ?_
    refine Aa rfl (q_mul (Al rfl <| Ad) (Ad) rfl (by rw [e1, e2]; omega) (by rw [e1, e2]; omega)) ?_
    refine Au rfl rfl (Ar rfl <| Al rfl <| Ad) (by rw [e1, e2]; exact decide_eq_true hne) ?_
    refine Aa rfl (De (Ad) Ab) ?_
    refine Aa rfl (A2 (Ay rfl <| Ad) (by rw [e1, e2]; exact decide_eq_true hne) (Ad)) ?_
    refine Ah <| Ac ?_
    by_cases hp : 0 < s.r a k * s.r c k
    ·
     refine Aq (Ad) (by rw [e1, e2]; exact decide_eq_true hp) ?_
     refine Ai fun ds => Aa rfl (Ag (Bp rfl <| Ay rfl <| Ar rfl <| As rfl hs6)) ?_
     refine Aa rfl (Ag (Bp rfl <| Ay rfl <| Ad)) ?_
     refine Bm rfl (B6 Be Da rfl (.cons (Ad) .nil) rfl rfl (by decide) (by simp [Value.oneCell']) fun b2 hb2 nb2 => ?_)
     refine Bm rfl (B9 Be el_3 (Ar rfl <| Ad) ho (Ad) (Dd (s := 1) 0 rfl rfl (by simp [Value.oneCell'])) (by omega) (by omega) (.s <| .z) .last fun v3 R4 ho5 => ?_)
     have ho2 := ho5.snoc (x := k) rfl rfl
     refine Aa rfl (Ae (Ad)) ?_
     refine Ah <| Bb <| Ac <| C5 (fun _ _ h => h.drop (.cons _ <| .refl _)) ?_
     refine Ai fun ds => Aa rfl (Br (Bp rfl <| A6 rfl <| Ar rfl <| Al rfl <| As rfl hs16) Ab rfl (by omega) (by omega)) ?_
     refine Aa rfl (Ag (Ad)) ?_
     refine Ah <| Ac ⟨_, m - 1, Off.eq (ou32 rfl <| Dj rfl <| Dv rfl <| Dk rfl <| Bd), by omega, ?_⟩
     exact ⟨k + 1, by omega, (Ad), _, _, (Ar rfl <| Ad), by rw [D0, if_pos (hd3.1 ⟨hne, hp⟩)]; exact ho2, rfl⟩
    ·
     refine Am (Ad) (by rw [e1, e2]; exact decide_eq_false hp) ?_
     refine Aw <| Bb <| Ac <| Ai fun ds => Aa rfl (Br (Bp rfl <| Ay rfl <| Ar rfl <| As rfl hs16) Ab rfl (by omega) (by omega)) ?_
     refine Aa rfl (Ag (Ad)) ?_
     refine Ah <| Ac ⟨_, m - 1, Off.eq (ou32 rfl <| Dj rfl <| Bd), by omega, ?_⟩
     exact ⟨k + 1, by omega, (Ad), _, _, (Bp rfl <| A6 rfl <| As rfl hs6), by rw [D0, if_neg (fun h => hp (hd3.2 h).2)]; exact ho, rfl⟩
   ·
    refine Aw <| Ac <| Af <| Az <| Af <| Ai fun ds => Aa rfl (Ag (Al rfl <| As rfl hs16)) ?_
    refine Aa rfl (Ae (Ad)) ?_
    refine Ah <| Ac <| Af <| Cu (.inl rfl) (fun _ _ h => h) (by kernel_rfl) (by kernel_rfl) fun ds => ?_
    refine Bc rfl (Ag (Ar rfl <| Al rfl <| Ak rfl <| A6 rfl <| Aj rfl)) ?_
    refine Bc rfl (B3 (Ad)) ?_
    refine Bc rfl (Ao Cd (Ad)) ?_
    refine Bc rfl (Ao Bv (Ad)) ?_
    refine Bc rfl (Ap Bz (Ad) (CellF.own hX.blk rfl).cell) ?_
    refine Bc rfl (Ag (A6 rfl <| Ak rfl <| A6 rfl <| Aj rfl)) ?_
    refine Bc rfl (A9 (k := a) B5 (Al rfl <| Ad) hX.r.eds.plain (Ad) rfl hap) ?_
    refine Bc rfl (Bo Ca (Ad)) ?_
    refine Bc rfl (Ap Cb (Ad) (hX.r.eds.cell hap rfl)) ?_
    refine Bc rfl (Ag (A6 rfl <| Al rfl <| Ad)) ?_
    refine Bc rfl (A9 (k := k) Be (Al rfl <| Ad) hra.plain (Ad) rfl hpa) ?_
    refine Bc rfl (Ap Bj (Ad) (hra.cell1 hpa rfl)) ?_
    refine Bc rfl (Ag (A6 rfl <| Ay rfl <| Ar rfl <| Al rfl <| Ak rfl <| A6 rfl <| Aj rfl)) ?_
    refine Bc rfl (B3 (Ad)) ?_
    refine Bc rfl (Ao Cd (Ad)) ?_
    refine Bc rfl (Ao Bv (Ad)) ?_
    refine Bc rfl (Ap Bz (Ad) (CellF.own hX.blk rfl).cell) ?_
    refine Bc rfl (Ag (A3 rfl <| Ay rfl <| Ak rfl <| A6 rfl <| Aj rfl)) ?_
    refine Bc rfl (A9 (k := c) B5 (Al rfl <| Ad) hX.r.eds.plain (Ad) rfl hbp) ?_
    refine Bc rfl (Bo Ca (Ad)) ?_
    refine Bc rfl (Ap Cb (Ad) (hX.r.eds.cell hbp rfl)) ?_
    refine Bc rfl (Ag (A3 rfl <| Ay rfl <| Al rfl <| Ad)) ?_
    refine Bc rfl (A9 (k := k) Be (Al rfl <| Ad) hrb.plain (Ad) rfl hpb) ?_
    refine Bc rfl (Ap Bj (Ad) (hrb.cell1 hpb rfl)) ?_
    refine Bc rfl (Ae (A6 rfl <| Ay rfl <| Ad)) ?_
    refine Bc rfl (Ae (Al rfl <| Ad)) ?_
    refine C4 ?_
    refine Ac <| Af <| Ai fun ds => Aa rfl (Ag (Al rfl <| Ad)) ?_
    refine Aa rfl (Ag (Al rfl <| Ad)) ?_
    refine Aa rfl (By (Al rfl <| Ad) (Ad)) ?_
    refine Aa rfl (Ag (Ad)) ?_
    refine At rfl rfl (Ad) (.inl (congrArg Value.bool (by rw [e1, e2]; exact decide_eq_false hne))) rfl ?_
    refine At rfl rfl (Al rfl <| Ad) (.inl (congrArg Value.bool (by rw [e1, e2]; exact decide_eq_false hne))) rfl ?_
    refine At rfl rfl (Ar rfl <| Ad) (.inl (congrArg Value.bool (by rw [e1, e2]; exact decide_eq_false hne))) rfl ?_
    refine At rfl rfl (Ar rfl <| Al rfl <| Ad) (.inl (congrArg Value.bool (by rw [e1, e2]; exact decide_eq_false hne))) rfl ?_
    refine Aa rfl (A7 (Ay rfl <| Ad) (by rw [e1, e2]; exact decide_eq_false hne) Ab) ?_
    refine Ah <| Ac <| Am (Ad) rfl ?_
    refine Aw <| Bb <| Ac <| Ai fun ds => Aa rfl (Br (Bp rfl <| Ay rfl <| Ar rfl <| As rfl hs16) Ab rfl (by omega) (by omega)) ?_
    refine Aa rfl (Ag (Ad)) ?_
    refine Ah <| Ac ⟨_, m - 1, Off.eq (ou32 rfl <| Dj rfl <| Bd), by omega, ?_⟩
    exact ⟨k + 1, by omega, (Ad), _, _, (Bp rfl <| A6 rfl <| As rfl hs6), by rw [D0, if_neg (fun h => hne (hd3.2 h).1)]; exact ho, rfl⟩
  ·
   refine Af <| Ai fun ds => Aa rfl (Bw (As rfl hs16) (Ak rfl <| Al rfl <| Ad)) ?_
   refine Ah <| Ac <| Af <| Am (Ad) (by first | rfl | exact decide_eq_false (by omega)) ?_
   obtain rfl : k = s.places.length := by omega
   refine Cw (σ := ⟨_, _⟩) (by rfl) ho (.z) .last fun F6 hF7 hz8 => ?_
   have hn2 := ho.sl (fun _ => rfl) hz8 (by omega)
   refine Bn ?_
   refine Ba <| Ba <| Bh <| Ac <| Af <| Ai fun ds => Aa rfl (Ag (Al rfl <| As rfl hs6)) ?_
   refine Aa rfl (Ae (Ad)) ?_
   refine Ah <| Ac <| A4 <| Ax rfl (.tmp (Ad) .nil) ?_
   exact hn2
end Go.Proofs.Ytccogmkhijgelaa
namespace Go.Proofs.Ytccogmkhijgelaa
open Go.RowKit
theorem bd_17 : Body Try.prog 17 := Bq (by kernel_rfl)
theorem bd_65 : Body Try.prog 65 := Bq (by kernel_rfl)
theorem bd_66 : Body Try.prog 66 := Bq (by kernel_rfl)
theorem bd_67 : Body Try.prog 67 := Bq (by kernel_rfl)
set_option maxRecDepth 100000 in
theorem apart_top_ok {F : Heap} {vp ve : Value} {ps : List (Value × Edn)} {s : Stm} (hr : StmR F vp ve ps s) (a b : Int) : Ok Try.prog 18 [.agg #[vp, ve], .int .i64 a, .int .i64 b].toArray F fun u F' => NatsR F' u (apartE s a b) := by
 refine Ok.intro Try.func18 rfl Try.ntmps18 rfl fun w0 => ?_
 have hL := hr.eds.plain.lt
 have hlen := hr.len
 by_cases h0 : (checkT s).2.2 = 0
 ·
  have hv := Ea h0
  by_cases h1 : inB 0 (s.editions.length - 1) a = true
  ·
   by_cases h2 : inB 0 (s.editions.length - 1) b = true
   ·
    have h3 := eds_ok h0 h1 h2
    obtain ⟨i, rfl, hi⟩ := inB_nat h1
    obtain ⟨j, rfl, hj⟩ := inB_nat h2
    refine Af <| Ai fun ds => Bm rfl (B2 (Aj rfl) rfl fun b1 hb1 nb1 => ?_)
    refine Aa rfl (Ae Ab) ?_
    refine Aa rfl (Ae Ab) ?_
    refine Ah <| Ac <| Af <| Ai fun ds => Aa rfl (Bf B0 (Ar rfl <| Ad) rfl rfl (A8 0 rfl)) ?_
    refine Bm rfl (D1 bd_65 A0 (.cons (Ad) .nil) (open_ok hr h0) fun v2 F3 R6 hr4 hF5 => ?_)
    replace hr := hr.mono hF5
    obtain ⟨ba, kb, rfl, hX, rfl⟩ := hr4
    refine Aa rfl (Ag (Ad)) ?_
    refine Aa rfl (A1 (Ad) rfl) ?_
    refine Aa rfl (A1 (Al rfl <| Ad) rfl) ?_
    refine Aa rfl (Ae (Al rfl <| Ad)) ?_
    refine Aa rfl (Ae (Al rfl <| Ad)) ?_
    refine Ah <| Ac <| Af <| Az <| Af <| Ai fun ds => Aa rfl (Ag (Ad)) ?_
    refine Aa rfl (By (Ad) Ab) ?_
    refine Aa rfl (Ae (Ad)) ?_
    refine Ah <| Ac <| Am (Ad) (by decide) ?_
    refine Af <| Ai fun ds => Aa rfl (Ao Bv (A6 rfl <| Ay rfl <| Ad)) ?_
    refine Aa rfl (Ap Bz (Ad) (Cell.own 0 rfl rfl)) ?_
    refine Aa rfl (Bk B5 (Ad) hr.eds.plain) ?_
    refine Aa rfl (D2 (Ad) Ab rfl (by omega) (by omega)) ?_
    refine Aa rfl (Ag (A3 rfl <| Al rfl <| Aj rfl)) ?_
    refine Aa rfl (Ag (A3 rfl <| Ar rfl <| Aj rfl)) ?_
    refine Bm rfl (B6 Be Da rfl (.cons (Al rfl <| Ad) (.cons (Ad) .nil)) rfl rfl (by decide) (by simp [Value.oneCell']) fun b7 hb7 nb7 => ?_)
    refine B8 (i := 0) rfl hb7 .here fun F8 hF9 hz10 => ?_
    replace hX := hX.mono hF9
    have hsl11 := ints_box2 hz10
    refine Bx rfl (Bi Ei A0 (.cons Ab (.cons (Ar rfl <| Al rfl <| Ad) (.cons (Ad) .nil))) (Ck _ _ hsl11) (fun _ _ h => h)) ?_
    refine Aa rfl (Ae (Ad)) ?_
    refine Ah <| Ac <| Am (Ad) (by simp [hlen, h1, h2]) ?_
    refine Aw <| Bb <| Ac <| Af <| Ai fun ds => Aa rfl (Ag (A6 rfl <| Ay rfl <| Al rfl <| Ad)) ?_
    refine Aa rfl (Ag (A3 rfl <| Ay rfl <| Ar rfl <| Al rfl <| Aj rfl)) ?_
    refine Aa rfl (Ag (A3 rfl <| A6 rfl <| Aj rfl)) ?_
    refine Bm rfl (Ch bd_66 A0 (.cons (Ar rfl <| Ad) (.cons (Al rfl <| Ad) (.cons (Ad) .nil))) (apart_ok hX hv hi hj) fun v12 F13 hr14 hF15 => ?_)
    have hap := hr14
    refine Aa rfl (Ae (Ad)) ?_
    refine Aa rfl (Ae Ab) ?_
    refine Ah <| Ac <| A4 <| Ax rfl (.tmp (Al rfl <| Ad) (.tmp (Ad) .nil)) ?_
    rw [apartE_ok h3]
    exact ⟨_, rfl, hap⟩
   ·
    replace h2 : inB 0 (s.editions.length - 1) b = false := by simpa using h2
    refine Af <| Ai fun ds => Bm rfl (B2 (Aj rfl) rfl fun b16 hb16 nb16 => ?_)
    refine Aa rfl (Ae Ab) ?_
    refine Aa rfl (Ae Ab) ?_
    refine Ah <| Ac <| Af <| Ai fun ds => Aa rfl (Bf B0 (Ar rfl <| Ad) rfl rfl (A8 0 rfl)) ?_
    refine Bm rfl (D1 bd_65 A0 (.cons (Ad) .nil) (open_ok hr h0) fun v17 F18 R21 hr19 hF20 => ?_)
    replace hr := hr.mono hF20
    obtain ⟨ba, kb, rfl, hX, rfl⟩ := hr19
    refine Aa rfl (Ag (Ad)) ?_
    refine Aa rfl (A1 (Ad) rfl) ?_
    refine Aa rfl (A1 (Al rfl <| Ad) rfl) ?_
    refine Aa rfl (Ae (Al rfl <| Ad)) ?_
    refine Aa rfl (Ae (Al rfl <| Ad)) ?_
    refine Ah <| Ac <| Af <| Az <| Af <| Ai fun ds => Aa rfl (Ag (Ad)) ?_
    refine Aa rfl (By (Ad) Ab) ?_
    refine Aa rfl (Ae (Ad)) ?_
    refine Ah <| Ac <| Am (Ad) (by decide) ?_
    refine Af <| Ai fun ds => Aa rfl (Ao Bv (A6 rfl <| Ay rfl <| Ad)) ?_
    refine Aa rfl (Ap Bz (Ad) (Cell.own 0 rfl rfl)) ?_
    refine Aa rfl (Bk B5 (Ad) hr.eds.plain) ?_
    refine Aa rfl (D2 (Ad) Ab rfl (by omega) (by omega)) ?_
    refine Aa rfl (Ag (A3 rfl <| Al rfl <| Aj rfl)) ?_
    refine Aa rfl (Ag (A3 rfl <| Ar rfl <| Aj rfl)) ?_
    refine Bm rfl (B6 Be Da rfl (.cons (Al rfl <| Ad) (.cons (Ad) .nil)) rfl rfl (by decide) (by simp [Value.oneCell']) fun b22 hb22 nb22 => ?_)
    refine B8 (i := 0) rfl hb22 .here fun F23 hF24 hz25 => ?_
    have hsl26 := ints_box2 hz25
    refine Bx rfl (Bi Ei A0 (.cons Ab (.cons (Ar rfl <| Al rfl <| Ad) (.cons (Ad) .nil))) (Ck _ _ hsl26) (fun _ _ h => h)) ?_
    refine Aa rfl (Ae (Ad)) ?_
    refine Ah <| Ac <| Aq (Ad) (by simp [hlen, h1, h2]) ?_
    refine Af <| Ai fun ds => Aa rfl (Ae Ab) ?_
    refine Aa rfl (Ae Ab) ?_
    refine Ah <| Ac <| A4 <| Bl (Bg ?_)
    refine Ax rfl (.tmp (Al rfl <| Ad) (.tmp (Ad) .nil)) ?_
    rw [apartE_bad (eds_none h0 (by simp [h1, h2])) (by decide)]
    exact ⟨_, rfl, Sl.nil⟩
  ·
   replace h1 : inB 0 (s.editions.length - 1) a = false := by simpa using h1
   refine Af <| Ai fun ds => Bm rfl (B2 (Aj rfl) rfl fun b27 hb27 nb27 => ?_)
   refine Aa rfl (Ae Ab) ?_
   refine Aa rfl (Ae Ab) ?_
   refine Ah <| Ac <| Af <| Ai fun ds => Aa rfl (Bf B0 (Ar rfl <| Ad) rfl rfl (A8 0 rfl)) ?_
   refine Bm rfl (D1 bd_65 A0 (.cons (Ad) .nil) (open_ok hr h0) fun v28 F29 R32 hr30 hF31 => ?_)
   replace hr := hr.mono hF31
   obtain ⟨ba, kb, rfl, hX, rfl⟩ := hr30
   refine Aa rfl (Ag (Ad)) ?_
   refine Aa rfl (A1 (Ad) rfl) ?_
   refine Aa rfl (A1 (Al rfl <| Ad) rfl) ?_
   refine Aa rfl (Ae (Al rfl <| Ad)) ?_
   refine Aa rfl (Ae (Al rfl <| Ad)) ?_
   refine Ah <| Ac <| Af <| Az <| Af <| Ai fun ds => Aa rfl (Ag (Ad)) ?_
   refine Aa rfl (By (Ad) Ab) ?_
   refine Aa rfl (Ae (Ad)) ?_
   refine Ah <| Ac <| Am (Ad) (by decide) ?_
   refine Af <| Ai fun ds => Aa rfl (Ao Bv (A6 rfl <| Ay rfl <| Ad)) ?_
   refine Aa rfl (Ap Bz (Ad) (Cell.own 0 rfl rfl)) ?_
   refine Aa rfl (Bk B5 (Ad) hr.eds.plain) ?_
   refine Aa rfl (D2 (Ad) Ab rfl (by omega) (by omega)) ?_
   refine Aa rfl (Ag (A3 rfl <| Al rfl <| Aj rfl)) ?_
   refine Aa rfl (Ag (A3 rfl <| Ar rfl <| Aj rfl)) ?_
   refine Bm rfl (B6 Be Da rfl (.cons (Al rfl <| Ad) (.cons (Ad) .nil)) rfl rfl (by decide) (by simp [Value.oneCell']) fun b33 hb33 nb33 => ?_)
   refine B8 (i := 0) rfl hb33 .here fun F34 hF35 hz36 => ?_
   have hsl37 := ints_box2 hz36
   refine Bx rfl (Bi Ei A0 (.cons Ab (.cons (Ar rfl <| Al rfl <| Ad) (.cons (Ad) .nil))) (Ck _ _ hsl37) (fun _ _ h => h)) ?_
   refine Aa rfl (Ae (Ad)) ?_
   refine Ah <| Ac <| Aq (Ad) (by simp [hlen, h1]) ?_
   refine Af <| Ai fun ds => Aa rfl (Ae Ab) ?_
   refine Aa rfl (Ae Ab) ?_
   refine Ah <| Ac <| A4 <| Bl (Bg ?_)
   refine Ax rfl (.tmp (Al rfl <| Ad) (.tmp (Ad) .nil)) ?_
   rw [apartE_bad (eds_none h0 (by simp [h1])) (by decide)]
   exact ⟨_, rfl, Sl.nil⟩
 ·
  refine Af <| Ai fun ds => Bm rfl (B2 (Aj rfl) rfl fun b38 hb38 nb38 => ?_)
  refine Aa rfl (Ae Ab) ?_
  refine Aa rfl (Ae Ab) ?_
  refine Ah <| Ac <| Af <| Ai fun ds => Aa rfl (Bf B0 (Ar rfl <| Ad) rfl rfl (A8 0 rfl)) ?_
  refine Bx rfl (Bi bd_65 A0 (.cons (Ad) .nil) (open_bad hr h0) (fun _ _ h => h)) ?_
  refine Aa rfl (Ag (Ad)) ?_
  refine Aa rfl (A1 (Ad) rfl) ?_
  refine Aa rfl (A1 (Al rfl <| Ad) rfl) ?_
  refine Aa rfl (Ae (Al rfl <| Ad)) ?_
  refine Aa rfl (Ae (Al rfl <| Ad)) ?_
  refine Ah <| Ac <| Af <| Az <| Af <| Ai fun ds => Aa rfl (Ag (Ad)) ?_
  refine Aa rfl (By (Ad) Ab) ?_
  refine Aa rfl (Ae (Ad)) ?_
  refine Ah <| Ac <| Aq (Ad) (decide_eq_true h0) ?_
  refine Af <| Ai fun ds => Aa rfl (Ag (Ar rfl <| Al rfl <| Ad)) ?_
  refine Aa rfl (Ae Ab) ?_
  refine Aa rfl (Ae (Al rfl <| Ad)) ?_
  refine Ah <| Ac <| A4 <| Bl (Bg ?_)
  refine Ax rfl (.tmp (Al rfl <| Ad) (.tmp (Ad) .nil)) ?_
  rw [apartE_bad (eds_bad h0) h0]
  exact ⟨_, rfl, Sl.nil⟩
end Go.Proofs.Ytccogmkhijgelaa
namespace Go.Proofs.Ytccogmkhijgelaa
def upN (l : List Int) (i : Nat) : Int := l[i]?.getD 0
theorem C8 {l : List Int} {i : Nat} (h : i < l.length) : l[i] = upN l i := by simp [upN, h]
/-- Each entry is one of the editions, or none. -/
def TreeIn (l : List Int) : Prop := ∀ i, i < l.length → -1 ≤ upN l i ∧ upN l i < l.length
theorem TreeIn.nat {l : List Int} (h : TreeIn l) {i : Nat} (hi : i < l.length) (hne : upN l i ≠ -1) : ∃ j : Nat, upN l i = (j : Int) ∧ j < l.length := by
 have := h i hi
 obtain ⟨j, hj⟩ := Int.eq_ofNat_of_zero_le (show 0 ≤ upN l i by omega)
 exact ⟨j, hj, by omega⟩
/-- So many steps lead to a first one. -/
def reach (l : List Int) : Nat → Nat → Bool
 | 0, at_ => decide (upN l at_ = -1)
 | f + 1, at_ => decide (upN l at_ = -1) || reach l f (upN l at_).toNat
theorem Ec {l : List Int} {f i : Nat} (h : upN l i = -1) : reach l f i = true := by cases f <;> simp [reach, h]
theorem reach_zero {l : List Int} {i : Nat} (h : upN l i ≠ -1) : reach l 0 i = false := by simp [reach, h]
theorem D6 {l : List Int} {f i j : Nat} (h : upN l i = (j : Int)) : reach l (f + 1) i = reach l f j := by
 have : upN l i ≠ -1 := by omega
 simp only [reach, decide_eq_false this, Bool.false_or]
 rw [h]; rfl
def firstsN (l : List Int) : Nat → Int
 | 0 => 0
 | k + 1 => if upN l k = -1 then firstsN l k + 1 else firstsN l k
theorem E4 {l : List Int} : ∀ k, 0 ≤ firstsN l k ∧ firstsN l k ≤ k
 | 0 => by simp [firstsN]
 | k + 1 => by have := E4 (l := l) k; unfold firstsN; split <;> omega
def isT (l : List Int) : Bool := (List.range l.length).all (reach l l.length) && decide (firstsN l l.length = 1)
theorem isT_no {l : List Int} {k : Nat} (hk : k < l.length) (h : reach l l.length k = false) : isT l = false := by
 unfold isT
 rw [show (List.range l.length).all (reach l l.length) = false from List.all_eq_false.2 ⟨k, by simpa using hk, by rw [h]; simp⟩, Bool.false_and]
theorem isT_all {l : List Int} (h : ∀ k, k < l.length → reach l l.length k = true) : isT l = decide (firstsN l l.length = 1) := by
 unfold isT
 rw [show (List.range l.length).all (reach l l.length) = true from List.all_eq_true.2 fun k hk => h k (by simpa using hk), Bool.true_and]
/-- The cells of an array that holds a tree. -/
def treeC (l : List Int) : List Go.Value := (List.range 5).map fun i => .int .i64 (upN l i)
theorem Cl {l : List Int} {i : Nat} (h : i < 5) : (treeC l)[0 + i * 1]? = some (.int .i64 (upN l i)) := by
 rw [show 0 + i * 1 = i by omega]; simp [treeC, h]
def treeV (l : List Int) : Go.Value := .agg (treeC l).toArray
end Go.Proofs.Ytccogmkhijgelaa
