/-
  A part of a proof: TopDated returns true of any case of paper, any stem and any past, and leaves what it is handed as it was. No conditions.
-/
import Derived.Test.YtkjfmibiinfhfabGreatPaa
import Derived.Maps.Keyed
import Derived.DeepKeys4
import Derived.Test.YtkjfmibiinfhfabGreatRows
import Derived.WalkKit
import Derived.OpenShut
import Derived.ShutString
import Derived.ChangeOld
import Derived.Below
import Derived.Test.YtkjfmibiinfhfabGreatProg
namespace Go.Proofs.YtkjfmibiinfhfabGreat
set_option synthInstance.maxSize 4000
set_option synthInstance.maxHeartbeats 1000000
section
open Go.RowKit
def cmpZ (a b : Int) : Int := if a < b then -1 else if b < a then 1 else 0
def cmpL : List Nat → List Nat → Int
 | [], [] => 0
 | [], _ :: _ => -1
 | _ :: _, [] => 1
 | a :: as1, b :: bs => if a < b then -1 else if b < a then 1 else cmpL as1 bs
theorem Ul {a : Nat} {as1 bs : List Nat} : cmpL (a :: as1) (a :: bs) = cmpL as1 bs := by
 simp [cmpL]
theorem GN : ∀ (k : Nat) {xs ys : List Nat}, k ≤ xs.length → k ≤ ys.length → xs.take k = ys.take k → cmpL xs ys = cmpL (xs.drop k) (ys.drop k)
 | 0, _, _, _, _, _ => rfl
 | k + 1, [], _, h, _, _ => by simp at h
 | k + 1, _ :: _, [], _, h, _ => by simp at h
 | k + 1, x :: xs, y :: ys, h1, h2, h => by
   simp only [List.take_succ_cons, List.cons.injEq] at h
   obtain ⟨rfl, h⟩ := h
   rw [Ul, GN k (by simpa using h1) (by simpa using h2) h]
   rfl
theorem Um {k : Nat} {xs ys : List Nat} (h1 : k < xs.length) (h2 : ys.length = k) (h : xs.take k = ys.take k) : cmpL xs ys = 1 := by
 rw [GN k (by omega) (by omega) h, List.drop_eq_getElem_cons h1, show ys.drop k = [] from List.drop_of_length_le (by omega)]
 rfl
theorem Nr {xs ys : List Nat} (h1 : xs.length ≤ ys.length) (h : xs.take xs.length = ys.take xs.length) : cmpL xs ys = if xs.length < ys.length then -1 else 0 := by
 rw [GN xs.length (by omega) h1 h, List.drop_of_length_le (Nat.le_refl _)]
 by_cases h2 : xs.length < ys.length
 · rw [if_pos h2, List.drop_eq_getElem_cons h2]; rfl
 rw [if_neg h2, List.drop_of_length_le (by omega)]; rfl
theorem cmpL_at {k : Nat} {xs ys : List Nat} (h1 : k < xs.length) (h2 : k < ys.length) (h : xs.take k = ys.take k) (hne : cmpZ xs[k] ys[k] ≠ 0) : cmpL xs ys = cmpZ xs[k] ys[k] := by
 rw [GN k (by omega) (by omega) h, List.drop_eq_getElem_cons h1, List.drop_eq_getElem_cons h2]
 show (if xs[k] < ys[k] then (-1 : Int) else if ys[k] < xs[k] then 1 else _) = _
 unfold cmpZ at hne ⊢
 by_cases ha : xs[k] < ys[k]
 · rw [if_pos ha, if_pos (by omega)]
 rw [if_neg ha]
 rw [if_neg (show ¬ (xs[k] : Int) < ys[k] by omega)] at hne ⊢
 by_cases hb : ys[k] < xs[k]
 · rw [if_pos hb, if_pos (by omega)]
 rw [if_neg (show ¬ (ys[k] : Int) < xs[k] by omega)] at hne; exact absurd rfl hne
theorem Uk {a b : Int} (h : cmpZ a b = 0) : a = b := by
 unfold cmpZ at h
 split at h
 · cases h
 split at h
 · cases h
 omega
theorem Fq {α : Type} {k : Nat} {xs ys : List α} (h1 : k < xs.length) (h2 : k < ys.length) (h : xs.take k = ys.take k) (he : xs[k] = ys[k]) : xs.take (k + 1) = ys.take (k + 1) := by
 rw [List.take_succ_eq_append_getElem h1, List.take_succ_eq_append_getElem h2, h, he]
theorem LM {α : Type} {xs ys : List α} (hl : xs.length = ys.length) (h : xs.take xs.length = ys.take xs.length) : xs = ys := by
 rw [List.take_length] at h
 rw [h, hl, List.take_length]
theorem ne_at {α : Type} {k : Nat} {xs ys : List α} (h1 : k < xs.length) (h2 : k < ys.length) (he : xs[k] ≠ ys[k]) : xs ≠ ys := by
 rintro rfl; exact he rfl
end
section
open Go.RowKit
@[reducible] def spanE (p : Int × Int) : List Value := [.int .i64 p.1, .int .i64 p.2]
end
section
open Go.RowKit
theorem RoomR.ones {F : Heap} {vb vr vs vq : Value} {r : Room} (h : RoomR F vb vr vs vq r) : ∀ u ∈ [vb, vr, vs, vq], u.oneCell' = true := by
 intro u hu
 simp only [List.mem_cons, List.not_mem_nil, or_false] at hu
 rcases hu with rfl | rfl | rfl | rfl
 · exact h.books.plain.one
 · exact h.readers.plain.one
 · exact h.seats.plain.one
 exact h.reqs.plain.one
section
variable {P : Program} {n : Nat} {B : Base} {e : Env} {σ : St}
end
end
section
open Go.RowKit
@[reducible] def slE (p : Value × List Nat) : List Value := [p.1]
def Lsts (F : Heap) (v : Value) (ls : List (List Nat)) : Prop := ∃ ps : List (Value × List Nat), Sl F v 1 slE ps ∧ (∀ p ∈ ps, Nats F p.1 p.2) ∧ ps.map (·.2) = ls
theorem Lsts.mono {F F' : Heap} {v : Value} {ls : List (List Nat)} (h : Lsts F v ls) (hF : F.le F') : Lsts F' v ls := by
 obtain ⟨ps, h1, h2, h3⟩ := h
 exact ⟨ps, h1.mono hF, fun p hp => (h2 p hp).mono hF, h3⟩
def AllN (F : Heap) (ps : List (Value × List Nat)) : Prop := ∀ p ∈ ps, Nats F p.1 p.2
theorem AllN.mono {F F' : Heap} {ps : List (Value × List Nat)} (h : AllN F ps) (hF : F.le F') : AllN F' ps := fun p hp => (h p hp).mono hF
def picked (l p : List Nat) : List Nat := p.map fun i => l[i]?.getD 0
variable {r : Room} {l : List Nat} {x : Int} {q : Nat}
end
section
structure Plc where
 name : ByteArray
 kind : Int
structure Edn where
 name : ByteArray
 lo : Int
 hi : Int
 rd : List Int
structure Stm where
 places : List Plc
 editions : List Edn
@[reducible] def Plc.enc (x : Plc) : List Go.Value := [.string x.name, .int .i64 x.kind]
theorem Plc.enc_one {b : Plc} : ∀ u ∈ b.enc, u.oneCell' = true := by simp [Plc.enc, Value.oneCell']
@[reducible] def edE (p : Go.Value × Edn) : List Go.Value := [.string p.2.name, .int .i64 p.2.lo, .int .i64 p.2.hi, p.1]
structure StmR (F : Heap) (vp ve : Go.Value) (ps : List (Go.Value × Edn)) (s : Stm) : Prop where
 places : Sl F vp 2 Plc.enc s.places
 eds : Sl F ve 4 edE ps
 rds : ∀ p ∈ ps, Ints F p.1 p.2.rd
 eqs : ps.map (·.2) = s.editions
theorem StmR.mono {F F' : Heap} {vp ve : Go.Value} {ps : List (Go.Value × Edn)} {s : Stm} (h : StmR F vp ve ps s) (hF : F.le F') : StmR F' vp ve ps s :=
 ⟨h.places.mono hF, h.eds.mono hF, fun p hp => (h.rds p hp).mono hF, h.eqs⟩
def Stm.ed (s : Stm) (i : Nat) : Edn := s.editions[i]?.getD ⟨ByteArray.empty, 0, 0, []⟩
def Stm.pl (s : Stm) (i : Nat) : Plc := s.places[i]?.getD ⟨ByteArray.empty, 0⟩
theorem ed_at {s : Stm} {i : Nat} (h : i < s.editions.length) : s.editions[i] = s.ed i := by simp [Stm.ed, h]
theorem DA {s : Stm} {i : Nat} (h : i < s.places.length) : s.places[i] = s.pl i := by simp [Stm.pl, h]
theorem StmR.len {F : Heap} {vp ve : Go.Value} {ps : List (Go.Value × Edn)} {s : Stm} (h : StmR F vp ve ps s) : ps.length = s.editions.length := by rw [← h.eqs, List.length_map]
theorem StmR.at {F : Heap} {vp ve : Go.Value} {ps : List (Go.Value × Edn)} {s : Stm} (h : StmR F vp ve ps s) {i : Nat} (hi : i < ps.length) : ps[i].2 = s.ed i := by
 have : i < s.editions.length := by rw [← h.len]; exact hi
 rw [← ed_at this]
 simp [← h.eqs]
theorem StmR.rd {F : Heap} {vp ve : Go.Value} {ps : List (Go.Value × Edn)} {s : Stm} (h : StmR F vp ve ps s) {i : Nat} (hi : i < ps.length) : Ints F ps[i].1 (s.ed i).rd := by rw [← h.at hi]; exact h.rds _ (List.getElem_mem hi)
theorem StmR.one {F : Heap} {vp ve : Go.Value} {ps : List (Go.Value × Edn)} {s : Stm} (h : StmR F vp ve ps s) : ∀ p ∈ ps, p.1.oneCell' = true := fun p hp => (h.rds p hp).plain.one
def plcErr (s : Stm) (i : Nat) : Int := match s.places[i]? with
 | none => 0
 | some x => if nameOk x.name = false then 6 else if (s.places.take i).any (fun y => sameS y.name x.name) = true then 5 else if inB 0 1 x.kind = false then 7 else 0
def ednErr (s : Stm) (x : Edn) : Int := if (inB 1450 1850 x.lo && inB 1450 1850 x.hi) = false then 7 else if x.hi < x.lo then 2 else if x.rd.length ≠ s.places.length then 3 else if (x.rd.any fun z => !(inB 0 3 z)) = true then 7 else 0
def edErr (s : Stm) (i : Nat) : Int := match s.editions[i]? with
 | none => 0
 | some x => if nameOk x.name = false then 6 else if (s.editions.take i).any (fun y => sameS y.name x.name) = true then 5 else ednErr s x
def firstQ (n : Nat) (f : Nat → Int) : Int × Int := match firstBad n f with
 | none => (0, 0)
 | some i => ((i : Int), f i)
theorem B0 {n k : Nat} {f : Nat → Int} (hk : k < n) (hb : ∀ j, j < k → f j = 0) (hne : f k ≠ 0) : firstQ n f = ((k : Int), f k) := by
 unfold firstQ; rw [M6 hk hne hb]
theorem BU {n : Nat} {f : Nat → Int} (hb : ∀ j, j < n → f j = 0) : firstQ n f = (0, 0) := by unfold firstQ; rw [M7 hb]
theorem Ds {n : Nat} {f : Nat → Int} (h : (firstQ n f).2 = 0) : ∀ j, j < n → f j = 0 := by
 unfold firstQ at h
 cases hf : firstBad n f with
 | none => exact Ja hf
 | some i =>
   rw [hf] at h
   unfold firstBad at hf
   have := List.find?_some hf
   simp at this
   exact absurd h this
def checkT (s : Stm) : Int × Int × Int :=
 if inB 1 6 s.places.length = false then (1, 0, 3)
 else if (firstQ s.places.length (plcErr s)).2 ≠ 0 then (1, (firstQ s.places.length (plcErr s)).1, (firstQ s.places.length (plcErr s)).2)
 else if inB 1 5 s.editions.length = false then (2, 0, 3)
 else if (firstQ s.editions.length (edErr s)).2 ≠ 0 then (2, (firstQ s.editions.length (edErr s)).1, (firstQ s.editions.length (edErr s)).2)
 else (0, 0, 0)
def checkTV (s : Stm) : Go.Value := .tuple #[.int .i64 (checkT s).1, .int .i64 (checkT s).2.1, .int .i64 (checkT s).2.2]
end
section
theorem Dq {s : Stm} {k : Nat} (h : k < s.places.length) : plcErr s k = if nameOk s.places[k].name = false then 6 else if (s.places.take k).any (fun y => sameS y.name s.places[k].name) = true then 5 else if inB 0 1 s.places[k].kind = false then 7 else 0 := by unfold plcErr; rw [List.getElem?_eq_getElem h]
theorem CT {s : Stm} {k : Nat} (h : k < s.editions.length) : edErr s k = if nameOk (s.ed k).name = false then 6 else if (s.editions.take k).any (fun y => sameS y.name (s.ed k).name) = true then 5 else ednErr s (s.ed k) := by unfold edErr; rw [List.getElem?_eq_getElem h, ed_at h]
theorem StmR.any {F : Heap} {vp ve : Go.Value} {ps : List (Go.Value × Edn)} {s : Stm} (h : StmR F vp ve ps s) {q : Edn → Bool} {k : Nat} : (ps.take k).any (fun y => q y.2) = (s.editions.take k).any q := by
 rw [← h.eqs, ← List.map_take, List.any_map]; rfl
def pnames (s : Stm) (k : Nat) : List ByteArray := (s.places.take k).map (·.name)
def enames (s : Stm) (k : Nat) : List ByteArray := (s.editions.take k).map (·.name)
theorem Pm {s : Stm} {k : Nat} (h : k < s.places.length) : pnames s (k + 1) = pnames s k ++ [s.places[k].name] := by unfold pnames; rw [List.take_succ_eq_append_getElem h, List.map_append]; rfl
theorem QU {s : Stm} {k : Nat} (h : k ≤ s.places.length) : (pnames s k).length = k := by simp [pnames]; omega
theorem PM {s : Stm} {k : Nat} (h : k < s.editions.length) : enames s (k + 1) = enames s k ++ [(s.ed k).name] := by unfold enames; rw [List.take_succ_eq_append_getElem h, List.map_append, ed_at h]; rfl
theorem Rr {s : Stm} {k : Nat} (h : k ≤ s.editions.length) : (enames s k).length = k := by simp [enames]; omega
theorem FC {s : Stm} {k : Nat} (h : k < s.places.length) : plcErr s k = if freshE s.places[k].name (pnames s k) ≠ 0 then freshE s.places[k].name (pnames s k) else if inB 0 1 s.places[k].kind = false then 7 else 0 := by
 rw [Dq h]
 have hany : (pnames s k).any (fun x => sameS x s.places[k].name) = (s.places.take k).any fun y => sameS y.name s.places[k].name := by unfold pnames; rw [List.any_map]; rfl
 unfold freshE
 rw [hany]
 cases nameOk s.places[k].name <;> cases (s.places.take k).any (fun y => sameS y.name s.places[k].name) <;> simp
theorem Gn {s : Stm} {k : Nat} (h : k < s.editions.length) : edErr s k = if freshE (s.ed k).name (enames s k) ≠ 0 then freshE (s.ed k).name (enames s k) else ednErr s (s.ed k) := by
 rw [CT h]
 have hany : (enames s k).any (fun x => sameS x (s.ed k).name) = (s.editions.take k).any fun y => sameS y.name (s.ed k).name := by unfold enames; rw [List.any_map]; rfl
 unfold freshE
 rw [hany]
 cases nameOk (s.ed k).name <;> cases (s.editions.take k).any (fun y => sameS y.name (s.ed k).name) <;> simp
theorem FQ {p : Int → Bool} {a b : Int} : [a, b].any p = (p a || p b) := by simp
theorem On {s : Stm} {x : Edn} : ednErr s x = if rangeE x.lo x.hi 1450 1850 ≠ 0 then rangeE x.lo x.hi 1450 1850 else if x.rd.length ≠ s.places.length then 3 else if (x.rd.any fun z => !(inB 0 3 z)) = true then 7 else 0 := by
 unfold ednErr rangeE
 by_cases h1 : min x.lo x.hi < 1450 ∨ 1850 < max x.lo x.hi
 · rw [if_pos (by unfold inB; simp only [Bool.and_eq_false_iff, decide_eq_false_iff_not]; omega), if_pos h1]; simp
 rw [if_neg (by unfold inB; simp only [Bool.and_eq_false_iff, decide_eq_false_iff_not]; omega), if_neg h1]
 by_cases h2 : x.hi < x.lo
 · rw [if_pos h2, if_pos h2]; simp
 rw [if_neg h2, if_neg h2]; simp
section
variable {s : Stm}
theorem Qf (h : inB 1 6 s.places.length = false) : checkTV s = .tuple #[.int .i64 1, .int .i64 0, .int .i64 3] := by unfold checkTV checkT; rw [if_pos h]
theorem LW (h : inB 1 6 s.places.length = true) {i e : Int} (h2 : firstQ s.places.length (plcErr s) = (i, e)) (he : e ≠ 0) : checkTV s = .tuple #[.int .i64 1, .int .i64 i, .int .i64 e] := by
 unfold checkTV checkT; rw [if_neg (by rw [h]; simp), h2, if_pos he]
theorem Qe (h : inB 1 6 s.places.length = true) (h2 : firstQ s.places.length (plcErr s) = (0, 0)) (h3 : inB 1 5 s.editions.length = false) : checkTV s = .tuple #[.int .i64 2, .int .i64 0, .int .i64 3] := by
 unfold checkTV checkT; rw [if_neg (by rw [h]; simp), h2, if_neg (by simp), if_pos h3]
theorem LX (h : inB 1 6 s.places.length = true) (h2 : firstQ s.places.length (plcErr s) = (0, 0)) (h3 : inB 1 5 s.editions.length = true) {i e : Int} (h4 : firstQ s.editions.length (edErr s) = (i, e)) (he : e ≠ 0) : checkTV s = .tuple #[.int .i64 2, .int .i64 i, .int .i64 e] := by
 unfold checkTV checkT; rw [if_neg (by rw [h]; simp), h2, if_neg (by simp), if_neg (by rw [h3]; simp), h4, if_pos he]
theorem Qg (h : inB 1 6 s.places.length = true) (h2 : firstQ s.places.length (plcErr s) = (0, 0)) (h3 : inB 1 5 s.editions.length = true) (h4 : firstQ s.editions.length (edErr s) = (0, 0)) : checkTV s = .tuple #[.int .i64 0, .int .i64 0, .int .i64 0] := by
 unfold checkTV checkT; rw [if_neg (by rw [h]; simp), h2, if_neg (by simp), if_neg (by rw [h3]; simp), h4, if_neg (by simp)]
end
theorem Nk {n : Nat} {f : Nat → Int} : firstQ n f = (0, 0) ∨ ∃ i e, firstQ n f = (i, e) ∧ e ≠ 0 := by
 by_cases h : (firstQ n f).2 = 0
 · left; exact BU (Ds h)
 right; exact ⟨_, _, rfl, h⟩
end
section
def edZero (s : Stm) (x : Edn) : Int := if rangeE x.lo x.hi 1450 1850 ≠ 0 then rangeE x.lo x.hi 1450 1850 else if x.rd.length ≠ s.places.length then 3 else 0
def edTo (s : Stm) (x : Edn) (k : Nat) : Int := if edZero s x ≠ 0 then edZero s x else if ((x.rd.take k).any fun z => !(inB 0 3 z)) = true then 7 else 0
theorem JK {s : Stm} {x : Edn} : edTo s x 0 = edZero s x := by
 unfold edTo
 by_cases h : edZero s x = 0
 · rw [if_neg (fun k => k h), h]; simp
 rw [if_pos h]
theorem GK {s : Stm} {x : Edn} {k : Nat} (hk : x.rd.length ≤ k) : edTo s x k = ednErr s x := by
 unfold edTo edZero
 rw [On, List.take_of_length_le hk]
 by_cases h1 : rangeE x.lo x.hi 1450 1850 = 0
 · rw [h1]
   by_cases h2 : x.rd.length = s.places.length
   · simp [h2]
   simp [h2]
 simp [h1]
theorem KA {s : Stm} {x : Edn} (h0 : edZero s x = 0) (j : Nat) : edTo s x j = if ((x.rd.take j).any fun z => !(inB 0 3 z)) = true then 7 else 0 := by
 unfold edTo; rw [if_neg (fun q => q h0)]
theorem JL {s : Stm} {x : Edn} {k : Nat} (h : edTo s x k ≠ 0) : edTo s x k = ednErr s x := by
 rw [← GK (Nat.le_refl _)]
 by_cases h0 : edZero s x = 0
 · rw [KA h0] at h
   have h1 : ((x.rd.take k).any fun z => !(inB 0 3 z)) = true := by
     cases hc : (x.rd.take k).any fun z => !(inB 0 3 z) with
     | true => rfl
     | false => rw [hc] at h; simp at h
   rw [KA h0, KA h0, if_pos h1, if_pos]
   rw [List.any_eq_true] at h1 ⊢
   obtain ⟨z, hz, hb⟩ := h1
   exact ⟨z, by rw [List.take_length]; exact List.mem_of_mem_take hz, hb⟩
 unfold edTo; rw [if_pos h0, if_pos h0]
theorem Ew {s : Stm} {x : Edn} {k : Nat} (hk : k < x.rd.length) (h : edTo s x k = 0) : edTo s x (k + 1) = if inB 0 3 x.rd[k] = false then 7 else 0 := by
 by_cases h0 : edZero s x = 0
 · rw [KA h0] at h ⊢
   have h1 : ((x.rd.take k).any fun z => !(inB 0 3 z)) = false := by
     cases hc : (x.rd.take k).any fun z => !(inB 0 3 z) with
     | false => rfl
     | true => rw [hc] at h; simp at h
   have h2 : ([x.rd[k]].any fun z => !(inB 0 3 z)) = !(inB 0 3 x.rd[k]) := by simp
   rw [List.take_succ_eq_append_getElem hk, List.any_append, h1, h2]
   cases inB 0 3 x.rd[k] <;> rfl
 unfold edTo at h; rw [if_pos h0] at h; exact absurd h h0
end
section
def Stm.r (s : Stm) (i p : Nat) : Int := (s.ed i).rd[p]?.getD 0
structure ValidT (s : Stm) : Prop where
 np : 1 ≤ s.places.length ∧ s.places.length ≤ 6
 ne : 1 ≤ s.editions.length ∧ s.editions.length ≤ 5
 kind : ∀ p, p < s.places.length → 0 ≤ (s.pl p).kind ∧ (s.pl p).kind ≤ 1
 year : ∀ i, i < s.editions.length → 1450 ≤ (s.ed i).lo ∧ (s.ed i).lo ≤ (s.ed i).hi ∧ (s.ed i).hi ≤ 1850
 rdl : ∀ i, i < s.editions.length → (s.ed i).rd.length = s.places.length
 rd : ∀ i p, i < s.editions.length → p < s.places.length → 0 ≤ s.r i p ∧ s.r i p ≤ 3
theorem FZ {s : Stm} {i p : Nat} (h : p < (s.ed i).rd.length) : (s.ed i).rd[p] = s.r i p := by simp [Stm.r, h]
theorem Kq {s : Stm} (h : (checkT s).2.2 = 0) : inB 1 6 s.places.length = true ∧ (∀ j, j < s.places.length → plcErr s j = 0) ∧ inB 1 5 s.editions.length = true ∧ ∀ j, j < s.editions.length → edErr s j = 0 := by
 unfold checkT at h
 split at h
 · cases h
 rename_i h1
 split at h
 · rename_i h2; exact absurd h h2
 rename_i h2
 split at h
 · cases h
 rename_i h3
 split at h
 · rename_i h4; exact absurd h h4
 rename_i h4
 exact ⟨by simpa using h1, Ds (Classical.not_not.1 h2), by simpa using h3, Ds (Classical.not_not.1 h4)⟩
theorem Cj {s : Stm} (h : (checkT s).2.2 = 0) : ValidT s := by
 obtain ⟨h1, h2, h3, h4⟩ := Kq h
 have hed : ∀ i, i < s.editions.length → ednErr s (s.ed i) = 0 := fun i hi => by
   have := h4 i hi
   rw [CT hi] at this
   split at this
   · cases this
   split at this
   · cases this
   exact this
 have hf : ∀ i, i < s.editions.length → (1450 ≤ (s.ed i).lo ∧ (s.ed i).lo ≤ (s.ed i).hi ∧ (s.ed i).hi ≤ 1850) ∧ (s.ed i).rd.length = s.places.length ∧ ∀ z ∈ (s.ed i).rd, 0 ≤ z ∧ z ≤ 3 := fun i hi => by
   have := hed i hi
   unfold ednErr at this
   split at this
   · cases this
   rename_i k1
   split at this
   · cases this
   rename_i k2
   split at this
   · cases this
   rename_i k3
   split at this
   · cases this
   rename_i k4
   refine ⟨?_, Classical.not_not.1 k3, fun z hz => ?_⟩
   · simp only [inB, Bool.and_eq_false_iff, decide_eq_false_iff_not] at k1; omega
   have k5 : ((s.ed i).rd.any fun z => !(inB 0 3 z)) = false := by simpa using k4
   rw [List.any_eq_false] at k5
   have := k5 z hz
   simp [inB] at this
   omega
 refine ⟨?_, ?_, fun p hp => ?_, fun i hi => (hf i hi).1, fun i hi => (hf i hi).2.1, fun i p hi hp => ?_⟩
 · simp [inB] at h1; omega
 · simp [inB] at h3; omega
 · have := h2 p hp
   rw [Dq hp, DA hp] at this
   split at this
   · cases this
   split at this
   · cases this
   split at this
   · cases this
   rename_i k
   simp [inB] at k
   omega
 have hl : p < (s.ed i).rd.length := by rw [(hf i hi).2.1]; exact hp
 rw [← FZ hl]
 exact (hf i hi).2.2 _ (List.getElem_mem hl)
def selN (p : Nat → Bool) (k : Nat) : List Nat := (List.range k).filter p
theorem Dm {p : Nat → Bool} {k : Nat} : selN p (k + 1) = if p k = true then selN p k ++ [k] else selN p k := by
 unfold selN
 rw [List.range_succ, List.filter_append]
 by_cases h : p k = true
 · rw [if_pos h]; simp [h]
 rw [if_neg h]; simp [h]
theorem Dn {p : Nat → Bool} {k : Nat} : (selN p k).length ≤ k := Nat.le_trans (List.length_filter_le _ _) (by simp)
theorem selN_lt {p : Nat → Bool} {k : Nat} : ∀ i ∈ selN p k, i < k := fun i hi => by simpa using (List.mem_filter.1 hi).1
def differB (s : Stm) (a b p : Nat) : Bool := decide (0 < s.r a p) && (decide (0 < s.r b p) && decide (s.r a p ≠ s.r b p))
def apartL (s : Stm) (a b : Nat) : List Nat := selN (differB s a b) s.places.length
theorem Rs {s : Stm} (hv : ValidT s) {a b p : Nat} (ha : a < s.editions.length) (hb : b < s.editions.length) (hp : p < s.places.length) : (s.r a p ≠ s.r b p ∧ 0 < s.r a p * s.r b p) ↔ differB s a b p = true := by
 have h1 := hv.rd a p ha hp
 have h2 := hv.rd b p hb hp
 unfold differB
 simp only [Bool.and_eq_true, decide_eq_true_eq]
 constructor
 · rintro ⟨h3, h4⟩
   refine ⟨?_, ?_, h3⟩
   · rcases Int.lt_or_eq_of_le h1.1 with h | h
     · exact h
     rw [← h, Int.zero_mul] at h4; omega
   rcases Int.lt_or_eq_of_le h2.1 with h | h
   · exact h
   rw [← h, Int.mul_zero] at h4; omega
 rintro ⟨h3, h4, h5⟩
 exact ⟨h5, Int.mul_pos h3 h4⟩
def edsErr (s : Stm) (a b : Int) : Int := if (checkT s).2.2 ≠ 0 then (checkT s).2.2 else if (inB 0 (s.editions.length - 1) a && inB 0 (s.editions.length - 1) b) = false then 4 else 0
def apartE (s : Stm) (a b : Int) : List Nat × Int := if edsErr s a b ≠ 0 then ([], edsErr s a b) else (apartL s a.toNat b.toNat, 0)
def NatsR (F : Heap) (u : Go.Value) (p : List Nat × Int) : Prop := ∃ v, u = .tuple #[v, .int .i64 p.2] ∧ Nats F v p.1
theorem NatsR.mono {F F' : Heap} {u : Go.Value} {p : List Nat × Int} (h : NatsR F u p) (hF : F.le F') : NatsR F' u p := by obtain ⟨v, h1, h2⟩ := h; exact ⟨v, h1, h2.mono hF⟩
theorem eds_bad {s : Stm} {a b : Int} (h : (checkT s).2.2 ≠ 0) : edsErr s a b = (checkT s).2.2 := if_pos h
theorem PN {s : Stm} {a b : Int} (h : (checkT s).2.2 = 0) (h2 : (inB 0 (s.editions.length - 1) a && inB 0 (s.editions.length - 1) b) = false) : edsErr s a b = 4 := by unfold edsErr; rw [if_neg (fun k => k h), if_pos h2]
theorem eds_ok {s : Stm} {a b : Int} (h : (checkT s).2.2 = 0) (h2 : inB 0 (s.editions.length - 1) a = true) (h3 : inB 0 (s.editions.length - 1) b = true) : edsErr s a b = 0 := by unfold edsErr; rw [if_neg (fun k => k h), if_neg (by rw [h2, h3]; simp)]
theorem Hu {s : Stm} {a b e : Int} (h : edsErr s a b = e) (he : e ≠ 0) : apartE s a b = ([], e) := by subst h; exact if_pos he
theorem Uw {s : Stm} {a b : Nat} (h : edsErr s (a : Int) (b : Int) = 0) : apartE s (a : Int) (b : Int) = (apartL s a b, 0) := if_neg (fun k => k h)
end
section
def upN (l : List Int) (i : Nat) : Int := l[i]?.getD 0
theorem BR {l : List Int} {i : Nat} (h : i < l.length) : l[i] = upN l i := by simp [upN, h]
def TreeIn (l : List Int) : Prop := ∀ i, i < l.length → -1 ≤ upN l i ∧ upN l i < l.length
theorem TreeIn.nat {l : List Int} (h : TreeIn l) {i : Nat} (hi : i < l.length) (hne : upN l i ≠ -1) : ∃ j : Nat, upN l i = (j : Int) ∧ j < l.length := by
 have := h i hi
 obtain ⟨j, hj⟩ := Int.eq_ofNat_of_zero_le (show 0 ≤ upN l i by omega)
 exact ⟨j, hj, by omega⟩
def reach (l : List Int) : Nat → Nat → Bool
 | 0, at_ => decide (upN l at_ = -1)
 | f + 1, at_ => decide (upN l at_ = -1) || reach l f (upN l at_).toNat
theorem DE {l : List Int} {f i : Nat} (h : upN l i = -1) : reach l f i = true := by cases f <;> simp [reach, h]
theorem Fz {l : List Int} {i : Nat} (h : upN l i ≠ -1) : reach l 0 i = false := by simp [reach, h]
theorem DD {l : List Int} {f i j : Nat} (h : upN l i = (j : Int)) : reach l (f + 1) i = reach l f j := by
 have : upN l i ≠ -1 := by omega
 simp only [reach, dF this, Bool.false_or]
 rw [h]; rfl
def firstsN (l : List Int) : Nat → Int
 | 0 => 0
 | k + 1 => if upN l k = -1 then firstsN l k + 1 else firstsN l k
theorem Em {l : List Int} : ∀ k, 0 ≤ firstsN l k ∧ firstsN l k ≤ k
 | 0 => by simp [firstsN]
 | k + 1 => by have := Em (l := l) k; unfold firstsN; split <;> omega
def isT (l : List Int) : Bool := (List.range l.length).all (reach l l.length) && decide (firstsN l l.length = 1)
theorem V6 {l : List Int} {k : Nat} (hk : k < l.length) (h : reach l l.length k = false) : isT l = false := by
 unfold isT
 rw [show (List.range l.length).all (reach l l.length) = false from List.all_eq_false.2 ⟨k, by simpa using hk, by rw [h]; simp⟩, Bool.false_and]
theorem isT_all {l : List Int} (h : ∀ k, k < l.length → reach l l.length k = true) : isT l = decide (firstsN l l.length = 1) := by
 unfold isT
 rw [show (List.range l.length).all (reach l l.length) = true from List.all_eq_true.2 fun k hk => h k (by simpa using hk), Bool.true_and]
def treeC (l : List Int) : List Go.Value := (List.range 5).map fun i => .int .i64 (upN l i)
theorem B5 {l : List Int} {i : Nat} (h : i < 5) : (treeC l)[0 + i * 1]? = some (.int .i64 (upN l i)) := by
 rw [show 0 + i * 1 = i by omega]; simp [treeC, h]
def treeV (l : List Int) : Go.Value := .agg (treeC l).toArray
end
section
def gTo (z : Int) (p : Int → Bool) (l : List Int) (k : Nat) : Int := if z ≠ 0 then z else if ((l.take k).any fun x => !(p x)) = true then 7 else 0
section
variable {z : Int} {p : Int → Bool} {l : List Int}
theorem PE : gTo z p l 0 = z := by
 unfold gTo
 by_cases h : z = 0
 · rw [if_neg (fun k => k h), h]; simp
 rw [if_pos h]
theorem JG (h0 : z = 0) (j : Nat) : gTo z p l j = if ((l.take j).any fun x => !(p x)) = true then 7 else 0 := by unfold gTo; rw [if_neg (fun q => q h0)]
theorem V9 {k : Nat} (h : gTo z p l k ≠ 0) : gTo z p l k = gTo z p l l.length := by
 by_cases h0 : z = 0
 · rw [JG h0] at h
   have h1 : ((l.take k).any fun x => !(p x)) = true := by
     cases hc : (l.take k).any fun x => !(p x) with
     | true => rfl
     | false => rw [hc] at h; simp at h
   rw [JG h0, JG h0, if_pos h1, if_pos]
   rw [List.any_eq_true] at h1 ⊢
   obtain ⟨x, hx, hb⟩ := h1
   exact ⟨x, by rw [List.take_length]; exact List.mem_of_mem_take hx, hb⟩
 unfold gTo; rw [if_pos h0, if_pos h0]
theorem VA (h : gTo z p l l.length = 0) : z = 0 ∧ ∀ x ∈ l, p x = true := by
 by_cases h0 : z = 0
 · rw [JG h0, List.take_length] at h
   have h1 : (l.any fun x => !(p x)) = false := by
     cases hc : l.any fun x => !(p x) with
     | false => rfl
     | true => rw [hc] at h; simp at h
   rw [List.any_eq_false] at h1
   exact ⟨h0, fun x hx => by simpa using h1 x hx⟩
 unfold gTo at h; rw [if_pos h0] at h; exact absurd h h0
end
def treeZ (s : Stm) (l : List Int) : Int := if (checkT s).2.2 ≠ 0 then (checkT s).2.2 else if l.length ≠ s.editions.length then 3 else 0
def inT (l : List Int) (z : Int) : Bool := inB (-1) (l.length - 1) z
def trTo (s : Stm) (l : List Int) (k : Nat) : Int := gTo (treeZ s l) (inT l) l k
def treeErr (s : Stm) (l : List Int) : Int := if trTo s l l.length ≠ 0 then trTo s l l.length else if isT l = false then 2 else 0
theorem Tf {s : Stm} {l : List Int} (h : (checkT s).2.2 ≠ 0) : treeZ s l = (checkT s).2.2 := if_pos h
theorem Te {s : Stm} {l : List Int} (h : (checkT s).2.2 = 0) (h2 : l.length ≠ s.editions.length) : treeZ s l = 3 := by unfold treeZ; rw [if_neg (fun k => k h), if_pos h2]
theorem OK {s : Stm} {l : List Int} (h : (checkT s).2.2 = 0) (h2 : l.length = s.editions.length) : treeZ s l = 0 := by unfold treeZ; rw [if_neg (fun k => k h), if_neg (fun k => k h2)]
theorem RX {s : Stm} {l : List Int} (h : trTo s l l.length = 0) : (checkT s).2.2 = 0 ∧ l.length = s.editions.length ∧ TreeIn l := by
 obtain ⟨h1, h2⟩ := VA h
 unfold treeZ at h1
 split at h1
 · rename_i h3; exact absurd h1 h3
 rename_i h3
 split at h1
 · cases h1
 rename_i h4
 refine ⟨Classical.not_not.1 h3, Classical.not_not.1 h4, fun i hi => ?_⟩
 have := h2 _ (List.getElem_mem hi)
 rw [BR hi] at this
 simp [inT, inB] at this
 omega
theorem Fp {s : Stm} {l : List Int} {k : Nat} (h : trTo s l k ≠ 0) : treeErr s l = trTo s l k := by
 have e : trTo s l k = trTo s l l.length := V9 h
 unfold treeErr; rw [if_pos (by rw [← e]; exact h), e]
theorem Hd {s : Stm} {l : List Int} (h : trTo s l l.length = 0) : treeErr s l = if isT l = false then 2 else 0 := by unfold treeErr; rw [if_neg (fun k => k h)]
theorem KU {s : Stm} {l : List Int} (h : treeErr s l = 0) : (checkT s).2.2 = 0 ∧ l.length = s.editions.length ∧ TreeIn l ∧ isT l = true := by
 unfold treeErr at h
 split at h
 · rename_i h1; exact absurd h h1
 rename_i h1
 split at h
 · cases h
 rename_i h2
 obtain ⟨a, b, c⟩ := RX (Classical.not_not.1 h1)
 exact ⟨a, b, c, by simpa using h2⟩
end
section
abbrev Edges := List (Nat × Nat)
def upMax (E : Edges) (i : Nat) (g : Nat → Int) (b : Int) : Int := E.foldl (fun m e => if e.2 = i then max m (g e.1 + 1) else m) b
theorem U9 {E : Edges} {i : Nat} {g : Nat → Int} : ∀ {b c : Int}, upMax E i g b ≤ c ↔ b ≤ c ∧ ∀ e ∈ E, e.2 = i → g e.1 + 1 ≤ c := by
 induction E with
 | nil => intro b c; simp [upMax]
 | cons a E ih =>
   intro b c
   have : upMax (a :: E) i g b = upMax E i g (if a.2 = i then max b (g a.1 + 1) else b) := rfl
   rw [this, ih]
   constructor
   · rintro ⟨h1, h2⟩
     refine ⟨by split at h1 <;> omega, fun e he hi => ?_⟩
     rcases List.mem_cons.1 he with rfl | he
     · rw [if_pos hi] at h1; omega
     exact h2 e he hi
   rintro ⟨h1, h2⟩
   refine ⟨?_, fun e he hi => h2 e (List.mem_cons_of_mem _ he) hi⟩
   split
   · rename_i hi; have := h2 a List.mem_cons_self hi; omega
   exact h1
def climb (E : Edges) (base : Nat → Int) : Nat → Nat → Int
 | 0, i => base i
 | f + 1, i => upMax E i (climb E base f) (base i)
section
variable {E : Edges} {base : Nat → Int}
theorem CV {f i : Nat} {c : Int} : climb E base (f + 1) i ≤ c ↔ base i ≤ c ∧ ∀ e ∈ E, e.2 = i → climb E base f e.1 + 1 ≤ c := U9
theorem BX {f i : Nat} : base i ≤ climb E base f i := by
 cases f with
 | zero => exact Int.le_refl _
 | succ f => exact (CV.1 (Int.le_refl _)).1
theorem DI {f : Nat} {e : Nat × Nat} (he : e ∈ E) : climb E base f e.1 + 1 ≤ climb E base (f + 1) e.2 := (CV.1 (Int.le_refl _)).2 e he rfl
theorem Hp {f : Nat} : ∀ i, climb E base f i ≤ climb E base (f + 1) i := by
 induction f with
 | zero => intro i; exact BX
 | succ f ih => intro i; exact CV.2 ⟨BX, fun e he hi => by subst hi; have := ih e.1; have := DI (f := f + 1) (base := base) he; omega⟩
theorem Ou {rank : Nat → Nat} (hr : ∀ e ∈ E, rank e.1 < rank e.2) : ∀ {f i : Nat}, rank i ≤ f → climb E base (f + 1) i = climb E base f i := by
 intro f
 induction f with
 | zero =>
   intro i hi
   refine Int.le_antisymm (CV.2 ⟨BX, fun e he h => ?_⟩) (Hp i)
   have := hr e he; rw [h] at this; omega
 | succ f ih =>
   intro i hi
   refine Int.le_antisymm (CV.2 ⟨BX, fun e he h => ?_⟩) (Hp i)
   have := hr e he
   rw [h] at this
   rw [ih (by omega)]
   subst h
   exact DI he
theorem Gu {n : Nat} (hE : ∀ e ∈ E, e.1 < n ∧ e.2 < n) {L : Nat → Int} (h0 : ∀ i, i < n → base i ≤ L i) (h1 : ∀ e ∈ E, L e.1 + 1 ≤ L e.2) : ∀ f i, i < n → climb E base f i ≤ L i := by
 intro f
 induction f with
 | zero => exact h0
 | succ f ih =>
   intro i hi
   refine CV.2 ⟨h0 i hi, fun e he h => ?_⟩
   have := ih e.1 (hE e he).1
   have := h1 e he
   rw [h] at this
   omega
end
def Dag (n : Nat) (E : Edges) : Prop := (∀ e ∈ E, e.1 < n ∧ e.2 < n) ∧ ∃ ρ : Nat → Nat, ∀ e ∈ E, ρ e.1 < ρ e.2
def rankC (ρ : Nat → Nat) (n i : Nat) : Nat := (List.range n).countP fun j => decide (ρ j < ρ i)
theorem JM {α : Type} {p q : α → Bool} {k : α} (hpq : ∀ x, p x = true → q x = true) (hq : q k = true) (hp : p k = false) : ∀ {l : List α}, k ∈ l → l.countP p < l.countP q
 | [], h => nomatch h
 | a :: l, h => by
   have hle : l.countP p ≤ l.countP q := List.countP_mono_left fun x _ => hpq x
   simp only [List.countP_cons]
   rcases List.mem_cons.1 h with rfl | h
   · rw [if_pos hq, if_neg (by rw [hp]; simp)]; omega
   have ih := JM hpq hq hp h
   by_cases h1 : p a = true
   · rw [if_pos h1, if_pos (hpq a h1)]; omega
   rw [if_neg h1]; split <;> omega
theorem HK {ρ : Nat → Nat} {n k i : Nat} (hk : k < n) (h : ρ k < ρ i) : rankC ρ n k < rankC ρ n i := by
 refine JM (k := k) (fun x hx => ?_) ?_ ?_ (List.mem_range.2 hk)
 · have := of_decide_eq_true hx; exact dT (by omega)
 · exact dT h
 exact dF (by omega)
theorem Pi {ρ : Nat → Nat} {n i : Nat} : rankC ρ n i ≤ n := by
 have := List.countP_le_length (p := fun j => decide (ρ j < ρ i)) (l := List.range n)
 rw [List.length_range] at this
 exact this
def swapE (E : Edges) : Edges := E.map fun e => (e.2, e.1)
theorem CO {E : Edges} {e : Nat × Nat} : e ∈ swapE E ↔ (e.2, e.1) ∈ E := by
 unfold swapE
 rw [List.mem_map]
 constructor
 · rintro ⟨a, ha, rfl⟩; exact ha
 intro h; exact ⟨_, h, rfl⟩
theorem Dag.rank {n : Nat} {E : Edges} (h : Dag n E) : ∃ rank : Nat → Nat, (∀ e ∈ E, rank e.1 < rank e.2) ∧ ∀ i, rank i ≤ n := by
 obtain ⟨h1, ρ, h2⟩ := h
 exact ⟨rankC ρ n, fun e he => HK (h1 e he).1 (h2 e he), fun i => Pi⟩
theorem Dag.swap {n : Nat} {E : Edges} (h : Dag n E) : Dag n (swapE E) := by
 obtain ⟨rank, h2, h3⟩ := h.rank
 refine ⟨fun e he => ?_, fun i => n - rank i, fun e he => ?_⟩
 · have := h.1 _ (CO.1 he); exact ⟨this.2, this.1⟩
 have := h2 _ (CO.1 he)
 have := h3 e.1
 simp only at *
 omega
theorem Dag.stable {n : Nat} {E : Edges} (h : Dag n E) {base : Nat → Int} (i : Nat) : climb E base (n + 1) i = climb E base n i := by
 obtain ⟨rank, h2, h3⟩ := h.rank
 exact Ou h2 (h3 i)
theorem Dag.fits {n : Nat} {E : Edges} (h : Dag n E) {base : Nat → Int} {e : Nat × Nat} (he : e ∈ E) : climb E base n e.1 + 1 ≤ climb E base n e.2 := by
 have := DI (f := n) (base := base) he
 rw [h.stable] at this
 exact this
def updI (cur : Nat → Int) (i : Nat) (v : Int) : Nat → Int := fun j => if j = i then v else cur j
structure Relaxed (n : Nat) (E : Edges) (base : Nat → Int) (r : Nat) (D : Nat × Nat → Prop) (cur : Nat → Int) : Prop where
 lo : ∀ i, i < n → climb E base r i ≤ cur i
 hi : ∀ i, i < n → cur i ≤ climb E base n i
 done : ∀ e ∈ E, D e → climb E base r e.1 + 1 ≤ cur e.2
section
variable {n : Nat} {E : Edges} {base : Nat → Int} {r : Nat} {D : Nat × Nat → Prop} {cur : Nat → Int}
theorem Relaxed.start (h : ∀ i, i < n → cur i = base i) : Relaxed n E base 0 (fun _ => False) cur :=
 ⟨fun i hi => by rw [h i hi]; exact Int.le_refl _, fun i hi => by rw [h i hi]; exact BX, fun _ _ h => h.elim⟩
theorem Relaxed.weaken (h : Relaxed n E base r D cur) {D' : Nat × Nat → Prop} (hD : ∀ e ∈ E, D' e → D e) : Relaxed n E base r D' cur := ⟨h.lo, h.hi, fun e he h' => h.done e he (hD e he h')⟩
theorem Relaxed.step (h : Relaxed n E base r D cur) (hd : Dag n E) {k i : Nat} (he : (k, i) ∈ E) : Relaxed n E base r (fun x => D x ∨ x = (k, i)) (updI cur i (max (cur i) (cur k + 1))) := by
 have hk := hd.1 _ he
 refine ⟨fun j hj => ?_, fun j hj => ?_, fun x hx hD => ?_⟩
 · unfold updI
   split
   · rename_i hji; subst hji; have := h.lo j hj; omega
   exact h.lo j hj
 · unfold updI
   split
   · rename_i hji
     subst hji
     have h1 := h.hi j hj
     have h2 := h.hi k hk.1
     have h3 := hd.fits (base := base) he
     simp only at h3
     omega
   exact h.hi j hj
 have h1 := h.lo k hk.1
 unfold updI
 rcases hD with hD | rfl
 · have h2 := h.done x hx hD
   split
   · rename_i hji; rw [hji] at h2; omega
   exact h2
 simp only [if_true]; omega
theorem Relaxed.round (h : Relaxed n E base r D cur) (hD : ∀ e ∈ E, D e) : Relaxed n E base (r + 1) (fun _ => False) cur :=
 ⟨fun i hi => CV.2 ⟨Int.le_trans BX (h.lo i hi), fun e he hi => by subst hi; exact h.done e he (hD e he)⟩, h.hi, fun _ _ h => h.elim⟩
theorem Relaxed.full (h : Relaxed n E base r D cur) (hr : n ≤ r) {i : Nat} (hi : i < n) : cur i = climb E base n i := by
 have hm : ∀ d, climb E base n i ≤ climb E base (n + d) i := by
   intro d
   induction d with
   | zero => exact Int.le_refl _
   | succ d ih => exact Int.le_trans ih (Hp i)
 have h1 := hm (r - n)
 rw [show n + (r - n) = r by omega] at h1
 have h2 := h.lo i hi
 have h3 := h.hi i hi
 omega
end
def treeE (l : List Int) : Edges := (List.range l.length).flatMap fun i => if upN l i = -1 then [] else [((upN l i).toNat, i)]
theorem GC {l : List Int} {e : Nat × Nat} : e ∈ treeE l ↔ e.2 < l.length ∧ upN l e.2 ≠ -1 ∧ e.1 = (upN l e.2).toNat := by
 unfold treeE
 rw [List.mem_flatMap]
 constructor
 · rintro ⟨i, hi, he⟩
   split at he
   · cases he
   rename_i h
   simp at he
   subst he
   exact ⟨by simpa using hi, h, rfl⟩
 rintro ⟨h1, h2, h3⟩
 refine ⟨e.2, by simpa using h1, ?_⟩
 rw [if_neg h2]
 simp
 exact Prod.ext h3 rfl
theorem KV {l : List Int} {i k : Nat} (hi : i < l.length) (h : upN l i = (k : Int)) : (k, i) ∈ treeE l := GC.2 ⟨hi, by simp only; omega, by simp only; omega⟩
def dep (l : List Int) : Nat → Nat → Nat
 | 0, _ => 0
 | f + 1, i => if upN l i = -1 then 0 else dep l f (upN l i).toNat + 1
theorem Oo {l : List Int} : ∀ {f i : Nat}, dep l f i ≤ f
 | 0, _ => Nat.le_refl _
 | f + 1, i => by unfold dep; split; exact Nat.zero_le _; have := Oo (l := l) (f := f) (i := (upN l i).toNat); omega
theorem LQ {l : List Int} : ∀ {f i : Nat}, reach l f i = true → dep l (f + 1) i = dep l f i
 | 0, i, h => by have : upN l i = -1 := by simpa [reach] using h
                 unfold dep; rw [if_pos this]
 | f + 1, i, h => by
   by_cases h1 : upN l i = -1
   · unfold dep; rw [if_pos h1, if_pos h1]
   simp only [reach, dF h1, Bool.false_or] at h
   have e := LQ h
   rw [dep, if_neg h1, e]
   conv => rhs; rw [dep, if_neg h1]
theorem Lj {l : List Int} {f i k : Nat} (h : upN l i = (k : Int)) (hr : reach l f i = true) : ∃ f', f = f' + 1 ∧ reach l f' k = true := by
 cases f with
 | zero => rw [Fz (by omega)] at hr; cases hr
 | succ f => exact ⟨f, rfl, by rw [← DD h]; exact hr⟩
theorem Ll {l : List Int} : ∀ {f i : Nat}, reach l f i = true → reach l (f + 1) i = true
 | 0, i, h => DE (by simpa [reach] using h)
 | f + 1, i, h => by
   by_cases h1 : upN l i = -1
   · exact DE h1
   simp only [reach, dF h1, Bool.false_or] at h ⊢
   have := Ll h
   simpa [reach] using this
theorem Ea {l : List Int} {f i k : Nat} (h : upN l i = (k : Int)) (hr : reach l f i = true) : dep l f i = dep l f k + 1 := by
 obtain ⟨f', rfl, h2⟩ := Lj h hr
 rw [LQ h2]
 conv => lhs; rw [dep, if_neg (by omega), h]
 rfl
structure IsTree (l : List Int) : Prop where
 in_ : TreeIn l
 reach : ∀ i, i < l.length → reach l l.length i = true
 one : firstsN l l.length = 1
theorem Eu {l : List Int} (h : TreeIn l) (ht : isT l = true) : IsTree l := by
 unfold isT at ht
 rw [Bool.and_eq_true, List.all_eq_true] at ht
 exact ⟨h, fun i hi => ht.1 i (List.mem_range.2 hi), of_decide_eq_true ht.2⟩
theorem IsTree.isT {l : List Int} (h : IsTree l) : isT l = true := by
 unfold Go.Proofs.YtkjfmibiinfhfabGreat.isT
 rw [Bool.and_eq_true, List.all_eq_true]
 exact ⟨fun i hi => h.reach i (List.mem_range.1 hi), dT h.one⟩
theorem IsTree.edge {l : List Int} (h : IsTree l) {e : Nat × Nat} (he : e ∈ treeE l) : e.1 < l.length ∧ e.2 < l.length ∧ upN l e.2 = (e.1 : Int) := by
 obtain ⟨h1, h2, h3⟩ := GC.1 he
 obtain ⟨j, hj, hjl⟩ := h.in_.nat h1 h2
 rw [hj] at h3
 have : e.1 = j := by omega
 exact ⟨by omega, h1, by omega⟩
theorem IsTree.dag {l : List Int} (h : IsTree l) : Dag l.length (treeE l) := by
 refine ⟨fun e he => ⟨(h.edge he).1, (h.edge he).2.1⟩, dep l l.length, fun e he => ?_⟩
 obtain ⟨h1, h2, h3⟩ := h.edge he
 rw [Ea h3 (h.reach _ h2)]
 omega
def under (l : List Int) : Nat → Nat → Nat → Bool
 | 0, x, o => decide (x = o)
 | f + 1, x, o => decide (x = o) || (if upN l x = -1 then false else under l f (upN l x).toNat o)
def underB (l : List Int) (x o : Nat) : Bool := under l l.length x o
theorem KQ {l : List Int} {f x : Nat} : under l f x x = true := by cases f <;> simp [under]
theorem H7 {l : List Int} {o : Nat} : ∀ {f i : Nat}, reach l f i = true → under l (f + 1) i o = under l f i o
 | 0, i, h => by have : upN l i = -1 := by simpa [reach] using h
                 simp [under, this]
 | f + 1, i, h => by
   by_cases h1 : upN l i = -1
   · simp [under, h1]
   simp only [reach, dF h1, Bool.false_or] at h
   have e := H7 (o := o) h
   rw [under, if_neg h1, e]
   conv => rhs; rw [under, if_neg h1]
theorem KR {l : List Int} {f i k o : Nat} (h : upN l i = (k : Int)) (hr : reach l f i = true) : under l f i o = (decide (i = o) || under l f k o) := by
 obtain ⟨f', rfl, h2⟩ := Lj h hr
 rw [H7 h2]
 conv => lhs; rw [under, if_neg (by omega), h]
 rfl
theorem IsTree.dag2 {l : List Int} (h : IsTree l) {o x : Nat} (ho : o < l.length) (hx : x < l.length) (hu : underB l o x = false) : Dag l.length (treeE l ++ [(o, x)]) := by
 refine ⟨fun e he => ?_, fun i => dep l l.length i + (if underB l i x = true then l.length + 1 else 0), fun e he => ?_⟩
 · rcases List.mem_append.1 he with he | he
   · exact ⟨(h.edge he).1, (h.edge he).2.1⟩
   simp at he; subst he; exact ⟨ho, hx⟩
 rcases List.mem_append.1 he with he | he
 · obtain ⟨h1, h2, h3⟩ := h.edge he
   have e1 := Ea h3 (h.reach _ h2)
   have e2 := KR (o := x) h3 (h.reach _ h2)
   show dep l l.length e.1 + (if under l l.length e.1 x = true then l.length + 1 else 0) < dep l l.length e.2 + (if under l l.length e.2 x = true then l.length + 1 else 0)
   by_cases hk : under l l.length e.1 x = true
   · rw [hk, Bool.or_true] at e2
     rw [if_pos hk, if_pos e2]; omega
   rw [if_neg hk]; omega
 simp at he
 subst he
 have : dep l l.length o ≤ l.length := Oo
 show dep l l.length o + (if underB l o x = true then l.length + 1 else 0) < dep l l.length x + (if underB l x x = true then l.length + 1 else 0)
 rw [if_neg (by rw [hu]; simp), if_pos (show underB l x x = true from KQ)]
 omega
def firstY (s : Stm) (E : Edges) (i : Nat) : Int := climb E (fun i => (s.ed i).lo) s.editions.length i
def lastY (s : Stm) (E : Edges) (i : Nat) : Int := -(climb (swapE E) (fun i => -(s.ed i).hi) s.editions.length i)
def fitsE (s : Stm) (E : Edges) : Bool := (List.range s.editions.length).all fun i => decide (firstY s E i ≤ (s.ed i).hi)
theorem Dr {s : Stm} {E : Edges} : fitsE s E = true ↔ ∀ i, i < s.editions.length → firstY s E i ≤ (s.ed i).hi := by
 unfold fitsE
 rw [List.all_eq_true]
 exact ⟨fun h i hi => of_decide_eq_true (h i (List.mem_range.2 hi)), fun h i hi => dT (h i (List.mem_range.1 hi))⟩
theorem V5 {s : Stm} {E : Edges} {i : Nat} : lastY s E i ≤ (s.ed i).hi := by
 have : -(s.ed i).hi ≤ climb (swapE E) (fun i => -(s.ed i).hi) s.editions.length i := BX (base := fun i => -(s.ed i).hi)
 unfold lastY; omega
theorem JI {s : Stm} {E : Edges} {i : Nat} : (s.ed i).lo ≤ firstY s E i := BX
theorem KH {s : Stm} {E : Edges} (hE : ∀ e ∈ E, e.1 < s.editions.length ∧ e.2 < s.editions.length) {L : Nat → Int} (h0 : ∀ i, i < s.editions.length → (s.ed i).lo ≤ L i ∧ L i ≤ (s.ed i).hi) (h1 : ∀ e ∈ E, L e.1 + 1 ≤ L e.2) :
   ∀ i, i < s.editions.length → firstY s E i ≤ L i ∧ L i ≤ lastY s E i := by
 intro i hi
 refine ⟨Gu hE (fun i hi => (h0 i hi).1) h1 _ i hi, ?_⟩
 have := Gu (E := swapE E) (base := fun i => -(s.ed i).hi) (n := s.editions.length) (fun e he => ⟨(hE _ (CO.1 he)).2, (hE _ (CO.1 he)).1⟩) (L := fun i => -(L i)) (fun i hi => by have := (h0 i hi).2; show -(s.ed i).hi ≤ -(L i); omega)
   (fun e he => Int.le_trans (show -(L e.1) + 1 ≤ -(L e.2) from by have : L e.2 + 1 ≤ L e.1 := h1 _ (CO.1 he); omega) (Int.le_refl _)) s.editions.length i hi
 have h9 : climb (swapE E) (fun i => -(s.ed i).hi) s.editions.length i ≤ -(L i) := this
 unfold lastY; omega
theorem TY {s : Stm} {E : Edges} (hd : Dag s.editions.length E) : fitsE s E = true ↔ ∀ i, i < s.editions.length → firstY s E i ≤ lastY s E i := by
 rw [Dr]
 constructor
 · intro h i hi
   exact (KH hd.1 (L := firstY s E) (fun i hi => ⟨JI, h i hi⟩) (fun e he => hd.fits he) i hi).2
 intro h i hi
 exact Int.le_trans (h i hi) V5
theorem HZ {s : Stm} (hv : ValidT s) {E : Edges} (hE : ∀ e ∈ E, e.1 < s.editions.length ∧ e.2 < s.editions.length) : ∀ f i, i < s.editions.length → 1450 ≤ climb E (fun i => (s.ed i).lo) f i ∧ climb E (fun i => (s.ed i).lo) f i ≤ 1850 + f := by
 intro f
 induction f with
 | zero => intro i hi; have := hv.year i hi; show 1450 ≤ (s.ed i).lo ∧ (s.ed i).lo ≤ 1850 + ((0 : Nat) : Int); omega
 | succ f ih =>
   intro i hi
   have hy := hv.year i hi
   refine ⟨Int.le_trans hy.1 (BX (base := fun i => (s.ed i).lo)), CV.2 ⟨by show (s.ed i).lo ≤ _; omega, fun e he hi => ?_⟩⟩
   have := ih e.1 (hE e he).1
   omega
theorem Ki {s : Stm} (hv : ValidT s) {E : Edges} (hE : ∀ e ∈ E, e.1 < s.editions.length ∧ e.2 < s.editions.length) : ∀ f i, i < s.editions.length → -1850 ≤ climb (swapE E) (fun i => -(s.ed i).hi) f i ∧ climb (swapE E) (fun i => -(s.ed i).hi) f i ≤ -1450 + f := by
 intro f
 induction f with
 | zero => intro i hi; have := hv.year i hi; show -1850 ≤ -(s.ed i).hi ∧ -(s.ed i).hi ≤ -1450 + ((0 : Nat) : Int); omega
 | succ f ih =>
   intro i hi
   have hy := hv.year i hi
   refine ⟨Int.le_trans (show -1850 ≤ -(s.ed i).hi by omega) (BX (base := fun i => -(s.ed i).hi)), CV.2 ⟨by show -(s.ed i).hi ≤ _; omega, fun e he hi => ?_⟩⟩
   have := ih e.1 (hE _ (CO.1 he)).2
   omega
end
section
def sumN (n : Nat) (f : Nat → Int) : Int := match n with
 | 0 => 0
 | k + 1 => sumN k f + f k
theorem Fs {n : Nat} {f g : Nat → Int} (h : ∀ i, i < n → f i ≤ g i) : sumN n f ≤ sumN n g := by
 induction n with
 | zero => exact Int.le_refl _
 | succ n ih => have := ih fun i hi => h i (by omega); have := h n (by omega); simp only [sumN]; omega
theorem Bs {n : Nat} {f g : Nat → Int} (h : ∀ i, i < n → f i = g i) : sumN n f = sumN n g := Int.le_antisymm (Fs fun i hi => Int.le_of_eq (h i hi)) (Fs fun i hi => Int.le_of_eq (h i hi).symm)
theorem H9 {n : Nat} {f g : Nat → Int} : sumN n (fun i => f i + g i) = sumN n f + sumN n g := by
 induction n with
 | zero => rfl
 | succ n ih => simp only [sumN, ih]; omega
theorem Ep {n : Nat} : sumN n (fun _ => 0) = 0 := by
 induction n with
 | zero => rfl
 | succ n ih => simp only [sumN, ih]; rfl
theorem CC {n : Nat} {f : Nat → Int} (h : ∀ i, i < n → 0 ≤ f i) : 0 ≤ sumN n f := by
 have := Fs (f := fun _ => 0) h
 rw [Ep] at this
 exact this
theorem J2 {n m : Nat} {f : Nat → Nat → Int} : sumN n (fun i => sumN m fun k => f i k) = sumN m fun k => sumN n fun i => f i k := by
 induction n with
 | zero => simp only [sumN]; exact Ep.symm
 | succ n ih => simp only [sumN, ih, ← H9]
theorem H8 {n j : Nat} (hj : j < n) {c : Int} : sumN n (fun i => if j = i then c else 0) = c := by
 induction n with
 | zero => omega
 | succ n ih =>
   simp only [sumN]
   by_cases h : j = n
   · rw [if_pos h]
     have : sumN n (fun i => if j = i then c else 0) = 0 := by rw [Bs (g := fun _ => 0) fun i hi => if_neg (by omega)]; exact Ep
     omega
   rw [if_neg h, ih (by omega)]; omega
theorem Tl {n : Nat} {j : Int} (hj : j = -1) {c : Int} : sumN n (fun i => if j = (i : Int) then c else 0) = 0 := by
 rw [Bs (g := fun _ => 0) fun i hi => if_neg (by omega)]; exact Ep
theorem OR {n i : Nat} {f : Nat → Int} (h : ∀ i, i < n → 0 ≤ f i) (hi : i < n) : f i ≤ sumN n f := by
 induction n with
 | zero => omega
 | succ n ih =>
   simp only [sumN]
   by_cases h2 : i = n
   · subst h2; have := CC (n := i) (f := f) fun j hj => h j (by omega); omega
   have := ih (fun j hj => h j (by omega)) (by omega); have := h n (by omega); omega
def never : Int := 1048576
def stepOk (free : Bool) (a b : Int) : Prop := a = b ∨ a < b ∨ free = true
def bestTo (free : Bool) (own : Int → Int) (a : Int) : Nat → Int
 | 0 => never
 | m + 1 => if (m + 1 : Int) = a then min (bestTo free own a m) (own (m + 1)) else if a < (m + 1 : Int) ∨ free = true then min (bestTo free own a m) (own (m + 1) + 1) else bestTo free own a m
def fitR (s : Stm) (p i : Nat) (a : Int) : Prop := s.r i p = 0 ∨ s.r i p = a
instance {s : Stm} {p i : Nat} {a : Int} : Decidable (fitR s p i a) := by unfold fitR; infer_instance
def freeP (s : Stm) (p : Nat) : Bool := decide ((s.pl p).kind = 0)
def costK (s : Stm) (l : List Int) (p : Nat) (sub : Nat → Int → Int) (i : Nat) : Nat → Int → Int
 | 0, a => if fitR s p i a then 0 else never
 | k + 1, a => if upN l k = (i : Int) then min never (costK s l p sub i k a + bestTo (freeP s p) (sub k) a 3) else costK s l p sub i k a
def costT (s : Stm) (l : List Int) (p : Nat) : Nat → Nat → Int → Int
 | 0, _, _ => 0
 | f + 1, i, a => costK s l p (costT s l p f) i l.length a
def costN (s : Stm) (l : List Int) (p i : Nat) (a : Int) : Int := costT s l p (l.length + 1) i a
def min3 (c : Int → Int) : Int := min (min (c 1) (c 2)) (c 3)
def rootN (l : List Int) : Int := findI (fun x => decide ((-1 : Int) = x)) l
def placeN (s : Stm) (l : List Int) (p : Nat) : Int := min3 (costN s l p (rootN l).toNat)
theorem LS {s : Stm} {l : List Int} {p i : Nat} {f g : Nat → Int → Int} : ∀ {n : Nat}, (∀ k, k < n → upN l k = (i : Int) → f k = g k) → ∀ a, costK s l p f i n a = costK s l p g i n a
 | 0, _, _ => rfl
 | n + 1, h, a => by
   unfold costK
   rw [LS (fun k hk => h k (by omega)) a]
   split
   · rename_i hu; rw [h n (by omega) hu]
   rfl
theorem Km {s : Stm} {l : List Int} {p : Nat} (ht : IsTree l) : ∀ {f i : Nat}, i < l.length → l.length + 1 ≤ dep l l.length i + f → costT s l p (f + 1) i = costT s l p f i
 | 0, i, hi, h => by have := Oo (l := l) (f := l.length) (i := i); omega
 | f + 1, i, hi, h => by
   funext a
   rw [costT]
   conv => rhs; rw [costT]
   refine LS (fun k hk hu => ?_) a
   refine Km ht hk ?_
   have := Ea hu (ht.reach k hk)
   omega
theorem Jf {s : Stm} {l : List Int} {p : Nat} (ht : IsTree l) {i : Nat} (hi : i < l.length) : costN s l p i = costK s l p (costN s l p) i l.length := by
 unfold costN
 rw [← Km ht hi (by omega)]
 rfl
section
variable {s : Stm} {l : List Int} {p : Nat}
theorem FO {free : Bool} {own : Int → Int} {a : Int} (h : ∀ m, 0 ≤ own m) : ∀ m, 0 ≤ bestTo free own a m ∧ bestTo free own a m ≤ never
 | 0 => by unfold bestTo never; omega
 | m + 1 => by
   have := FO (free := free) (a := a) h m
   have := h (m + 1)
   unfold bestTo
   split
   · omega
   split <;> omega
theorem SK {free : Bool} {own : Int → Int} {a : Int} : ∀ {m : Nat} {b : Nat}, 1 ≤ b → b ≤ m → stepOk free a b → bestTo free own a m ≤ own b + (if a = (b : Int) then 0 else 1)
 | 0, b, h1, h2, _ => by omega
 | m + 1, b, h1, h2, h3 => by
   by_cases hb : b = m + 1
   · subst hb
     have e : ((m + 1 : Nat) : Int) = (m : Int) + 1 := by omega
     rw [e] at h3 ⊢
     unfold bestTo
     rcases h3 with h3 | h3
     · rw [if_pos h3.symm, if_pos h3]; omega
     by_cases h4 : (m : Int) + 1 = a
     · rw [if_pos h4, if_pos h4.symm]; omega
     rw [if_neg h4, if_pos h3, if_neg (fun h => h4 h.symm)]; omega
   have := SK (own := own) (m := m) h1 (by omega) h3
   unfold bestTo
   split
   · omega
   split <;> omega
theorem Nx {free : Bool} {own : Int → Int} {a : Int} : ∀ {m : Nat}, bestTo free own a m < never → ∃ b : Nat, 1 ≤ b ∧ b ≤ m ∧ stepOk free a b ∧ bestTo free own a m = own b + (if a = (b : Int) then 0 else 1)
 | 0, h => by unfold bestTo at h; omega
 | m + 1, h => by
   have ih := Nx (free := free) (own := own) (a := a) (m := m)
   have old : bestTo free own a (m + 1) = bestTo free own a m → ∃ b : Nat, 1 ≤ b ∧ b ≤ m + 1 ∧ stepOk free a b ∧ bestTo free own a (m + 1) = own b + (if a = (b : Int) then 0 else 1) := fun e => by
     rw [e] at h ⊢
     obtain ⟨b, h1, h2, h3⟩ := ih h
     exact ⟨b, h1, by omega, h3⟩
   have e : bestTo free own a (m + 1) = if (m + 1 : Int) = a then min (bestTo free own a m) (own (m + 1)) else if a < (m + 1 : Int) ∨ free = true then min (bestTo free own a m) (own (m + 1) + 1) else bestTo free own a m := rfl
   by_cases h4 : (m + 1 : Int) = a
   · rw [if_pos h4] at e
     by_cases h5 : bestTo free own a m ≤ own (m + 1)
     · exact old (by omega)
     exact ⟨m + 1, by omega, by omega, .inl (by push_cast; omega), by rw [if_pos (by push_cast; omega)]; push_cast; omega⟩
   rw [if_neg h4] at e
   by_cases h6 : a < (m + 1 : Int) ∨ free = true
   · rw [if_pos h6] at e
     by_cases h5 : bestTo free own a m ≤ own (m + 1) + 1
     · exact old (by omega)
     exact ⟨m + 1, by omega, by omega, .inr (by push_cast; exact h6), by rw [if_neg (by push_cast; omega)]; push_cast; omega⟩
   rw [if_neg h6] at e
   exact old e
theorem EM {sub : Nat → Int → Int} (h : ∀ k a, 0 ≤ sub k a) {i : Nat} : ∀ n a, 0 ≤ costK s l p sub i n a ∧ costK s l p sub i n a ≤ never
 | 0, a => by unfold costK never; split <;> omega
 | n + 1, a => by
   have := EM h (i := i) n a
   have := FO (free := freeP s p) (a := a) (h n) 3
   unfold costK
   split <;> omega
theorem Kn : ∀ f i a, 0 ≤ costT s l p f i a ∧ costT s l p f i a ≤ never
 | 0, _, _ => by unfold costT never; omega
 | f + 1, i, a => EM (fun k b => (Kn f k b).1) _ _
theorem Dw (i : Nat) (a : Int) : 0 ≤ costN s l p i a ∧ costN s l p i a ≤ never := Kn _ _ _
def chg (l : List Int) (g : Nat → Int) (k : Nat) : Int := if upN l k = -1 then 0 else if g (upN l k).toNat = g k then 0 else 1
theorem VX {l : List Int} {g : Nat → Int} {k i : Nat} (hu : upN l k = (i : Int)) : chg l g k = if g i = g k then 0 else 1 := by
 have h1 : ¬ upN l k = -1 := by omega
 have h2 : (upN l k).toNat = i := by omega
 unfold chg; rw [if_neg h1, h2]
structure Filling (s : Stm) (l : List Int) (p : Nat) (g : Nat → Int) : Prop where
 val : ∀ i, i < l.length → 1 ≤ g i ∧ g i ≤ 3
 fit : ∀ i, i < l.length → fitR s p i (g i)
def Possible (s : Stm) (l : List Int) (p : Nat) (g : Nat → Int) : Prop := ∀ i, i < l.length → upN l i ≠ -1 → stepOk (freeP s p) (g (upN l i).toNat) (g i)
def changesOf (l : List Int) (g : Nat → Int) : Int := sumN l.length (chg l g)
theorem PZ {sub : Nat → Int → Int} {g : Nat → Int} {i : Nat} (hfit : fitR s p i (g i)) : ∀ {n : Nat}, (∀ k, k < n → 1 ≤ g k ∧ g k ≤ 3) → (∀ k, k < n → upN l k = (i : Int) → stepOk (freeP s p) (g i) (g k)) →
   costK s l p sub i n (g i) ≤ sumN n (fun k => if upN l k = (i : Int) then sub k (g k) + (if g i = g k then 0 else 1) else 0)
 | 0, _, _ => by unfold costK sumN; rw [if_pos hfit]; exact Int.le_refl _
 | n + 1, h, h2 => by
   have ih := PZ (sub := sub) hfit (n := n) (fun k hk => h k (by omega)) (fun k hk => h2 k (by omega))
   unfold costK
   simp only [sumN]
   split
   · rename_i hu
     have hv := h n (by omega)
     obtain ⟨b, hb⟩ := Int.eq_ofNat_of_zero_le (show 0 ≤ g n by omega)
     have hs := h2 n (by omega) hu
     rw [hb] at hs
     have := SK (own := sub n) (m := 3) (b := b) (by omega) (by omega) hs
     rw [← hb] at this
     omega
   omega
theorem OQ {c : Nat → Int} (ht : IsTree l) : sumN l.length (fun i => sumN l.length fun k => if upN l k = (i : Int) then c k else 0) = sumN l.length fun k => if upN l k = -1 then 0 else c k := by
 rw [J2]
 refine Bs fun k hk => ?_
 by_cases h : upN l k = -1
 · rw [if_pos h]; exact Tl h
 rw [if_neg h]
 obtain ⟨j, hj, hjl⟩ := ht.in_.nat hk h
 rw [hj, Bs (g := fun i => if j = i then c k else 0) fun i _ => by simp only [Int.natCast_inj]]
 exact H8 hjl
theorem ML {c : Nat → Int} : sumN l.length c = sumN l.length (fun k => if upN l k = -1 then c k else 0) + sumN l.length fun k => if upN l k = -1 then 0 else c k := by
 rw [← H9]
 exact Bs fun k _ => by split <;> omega
theorem Rz (ht : IsTree l) {g : Nat → Int} (hf : Filling s l p g) (hp : Possible s l p g) {r : Nat} (hr : r < l.length) (hru : upN l r = -1) : costN s l p r (g r) ≤ changesOf l g := by
 have h1 : ∀ i, i < l.length → costN s l p i (g i) ≤ sumN l.length fun k => if upN l k = (i : Int) then costN s l p k (g k) + (if g i = g k then 0 else 1) else 0 := fun i hi => by
   rw [Jf ht hi]
   exact PZ (hf.fit i hi) hf.val fun k hk hu => by have := hp k hk (by omega); rw [hu] at this; exact this
 have h2 := Fs h1
 have h3 : sumN l.length (fun i => sumN l.length fun k => if upN l k = (i : Int) then costN s l p k (g k) + (if g i = g k then 0 else 1) else 0) = sumN l.length fun k => if upN l k = -1 then 0 else costN s l p k (g k) + chg l g k := by
   rw [← OQ ht]
   refine Bs fun i _ => Bs fun k _ => ?_
   by_cases hu : upN l k = (i : Int)
   · rw [if_pos hu, if_pos hu, VX hu]
   rw [if_neg hu, if_neg hu]
 rw [h3, ML (c := fun i => costN s l p i (g i))] at h2
 have h4 : sumN l.length (fun k => if upN l k = -1 then 0 else costN s l p k (g k) + chg l g k) = sumN l.length (fun k => if upN l k = -1 then 0 else costN s l p k (g k)) + changesOf l g := by
   unfold changesOf
   rw [← H9]
   refine Bs fun k _ => ?_
   split
   · rename_i hu; unfold chg; rw [if_pos hu]; rfl
   rfl
 rw [h4] at h2
 have h5 := OR (n := l.length) (i := r) (f := fun k => if upN l k = -1 then costN s l p k (g k) else 0) (fun k _ => by show 0 ≤ if upN l k = -1 then costN s l p k (g k) else 0; split; exact (Dw _ _).1; exact Int.le_refl _) hr
 simp only [if_pos hru] at h5
 omega
def stepB (free : Bool) (own : Int → Int) (a b : Int) : Bool := (decide (a = b) || (decide (a < b) || free)) && decide (bestTo free own a 3 = own b + (if a = b then 0 else 1))
theorem J3 {free : Bool} {own : Int → Int} {a b : Int} : stepB free own a b = true ↔ stepOk free a b ∧ bestTo free own a 3 = own b + (if a = b then 0 else 1) := by simp [stepB, stepOk]
def pickM (free : Bool) (own : Int → Int) (a : Int) : Int := bif stepB free own a 1 then 1 else bif stepB free own a 2 then 2 else 3
theorem Ps {free : Bool} {own : Int → Int} {a : Int} (h : bestTo free own a 3 < never) : 1 ≤ pickM free own a ∧ pickM free own a ≤ 3 ∧ stepOk free a (pickM free own a) ∧ bestTo free own a 3 = own (pickM free own a) + (if a = pickM free own a then 0 else 1) := by
 obtain ⟨b, h1, h2, h3, h4⟩ := Nx h
 have hb := J3.2 ⟨h3, h4⟩
 unfold pickM
 cases q1 : stepB free own a 1 with
 | true => exact ⟨Int.le_refl _, (show (1 : Int) ≤ 3 by decide), J3.1 q1⟩
 | false =>
   cases q2 : stepB free own a 2 with
   | true => exact ⟨(show (1 : Int) ≤ 2 by decide), (show (2 : Int) ≤ 3 by decide), J3.1 q2⟩
   | false =>
     have hb2 : b = 1 ∨ b = 2 ∨ b = 3 := by omega
     rcases hb2 with rfl | rfl | rfl
     · exact absurd (hb.symm.trans q1) (by decide)
     · exact absurd (hb.symm.trans q2) (by decide)
     exact ⟨(show (1 : Int) ≤ 3 by decide), Int.le_refl _, h3, h4⟩
def walkUp (l : List Int) (z : Int) (st : Nat → Int → Int) : Nat → Nat → Int
 | 0, _ => z
 | f + 1, i => if upN l i = -1 then z else st i (walkUp l z st f (upN l i).toNat)
theorem JW {z : Int} {st : Nat → Int → Int} : ∀ {f i : Nat}, reach l f i = true → walkUp l z st (f + 1) i = walkUp l z st f i
 | 0, i, h => by have : upN l i = -1 := by simpa [reach] using h
                 unfold walkUp; rw [if_pos this]
 | f + 1, i, h => by
   by_cases h1 : upN l i = -1
   · unfold walkUp; rw [if_pos h1, if_pos h1]
   simp only [reach, dF h1, Bool.false_or] at h
   have e := JW (z := z) (st := st) h
   rw [walkUp, if_neg h1, e]
   conv => rhs; rw [walkUp, if_neg h1]
theorem SY {z : Int} {st : Nat → Int → Int} {f i k : Nat} (h : upN l i = (k : Int)) (hr : reach l f i = true) : walkUp l z st f i = st i (walkUp l z st f k) := by
 obtain ⟨f', rfl, h2⟩ := Lj h hr
 rw [JW h2]
 conv => lhs; rw [walkUp, if_neg (by omega), h]
 rfl
theorem SX {z : Int} {st : Nat → Int → Int} {f i : Nat} (h : upN l i = -1) : walkUp l z st f i = z := by cases f <;> simp [walkUp, h]
theorem EL {sub : Nat → Int → Int} (hs : ∀ k a, 0 ≤ sub k a) {i : Nat} {a : Int} : ∀ {n : Nat}, costK s l p sub i n a < never → fitR s p i a ∧ (∀ k, k < n → upN l k = (i : Int) → bestTo (freeP s p) (sub k) a 3 < never) ∧
   costK s l p sub i n a = sumN n (fun k => if upN l k = (i : Int) then bestTo (freeP s p) (sub k) a 3 else 0)
 | 0, h => by
   unfold costK at h ⊢
   split at h
   · rename_i hf; exact ⟨hf, fun k hk => absurd hk (by omega), by rw [if_pos hf]; rfl⟩
   omega
 | n + 1, h => by
   have e : costK s l p sub i (n + 1) a = if upN l n = (i : Int) then min never (costK s l p sub i n a + bestTo (freeP s p) (sub n) a 3) else costK s l p sub i n a := rfl
   rw [e] at h ⊢
   have hb := FO (free := freeP s p) (a := a) (hs n) 3
   have hk := EM (s := s) (l := l) (p := p) hs (i := i) n a
   by_cases hu : upN l n = (i : Int)
   · rw [if_pos hu] at h ⊢
     obtain ⟨h1, h2, h3⟩ := EL hs (n := n) (a := a) (i := i) (by omega)
     refine ⟨h1, fun k hk hu2 => ?_, ?_⟩
     · by_cases hkn : k = n
       · subst hkn; omega
       exact h2 k (by omega) hu2
     simp only [sumN]; rw [if_pos hu, ← h3]; omega
   rw [if_neg hu] at h ⊢
   obtain ⟨h1, h2, h3⟩ := EL hs (n := n) h
   refine ⟨h1, fun k hk hu2 => ?_, ?_⟩
   · by_cases hkn : k = n
     · subst hkn; exact absurd hu2 hu
     exact h2 k (by omega) hu2
   simp only [sumN]; rw [if_neg hu, ← h3]; omega
theorem En {n : Nat} : ∀ i k, i < n → k < n → upN l i = -1 → upN l k = -1 → firstsN l n ≤ 1 → i = k := by
 have key : ∀ n i k, i < k → k < n → upN l i = -1 → upN l k = -1 → 2 ≤ firstsN l n := by
   have one : ∀ n i, i < n → upN l i = -1 → 1 ≤ firstsN l n := by
     intro n
     induction n with
     | zero => intro i h; omega
     | succ n ih =>
       intro i hi hu
       unfold firstsN
       by_cases h : i = n
       · subst h; rw [if_pos hu]; have := Em (l := l) i; omega
       have := ih i (by omega) hu; split <;> omega
   intro n
   induction n with
   | zero => intro i k _ h; omega
   | succ n ih =>
     intro i k hik hk h1 h2
     unfold firstsN
     by_cases h : k = n
     · subst h; rw [if_pos h2]; have := one k i hik h1; omega
     have := ih i k hik (by omega) h1 h2; split <;> omega
 intro i k hi hk h1 h2 h3
 rcases Nat.lt_trichotomy i k with h | h | h
 · have := key n i k h hk h1 h2; omega
 · exact h
 have := key n k i h hi h2 h1; omega
theorem Rx (ht : IsTree l) {r : Nat} (hr : r < l.length) (hru : upN l r = -1) {a : Int} (ha : 1 ≤ a ∧ a ≤ 3) (hc : costN s l p r a < never) : ∃ g, Filling s l p g ∧ Possible s l p g ∧ g r = a ∧ changesOf l g = costN s l p r a := by
 let g : Nat → Int := walkUp l a (fun i b => pickM (freeP s p) (costN s l p i) b) l.length
 have hgr : g r = a := SX hru
 have huniq : ∀ k, k < l.length → upN l k = -1 → k = r := fun k hk hu => En k r hk hr hu hru (by rw [ht.one]; exact Int.le_refl _)
 have hge : ∀ k (i : Nat), k < l.length → upN l k = (i : Int) → g k = pickM (freeP s p) (costN s l p k) (g i) := fun k i hk hu => SY hu (ht.reach k hk)
 have hnn : ∀ k b, 0 ≤ costN s l p k b := fun k b => (Dw k b).1
 -- all costs along g are less than never
 have hall : ∀ d i, i < l.length → dep l l.length i ≤ d → costN s l p i (g i) < never := by
   intro d
   induction d with
   | zero =>
     intro i hi hd
     by_cases hu : upN l i = -1
     · rw [huniq i hi hu, hgr]; exact hc
     obtain ⟨j, hj, hjl⟩ := ht.in_.nat hi hu
     have := Ea hj (ht.reach i hi)
     omega
   | succ d ih =>
     intro i hi hd
     by_cases hu : upN l i = -1
     · rw [huniq i hi hu, hgr]; exact hc
     obtain ⟨j, hj, hjl⟩ := ht.in_.nat hi hu
     have h1 := Ea hj (ht.reach i hi)
     have h2 := ih j hjl (by omega)
     rw [Jf ht hjl] at h2
     obtain ⟨-, h3, -⟩ := EL hnn h2
     have h4 := h3 i hi hj
     have h5 := Ps h4
     rw [← hge i j hi hj] at h5
     have := (hnn i (g i))
     have h6 := h5.2.2.2
     split at h6 <;> omega
 have hlt : ∀ i, i < l.length → costN s l p i (g i) < never := fun i hi => hall _ i hi (Nat.le_refl _)
 have hparts : ∀ i, i < l.length → fitR s p i (g i) ∧ (∀ k, k < l.length → upN l k = (i : Int) → bestTo (freeP s p) (costN s l p k) (g i) 3 < never) ∧ costN s l p i (g i) = sumN l.length (fun k => if upN l k = (i : Int) then bestTo (freeP s p) (costN s l p k) (g i) 3 else 0) := fun i hi => by
   have h := hlt i hi
   have hfx := congrFun (Jf (s := s) (p := p) ht hi) (g i)
   rw [hfx] at h ⊢
   exact EL hnn h
 have hkid : ∀ i k, i < l.length → k < l.length → upN l k = (i : Int) → 1 ≤ g k ∧ g k ≤ 3 ∧ stepOk (freeP s p) (g i) (g k) ∧ bestTo (freeP s p) (costN s l p k) (g i) 3 = costN s l p k (g k) + (if g i = g k then 0 else 1) := fun i k hi hk hu => by
   have := Ps ((hparts i hi).2.1 k hk hu)
   rw [← hge k i hk hu] at this
   exact this
 refine ⟨g, ⟨fun i hi => ?_, fun i hi => (hparts i hi).1⟩, fun i hi hu => ?_, hgr, ?_⟩
 · by_cases hu : upN l i = -1
   · rw [huniq i hi hu, hgr]; exact ha
   obtain ⟨j, hj, hjl⟩ := ht.in_.nat hi hu
   have := hkid j i hjl hi hj
   exact ⟨this.1, this.2.1⟩
 · obtain ⟨j, hj, hjl⟩ := ht.in_.nat hi hu
   have := (hkid j i hjl hi hj).2.2.1
   rw [hj]; exact this
 have h1 : sumN l.length (fun i => costN s l p i (g i)) = sumN l.length fun i => sumN l.length fun k => if upN l k = (i : Int) then costN s l p k (g k) + chg l g k else 0 := by
   refine Bs fun i hi => ?_
   rw [(hparts i hi).2.2]
   refine Bs fun k hk => ?_
   by_cases hu : upN l k = (i : Int)
   · rw [if_pos hu, if_pos hu, (hkid i k hi hk hu).2.2.2, VX hu]
   rw [if_neg hu, if_neg hu]
 rw [OQ ht, ML (c := fun i => costN s l p i (g i))] at h1
 have h4 : sumN l.length (fun k => if upN l k = -1 then 0 else costN s l p k (g k) + chg l g k) = sumN l.length (fun k => if upN l k = -1 then 0 else costN s l p k (g k)) + changesOf l g := by
   unfold changesOf
   rw [← H9]
   refine Bs fun k _ => ?_
   split
   · rename_i hu; unfold chg; rw [if_pos hu]; rfl
   rfl
 rw [h4] at h1
 have h5 : sumN l.length (fun k => if upN l k = -1 then costN s l p k (g k) else 0) = costN s l p r a := by
   rw [Bs (g := fun k => if r = k then costN s l p r a else 0) fun k hk => ?_]
   · exact H8 hr
   by_cases hu : upN l k = -1
   · rw [if_pos hu, huniq k hk hu, if_pos rfl, hgr]
   rw [if_neg hu, if_neg (fun h : r = k => hu (by rw [← h]; exact hru))]
 omega
end
end
section
def fillF (s : Stm) (p : Nat) : Nat → List Int → List (List Int)
 | 0, b => [b]
 | r + 1, b => ([1, 2, 3] : List Int).flatMap fun n => if fitR s p b.length n then fillF s p r (b ++ [n]) else []
def allFill (s : Stm) (p : Nat) : List (List Int) := fillF s p s.editions.length []
theorem LI {s : Stm} {p : Nat} : ∀ {r : Nat} {b xs : List Int}, xs ∈ fillF s p r b ↔ ∃ t, xs = b ++ t ∧ t.length = r ∧ ∀ j, j < r → 1 ≤ upN t j ∧ upN t j ≤ 3 ∧ fitR s p (b.length + j) (upN t j)
 | 0, b, xs => by
   unfold fillF
   simp only [List.mem_singleton]
   constructor
   · rintro rfl; exact ⟨[], by simp, rfl, fun j h => absurd h (by omega)⟩
   rintro ⟨t, rfl, ht, -⟩; rw [List.eq_nil_of_length_eq_zero ht]; simp
 | r + 1, b, xs => by
   unfold fillF
   rw [List.mem_flatMap]
   constructor
   · rintro ⟨n, hn, hx⟩
     split at hx
     · rename_i hf
       obtain ⟨t, rfl, ht, h⟩ := LI.1 hx
       have hn3 : 1 ≤ n ∧ n ≤ 3 := by simp at hn; omega
       refine ⟨n :: t, by simp, by simp [ht], fun j hj => ?_⟩
       cases j with
       | zero => exact ⟨hn3.1, hn3.2, hf⟩
       | succ j =>
         have := h j (by omega)
         rw [List.length_append, List.length_singleton, show b.length + 1 + j = b.length + (j + 1) by omega] at this
         exact this
     cases hx
   rintro ⟨t, rfl, ht, h⟩
   cases t with
   | nil => cases ht
   | cons n t =>
     have h0 := h 0 (by omega)
     have h0' : 1 ≤ n ∧ n ≤ 3 ∧ fitR s p b.length n := h0
     refine ⟨n, by simp; omega, ?_⟩
     rw [if_pos h0'.2.2]
     refine LI.2 ⟨t, by simp, by simpa using ht, fun j hj => ?_⟩
     have := h (j + 1) (by omega)
     rw [List.length_append, List.length_singleton, show b.length + 1 + j = b.length + (j + 1) by omega]
     exact this
theorem G6 {s : Stm} {p : Nat} {l xs : List Int} (hl : l.length = s.editions.length) : xs ∈ allFill s p ↔ xs.length = l.length ∧ Filling s l p (upN xs) := by
 unfold allFill
 rw [LI]
 constructor
 · rintro ⟨t, rfl, ht, h⟩
   simp only [List.length_nil, Nat.zero_add] at *
   exact ⟨by omega, fun i hi => ⟨(h i (by omega)).1, (h i (by omega)).2.1⟩, fun i hi => (h i (by omega)).2.2⟩
 rintro ⟨h1, h2⟩
 exact ⟨xs, rfl, by omega, fun j hj => ⟨(h2.val j (by omega)).1, (h2.val j (by omega)).2, by have := h2.fit j (by omega); simpa using this⟩⟩
theorem Kv {g : Nat → Int} {n i : Nat} (h : i < n) : upN ((List.range n).map g) i = g i := by simp [upN, h]
def possAt (s : Stm) (l : List Int) (p : Nat) (g : Nat → Int) (i : Nat) : Bool := decide (upN l i = -1) || (decide (g (upN l i).toNat = g i) || (decide (g (upN l i).toNat < g i) || freeP s p))
def possB (s : Stm) (l : List Int) (p : Nat) (g : Nat → Int) : Bool := (List.range l.length).all (possAt s l p g)
theorem Ls {s : Stm} {l : List Int} {p i : Nat} {g : Nat → Int} : possAt s l p g i = true ↔ (upN l i ≠ -1 → stepOk (freeP s p) (g (upN l i).toNat) (g i)) := by
 unfold possAt stepOk
 simp only [Bool.or_eq_true, decide_eq_true_eq]
 constructor
 · rintro (h | h) h2
   · exact absurd h h2
   exact h
 intro h
 by_cases h2 : upN l i = -1
 · exact .inl h2
 exact .inr (h h2)
theorem JA {s : Stm} {l : List Int} {p : Nat} {g : Nat → Int} : possB s l p g = true ↔ Possible s l p g := by
 unfold possB Possible
 rw [List.all_eq_true]
 exact ⟨fun h i hi => Ls.1 (h i (List.mem_range.2 hi)), fun h i hi => Ls.2 (h i (List.mem_range.1 hi))⟩
def countL (s : Stm) (l : List Int) (p : Nat) (xs : List Int) : Int := if possB s l p (upN xs) = true then changesOf l (upN xs) else 1000
def leastL (s : Stm) (l : List Int) (p : Nat) : Int := (allFill s p).foldl (fun m xs => min m (countL s l p xs)) 1000
theorem Fh {l : List Int} {g : Nat → Int} {k : Nat} : 0 ≤ chg l g k ∧ chg l g k ≤ 1 := by unfold chg; split; omega; split <;> omega
theorem CN {l : List Int} {g : Nat → Int} : 0 ≤ changesOf l g ∧ changesOf l g ≤ l.length := by
 unfold changesOf
 refine ⟨CC fun i _ => Fh.1, ?_⟩
 have key : ∀ n, sumN n (chg l g) ≤ n := by
   intro n
   induction n with
   | zero => exact Int.le_refl _
   | succ n ih => simp only [sumN]; have := (Fh (l := l) (g := g) (k := n)).2; push_cast; omega
 exact key _
theorem E9 {α : Type} {f : α → Int} : ∀ {l : List α} {m c : Int}, c ≤ l.foldl (fun m x => min m (f x)) m ↔ c ≤ m ∧ ∀ x ∈ l, c ≤ f x
 | [], m, c => by simp
 | a :: l, m, c => by
   rw [List.foldl_cons, E9]
   constructor
   · rintro ⟨h1, h2⟩
     refine ⟨by omega, fun x hx => ?_⟩
     rcases List.mem_cons.1 hx with rfl | hx
     · omega
     exact h2 x hx
   rintro ⟨h1, h2⟩
   have := h2 a List.mem_cons_self
   exact ⟨by omega, fun x hx => h2 x (List.mem_cons_of_mem _ hx)⟩
theorem EG {α : Type} {f : α → Int} {l : List α} {m : Int} {x : α} (hx : x ∈ l) : l.foldl (fun m x => min m (f x)) m ≤ f x := (E9.1 (Int.le_refl _)).2 x hx
theorem DN {α : Type} {f : α → Int} {l : List α} {m : Int} : l.foldl (fun m x => min m (f x)) m ≤ m := (E9.1 (Int.le_refl _)).1
theorem LG {l : List Int} {n : Nat} (h : 1 ≤ firstsN l n) : ∃ r, r < n ∧ upN l r = -1 := by
 induction n with
 | zero => unfold firstsN at h; omega
 | succ n ih =>
   by_cases hu : upN l n = -1
   · exact ⟨n, by omega, hu⟩
   unfold firstsN at h
   rw [if_neg hu] at h
   obtain ⟨r, h1, h2⟩ := ih h
   exact ⟨r, by omega, h2⟩
theorem NK {l : List Int} (ht : IsTree l) : ∃ r : Nat, rootN l = (r : Int) ∧ r < l.length ∧ upN l r = -1 := by
 obtain ⟨r, h1, h2⟩ := LG (l := l) (n := l.length) (by rw [ht.one]; exact Int.le_refl _)
 refine ⟨r, ?_, h1, h2⟩
 unfold rootN
 refine Cz h1 (by rw [BR h1]; exact dT h2.symm) fun j hj hjr => ?_
 rw [BR hj]
 refine dF fun h => ?_
 have := En (l := l) j r hj h1 h.symm h2 (by rw [ht.one]; exact Int.le_refl _)
 omega
theorem min3_le {c : Int → Int} {a : Int} (h : 1 ≤ a ∧ a ≤ 3) : min3 c ≤ c a := by
 unfold min3
 have : a = 1 ∨ a = 2 ∨ a = 3 := by omega
 rcases this with rfl | rfl | rfl <;> omega
theorem Nd {c : Int → Int} : ∃ a, (1 ≤ a ∧ a ≤ 3) ∧ min3 c = c a := by
 unfold min3
 by_cases h1 : c 1 ≤ c 2
 · by_cases h2 : c 1 ≤ c 3
   · exact ⟨1, by omega, by omega⟩
   exact ⟨3, by omega, by omega⟩
 by_cases h2 : c 2 ≤ c 3
 · exact ⟨2, by omega, by omega⟩
 exact ⟨3, by omega, by omega⟩
section
variable {s : Stm} {l : List Int} {p : Nat}
theorem CZ : 0 ≤ placeN s l p ∧ placeN s l p ≤ never := by
 obtain ⟨a, -, h⟩ := Nd (c := costN s l p (rootN l).toNat)
 unfold placeN
 rw [h]
 exact Dw _ _
theorem HN (ht : IsTree l) {g : Nat → Int} (hf : Filling s l p g) (hp : Possible s l p g) : placeN s l p ≤ changesOf l g := by
 obtain ⟨r, h1, h2, h3⟩ := NK ht
 unfold placeN
 rw [h1]
 exact Int.le_trans (min3_le (hf.val r h2)) (Rz ht hf hp h2 h3)
theorem NS (ht : IsTree l) (h : placeN s l p < never) : ∃ g, Filling s l p g ∧ Possible s l p g ∧ changesOf l g = placeN s l p := by
 obtain ⟨r, h1, h2, h3⟩ := NK ht
 obtain ⟨a, ha, h4⟩ := Nd (c := costN s l p (rootN l).toNat)
 have e : placeN s l p = costN s l p r a := by unfold placeN; rw [h4, h1]; rfl
 rw [e] at h ⊢
 obtain ⟨g, h5, h6, -, h7⟩ := Rx ht h2 h3 ha h
 exact ⟨g, h5, h6, h7⟩
theorem Ku {g g' : Nat → Int} (hin : TreeIn l) (h : ∀ i, i < l.length → g i = g' i) : changesOf l g = changesOf l g' := by
 refine Bs fun k hk => ?_
 unfold chg
 by_cases hu : upN l k = -1
 · rw [if_pos hu, if_pos hu]
 obtain ⟨j, hj, hjl⟩ := hin.nat hk hu
 rw [if_neg hu, if_neg hu, hj, h k hk, Int.toNat_natCast, h j hjl]
theorem Filling.congr {g g' : Nat → Int} (hf : Filling s l p g) (h : ∀ i, i < l.length → g i = g' i) : Filling s l p g' :=
 ⟨fun i hi => by rw [← h i hi]; exact hf.val i hi, fun i hi => by rw [← h i hi]; exact hf.fit i hi⟩
theorem Possible.congr {g g' : Nat → Int} (hin : TreeIn l) (hp : Possible s l p g) (h : ∀ i, i < l.length → g i = g' i) : Possible s l p g' := fun i hi hu => by
 obtain ⟨j, hj, hjl⟩ := hin.nat hi hu
 have := hp i hi hu
 rw [hj, Int.toNat_natCast] at this ⊢
 rw [← h i hi, ← h j hjl]
 exact this
theorem Fe {g : Nat → Int} (hin : TreeIn l) (hl : l.length = s.editions.length) (hf : Filling s l p g) (hp : Possible s l p g) : leastL s l p ≤ changesOf l g := by
 have hx : ((List.range l.length).map g) ∈ allFill s p := (G6 hl).2 ⟨by simp, hf.congr fun i hi => (Kv hi).symm⟩
 have h1 := EG (f := countL s l p) (m := 1000) hx
 have h2 : countL s l p ((List.range l.length).map g) = changesOf l g := by
   unfold countL
   rw [if_pos (JA.2 (hp.congr hin fun i hi => (Kv hi).symm))]
   exact Ku hin fun i hi => Kv hi
 rw [h2] at h1
 exact h1
theorem Gg {c : Int} (h0 : c ≤ 1000) (hl : l.length = s.editions.length) (h : ∀ g, Filling s l p g → Possible s l p g → c ≤ changesOf l g) : c ≤ leastL s l p := by
 refine E9.2 ⟨h0, fun xs hx => ?_⟩
 unfold countL
 split
 · rename_i hp; exact h _ ((G6 hl).1 hx).2 (JA.1 hp)
 exact h0
theorem Kh (ht : IsTree l) (hl : l.length = s.editions.length) (hn : l.length ≤ 1000) : (placeN s l p < never → leastL s l p = placeN s l p ∧ placeN s l p ≤ l.length) ∧ (placeN s l p = never → leastL s l p = 1000) := by
 constructor
 · intro h
   obtain ⟨g, h1, h2, h3⟩ := NS ht h
   have hb := (CN (l := l) (g := g)).2
   refine ⟨Int.le_antisymm ?_ (Gg (by omega) hl fun g' h4 h5 => HN ht h4 h5), by omega⟩
   rw [← h3]; exact Fe ht.in_ hl h1 h2
 intro h
 refine Int.le_antisymm DN (Gg (Int.le_refl _) hl fun g h4 h5 => ?_)
 have h6 := HN ht h4 h5
 have hb := (CN (l := l) (g := g)).2
 unfold never at h; omega
theorem CG : 0 ≤ leastL s l p ∧ leastL s l p ≤ 1000 := by
 refine ⟨E9.2 ⟨by omega, fun xs _ => ?_⟩, DN⟩
 unfold countL
 split
 · exact CN.1
 omega
def chTo (s : Stm) (l : List Int) : Nat → Int
 | 0 => if fitsE s (treeE l) = true then 0 else never
 | k + 1 => min never (chTo s l k + placeN s l k)
def changesN (s : Stm) (l : List Int) : Int := chTo s l s.places.length
def costL (s : Stm) (l : List Int) : Int := if fitsE s (treeE l) = true then min (sumN s.places.length (leastL s l)) 1000 else 1000
theorem EC : ∀ k, 0 ≤ chTo s l k ∧ chTo s l k ≤ never
 | 0 => by unfold chTo never; split <;> omega
 | k + 1 => by have := EC k; have := CZ (s := s) (l := l) (p := k); unfold chTo; omega
theorem Mb (h : fitsE s (treeE l) = false) : ∀ k, chTo s l k = never
 | 0 => by unfold chTo; rw [h]; rfl
 | k + 1 => by have := Mb h k; have := CZ (s := s) (l := l) (p := k); unfold chTo; omega
theorem Hq (ht : IsTree l) (hl : l.length = s.editions.length) (hn : l.length ≤ 10) (hf : fitsE s (treeE l) = true) : ∀ k, k ≤ 10 → (chTo s l k < never → sumN k (leastL s l) = chTo s l k ∧ chTo s l k ≤ 10 * k) ∧ (chTo s l k = never → 1000 ≤ sumN k (leastL s l))
 | 0, _ => by
   unfold chTo sumN
   rw [if_pos hf]
   exact ⟨fun _ => ⟨rfl, by omega⟩, fun h => by unfold never at h; omega⟩
 | k + 1, hk => by
   have ih := Hq ht hl hn hf k (by omega)
   have h1 := Kh (p := k) ht hl (by omega)
   have h2 := CZ (s := s) (l := l) (p := k)
   have h3 := EC (s := s) (l := l) k
   have h4 := CG (s := s) (l := l) (p := k)
   have h5 : 0 ≤ sumN k (leastL s l) := CC fun i _ => CG.1
   unfold chTo
   simp only [sumN]
   by_cases h6 : chTo s l k < never
   · obtain ⟨h7, h8⟩ := ih.1 h6
     by_cases h9 : placeN s l k < never
     · obtain ⟨h10, h11⟩ := h1.1 h9
       unfold never at *
       constructor
       · intro _; push_cast; omega
       intro _; omega
     have h10 := h1.2 (by omega)
     unfold never at *
     exact ⟨fun _ => by omega, fun _ => by omega⟩
   have h7 := ih.2 (by omega)
   unfold never at *
   exact ⟨fun _ => by omega, fun _ => by omega⟩
theorem Ow (ht : IsTree l) (hv : ValidT s) (hl : l.length = s.editions.length) : (changesN s l < never → costL s l = changesN s l ∧ changesN s l ≤ 60) ∧ (changesN s l = never → costL s l = 1000) ∧ 0 ≤ changesN s l ∧ changesN s l ≤ never := by
 have hne := hv.ne
 have hnp := hv.np
 refine ⟨?_, ?_, EC _⟩
 · intro h
   cases hf : fitsE s (treeE l) with
   | false => unfold changesN at h; rw [Mb hf] at h; omega
   | true =>
     obtain ⟨h1, h2⟩ := (Hq ht hl (by omega) hf s.places.length (by omega)).1 h
     unfold costL changesN at *
     rw [if_pos hf, h1]
     omega
 intro h
 unfold costL
 cases hf : fitsE s (treeE l) with
 | false => rfl
 | true =>
   have := (Hq ht hl (by omega) hf s.places.length (by omega)).2 h
   rw [if_pos rfl]; omega
theorem Gp : 0 ≤ costL s l ∧ costL s l ≤ 1000 := by
 have : 0 ≤ sumN s.places.length (leastL s l) := CC fun i _ => CG.1
 unfold costL; split <;> omega
def costV (s : Stm) (l : List Int) : Int := if costL s l = 1000 then never else costL s l
theorem ES (ht : IsTree l) (hv : ValidT s) (hl : l.length = s.editions.length) : changesN s l = costV s l := by
 obtain ⟨h1, h2, h3, h4⟩ := Ow ht hv hl
 unfold costV
 by_cases h : changesN s l < never
 · obtain ⟨h5, h6⟩ := h1 h
   rw [if_neg (by omega), h5]
 rw [if_pos (h2 (by omega))]; omega
theorem NR (ht : IsTree l) (hv : ValidT s) (hl : l.length = s.editions.length) : placeN s l p = if leastL s l p = 1000 then never else leastL s l p := by
 have hne := hv.ne
 obtain ⟨h1, h2⟩ := Kh (p := p) ht hl (by omega)
 have h3 := CZ (s := s) (l := l) (p := p)
 by_cases h : placeN s l p < never
 · obtain ⟨h5, h6⟩ := h1 h
   rw [if_neg (by omega), h5]
 rw [if_pos (h2 (by omega))]; omega
end
end
section
open Go.RowKit
section
variable {P : Program} {n : Nat} {B : Base} {e : Env} {σ : St} {d : Option Nat} {ty : TypeId} {pos : String} {af : Array Edge} {gd : Option (Nat × Bool)}
inductive OutE {α : Type} (p : α) : List α → List α → Prop
 | here {us : List α} : OutE p (p :: us) us
 | next {u : α} {us us' : List α} : OutE p us us' → OutE p (u :: us) (u :: us')
 | skip {S us us' : List α} : OutE p us us' → OutE p (S ++ us) (S ++ us')
 | lastS {S : List α} : OutE p (S ++ [p]) S
inductive OutB {α : Type} (R : List α) : List α → List α → Prop
 | here {us : List α} : OutB R (R ++ us) us
 | last : OutB R R []
 | next {u : α} {us us' : List α} : OutB R us us' → OutB R (u :: us) (u :: us')
 | skip {S us us' : List α} : OutB R us us' → OutB R (S ++ us) (S ++ us')
 | lastS {S : List α} : OutB R (S ++ R) S
theorem OutE.perm {α : Type} {p : α} {H H1 : List α} (h : OutE p H H1) : H.Perm (p :: H1) := by
 induction h with
 | here => exact .refl _
 | next _ ih => exact (ih.cons _).trans (.swap _ _ _)
 | skip _ ih => exact (ih.append_left _).trans List.perm_middle
 | lastS => exact List.perm_append_comm
theorem OutB.perm {α : Type} {R H H1 : List α} (h : OutB R H H1) : H.Perm (R ++ H1) := by
 induction h with
 | here => exact .refl _
 | last => rw [List.append_nil]
 | next _ ih => exact (ih.cons _).trans List.perm_middle.symm
 | skip _ ih =>
   refine (ih.append_left _).trans ?_
   rw [← List.append_assoc, ← List.append_assoc]
   exact List.perm_append_comm.append_right _
 | lastS => exact List.perm_append_comm
inductive PickB {α : Type} : List α → List α → Prop
 | nil {H : List α} : PickB H []
 | all {H : List α} : PickB H H
 | one {p : α} {H H1 H' : List α} : OutE p H H1 → PickB H1 H' → PickB H (p :: H')
 | blk {R H H1 H' : List α} : OutB R H H1 → PickB H1 H' → PickB H (R ++ H')
 | lastb {R H H1 : List α} : OutB R H H1 → PickB H R
theorem PickB.sub {α : Type} {H H' : List α} (h : PickB H H') : ∃ D, H.Perm (H' ++ D) := by
 induction h with
 | @nil H => exact ⟨H, by simp⟩
 | all => exact ⟨[], by simp⟩
 | one ho _ ih => obtain ⟨D, hD⟩ := ih; exact ⟨D, ho.perm.trans (hD.cons _)⟩
 | blk ho _ ih => obtain ⟨D, hD⟩ := ih; exact ⟨D, by rw [List.append_assoc]; exact ho.perm.trans (hD.append_left _)⟩
 | lastb ho => exact ⟨_, ho.perm⟩
theorem Holds.pickB {w : World} (h : Holds B σ w) {H' : List (Nat × Obj)} (hp : PickB σ.H H') : Holds B ⟨σ.F, H'⟩ w := by
 obtain ⟨D, hD⟩ := hp.sub
 refine h.perm (fun p hm => hD.symm.mem_iff.1 (List.mem_append_left _ hm)) fun hn => ?_
 have := (hD.map (·.1)).nodup_iff.1 hn
 rw [List.map_append, List.nodup_append] at this
 exact this.1
theorem Cl {c : Code} {Q : Exit → Env → St → Prop} {H' : List (Nat × Obj)} (hp : PickB σ.H H') (h : WC P n B c Q e ⟨σ.F, H'⟩) : WC P n B c Q e σ := By (fun _ _ hw => hw.pickB hp) h
theorem N8 {ops : Array Oper} {Q : Exit → Env → St → Prop} {σS : St} {ts : List Nat} {fuel : Nat} {listed : Array Bool} {H' : List (Nat × Obj)} (hp : PickB σ.H H') (h : WX P n B ops Q σS ts fuel listed e ⟨σ.F, H'⟩) : WX P n B ops Q σS ts fuel listed e σ := WX_imp (fun _ hw => hw.pickB hp) h
theorem Tq {l : List Value} {j : Nat} {a b : Value} : setAt l.toArray j [a, b] = ((l.set j a).set (j + 1) b).toArray := by
 simp [setAt]
theorem SU {T E s k j : Nat} {x y : Operand} {v u a b : Value} {cs : List Value} {R TT : List (Nat × Obj)} {f g : List (Nat × Obj) → List (Nat × Obj)} {K : Value → St → Prop} (hT : SizeT P T 2) (hx : ev e x = .pointer (some (addc (base v) j))) (hy : ev e y = u) (hu : u.cells = #[a, b])
   (hown : Own E s v k cs R) (hj : j + 1 < cs.length) (h1 : ∀ z ∈ [a, b], z.oneCell' = true) (hH : Hole σ.H TT f) (hR : Tail TT R g) (hn : ∀ R', Own E s v k ((cs.set j a).set (j + 1) b) R' → K undef ⟨σ.F, f (g R')⟩) : OpX P n B ⟨d, .store T x y, ty, pos, af, gd⟩ e σ K := .run fun w hw => by
 obtain ⟨A, q1, q2⟩ := hH.eq
 obtain ⟨C, r1, r2⟩ := hR.eq
 match R, hown with
 | [], h => obtain ⟨-, -, rfl⟩ := h; simp at hj
 | [(bb, o)], h =>
   obtain ⟨cap, spare, rfl, rfl, h3, h4, h5⟩ := h
   have hH' : σ.H = A ++ ([(bb, bx E (cs ++ spare))] ++ C) := by rw [q1, r1]
   have hb := (hw.own (bb, bx E (cs ++ spare)) (by rw [hH']; simp)).1
   obtain ⟨w', e1, e2, e3, e4, e5, e6, e7⟩ := C3 (P := P) [a, b] j 0 (cs ++ spare).toArray w hb (by simp; omega) h1
   rw [Nat.add_zero, Tq] at e6
   have hset : ((cs ++ spare).set j a).set (j + 1) b = (cs.set j a).set (j + 1) b ++ spare := by
     rw [List.set_append_left _ _ (by omega), List.set_append_left _ _ (by simp; omega)]
   rw [hset] at e6
   have had : addc (base (.slice (some ⟨bb, 0, none⟩) k cap)) j = ⟨bb, j, none⟩ := by simp [addc, base]
   rw [had] at hx
   have hrun : (execOp (ev e) ⟨d, .store T x y, ty, pos, af, gd⟩).run P w = .ok .skip w' := by
     simp [execOp, hx, hy, Instr.storeAt, Instr.sureAddr, storeVar, hu, B6 hT, e1]
   have hnew := hn [(bb, bx E ((cs.set j a).set (j + 1) b ++ spare))] ⟨cap, spare, rfl, rfl, by simpa using h3, by simpa using h4, h5⟩
   rw [r2, q2] at hnew
   exact ⟨_, _, _, .inr ⟨hrun, rfl⟩, hw.rewrite hH' e2 e3 e4 e5 e6 e7, hnew⟩
end
end
section
open Go.RowKit
theorem NZ {F F' : Heap} (hF : F.le F') {b : Nat} (h : F' b = none) : F b = none := by
 cases hb : F b with
 | none => rfl
 | some o => have := hF _ _ hb; rw [h] at this; cases this
theorem ext_le {F0 F F' : Heap} (h0 : F0.le F) (hF : F.le F') {b : Nat} (h : F' b = F0 b) : F b = F0 b := by
 cases h2 : F b with
 | some o => rw [← h]; exact (hF _ _ h2).symm
 | none => exact (NZ h0 h2).symm
theorem Holds.weak {B : Base} {F F' : Heap} {H : List (Nat × Obj)} {w : World} (h : Holds B ⟨F', H⟩ w) (hF : F.le F') (h0 : B.F0.le F) : Holds B ⟨F, H⟩ w :=
 ⟨h.os, h.tape, h.output, h.size, h.old, fun b o hb => h.sub b o (hF b o hb), fun p hp => let ⟨h1, h2, h3⟩ := h.own p hp; ⟨h1, NZ hF h2, h3⟩, h.nodup, fun b hb => ext_le h0 hF (h.ext b hb), h0,
   fun D hD => let ⟨h1, h2, h3, h4⟩ := h.marks D hD; ⟨h1, NZ hF h2, h3, h4⟩, h.dnodup⟩
end
section
open Go.RowKit
def IsK (P : Program) (K : Nat) (v : Value) : Prop := ∃ l, keyOf P K v = some l
structure MapT (P : Program) (M K E : Nat) (z : Value) : Prop where
 under : P.underlying M = some (.map K E)
 zero : ZeroT P E z
 keyed : Go.Maps.Keyed P K
def entryO (p : (Value × Value) × Nat) : MapEntry := ⟨p.1.1, p.1.2, p.2⟩
def mapO (es : List (Value × Value)) : Obj := .map (es.zipIdx.map entryO).toArray es.length
theorem Su {es : List (Value × Value)} {j : Nat} {e : MapEntry} (h : (es.zipIdx.map entryO)[j]? = some e) : ∃ p, es[j]? = some p ∧ e = ⟨p.1, p.2, j⟩ := by
 rw [List.getElem?_map, List.getElem?_zipIdx] at h
 cases hj : es[j]? with
 | none => rw [hj] at h; simp at h
 | some p => rw [hj] at h; simp [entryO] at h; exact ⟨p, rfl, h.symm⟩
theorem P1 {es : List (Value × Value)} {e : MapEntry} (h : e ∈ es.zipIdx.map entryO) : ∃ j p, es[j]? = some p ∧ e = ⟨p.1, p.2, j⟩ := by
 obtain ⟨j, hj⟩ := List.getElem?_of_mem h
 obtain ⟨p, h1, h2⟩ := Su hj
 exact ⟨j, p, h1, h2⟩
section
variable {P : Program} {n : Nat} {B : Base} {e : Env} {σ : St} {d : Option Nat} {ty : TypeId} {pos : String} {af : Array Edge} {gd : Option (Nat × Bool)}
theorem Gj {K : Nat} (hK : Go.Maps.Keyed P K) {k : Value} (hk : IsK P K k) {es : List (Value × Value)} (hall : ∀ p ∈ es, IsK P K p.1) (w : World) :
   ((Instr.findKey K k (es.zipIdx.map entryO)).run P w = .ok none w ∧ ∀ p ∈ es, p.1 ≠ k) ∨ ∃ j u, (Instr.findKey K k (es.zipIdx.map entryO)).run P w = .ok (some (j, u)) w ∧ es[j]? = some (k, u) := by
 obtain ⟨l, hl⟩ := hk
 rcases hK.find w hl (es.zipIdx.map entryO) (fun e he => by obtain ⟨j, p, h1, rfl⟩ := P1 he; exact hall p (List.mem_of_getElem? h1)) with ⟨h1, h2⟩ | ⟨j, e0, h1, h2, h3⟩
 · refine .inl ⟨h1, fun p hp => ?_⟩
   obtain ⟨j, hj⟩ := List.getElem?_of_mem hp
   have : entryO (p, j) ∈ es.zipIdx.map entryO := by
     refine List.mem_map.2 ⟨(p, j), ?_, rfl⟩
     rw [List.mem_zipIdx_iff_getElem?]; exact hj
   exact h2 _ this
 obtain ⟨p, q1, rfl⟩ := Su h2
 refine .inr ⟨j, p.2, h1, ?_⟩
 rw [q1]
 simp only at h3
 rw [← h3]
theorem MD {M : Nat} {K : Value → St → Prop} (hn : ∀ b, B.w0.heap.size ≤ b → σ.F b = none → K (.map (some b)) ⟨σ.F, (b, mapO []) :: σ.H⟩) : OpX P n B ⟨d, .makeMap M none, ty, pos, af, gd⟩ e σ K :=
 .run fun w hw => ⟨_, _, _, .inl (by simp [execOp, Instr.makeMap]; rfl), hw.alloc (mapO []), hn _ hw.size hw.fresh⟩
theorem CI {b : Nat} {es : List (Value × Value)} {w : World} (h : w.heap[b]? = some (mapO es)) : (Go.getObj b).run P w = .ok (mapO es) w := by
 simp only [Go.getObj, Sem.run, h]; simp [mapO]
theorem Fv {b : Nat} {es es' : List (Value × Value)} {w : World} (h : w.heap[b]? = some (mapO es)) : (Go.setObj b (mapO es')).run P w = .ok () { w with heap := w.heap.setIfInBounds b (mapO es') } := by
 simp only [Go.setObj, Sem.run, h]; simp [mapO]
theorem Nc {es : List (Value × Value)} (hd : (es.map (·.1)).Nodup) {i j : Nat} {k u v : Value} (hi : es[i]? = some (k, u)) (hj : es[j]? = some (k, v)) : i = j := by
 have h1 : (es.map (·.1))[i]? = some k := by simp [hi]
 have h2 : (es.map (·.1))[j]? = some k := by simp [hj]
 have hl : i < (es.map (·.1)).length := (List.getElem?_eq_some_iff.1 h1).1
 exact (List.getElem?_inj hl hd).1 (by rw [h1, h2])
theorem Kc {M K E : Nat} {z k : Value} {b : Nat} {es : List (Value × Value)} (hT : MapT P M K E z) (hk : IsK P K k) (hall : ∀ p ∈ es, IsK P K p.1) (hno : ∀ p ∈ es, p.1 ≠ k) {w : World} (hb : w.heap[b]? = some (mapO es)) (ok : Bool) :
   (Instr.lookup M (.map (some b)) k ok).run P w = .ok (if ok then .tuple #[z, .bool false] else z) w := by
 obtain ⟨l, hl⟩ := hk
 have hc := fun em => hT.keyed.check w em hl
 have hb' := CI (P := P) hb; unfold mapO at hb'
 have hf : (Instr.findKey K k (es.zipIdx.map entryO)).run P w = .ok none w := by
   rcases Gj hT.keyed ⟨l, hl⟩ hall w with ⟨h, -⟩ | ⟨j, u, -, h⟩
   · exact h
   exact absurd rfl (hno _ (List.mem_of_getElem? h))
 cases ok <;> simp [Instr.lookup, Bj hT.under, hb', hc, hf, EZ hT.zero]
theorem Kb {M K E : Nat} {z k u : Value} {b j : Nat} {es : List (Value × Value)} (hT : MapT P M K E z) (hk : IsK P K k) (hall : ∀ p ∈ es, IsK P K p.1) (hd : (es.map (·.1)).Nodup) (hj : es[j]? = some (k, u)) {w : World} (hb : w.heap[b]? = some (mapO es)) (ok : Bool) :
   (Instr.lookup M (.map (some b)) k ok).run P w = .ok (if ok then .tuple #[u, .bool true] else u) w := by
 obtain ⟨l, hl⟩ := hk
 have hc := fun em => hT.keyed.check w em hl
 have hb' := CI (P := P) hb; unfold mapO at hb'
 have hf : (Instr.findKey K k (es.zipIdx.map entryO)).run P w = .ok (some (j, u)) w := by
   rcases Gj hT.keyed ⟨l, hl⟩ hall w with ⟨-, h⟩ | ⟨i, v, h1, h2⟩
   · exact absurd rfl (h _ (List.mem_of_getElem? hj))
   have := Nc hd h2 hj
   subst this
   rw [h2] at hj
   simp only [Option.some.injEq, Prod.mk.injEq] at hj
   rw [h1, hj.2]
 cases ok <;> simp [Instr.lookup, Bj hT.under, hb', hc, hf]
theorem T3 {M K E i b : Nat} {x y : Operand} {z k : Value} {es : List (Value × Value)} (hT : MapT P M K E z) (hx : ev e x = .map (some b)) (hy : ev e y = k) (hi : σ.H[i]? = some (b, mapO es)) (hk : IsK P K k) (hall : ∀ p ∈ es, IsK P K p.1) (hno : ∀ p ∈ es, p.1 ≠ k) :
   OpR P B ⟨d, .lookup M x y false, ty, pos, af, gd⟩ e σ z := fun w hw => by
 have := Kc hT hk hall hno (hw.own _ (List.mem_of_getElem? hi)).1 false
 simp [execOp, hx, hy, this]
theorem J7 {M K E i b j : Nat} {x y : Operand} {z k u : Value} {es : List (Value × Value)} (hT : MapT P M K E z) (hx : ev e x = .map (some b)) (hy : ev e y = k) (hi : σ.H[i]? = some (b, mapO es)) (hk : IsK P K k) (hall : ∀ p ∈ es, IsK P K p.1) (hd : (es.map (·.1)).Nodup) (hj : es[j]? = some (k, u)) :
   OpR P B ⟨d, .lookup M x y false, ty, pos, af, gd⟩ e σ u := fun w hw => by
 have := Kb hT hk hall hd hj (hw.own _ (List.mem_of_getElem? hi)).1 false
 simp [execOp, hx, hy, this]
theorem QR {M K E i b : Nat} {x y : Operand} {z k : Value} {es : List (Value × Value)} (hT : MapT P M K E z) (hx : ev e x = .map (some b)) (hy : ev e y = k) (hi : σ.H[i]? = some (b, mapO es)) (hk : IsK P K k) (hall : ∀ p ∈ es, IsK P K p.1) (hno : ∀ p ∈ es, p.1 ≠ k) :
   OpR P B ⟨d, .lookup M x y true, ty, pos, af, gd⟩ e σ (.tuple #[z, .bool false]) := fun w hw => by
 have := Kc hT hk hall hno (hw.own _ (List.mem_of_getElem? hi)).1 true
 simp [execOp, hx, hy, this]
theorem QQ {M K E i b j : Nat} {x y : Operand} {z k u : Value} {es : List (Value × Value)} (hT : MapT P M K E z) (hx : ev e x = .map (some b)) (hy : ev e y = k) (hi : σ.H[i]? = some (b, mapO es)) (hk : IsK P K k) (hall : ∀ p ∈ es, IsK P K p.1) (hd : (es.map (·.1)).Nodup) (hj : es[j]? = some (k, u)) :
   OpR P B ⟨d, .lookup M x y true, ty, pos, af, gd⟩ e σ (.tuple #[u, .bool true]) := fun w hw => by
 have := Kb hT hk hall hd hj (hw.own _ (List.mem_of_getElem? hi)).1 true
 simp [execOp, hx, hy, this]
theorem O8 {M K E i b : Nat} {x y : Operand} {z k : Value} {es : List (Value × Value)} {H' : List (Nat × Obj)} {Q : Value → St → Prop} (hT : MapT P M K E z) (hx : ev e x = .map (some b)) (hy : ev e y = k) (hi : σ.H[i]? = some (b, mapO es)) (hk : IsK P K k) (hall : ∀ p ∈ es, IsK P K p.1) (hno : ∀ p ∈ es, p.1 ≠ k)
   (hH : SetL σ.H i (b, mapO (es ++ [(k, z)])) H') (hn : Q (.tuple #[z, .int .i64 es.length]) ⟨σ.F, H'⟩) : OpX P n B ⟨d, .mapEntry M x y, ty, pos, af, gd⟩ e σ Q := .run fun w hw => by
 have hb := (hw.own _ (List.mem_of_getElem? hi)).1
 obtain ⟨l, hl⟩ := hk
 have hc := fun em => hT.keyed.check w em hl
 have hf : (Instr.findKey K k (es.zipIdx.map entryO)).run P w = .ok none w := by
   rcases Gj hT.keyed ⟨l, hl⟩ hall w with ⟨h, -⟩ | ⟨j, u, -, h⟩
   · exact h
   exact absurd rfl (hno _ (List.mem_of_getElem? h))
 have hobj : Obj.map ((es.zipIdx.map entryO).toArray.push ⟨k, z, es.length⟩) (es.length + 1) = mapO (es ++ [(k, z)]) := by
   unfold mapO
   congr 1
   · simp [List.zipIdx_append, entryO]
   simp
 rw [hH.eq.1] at hn
 refine ⟨_, _, _, .inl ?_, hw.setObj hi (o' := mapO (es ++ [(k, z)])), hn⟩
 have hg := CI (P := P) hb
 have hs := Fv (P := P) (es' := (es ++ [(k, z)])) hb
 simp only [execOp, hx, hy, Instr.mapEntry, Sem.run_bind, Bj hT.under, Result.andThen_ok, hg]
 simp only [mapO, hc, Result.andThen_ok, hf, EZ hT.zero, Sem.run_bind]
 rw [hobj, hs]
 simp [goInt, mapO]
theorem O7 {M K E i b j : Nat} {x y : Operand} {z k u : Value} {es : List (Value × Value)} {Q : Value → St → Prop} (hT : MapT P M K E z) (hx : ev e x = .map (some b)) (hy : ev e y = k) (hi : σ.H[i]? = some (b, mapO es)) (hk : IsK P K k) (hall : ∀ p ∈ es, IsK P K p.1) (hd : (es.map (·.1)).Nodup) (hj : es[j]? = some (k, u))
   (hn : Q (.tuple #[u, .int .i64 j]) σ) : OpX P n B ⟨d, .mapEntry M x y, ty, pos, af, gd⟩ e σ Q := .run fun w hw => by
 have hb := (hw.own _ (List.mem_of_getElem? hi)).1
 obtain ⟨l, hl⟩ := hk
 have hc := fun em => hT.keyed.check w em hl
 have hf : (Instr.findKey K k (es.zipIdx.map entryO)).run P w = .ok (some (j, u)) w := by
   rcases Gj hT.keyed ⟨l, hl⟩ hall w with ⟨-, h⟩ | ⟨i, v, h1, h2⟩
   · exact absurd rfl (h _ (List.mem_of_getElem? hj))
   have := Nc hd h2 hj
   subst this
   rw [h2] at hj
   simp only [Option.some.injEq, Prod.mk.injEq] at hj
   rw [h1, hj.2]
 have hat : (es.zipIdx.map entryO).toArray[j]? = some ⟨k, u, j⟩ := by
   simp [List.getElem?_zipIdx, hj, entryO]
 have hobj : Obj.map ((es.zipIdx.map entryO).toArray.modify j fun e => { e with key := k }) es.length = mapO es := by
   unfold mapO
   congr 1
   apply Array.ext'
   apply List.ext_getElem?
   intro m
   rw [Array.getElem?_toList, Array.getElem?_modify]
   by_cases hm : j = m
   · subst hm; rw [if_pos rfl, hat]; simp only [Option.map_some]; rw [← Array.getElem?_toList] at hat; exact hat.symm
   rw [if_neg hm, Array.getElem?_toList]
 have hst := hT.keyed.stays w hl
 have hself : ({ w with heap := w.heap.setIfInBounds b (mapO es) } : World) = w := by
   have : w.heap.setIfInBounds b (mapO es) = w.heap := by
     apply Array.ext_getElem?
     intro m
     rw [Array.getElem?_setIfInBounds]
     split
     · rename_i hm; subst hm; rw [hb]; split
       · rfl
       rename_i hm2; exact absurd (Array.getElem?_eq_some_iff.1 hb).1 hm2
     rfl
   rw [this]
 have hs := Fv (P := P) (es' := es) hb
 rw [hself] at hs
 have hg := CI (P := P) hb
 refine ⟨_, _, _, .inl ?_, hw, hn⟩
 simp only [execOp, hx, hy, Instr.mapEntry, Sem.run_bind, Bj hT.under, Result.andThen_ok, hg]
 simp only [mapO, hc, Result.andThen_ok, hf, Sem.run_bind, hat, Option.map_some, Option.getD_some, hst]
 rw [hobj, hs]
 simp [goInt]
theorem Ei {M i b j : Nat} {x y s : Operand} {k v : Value} {es : List (Value × Value)} {H' : List (Nat × Obj)} {Q : Value → St → Prop} (hx : ev e x = .map (some b)) (hs : ev e s = .int .i64 j) (hy : ev e y = v) (hi : σ.H[i]? = some (b, mapO es)) (hj : (es[j]?).map (·.1) = some k)
   (hH : SetL σ.H i (b, mapO (es.set j (k, v))) H') (hn : Q undef ⟨σ.F, H'⟩) : OpX P n B ⟨d, .entryStore M x s y, ty, pos, af, gd⟩ e σ Q := .run fun w hw => by
 have hb := (hw.own _ (List.mem_of_getElem? hi)).1
 cases hj' : es[j]? with
 | none => rw [hj'] at hj; simp at hj
 | some p =>
   rw [hj'] at hj
   simp only [Option.map_some, Option.some.injEq] at hj
   have hjl := (List.getElem?_eq_some_iff.1 hj').1
   have hfi : (es.zipIdx.map entryO).toArray.findIdx? (fun e => (e.born : Int) == (j : Int)) = some j := by
     rw [List.findIdx?_toArray, List.findIdx?_eq_some_iff_getElem]
     refine ⟨by simpa using hjl, by simp [entryO], fun m hm => by simp [entryO]; omega⟩
   have hobj : Obj.map ((es.zipIdx.map entryO).toArray.modify j fun e => { e with val := v }) es.length = mapO (es.set j (k, v)) := by
     unfold mapO
     congr 1
     · apply Array.ext'
       apply List.ext_getElem?
       intro m
       rw [Array.getElem?_toList, Array.getElem?_modify]
       simp only [List.getElem?_toArray, List.getElem?_map, List.getElem?_zipIdx, List.getElem?_set]
       by_cases hm : j = m
       · subst hm; rw [if_pos rfl, hj']; simp [hjl, entryO, hj]
       rw [if_neg hm]; simp [hm]
     simp
   have hg := CI (P := P) hb
   have hst := Fv (P := P) (es' := es.set j (k, v)) hb
   rw [hH.eq.1] at hn
   refine ⟨_, _, _, .inr ⟨?_, rfl⟩, hw.setObj hi (o' := mapO (es.set j (k, v))), hn⟩
   simp only [execOp, hx, hy, hs, Instr.entryStore, Sem.run_bind, Sem.run_pure, Result.andThen_ok, hg]
   simp only [mapO, asInt, asIntOf, Sem.run_bind, Sem.run_pure, Result.andThen_ok, hfi]
   rw [hobj, hst]
   simp [mapO]
theorem Gf {T d : Nat} {q : IntKind} (hu : P.underlying T = some (.int q)) {z : Int} (hz : (Lit.int q z).wf = true) : P.keyLits (d + 1) T [.int q z] = some [.int q z] := by simp [Program.keyLits, hu, hz]
theorem U5 {z : Int} (h1 : -9223372036854775808 ≤ z) (h2 : z ≤ 9223372036854775807) : (Lit.int .i64 z).wf = true := by
 have e1 : IntKind.i64.min = -9223372036854775808 := by decide
 have e2 : IntKind.i64.max = 9223372036854775807 := by decide
 simp [Lit.wf, e1, e2, h1, h2]
theorem Sz {es : List (Value × Value)} (k : Value) : (∀ p ∈ es, p.1 ≠ k) ∨ ∃ (j : Nat) (u : Value), es[j]? = some (k, u) := by
 by_cases h : ∃ p ∈ es, p.1 = k
 · obtain ⟨p, hp, rfl⟩ := h
   obtain ⟨j, hj⟩ := List.getElem?_of_mem hp
   exact .inr ⟨j, p.2, hj⟩
 exact .inl fun p hp he => h ⟨p, hp, he⟩
theorem Mt {K : Nat} {es : List (Value × Value)} {k v : Value} (h : ∀ p ∈ es, IsK P K p.1) (hk : IsK P K k) : ∀ p ∈ es ++ [(k, v)], IsK P K p.1 := by
 intro p hp
 rcases List.mem_append.1 hp with hp | hp
 · exact h p hp
 simp at hp; subst hp; exact hk
theorem Oa {es : List (Value × Value)} {k v : Value} (h : (es.map (·.1)).Nodup) (hk : ∀ p ∈ es, p.1 ≠ k) : ((es ++ [(k, v)]).map (·.1)).Nodup := by
 rw [List.map_append, List.nodup_append]
 refine ⟨h, by simp, fun a ha b hb => ?_⟩
 obtain ⟨p, hp, rfl⟩ := List.mem_map.1 ha
 simp at hb; subst hb
 exact hk p hp
theorem map_set {es : List (Value × Value)} {j : Nat} {k u v : Value} (hj : es[j]? = some (k, u)) : (es.set j (k, v)).map (·.1) = es.map (·.1) := by
 apply List.ext_getElem?
 intro m
 rw [List.getElem?_map, List.getElem?_map, List.getElem?_set]
 by_cases hm : j = m
 · subst hm; rw [if_pos rfl, hj]; simp [(List.getElem?_eq_some_iff.1 hj).1]
 rw [if_neg hm]
theorem nd_set {es : List (Value × Value)} {j : Nat} {k u v : Value} (h : (es.map (·.1)).Nodup) (hj : es[j]? = some (k, u)) : ((es.set j (k, v)).map (·.1)).Nodup := by rw [map_set hj]; exact h
theorem all_set {K : Nat} {es : List (Value × Value)} {j : Nat} {k u v : Value} (h : ∀ p ∈ es, IsK P K p.1) (hj : es[j]? = some (k, u)) : ∀ p ∈ es.set j (k, v), IsK P K p.1 := by
 intro p hp
 have : p.1 ∈ (es.set j (k, v)).map (·.1) := List.mem_map_of_mem hp
 rw [map_set hj] at this
 obtain ⟨q, hq, he⟩ := List.mem_map.1 this
 rw [← he]; exact h q hq
theorem Ky {es : List (Value × Value)} {p : Value × Value} : (es ++ [p])[es.length]? = some p := by simp
theorem OY {es : List (Value × Value)} {p q : Value × Value} : (es ++ [p]).set es.length q = es ++ [q] := by
 rw [List.set_append_right _ _ (Nat.le_refl _)]; simp
end
end
section
open Go.RowKit
section
variable {P : Program} {n : Nat} {B : Base} {e : Env} {σ : St} {d : Option Nat} {ty : TypeId} {pos : String} {af : Array Edge} {gd : Option (Nat × Bool)}
theorem Se {x y : Operand} {a b : Int} {t u : TypeId} (hx : ev e x = .int .i64 a) (hy : ev e y = .int .i64 b) (ha : 0 ≤ a) (ha2 : a ≤ 9223372036854775807) (hb : 0 < b) :
   OpR P B ⟨d, .binOp .quo t x y u, ty, pos, af, gd⟩ e σ (.int .i64 (a / b)) := fun w _ => by
 have h0 : ¬ b = 0 := by omega
 have h1 : 0 ≤ a / b := Int.ediv_nonneg ha (by omega)
 have h2 : a / b ≤ a := Int.ediv_le_self b ha
 have h3 : IntKind.i64.wrap (a / b) = a / b := CQ (by omega) (by omega)
 simp [execOp, hx, hy, eqGuard, binOp, Op.intDiv, h0, Int.tdiv_eq_ediv_of_nonneg ha, h3]
theorem D8 {ops : Array Oper} {Q : Exit → Env → St → Prop} {l : List Oper} {H' : List (Nat × Obj)} (hp : Pick σ.H H') (h : WL P n B ops Q l e ⟨σ.F, H'⟩) : WL P n B ops Q l e σ := WR (fun _ hw => hw.pick hp) h
theorem Holds.freezeRM {w : World} (hw : Holds B σ w) {E s k : Nat} {v : Value} {cs : List Value} {R TT : List (Nat × Obj)} {f g : List (Nat × Obj) → List (Nat × Obj)} (hM : ∀ m ∈ B.M, m ∈ keys (f (g []))) (hown : Own E s v k cs R) (hH : Hole σ.H TT f) (hR : Tail TT R g) :
   ∃ F', σ.F.le F' ∧ (∀ p ∈ R, F' p.1 = some p.2) ∧ Holds B ⟨F', f (g [])⟩ w := by
 obtain ⟨A, q1, q2⟩ := hH.eq
 obtain ⟨C, r1, r2⟩ := hR.eq
 rw [q2, r2] at hM ⊢
 simp only [List.nil_append] at hM ⊢
 match R, hown with
 | [], _ =>
   have hs : σ = ⟨σ.F, A ++ C⟩ := by
     cases σ with
     | mk F H => simp only at q1; rw [q1, r1]; simp
   exact ⟨σ.F, Heap.le_refl _, by simp, by rw [← hs]; exact hw⟩
 | [(b, o)], _ =>
   have hi : σ.H[A.length]? = some (b, o) := by rw [q1, r1]; simp
   have hm := hw.own _ (List.mem_of_getElem? hi)
   have hb : B.w0.heap.size ≤ b := by
     rcases hm.2.2 with h1 | h1
     · exact h1
     have hk := hM _ h1
     have hnd := hw.nodup
     rw [q1, r1] at hnd
     simp only [List.map_append, List.map_cons, List.map_nil] at hnd
     rw [List.nodup_append] at hnd
     obtain ⟨-, n2, n3⟩ := hnd
     have hk' : b ∈ (A ++ C).map (·.1) := hk
     rw [List.map_append] at hk'
     rcases List.mem_append.1 hk' with hk' | hk'
     · exact absurd rfl (n3 _ hk' b (by simp))
     simp at n2 hk'
     obtain ⟨x, hx⟩ := hk'
     exact absurd hx (n2.1 x)
   have hfz := hw.freeze hi hb
   have herase : σ.H.eraseIdx A.length = A ++ C := by
     rw [q1, r1, List.eraseIdx_append_of_length_le (Nat.le_refl _)]; simp
   rw [herase] at hfz
   exact ⟨_, E8 hm.2.1, fun p hp => by simp at hp; subst hp; exact DG, hfz⟩
theorem Kt {c : Code} {Q : Exit → Env → St → Prop} {E s k : Nat} {v : Value} {cs : List Value} {R TT : List (Nat × Obj)} {f g : List (Nat × Obj) → List (Nat × Obj)} (hM : ∀ m ∈ B.M, m ∈ keys (f (g []))) (hown : Own E s v k cs R) (hH : Hole σ.H TT f) (hR : Tail TT R g)
   (h : ∀ F', σ.F.le F' → (∀ p ∈ R, F' p.1 = some p.2) → WC P n B c Q e ⟨F', f (g [])⟩) : WC P n B c Q e σ := fun ds a w ha hw => by
 obtain ⟨F', k1, k2, k3⟩ := hw.freezeRM (B := B.at ds) hM hown hH hR
 exact h F' k1 k2 ds a w ha k3
theorem MC {M K E i b : Nat} {x y y2 : Operand} {z k v : Value} {es : List (Value × Value)} {H' : List (Nat × Obj)} {Q : Value → St → Prop} (hT : MapT P M K E z) (hx : ev e x = .map (some b)) (hy : ev e y = k) (hy2 : ev e y2 = v) (hi : σ.H[i]? = some (b, mapO es)) (hk : IsK P K k) (hall : ∀ p ∈ es, IsK P K p.1) (hno : ∀ p ∈ es, p.1 ≠ k)
   (hH : SetL σ.H i (b, mapO (es ++ [(k, v)])) H') (hn : Q undef ⟨σ.F, H'⟩) : OpX P n B ⟨d, .mapUpdate M x y y2, ty, pos, af, gd⟩ e σ Q := .run fun w hw => by
 have hb := (hw.own _ (List.mem_of_getElem? hi)).1
 obtain ⟨l, hl⟩ := hk
 have hc := fun em => hT.keyed.check w em hl
 have hf : (Instr.findKey K k (es.zipIdx.map entryO)).run P w = .ok none w := by
   rcases Gj hT.keyed ⟨l, hl⟩ hall w with ⟨h, -⟩ | ⟨j, u, -, h⟩
   · exact h
   exact absurd rfl (hno _ (List.mem_of_getElem? h))
 have hobj : Obj.map ((es.zipIdx.map entryO).toArray.push ⟨k, v, es.length⟩) (es.length + 1) = mapO (es ++ [(k, v)]) := by
   unfold mapO
   congr 1
   · simp [List.zipIdx_append, entryO]
   simp
 rw [hH.eq.1] at hn
 refine ⟨_, _, _, .inr ⟨?_, rfl⟩, hw.setObj hi (o' := mapO (es ++ [(k, v)])), hn⟩
 have hg := CI (P := P) hb
 have hs := Fv (P := P) (es' := (es ++ [(k, v)])) hb
 simp only [execOp, hx, hy, hy2, Instr.mapUpdate, Sem.run_bind, Bj hT.under, Result.andThen_ok, hg]
 simp only [mapO, hc, Result.andThen_ok, hf, Sem.run_bind]
 rw [hobj, hs]
 simp [mapO]
end
end
section
open Go.RowKit
section
variable {P : Program} {n : Nat} {B : Base} {e : Env} {σ : St} {d : Option Nat} {ty : TypeId} {pos : String} {af : Array Edge} {gd : Option (Nat × Bool)}
theorem Lp {T E s n b : Nat} {x : Operand} (hT : P.underlying T = some (.array n E)) (hE : SizeT P E s) (hx : ev e x = .pointer (some ⟨b, 0, none⟩)) :
   OpR P B ⟨d, .slice T x none none none, ty, pos, af, gd⟩ e σ (.slice (some ⟨b, 0, none⟩) n n) := fun w _ => by
 have hs := B6 (P := P) (T := E) (s := s) hE
 simp [execOp, hx, Instr.sliceAt, Instr.sureAddr, Instr.sliceBounds, Bj hT, hs, Addr.add]
theorem Pc : ∀ (vs pre : List Value) (c : List Value), vs.length ≤ c.length → setAt (pre ++ c).toArray pre.length vs = (pre ++ (vs ++ c.drop vs.length)).toArray
 | [], pre, c, _ => by simp [setAt]
 | v :: vs, pre, [], h => by simp at h
 | v :: vs, pre, u :: c, h => by
   unfold setAt
   have : (pre ++ u :: c).toArray.setIfInBounds pre.length v = ((pre ++ [v]) ++ c).toArray := by simp
   rw [this]
   have := Pc vs (pre ++ [v]) c (by simpa using h)
   simp only [List.length_append, List.length_singleton] at this
   rw [this]; simp
theorem O9 {T E s i b m k c TB : Nat} {x y : Operand} {u : Value} {l l' news : List Value} {H' : List (Nat × Obj)} {K : Value → St → Prop} {ts : Array TypeId} (hts : ts[0]? = some T) (hT : SliceT P T E s) (hx : ev e x = .slice (some ⟨b, 0, none⟩) m c) (hy : ev e y = u)
   (hi : σ.H[i]? = some (b, bx TB l)) (hl : l.length = m * s) (hsrc : Src σ u k news s) (hkm : k ≤ m) (hnl : news.length = k * s) (hc : news ++ l.drop news.length = l') (hH : SetL σ.H i (b, bx TB l') H') (hn : K (.int .i64 k) ⟨σ.F, H'⟩) :
   OpX P n B ⟨d, .call ⟨.builtin .copy, #[x, y], ts⟩, ty, pos, af, gd⟩ e σ K := .run fun w hw => by
 subst hc
 have hb := (hw.own _ (List.mem_of_getElem? hi)).1
 have hlen := hsrc.len (P := P) w
 have hcells := hsrc.run (P := P) hw
 obtain ⟨h1, h2, -⟩ := hsrc
 have hle : news.length ≤ l.length := by rw [hnl, hl]; exact Nat.mul_le_mul_right s hkm
 obtain ⟨w', e1, e2, e3, e4, e5, e6, e7⟩ := C3 (P := P) news 0 0 l.toArray w hb (by simp; omega) h2
 have hset := Pc news [] l hle
 simp only [List.nil_append, List.length_nil] at hset
 rw [Nat.zero_add, hset] at e6
 have hs := B6 (P := P) (T := E) (s := s) hT.2
 rw [hH.eq.1] at hn
 have hmin : Nat.min k m = k := Nat.min_eq_left hkm
 refine ⟨_, _, _, .inl ?_, hw.write hi e2 e3 e4 e5 e6 e7, hn⟩
 simp only [execOp, resolve, invoke, builtin, Builtin.copy_]
 simp [Bj hT.1, hs, hlen, hcells, hmin, e1, goInt, hts, hx, hy]
end
end
section
open Go.RowKit
section
variable {P : Program} {n : Nat} {B : Base} {e : Env} {σ : St} {ty : TypeId} {pos : String} {af : Array Edge}
theorem x_callF {d : Option Nat} {g : FuncId} {f : Operand} {fs cs vs : List Value} {xs : List Operand} {at_ : Array TypeId}
   {R : Value → Heap → Prop} {K : Value → St → Prop} (hg : Body P g) (hf : ev e f = .func (.func g) fs.toArray cs.toArray) (hx : Av e xs vs)
   (hok : Ok P g (fs ++ vs ++ cs).toArray σ.F R) (hn : ∀ v F', R v F' → σ.F.le F' → K v ⟨F', σ.H⟩) :
   OpX P n B ⟨d, .call ⟨.value f, xs.toArray, at_⟩, ty, pos, af, none⟩ e σ K := by
 intro a w ha hw next Qx hnext
 unfold Oper.wp
 rw [ha.ev, Hi hg hf hx, Oper.upon_enter]
 refine (hok w hw.sub (by simp) (by simp [keys])).mono fun r w' hq => ?_
 obtain ⟨v, F', H', rfl, hg', hk, hH', hR⟩ := hq
 have : H' = [] := by cases H' with | nil => rfl | cons p H' => simp [keys] at hk
 subst this
 exact hnext v _ w' (hn v F' hR hg'.le) (by simpa using hw.grow (Hc := []) (rest := σ.H) (H' := []) rfl hg' hk hH')
theorem Sf {d : Option Nat} {g : FuncId} {f : Operand} {fs cs vs : List Value} {xs : List Operand} {at_ : Array TypeId} {R : Value → Heap → Prop} {v : Value} (hg : Body P g) (hf : ev e f = .func (.func g) fs.toArray cs.toArray) (hx : Av e xs vs)
   (hok : Ok P g (fs ++ vs ++ cs).toArray σ.F R) (hR : ∀ u F', R u F' → u = v) : OpQ P n B ⟨d, .call ⟨.value f, xs.toArray, at_⟩, ty, pos, af, none⟩ e σ v :=
 Vi hf hx ⟨g, fs, cs, rfl, hg, hok⟩ hR
theorem NM {T E s m b k : Nat} {x y : Operand} {kd : IntKind} {i : Int} {d : Option Nat} {gd : Option (Nat × Bool)} (hT : P.underlying T = some (.array m E)) (hE : SizeT P E s) (hx : ev e x = .pointer (some ⟨b, 0, none⟩)) (hy : ev e y = .int kd i) (hi : i = (k : Int)) (hle : k ≤ m) :
   OpR P B ⟨d, .slice T x none (some y) none, ty, pos, af, gd⟩ e σ (subslice (.slice (some ⟨b, 0, none⟩) m m) 0 k s) := fun w _ => by
 subst hi
 have hs := B6 (P := P) (T := E) (s := s) hE
 by_cases h0 : m = 0
 · subst h0
   have : k = 0 := by omega
   subst this
   simp [execOp, hx, hy, Instr.sliceAt, Instr.sureAddr, Instr.sliceBounds, Instr.sliceBound, asIntOf, Bj hT, hs, Addr.add, subslice]
 simp [execOp, hx, hy, Instr.sliceAt, Instr.sureAddr, Instr.sliceBounds, Instr.sliceBound, asIntOf, Bj hT, hs, Addr.add, subslice, hle, h0, addc]
theorem Lo {T E s m b k : Nat} {x y : Operand} {kd : IntKind} {i : Int} {d : Option Nat} {gd : Option (Nat × Bool)} (hT : P.underlying T = some (.array m E)) (hE : SizeT P E s) (hx : ev e x = .pointer (some ⟨b, 0, none⟩)) (hy : ev e y = .int kd i) (hi : i = (k : Int)) (hle : k < m) :
   OpR P B ⟨d, .slice T x (some y) none none, ty, pos, af, gd⟩ e σ (subslice (.slice (some ⟨b, 0, none⟩) m m) k m s) := fun w _ => by
 subst hi
 have hs := B6 (P := P) (T := E) (s := s) hE
 have h0 : ¬ m = k := by omega
 have h1 : k ≤ m := by omega
 simp [execOp, hx, hy, Instr.sliceAt, Instr.sureAddr, Instr.sliceBounds, Instr.sliceBound, asIntOf, Bj hT, hs, Addr.add, subslice, h0, h1, addc, Int.toNat_natCast]
 exact fun h => h.symm
end
theorem De {α : Type} {enc : α → List Value} {s : Nat} (hs : ∀ x, (enc x).length = s) {j : Nat} {u : Value} {x : α} (hj : j < s) : ∀ (l : List α) (i : Nat) (hi : i < l.length), enc x = (enc l[i]).set j u →
   (l.flatMap enc).set (i * s + j) u = (l.set i x).flatMap enc
 | [], i, hi, _ => absurd hi (by simp)
 | a :: l, 0, hi, h => by
   simp only [List.flatMap_cons, List.set_cons_zero, List.getElem_cons_zero, Nat.zero_mul, Nat.zero_add] at h ⊢
   rw [List.set_append_left _ _ (by rw [hs]; exact hj), h]
 | a :: l, i + 1, hi, h => by
   simp only [List.flatMap_cons, List.set_cons_succ, List.getElem_cons_succ] at h ⊢
   rw [List.set_append_right _ _ (by rw [hs, Nat.add_mul, Nat.one_mul]; omega)]
   rw [show (i + 1) * s + j - (enc a).length = i * s + j by rw [hs, Nat.add_mul, Nat.one_mul]; omega]
   rw [De hs hj l i (by simpa using hi) h]
def iL (f : Nat → Int) (n : Nat) : List Int := (List.range n).map f
def spL (lo hi : Nat → Int) (n : Nat) : List (Int × Int) := (List.range n).map fun i => (lo i, hi i)
theorem Bp {f : Nat → Int} {n : Nat} : (iL f n).length = n := by simp [iL]
theorem BC {lo hi : Nat → Int} {n : Nat} : (spL lo hi n).length = n := by simp [spL]
theorem S2 {f : Nat → Int} {n : Nat} : iL f (n + 1) = iL f n ++ [f n] := by simp [iL, List.range_succ]
theorem UQ {lo hi : Nat → Int} {n : Nat} : spL lo hi (n + 1) = spL lo hi n ++ [(lo n, hi n)] := by simp [spL, List.range_succ]
theorem LD {f : Nat → Int} {n i : Nat} (h : i < (iL f n).length) : (iL f n)[i] = f i := by simp [iL]
theorem J4 {lo hi : Nat → Int} {n i : Nat} (h : i < (spL lo hi n).length) : (spL lo hi n)[i] = (lo i, hi i) := by simp [spL]
theorem LC {f : Nat → Int} {n i : Nat} (h : i < n) : ((iL f n).flatMap intE)[i * 1]? = some (.int .i64 (f i)) := by
 have hl : i < (iL f n).length := by rw [Bp]; exact h
 have := FI (enc := intE) (s := 1) (fun _ => rfl) (j := 0) (u := .int .i64 (f i)) (iL f n) i hl (by rw [LD hl]; rfl)
 exact this
theorem OW {lo hi : Nat → Int} {n i : Nat} (h : i < n) : ((spL lo hi n).flatMap spanE)[i * 2 + 0]? = some (.int .i64 (lo i)) := by
 have hl : i < (spL lo hi n).length := by rw [BC]; exact h
 exact FI (enc := spanE) (s := 2) (fun _ => rfl) (spL lo hi n) i hl (by rw [J4 hl]; rfl)
theorem OV {lo hi : Nat → Int} {n i : Nat} (h : i < n) : ((spL lo hi n).flatMap spanE)[i * 2 + 1]? = some (.int .i64 (hi i)) := by
 have hl : i < (spL lo hi n).length := by rw [BC]; exact h
 exact FI (enc := spanE) (s := 2) (fun _ => rfl) (spL lo hi n) i hl (by rw [J4 hl]; rfl)
end
section
def loS (s : Stm) (i : Nat) : Int := (s.ed i).lo
def hiS (s : Stm) (i : Nat) : Int := (s.ed i).hi
structure YrI (s : Stm) (E : Edges) (r : Nat) (D : Nat → Nat → Prop) (lo hi : Nat → Int) : Prop where
 a : Relaxed s.editions.length E (fun i => (s.ed i).lo) r (fun e => D e.1 e.2) lo
 b : Relaxed s.editions.length (swapE E) (fun i => -(s.ed i).hi) r (fun e => D e.2 e.1) (fun i => -(hi i))
section
variable {s : Stm} {E : Edges} {r : Nat} {D : Nat → Nat → Prop} {lo hi : Nat → Int}
theorem YrI.start : YrI s E 0 (fun _ _ => False) (loS s) (hiS s) := ⟨Relaxed.start fun _ _ => rfl, Relaxed.start fun _ _ => rfl⟩
theorem YrI.weaken (h : YrI s E r D lo hi) {D' : Nat → Nat → Prop} (hD : ∀ k i, (k, i) ∈ E → D' k i → D k i) : YrI s E r D' lo hi :=
 ⟨h.a.weaken fun e he hd => hD e.1 e.2 he hd, h.b.weaken fun e he hd => hD e.2 e.1 (CO.1 he) hd⟩
theorem YrI.step (h : YrI s E r D lo hi) (hd : Dag s.editions.length E) {k i : Nat} (he : (k, i) ∈ E) : YrI s E r (fun x y => D x y ∨ (x = k ∧ y = i)) (updI lo i (max (lo i) (lo k + 1))) (updI hi k (min (hi k) (hi i - 1))) := by
 refine ⟨(h.a.step hd he).weaken fun e _ hD => ?_, ?_⟩
 · rcases hD with hD | ⟨h1, h2⟩
   · exact .inl hD
   exact .inr (Prod.ext h1 h2)
 have e1 : (fun j => -(updI hi k (min (hi k) (hi i - 1)) j)) = updI (fun j => -(hi j)) k (max (-(hi k)) (-(hi i) + 1)) := by
   funext j
   unfold updI
   split
   · omega
   rfl
 rw [e1]
 refine (h.b.step hd.swap (k := i) (i := k) (CO.2 he)).weaken fun e _ hD => ?_
 rcases hD with hD | ⟨h1, h2⟩
 · exact .inl hD
 exact .inr (Prod.ext h2 h1)
theorem YrI.round (h : YrI s E r D lo hi) (hD : ∀ k i, (k, i) ∈ E → D k i) : YrI s E (r + 1) (fun _ _ => False) lo hi :=
 ⟨h.a.round fun e he => hD e.1 e.2 he, h.b.round fun e he => hD e.2 e.1 (CO.1 he)⟩
theorem YrI.full (h : YrI s E r D lo hi) (hr : s.editions.length ≤ r) : spL lo hi s.editions.length = spL (firstY s E) (lastY s E) s.editions.length := by
 unfold spL
 refine List.map_congr_left fun i hi' => ?_
 have hi2 := List.mem_range.1 hi'
 have h1 := h.a.full hr hi2
 have h2 := h.b.full hr hi2
 unfold firstY lastY
 exact Prod.ext h1 (by show hi i = _; omega)
theorem YrI.bound (h : YrI s E r D lo hi) (hv : ValidT s) (hE : ∀ e ∈ E, e.1 < s.editions.length ∧ e.2 < s.editions.length) {i : Nat} (hi' : i < s.editions.length) : 1400 ≤ lo i ∧ lo i ≤ 1900 ∧ 1400 ≤ hi i ∧ hi i ≤ 1900 := by
 have hne := hv.ne
 have a1 := h.a.lo i hi'
 have a2 := h.a.hi i hi'
 have b1 := h.b.lo i hi'
 have b2 := h.b.hi i hi'
 have c1 := HZ hv hE r i hi'
 have c2 := HZ hv hE s.editions.length i hi'
 have d1 := Ki hv hE r i hi'
 have d2 := Ki hv hE s.editions.length i hi'
 omega
end
theorem US {lo hi : Nat → Int} {n i : Nat} {v : Int} (h : i < n) : ((spL lo hi n).flatMap spanE).set (i * 2 + 0) (.int .i64 v) = (spL (updI lo i v) hi n).flatMap spanE := by
 have hl : i < (spL lo hi n).length := by rw [BC]; exact h
 rw [De (enc := spanE) (s := 2) (fun _ => rfl) (j := 0) (x := (v, hi i)) (by omega) _ i hl (by rw [J4 hl]; rfl)]
 congr 1
 apply List.ext_getElem
 · simp [spL]
 intro j h1 h2
 rw [List.getElem_set]
 have hj : j < n := by rw [BC] at h2; exact h2
 simp only [spL, List.getElem_map, List.getElem_range, updI]
 by_cases hij : i = j
 · subst hij; simp
 rw [if_neg hij, if_neg (fun h => hij h.symm)]
theorem UR {lo hi : Nat → Int} {n i : Nat} {v : Int} (h : i < n) : ((spL lo hi n).flatMap spanE).set (i * 2 + 1) (.int .i64 v) = (spL lo (updI hi i v) n).flatMap spanE := by
 have hl : i < (spL lo hi n).length := by rw [BC]; exact h
 rw [De (enc := spanE) (s := 2) (fun _ => rfl) (j := 1) (x := (lo i, v)) (by omega) _ i hl (by rw [J4 hl]; rfl)]
 congr 1
 apply List.ext_getElem
 · simp [spL]
 intro j h1 h2
 rw [List.getElem_set]
 have hj : j < n := by rw [BC] at h2; exact h2
 simp only [spL, List.getElem_map, List.getElem_range, updI]
 by_cases hij : i = j
 · subst hij; simp
 rw [if_neg hij, if_neg (fun h => hij h.symm)]
theorem Rk {f : Nat → Int} {n i : Nat} {v : Int} (h : i < n) : ((iL f n).flatMap intE).set (i * 1) (.int .i64 v) = (iL (updI f i v) n).flatMap intE := by
 have hl : i < (iL f n).length := by rw [Bp]; exact h
 rw [show i * 1 = i * 1 + 0 from rfl, De (enc := intE) (s := 1) (fun _ => rfl) (j := 0) (x := v) (by omega) _ i hl (by rw [LD hl]; rfl)]
 congr 1
 apply List.ext_getElem
 · simp [iL]
 intro j h1 h2
 rw [List.getElem_set]
 have hj : j < n := by rw [Bp] at h2; exact h2
 simp only [iL, List.getElem_map, List.getElem_range, updI]
 by_cases hij : i = j
 · subst hij; simp
 rw [if_neg hij, if_neg (fun h => hij h.symm)]
theorem OU {lo hi : Nat → Int} {n : Nat} : ((spL lo hi n).flatMap spanE).length = n * 2 := by rw [C8 (enc := spanE) (s := 2) (fun _ => rfl), BC]
theorem GH {f : Nat → Int} {n : Nat} : ((iL f n).flatMap intE).length = n := by rw [C8 (enc := intE) (s := 1) (fun _ => rfl), Bp, Nat.mul_one]
theorem spL_any {lo hi : Nat → Int} {n : Nat} : ((spL lo hi n).any fun y => decide (y.2 < y.1)) = !((List.range n).all fun i => decide (lo i ≤ hi i)) := by
 rw [Bool.eq_iff_iff, Bool.not_eq_true', List.any_eq_true]
 constructor
 · rintro ⟨x, hx, h⟩
   obtain ⟨i, hi', rfl⟩ := List.mem_map.1 hx
   have h2 := of_decide_eq_true h
   exact List.all_eq_false.2 ⟨i, hi', by simp only [decide_eq_true_eq]; simp only at h2; omega⟩
 intro h
 obtain ⟨i, hi', h2⟩ := List.all_eq_false.1 h
 simp only [decide_eq_true_eq] at h2
 exact ⟨_, List.mem_map.2 ⟨i, hi', rfl⟩, dT (by simp only; omega)⟩
theorem VB {s : Stm} {E : Edges} (hd : Dag s.editions.length E) : ((spL (firstY s E) (lastY s E) s.editions.length).any fun y => decide (y.2 < y.1)) = !(fitsE s E) := by
 rw [spL_any]
 congr 1
 rw [Bool.eq_iff_iff, TY hd, List.all_eq_true]
 exact ⟨fun h i hi => of_decide_eq_true (h i (List.mem_range.2 hi)), fun h i hi => dT (h i (List.mem_range.1 hi))⟩
end
section
structure Stk where
 name : ByteArray
 lo : Int
 hi : Int
structure Rem where
 stock : Int
 lo : Int
 hi : Int
structure Sn where
 g : Int
 s : Int
structure Pap where
 run : Int
 stocks : List Stk
 reams : List Rem
 gats : Int
 seen : List Sn
@[reducible] def Stk.enc (x : Stk) : List Go.Value := [.string x.name, .int .i64 x.lo, .int .i64 x.hi]
@[reducible] def Rem.enc (x : Rem) : List Go.Value := [.int .i64 x.stock, .int .i64 x.lo, .int .i64 x.hi]
@[reducible] def Sn.enc (x : Sn) : List Go.Value := [.int .i64 x.g, .int .i64 x.s]
theorem Stk.enc_one {b : Stk} : ∀ u ∈ b.enc, u.oneCell' = true := by simp [Stk.enc, Value.oneCell']
theorem Rem.enc_one {b : Rem} : ∀ u ∈ b.enc, u.oneCell' = true := by simp [Rem.enc, Value.oneCell']
theorem Sn.enc_one {b : Sn} : ∀ u ∈ b.enc, u.oneCell' = true := by simp [Sn.enc, Value.oneCell']
structure PapR (F : Heap) (vs vr vx : Go.Value) (c : Pap) : Prop where
 stocks : Sl F vs 3 Stk.enc c.stocks
 reams : Sl F vr 3 Rem.enc c.reams
 seen : Sl F vx 2 Sn.enc c.seen
@[reducible] def papV (vs vr vx : Go.Value) (c : Pap) : Go.Value := .agg #[.int .i64 c.run, vs, vr, .int .i64 c.gats, vx]
theorem PapR.mono {F F' : Heap} {vs vr vx : Go.Value} {c : Pap} (h : PapR F vs vr vx c) (hF : F.le F') : PapR F' vs vr vx c :=
 ⟨h.stocks.mono hF, h.reams.mono hF, h.seen.mono hF⟩
def Pap.st (c : Pap) (i : Nat) : Stk := c.stocks[i]?.getD ⟨ByteArray.empty, 0, 0⟩
def Pap.rm (c : Pap) (i : Nat) : Rem := c.reams[i]?.getD ⟨0, 0, 0⟩
def Pap.sn (c : Pap) (i : Nat) : Sn := c.seen[i]?.getD ⟨0, 0⟩
theorem UO {c : Pap} {i : Nat} (h : i < c.stocks.length) : c.stocks[i] = c.st i := by simp [Pap.st, h]
theorem MR {c : Pap} {i : Nat} (h : i < c.reams.length) : c.reams[i] = c.rm i := by simp [Pap.rm, h]
theorem UU {c : Pap} {i : Nat} (h : i < c.seen.length) : c.seen[i] = c.sn i := by simp [Pap.sn, h]
def stkErr (c : Pap) (i : Nat) : Int := match c.stocks[i]? with
 | none => 0
 | some x => if nameOk x.name = false then 6 else if (c.stocks.take i).any (fun y => sameS y.name x.name) = true then 5 else if (inB 1450 1850 x.lo && inB 1450 1850 x.hi) = false then 7 else if x.hi < x.lo then 2 else 0
def remErr (c : Pap) (i : Nat) : Int := match c.reams[i]? with
 | none => 0
 | some x => if inB 0 (c.stocks.length - 1) x.stock = false then 4 else if (inB 1 2000 x.lo && inB 1 2000 x.hi) = false then 7 else if (inB x.lo (x.lo + 2) x.hi) = false then 2 else 0
def snErr (c : Pap) (i : Nat) : Int := match c.seen[i]? with
 | none => 0
 | some x => if (inB 0 (c.gats - 1) x.g && inB 0 (c.stocks.length - 1) x.s) = false then 4 else 0
def checkP (c : Pap) : Int × Int × Int :=
 if inB 1 500 c.run = false then (1, 0, 7) else if inB 1 4 c.stocks.length = false then (2, 0, 3) else if (firstQ c.stocks.length (stkErr c)).2 ≠ 0 then (2, firstQ c.stocks.length (stkErr c))
 else if inB 1 4 c.reams.length = false then (3, 0, 3) else if (firstQ c.reams.length (remErr c)).2 ≠ 0 then (3, firstQ c.reams.length (remErr c)) else if inB 1 5 c.gats = false then (4, 0, 7)
 else if 8 < c.seen.length then (5, 0, 3) else if (firstQ c.seen.length (snErr c)).2 ≠ 0 then (5, firstQ c.seen.length (snErr c)) else (0, 0, 0)
@[reducible] def checkPV (c : Pap) : Go.Value := .tuple #[.int .i64 (checkP c).1, .int .i64 (checkP c).2.1, .int .i64 (checkP c).2.2]
section
variable {c : Pap}
theorem Ql  (h1 : inB 1 500 c.run = false) : checkPV c = .tuple #[.int .i64 1, .int .i64 0, .int .i64 7] := by
 unfold checkPV checkP; rw [if_pos h1]
theorem Qk (h1 : inB 1 500 c.run = true) (h2 : inB 1 4 c.stocks.length = false) : checkPV c = .tuple #[.int .i64 2, .int .i64 0, .int .i64 3] := by
 unfold checkPV checkP; rw [if_neg (by rw [h1]; simp), if_pos h2]
theorem Fj (h1 : inB 1 500 c.run = true) (h2 : inB 1 4 c.stocks.length = true) {i e : Int} (h3 : firstQ c.stocks.length (stkErr c) = (i, e)) (he : e ≠ 0) : checkPV c = .tuple #[.int .i64 2, .int .i64 i, .int .i64 e] := by
 unfold checkPV checkP; rw [if_neg (by rw [h1]; simp), if_neg (by rw [h2]; simp), if_pos (by rw [h3]; exact he), h3]
theorem Qj (h1 : inB 1 500 c.run = true) (h2 : inB 1 4 c.stocks.length = true) (h3 : firstQ c.stocks.length (stkErr c) = (0, 0)) (h4 : inB 1 4 c.reams.length = false) : checkPV c = .tuple #[.int .i64 3, .int .i64 0, .int .i64 3] := by
 unfold checkPV checkP; rw [if_neg (by rw [h1]; simp), if_neg (by rw [h2]; simp), if_neg (fun h => h (by rw [h3])), if_pos h4]
theorem Fi (h1 : inB 1 500 c.run = true) (h2 : inB 1 4 c.stocks.length = true) (h3 : firstQ c.stocks.length (stkErr c) = (0, 0)) (h4 : inB 1 4 c.reams.length = true) {i e : Int} (h5 : firstQ c.reams.length (remErr c) = (i, e)) (he : e ≠ 0) : checkPV c = .tuple #[.int .i64 3, .int .i64 i, .int .i64 e] := by
 unfold checkPV checkP; rw [if_neg (by rw [h1]; simp), if_neg (by rw [h2]; simp), if_neg (fun h => h (by rw [h3])), if_neg (by rw [h4]; simp), if_pos (by rw [h5]; exact he), h5]
theorem Qi (h1 : inB 1 500 c.run = true) (h2 : inB 1 4 c.stocks.length = true) (h3 : firstQ c.stocks.length (stkErr c) = (0, 0)) (h4 : inB 1 4 c.reams.length = true) (h5 : firstQ c.reams.length (remErr c) = (0, 0)) (h6 : inB 1 5 c.gats = false) : checkPV c = .tuple #[.int .i64 4, .int .i64 0, .int .i64 7] := by
 unfold checkPV checkP; rw [if_neg (by rw [h1]; simp), if_neg (by rw [h2]; simp), if_neg (fun h => h (by rw [h3])), if_neg (by rw [h4]; simp), if_neg (fun h => h (by rw [h5])), if_pos h6]
theorem Qh (h1 : inB 1 500 c.run = true) (h2 : inB 1 4 c.stocks.length = true) (h3 : firstQ c.stocks.length (stkErr c) = (0, 0)) (h4 : inB 1 4 c.reams.length = true) (h5 : firstQ c.reams.length (remErr c) = (0, 0)) (h6 : inB 1 5 c.gats = true) (h7 : 8 < c.seen.length) : checkPV c = .tuple #[.int .i64 5, .int .i64 0, .int .i64 3] := by
 unfold checkPV checkP; rw [if_neg (by rw [h1]; simp), if_neg (by rw [h2]; simp), if_neg (fun h => h (by rw [h3])), if_neg (by rw [h4]; simp), if_neg (fun h => h (by rw [h5])), if_neg (by rw [h6]; simp), if_pos h7]
theorem Ji (h1 : inB 1 500 c.run = true) (h2 : inB 1 4 c.stocks.length = true) (h3 : firstQ c.stocks.length (stkErr c) = (0, 0)) (h4 : inB 1 4 c.reams.length = true) (h5 : firstQ c.reams.length (remErr c) = (0, 0)) (h6 : inB 1 5 c.gats = true) (h7 : ¬ 8 < c.seen.length) {i e : Int} (h8 : firstQ c.seen.length (snErr c) = (i, e)) (he : e ≠ 0) : checkPV c = .tuple #[.int .i64 5, .int .i64 i, .int .i64 e] := by
 unfold checkPV checkP; rw [if_neg (by rw [h1]; simp), if_neg (by rw [h2]; simp), if_neg (fun h => h (by rw [h3])), if_neg (by rw [h4]; simp), if_neg (fun h => h (by rw [h5])), if_neg (by rw [h6]; simp), if_neg h7, if_pos (by rw [h8]; exact he), h8]
theorem Qm (h1 : inB 1 500 c.run = true) (h2 : inB 1 4 c.stocks.length = true) (h3 : firstQ c.stocks.length (stkErr c) = (0, 0)) (h4 : inB 1 4 c.reams.length = true) (h5 : firstQ c.reams.length (remErr c) = (0, 0)) (h6 : inB 1 5 c.gats = true) (h7 : ¬ 8 < c.seen.length) (h8 : firstQ c.seen.length (snErr c) = (0, 0)) : checkPV c = .tuple #[.int .i64 0, .int .i64 0, .int .i64 0] := by
 unfold checkPV checkP; rw [if_neg (by rw [h1]; simp), if_neg (by rw [h2]; simp), if_neg (fun h => h (by rw [h3])), if_neg (by rw [h4]; simp), if_neg (fun h => h (by rw [h5])), if_neg (by rw [h6]; simp), if_neg h7, if_neg (fun h => h (by rw [h8]))]
end
theorem DB {c : Pap} {k : Nat} (h : k < c.stocks.length) : stkErr c k = if nameOk c.stocks[k].name = false then 6 else if (c.stocks.take k).any (fun y => sameS y.name c.stocks[k].name) = true then 5 else if (inB 1450 1850 c.stocks[k].lo && inB 1450 1850 c.stocks[k].hi) = false then 7 else if c.stocks[k].hi < c.stocks[k].lo then 2 else 0 := by unfold stkErr; rw [List.getElem?_eq_getElem h]
theorem Eq {c : Pap} {k : Nat} (h : k < c.reams.length) : remErr c k = if inB 0 (c.stocks.length - 1) c.reams[k].stock = false then 4 else if (inB 1 2000 c.reams[k].lo && inB 1 2000 c.reams[k].hi) = false then 7 else if (inB c.reams[k].lo (c.reams[k].lo + 2) c.reams[k].hi) = false then 2 else 0 := by unfold remErr; rw [List.getElem?_eq_getElem h]
theorem DO {c : Pap} {k : Nat} (h : k < c.seen.length) : snErr c k = if (inB 0 (c.gats - 1) c.seen[k].g && inB 0 (c.stocks.length - 1) c.seen[k].s) = false then 4 else 0 := by unfold snErr; rw [List.getElem?_eq_getElem h]
def snames (c : Pap) (k : Nat) : List ByteArray := (c.stocks.take k).map (·.name)
theorem OZ {c : Pap} {k : Nat} (h : k < c.stocks.length) : snames c (k + 1) = snames c k ++ [c.stocks[k].name] := by unfold snames; rw [List.take_succ_eq_append_getElem h, List.map_append]; rfl
theorem QL {c : Pap} {k : Nat} (h : k ≤ c.stocks.length) : (snames c k).length = k := by simp [snames]; omega
theorem MT {lo hi a b : Int} : rangeE lo hi a b = if (inB a b lo && inB a b hi) = false then 7 else if hi < lo then 2 else 0 := by
 unfold rangeE
 by_cases h1 : min lo hi < a ∨ b < max lo hi
 · rw [if_pos h1, if_pos (by unfold inB; simp only [Bool.and_eq_false_iff, decide_eq_false_iff_not]; omega)]
 rw [if_neg h1]
 have h2 : ¬ ((inB a b lo && inB a b hi) = false) := by unfold inB; simp only [Bool.and_eq_false_iff, decide_eq_false_iff_not]; omega
 rw [if_neg h2]
theorem Ft {c : Pap} {k : Nat} (h : k < c.stocks.length) : stkErr c k = if freshE c.stocks[k].name (snames c k) ≠ 0 then freshE c.stocks[k].name (snames c k) else rangeE c.stocks[k].lo c.stocks[k].hi 1450 1850 := by
 rw [DB h, MT]
 have hany : (snames c k).any (fun x => sameS x c.stocks[k].name) = (c.stocks.take k).any fun y => sameS y.name c.stocks[k].name := by unfold snames; rw [List.any_map]; rfl
 unfold freshE
 rw [hany]
 cases nameOk c.stocks[k].name <;> cases (c.stocks.take k).any (fun y => sameS y.name c.stocks[k].name) <;> simp
theorem Ek {c : Pap} {k : Nat} (h : k < c.reams.length) : remErr c k = if inB 0 (c.stocks.length - 1) c.reams[k].stock = false then 4 else if rangeE c.reams[k].lo c.reams[k].hi 1 2000 ≠ 0 then rangeE c.reams[k].lo c.reams[k].hi 1 2000 else if c.reams[k].lo + 2 < c.reams[k].hi then 2 else 0 := by
 rw [Eq h, MT]
 by_cases h1 : inB 0 (c.stocks.length - 1) c.reams[k].stock = false
 · rw [if_pos h1, if_pos h1]
 rw [if_neg h1, if_neg h1]
 by_cases h2 : (inB 1 2000 c.reams[k].lo && inB 1 2000 c.reams[k].hi) = false
 · rw [if_pos h2, if_pos h2]; simp
 rw [if_neg h2, if_neg h2]
 by_cases h3 : c.reams[k].hi < c.reams[k].lo
 · rw [if_pos h3, if_pos (by unfold inB; simp only [Bool.and_eq_false_iff, decide_eq_false_iff_not]; omega)]; simp
 rw [if_neg h3]
 by_cases h4 : c.reams[k].lo + 2 < c.reams[k].hi
 · rw [if_pos (by unfold inB; simp only [Bool.and_eq_false_iff, decide_eq_false_iff_not]; omega), if_pos h4]; simp
 have h5 : ¬ (inB c.reams[k].lo (c.reams[k].lo + 2) c.reams[k].hi = false) := by unfold inB; simp only [Bool.and_eq_false_iff, decide_eq_false_iff_not]; omega
 rw [if_neg h5, if_neg h4]; simp
end
section
set_option maxRecDepth 100000
open Go.RowKit
theorem nat_u8 {z : Int} (h : (Lit.int .u8 z).wf = true) : ∃ n : Nat, z = n ∧ n < 256 := by
 simp [Lit.wf, IntKind.min, IntKind.max, IntKind.signed, IntKind.bits] at h
 exact ⟨z.toNat, by omega, by omega⟩
theorem nat_u16 {z : Int} (h : (Lit.int .u16 z).wf = true) : ∃ n : Nat, z = n ∧ n < 65536 := by
 simp [Lit.wf, IntKind.min, IntKind.max, IntKind.signed, IntKind.bits] at h
 exact ⟨z.toNat, by omega, by omega⟩
@[reducible] def u16E (n : Nat) : List Value := [.int .u16 (n : Int)]
section
variable {H : Type} {enc : TypeId × Value → H} {W : World}
@[reducible] def u8E (n : Nat) : List Value := [.int .u8 (n : Int)]
theorem FM : Tryz.prog.cellsOf 3 = 1 := by kernel_rfl
theorem Ot (cs : List Value) (h : Rd enc Tryz.prog W 3 cs) : ∃ z : Int, cs = intE z ∧ True := by obtain ⟨z, h, -⟩ := QP Tryz.underlying3 h; exact ⟨z, h, trivial⟩
theorem RA : Tryz.prog.cellsOf 9 = 1 := by kernel_rfl
theorem dec9 (cs : List Value) (h : Rd enc Tryz.prog W 9 cs) : ∃ b : ByteArray, cs = strE b ∧ True := by obtain ⟨b, h⟩ := Tz Tryz.underlying9 h; exact ⟨b, h, trivial⟩
theorem Mc : Tryz.prog.cellsOf 5 = 1 := by kernel_rfl
theorem dec5 (cs : List Value) (h : Rd enc Tryz.prog W 5 cs) : ∃ n : Nat, cs = [.int .u8 (n : Int)] ∧ n < 256 := by
 obtain ⟨z, rfl, hz⟩ := QP Tryz.underlying5 h
 obtain ⟨n, rfl, hn⟩ := nat_u8 hz
 exact ⟨n, rfl, hn⟩
theorem Md : Tryz.prog.cellsOf 126 = 1 := by kernel_rfl
theorem Rt (cs : List Value) (h : Rd enc Tryz.prog W 126 cs) : ∃ n : Nat, cs = u16E n ∧ n < 65536 := by
 obtain ⟨z, rfl, hz⟩ := QP Tryz.underlying126 h
 obtain ⟨n, rfl, hn⟩ := nat_u16 hz
 exact ⟨n, rfl, hn⟩
theorem SC (cs : List Value) (h : Rd enc Tryz.prog W 5 cs) : ∃ n : Nat, cs = u8E n ∧ n < 256 := dec5 cs h
theorem KC : Tryz.prog.cellsOf 54 = 2 := by kernel_rfl
theorem len2 {α : Type} {l : List α} (h : l.length = 2) : ∃ a0 a1, l = [a0, a1] := by
 match l, h with
 | [a0, a1], _ => exact ⟨a0, a1, rfl⟩
theorem VQ (cs : List Value) (h : Rd enc Tryz.prog W 54 cs) : ∃ x : Int × Int, cs = [.int .i64 x.1, .int .i64 x.2] ∧ True := by
 obtain ⟨hl, hf⟩ := C4 Tryz.underlying54 h
 rw [KC] at hl
 obtain ⟨c0, c1, rfl⟩ := len2 hl
 obtain ⟨x0, e0, -⟩ := Ot _ (BQ hf 0 (t := 3) (o := 0) rfl FM)
 obtain ⟨x1, e1, -⟩ := Ot _ (BQ hf 1 (t := 3) (o := 1) rfl FM)
 simp [intE] at e0 e1
 obtain rfl := e0
 obtain rfl := e1
 exact ⟨(x0, x1), rfl, trivial⟩
theorem SD : Tryz.prog.cellsOf 80 = 2 := by kernel_rfl
theorem dec80 (cs : List Value) (h : Rd enc Tryz.prog W 80 cs) : ∃ x : Plc, cs = x.enc ∧ True := by
 obtain ⟨hl, hf⟩ := C4 Tryz.underlying80 h
 rw [SD] at hl
 obtain ⟨c0, c1, rfl⟩ := len2 hl
 obtain ⟨x0, e0, -⟩ := dec9 _ (BQ hf 0 (t := 9) (o := 0) rfl RA)
 obtain ⟨x1, e1, -⟩ := Ot _ (BQ hf 1 (t := 3) (o := 1) rfl FM)
 simp [intE, strE] at e0 e1
 obtain rfl := e0
 obtain rfl := e1
 exact ⟨⟨x0, x1⟩, rfl, trivial⟩
theorem SE : Tryz.prog.cellsOf 78 = 2 := by kernel_rfl
theorem dec78 (cs : List Value) (h : Rd enc Tryz.prog W 78 cs) : ∃ x : Sn, cs = x.enc ∧ True := by
 obtain ⟨hl, hf⟩ := C4 Tryz.underlying78 h
 rw [SE] at hl
 obtain ⟨c0, c1, rfl⟩ := len2 hl
 obtain ⟨x0, e0, -⟩ := Ot _ (BQ hf 0 (t := 3) (o := 0) rfl FM)
 obtain ⟨x1, e1, -⟩ := Ot _ (BQ hf 1 (t := 3) (o := 1) rfl FM)
 simp [intE] at e0 e1
 obtain rfl := e0
 obtain rfl := e1
 exact ⟨⟨x0, x1⟩, rfl, trivial⟩
theorem cells44 : Tryz.prog.cellsOf 44 = 1 := by kernel_rfl
theorem SH : Tryz.prog.cellsOf 59 = 4 := by kernel_rfl
theorem len4 {α : Type} {l : List α} (h : l.length = 4) : ∃ a0 a1 a2 a3, l = [a0, a1, a2, a3] := by
 match l, h with
 | [a0, a1, a2, a3], _ => exact ⟨a0, a1, a2, a3, rfl⟩
theorem dec59 (cs : List Value) (h : Rd enc Tryz.prog W 59 cs) : ∃ x : Value × Edn, cs = edE x ∧ Ints (heapOf W) x.1 x.2.rd := by
 obtain ⟨hl, hf⟩ := C4 Tryz.underlying59 h
 rw [SH] at hl
 obtain ⟨c0, c1, c2, c3, rfl⟩ := len4 hl
 obtain ⟨x0, e0, -⟩ := dec9 _ (BQ hf 0 (t := 9) (o := 0) rfl RA)
 obtain ⟨x1, e1, -⟩ := VQ _ (BQ hf 1 (t := 54) (o := 1) rfl KC)
 obtain ⟨x2, s2, -⟩ := C5 Tryz.underlying44 FM (by decide) (of_decide_eq_true (by kernel_rfl)) (fun _ => rfl) Ot (BQ hf 2 (t := 44) (o := 3) rfl cells44)
 simp [strE] at e0 e1
 obtain rfl := e0
 obtain ⟨rfl, rfl⟩ := e1
 exact ⟨(c3, ⟨x0, x1.1, x1.2, x2⟩), rfl, s2⟩
theorem SG : Tryz.prog.cellsOf 73 = 3 := by kernel_rfl
theorem SF : Tryz.prog.cellsOf 76 = 3 := by kernel_rfl
theorem len3 {α : Type} {l : List α} (h : l.length = 3) : ∃ a0 a1 a2, l = [a0, a1, a2] := by
 match l, h with
 | [a0, a1, a2], _ => exact ⟨a0, a1, a2, rfl⟩
theorem dec73 (cs : List Value) (h : Rd enc Tryz.prog W 73 cs) : ∃ x : Stk, cs = x.enc ∧ True := by
 obtain ⟨hl, hf⟩ := C4 Tryz.underlying73 h
 rw [SG] at hl
 obtain ⟨c0, c1, c2, rfl⟩ := len3 hl
 obtain ⟨x0, e0, -⟩ := dec9 _ (BQ hf 0 (t := 9) (o := 0) rfl RA)
 obtain ⟨x1, e1, -⟩ := VQ _ (BQ hf 1 (t := 54) (o := 1) rfl KC)
 simp [strE] at e0 e1
 obtain rfl := e0
 obtain ⟨rfl, rfl⟩ := e1
 exact ⟨⟨x0, x1.1, x1.2⟩, rfl, trivial⟩
theorem dec76 (cs : List Value) (h : Rd enc Tryz.prog W 76 cs) : ∃ x : Rem, cs = x.enc ∧ True := by
 obtain ⟨hl, hf⟩ := C4 Tryz.underlying76 h
 rw [SF] at hl
 obtain ⟨c0, c1, c2, rfl⟩ := len3 hl
 obtain ⟨x0, e0, -⟩ := Ot _ (BQ hf 0 (t := 3) (o := 0) rfl FM)
 obtain ⟨x1, e1, -⟩ := VQ _ (BQ hf 1 (t := 54) (o := 1) rfl KC)
 simp [intE] at e0 e1
 obtain rfl := e0
 obtain ⟨rfl, rfl⟩ := e1
 exact ⟨⟨x0, x1.1, x1.2⟩, rfl, trivial⟩
theorem cells27 : Tryz.prog.cellsOf 27 = 1 := by kernel_rfl
theorem cells28 : Tryz.prog.cellsOf 28 = 1 := by kernel_rfl
theorem KD : Tryz.prog.cellsOf 34 = 1 := by kernel_rfl
theorem cells22 : Tryz.prog.cellsOf 22 = 1 := by kernel_rfl
theorem cells23 : Tryz.prog.cellsOf 23 = 1 := by kernel_rfl
theorem cells24 : Tryz.prog.cellsOf 24 = 1 := by kernel_rfl
theorem Oy : Tryz.prog.cellsOf 31 = 1 := by kernel_rfl
theorem cells30 : Tryz.prog.cellsOf 30 = 2 := by kernel_rfl
theorem cells26 : Tryz.prog.cellsOf 26 = 5 := by kernel_rfl
theorem SI : Tryz.prog.cellsOf 36 = 4 := by kernel_rfl
theorem SJ : Tryz.prog.cellsOf 33 = 3 := by kernel_rfl
theorem WK {base : Nat} {v : Value} {d : DataW H} {p : List MemPlace} (hok : Value.okWide Tryz.prog W .any base 30 v) (h : DataW.Trod enc Tryz.prog W 0 (fun _ => true) true 30 v d p) (hw : ∀ n ∈ d.weights Tryz.prog 30, n ≤ reachBytes) :
   ∃ vp ve ps s, v = .agg #[vp, ve] ∧ StmR (heapOf W) vp ve ps s := by
 obtain ⟨cs, rfl, hsz⟩ := Go.WideShapes.okWide_struct Tryz.underlying30 hok
 have hr := Ve h hw
 obtain ⟨hl, hf⟩ := C4 Tryz.underlying30 hr
 rw [cells30] at hl
 obtain ⟨c0, c1, hcs⟩ := len2 hl
 have hcs' : cs = #[c0, c1] := by
   have : cs.toList = [c0, c1] := hcs
   exact Array.ext' (by simpa using this)
 subst hcs'
 obtain ⟨xa, sa, wa⟩ := C5 Tryz.underlying27 SD (by decide) (of_decide_eq_true (by kernel_rfl)) (fun _ => rfl) dec80 (BQ hf 0 (t := 27) (o := 0) rfl cells27)
 obtain ⟨xb, sb, wb⟩ := C5 Tryz.underlying28 SH (by decide) (of_decide_eq_true (by kernel_rfl)) (fun _ => rfl) dec59 (BQ hf 1 (t := 28) (o := 1) rfl cells28)
 exact ⟨_, _, xb, ⟨xa, xb.map (·.2)⟩, rfl, ⟨sa, sb, wb, rfl⟩⟩
theorem len5 {α : Type} {l : List α} (h : l.length = 5) : ∃ a0 a1 a2 a3 a4, l = [a0, a1, a2, a3, a4] := by
 match l, h with
 | [a0, a1, a2, a3, a4], _ => exact ⟨a0, a1, a2, a3, a4, rfl⟩
theorem arg_pap {base : Nat} {v : Value} {d : DataW H} {p : List MemPlace} (hok : Value.okWide Tryz.prog W .any base 26 v) (h : DataW.Trod enc Tryz.prog W 0 (fun _ => true) true 26 v d p) (hw : ∀ n ∈ d.weights Tryz.prog 26, n ≤ reachBytes) :
   ∃ vs vr vx c, v = papV vs vr vx c ∧ PapR (heapOf W) vs vr vx c := by
 obtain ⟨cs, rfl, hsz⟩ := Go.WideShapes.okWide_struct Tryz.underlying26 hok
 have hr := Ve h hw
 obtain ⟨hl, hf⟩ := C4 Tryz.underlying26 hr
 rw [cells26] at hl
 obtain ⟨c0, c1, c2, c3, c4, hcs⟩ := len5 hl
 have hcs' : cs = #[c0, c1, c2, c3, c4] := by
   have : cs.toList = [c0, c1, c2, c3, c4] := hcs
   exact Array.ext' (by simpa using this)
 subst hcs'
 obtain ⟨x0, e0, -⟩ := Ot _ (BQ hf 0 (t := 3) (o := 0) rfl FM)
 obtain ⟨xa, sa, wa⟩ := C5 Tryz.underlying22 SG (by decide) (of_decide_eq_true (by kernel_rfl)) (fun _ => rfl) dec73 (BQ hf 1 (t := 22) (o := 1) rfl cells22)
 obtain ⟨xb, sb, wb⟩ := C5 Tryz.underlying23 SF (by decide) (of_decide_eq_true (by kernel_rfl)) (fun _ => rfl) dec76 (BQ hf 2 (t := 23) (o := 2) rfl cells23)
 obtain ⟨x3, e3, -⟩ := Ot _ (BQ hf 3 (t := 3) (o := 3) rfl FM)
 obtain ⟨xc, sc, wc⟩ := C5 Tryz.underlying24 SE (by decide) (of_decide_eq_true (by kernel_rfl)) (fun _ => rfl) dec78 (BQ hf 4 (t := 24) (o := 4) rfl cells24)
 simp [intE, Value.cells] at e0 e3
 obtain rfl := e0
 obtain rfl := e3
 exact ⟨_, _, _, ⟨x0, xa, xb, x3, xc⟩, rfl, ⟨sa, sb, sc⟩⟩
theorem dec33 (cs : List Value) (h : Rd enc Tryz.prog W 33 cs) : ∃ v0 v1 v2, cs = [v0, v1, v2] ∧ ∃ a b c, (Sl (heapOf W) v0 1 u16E a ∧ ∀ x ∈ a, x < 65536) ∧ (Sl (heapOf W) v1 1 u16E b ∧ ∀ x ∈ b, x < 65536) ∧ (Sl (heapOf W) v2 1 u16E c ∧ ∀ x ∈ c, x < 65536) := by
 obtain ⟨hl, hf⟩ := C4 Tryz.underlying33 h
 rw [SJ] at hl
 obtain ⟨c0, c1, c2, rfl⟩ := len3 hl
 obtain ⟨xa, sa, wa⟩ := C5 Tryz.underlying31 Md (by decide) (of_decide_eq_true (by kernel_rfl)) (fun _ => rfl) Rt (BQ hf 0 (t := 31) (o := 0) rfl Oy)
 obtain ⟨xb, sb, wb⟩ := C5 Tryz.underlying31 Md (by decide) (of_decide_eq_true (by kernel_rfl)) (fun _ => rfl) Rt (BQ hf 1 (t := 31) (o := 1) rfl Oy)
 obtain ⟨xc, sc, wc⟩ := C5 Tryz.underlying31 Md (by decide) (of_decide_eq_true (by kernel_rfl)) (fun _ => rfl) Rt (BQ hf 2 (t := 31) (o := 2) rfl Oy)
 exact ⟨_, _, _, rfl, xa, xb, xc, ⟨sa, wa⟩, ⟨sb, wb⟩, ⟨sc, wc⟩⟩
theorem dec36 (cs : List Value) (h : Rd enc Tryz.prog W 36 cs) : ∃ v0 v1 v2 v3, cs = [v0, v1, v2, v3] ∧ ∃ a b c d, (Sl (heapOf W) v0 1 u8E a ∧ ∀ x ∈ a, x < 256) ∧ (Sl (heapOf W) v1 1 u8E b ∧ ∀ x ∈ b, x < 256) ∧ (Sl (heapOf W) v2 1 u8E c ∧ ∀ x ∈ c, x < 256) ∧ (Sl (heapOf W) v3 1 u8E d ∧ ∀ x ∈ d, x < 256) := by
 obtain ⟨hl, hf⟩ := C4 Tryz.underlying36 h
 rw [SI] at hl
 obtain ⟨c0, c1, c2, c3, rfl⟩ := len4 hl
 obtain ⟨xa, sa, wa⟩ := C5 Tryz.underlying34 Mc (by decide) (of_decide_eq_true (by kernel_rfl)) (fun _ => rfl) SC (BQ hf 0 (t := 34) (o := 0) rfl KD)
 obtain ⟨xb, sb, wb⟩ := C5 Tryz.underlying34 Mc (by decide) (of_decide_eq_true (by kernel_rfl)) (fun _ => rfl) SC (BQ hf 1 (t := 34) (o := 1) rfl KD)
 obtain ⟨xc, sc, wc⟩ := C5 Tryz.underlying34 Mc (by decide) (of_decide_eq_true (by kernel_rfl)) (fun _ => rfl) SC (BQ hf 2 (t := 34) (o := 2) rfl KD)
 obtain ⟨xd, sd, wd⟩ := C5 Tryz.underlying34 Mc (by decide) (of_decide_eq_true (by kernel_rfl)) (fun _ => rfl) SC (BQ hf 3 (t := 34) (o := 3) rfl KD)
 exact ⟨_, _, _, _, rfl, xa, xb, xc, xd, ⟨sa, wa⟩, ⟨sb, wb⟩, ⟨sc, wc⟩, ⟨sd, wd⟩⟩
theorem cells38 : Tryz.prog.cellsOf 38 = 8 := by kernel_rfl
theorem len8 {α : Type} {l : List α} (h : l.length = 8) : ∃ a0 a1 a2 a3 a4 a5 a6 a7, l = [a0, a1, a2, a3, a4, a5, a6, a7] := by
 match l, h with
 | [a0, a1, a2, a3, a4, a5, a6, a7], _ => exact ⟨a0, a1, a2, a3, a4, a5, a6, a7, rfl⟩
theorem Uv {base : Nat} {v : Value} {d : DataW H} {p : List MemPlace} (hok : Value.okWide Tryz.prog W .any base 38 v) (h : DataW.Trod enc Tryz.prog W 0 (fun _ => true) true 38 v d p) (hw : ∀ n ∈ d.weights Tryz.prog 38, n ≤ reachBytes) :
   ∃ (u0 u1 u2 v0 v1 v2 v3 : Value) (w : Nat), v = .agg #[u0, u1, u2, v0, v1, v2, v3, .int .u8 (w : Int)] ∧ w < 256 ∧ (∃ a b c, (Sl (heapOf W) u0 1 u16E a ∧ ∀ x ∈ a, x < 65536) ∧ (Sl (heapOf W) u1 1 u16E b ∧ ∀ x ∈ b, x < 65536) ∧ (Sl (heapOf W) u2 1 u16E c ∧ ∀ x ∈ c, x < 65536)) ∧ ∃ a b c d, (Sl (heapOf W) v0 1 u8E a ∧ ∀ x ∈ a, x < 256) ∧ (Sl (heapOf W) v1 1 u8E b ∧ ∀ x ∈ b, x < 256) ∧ (Sl (heapOf W) v2 1 u8E c ∧ ∀ x ∈ c, x < 256) ∧ (Sl (heapOf W) v3 1 u8E d ∧ ∀ x ∈ d, x < 256) := by
 obtain ⟨cs, rfl, hsz⟩ := Go.WideShapes.okWide_struct Tryz.underlying38 hok
 have hr := Ve h hw
 obtain ⟨hl, hf⟩ := C4 Tryz.underlying38 hr
 rw [cells38] at hl
 obtain ⟨c0, c1, c2, c3, c4, c5, c6, c7, hcs⟩ := len8 hl
 have hcs' : cs = #[c0, c1, c2, c3, c4, c5, c6, c7] := by
   have : cs.toList = [c0, c1, c2, c3, c4, c5, c6, c7] := hcs
   exact Array.ext' (by simpa using this)
 subst hcs'
 obtain ⟨p0, p1, p2, ep, hp⟩ := dec33 _ (BQ hf 0 (t := 33) (o := 0) rfl SJ)
 obtain ⟨q0, q1, q2, q3, eq, hq⟩ := dec36 _ (BQ hf 1 (t := 36) (o := 3) rfl SI)
 obtain ⟨n, en, hn⟩ := dec5 _ (BQ hf 2 (t := 5) (o := 7) rfl Mc)
 simp [Value.cells] at ep eq en
 obtain ⟨rfl, rfl, rfl⟩ := ep
 obtain ⟨rfl, rfl, rfl, rfl⟩ := eq
 obtain rfl := en
 exact ⟨_, _, _, _, _, _, _, n, rfl, hn, hp, hq⟩
end
end
section
open Go.ChangeShapes Go.WideShapes Go.ChangeAt Go.RowKit
theorem Vp : ownKnob Tryz.prog.godebug = none := by kernel_rfl
theorem Od : laidOutB Tryz.prog = true := by kernel_rfl
theorem Hb {H : Type} {P : Program} {ts : List TypeId} {ds : List (DataW H)} (h : (DataW.weightsEach P ts ds).all (· ≤ reachBytes) = true) {j : Nat} {t : TypeId} {d : DataW H} (ht : ts[j]? = some t) (hd : ds[j]? = some d) : ∀ n ∈ d.weights P t, n ≤ reachBytes := by
 intro n hn
 have := List.all_eq_true.1 h n (DataW.weights_mem_each ht hd n hn)
 simpa using this
end
section
set_option maxRecDepth 100000
open Go.RowKit
theorem Cg : AggT Tryz.prog 54 2 := Cx (by kernel_rfl)
instance : AggI Tryz.prog 54 2 := ⟨Cg⟩
theorem ED : AggT Tryz.prog 59 4 := Cx (by kernel_rfl)
instance : AggI Tryz.prog 59 4 := ⟨ED⟩
theorem Mv : AggT Tryz.prog 80 2 := Cx (by kernel_rfl)
instance : AggI Tryz.prog 80 2 := ⟨Mv⟩
theorem bd_134 : Body Tryz.prog 134 := AF (by kernel_rfl)
theorem bd_135 : Body Tryz.prog 135 := AF (by kernel_rfl)
theorem bd_59 : Body Tryz.prog 59 := AF (by kernel_rfl)
theorem SM : Body Tryz.prog 60 := AF (by kernel_rfl)
theorem bd_120 : Body Tryz.prog 120 := AF (by kernel_rfl)
theorem bd_97 : Body Tryz.prog 97 := AF (by kernel_rfl)
theorem bd_98 : Body Tryz.prog 98 := AF (by kernel_rfl)
theorem bd_119 : Body Tryz.prog 119 := AF (by kernel_rfl)
theorem bd_58 : Body Tryz.prog 58 := AF (by kernel_rfl)
theorem bd_99 : Body Tryz.prog 99 := AF (by kernel_rfl)
theorem bd_103 : Body Tryz.prog 103 := AF (by kernel_rfl)
theorem EI : FieldT Tryz.prog 54 0 0 := Bd (by kernel_rfl)
instance : FieldI Tryz.prog 54 0 0 := ⟨EI⟩
theorem K8 : FieldT Tryz.prog 54 1 1 := Bd (by kernel_rfl)
instance : FieldI Tryz.prog 54 1 1 := ⟨K8⟩
theorem AA : OneT Tryz.prog 3 := BI (by kernel_rfl)
instance : OneI Tryz.prog 3 := ⟨AA⟩
theorem DU : OneT Tryz.prog 9 := BI (by kernel_rfl)
instance : OneI Tryz.prog 9 := ⟨DU⟩
theorem BO : SliceT Tryz.prog 27 80 2 := Co (by kernel_rfl)
instance : SliceI Tryz.prog 27 := ⟨_, _, BO⟩
theorem Bl : SliceT Tryz.prog 28 59 4 := Co (by kernel_rfl)
instance : SliceI Tryz.prog 28 := ⟨_, _, Bl⟩
theorem A7 : SliceT Tryz.prog 44 3 1 := Co (by kernel_rfl)
instance : SliceI Tryz.prog 44 := ⟨_, _, A7⟩
theorem CL : SliceT Tryz.prog 62 54 2 := Co (by kernel_rfl)
instance : SliceI Tryz.prog 62 := ⟨_, _, CL⟩
theorem EY : SliceT Tryz.prog 70 9 1 := Co (by kernel_rfl)
instance : SliceI Tryz.prog 70 := ⟨_, _, EY⟩
theorem Nf {F : Heap} (c : UInt8) : Ok Tryz.prog 97 [.int .u8 (c.toNat : Int)].toArray F fun r _ => r = .bool (letterB c) := by
 refine Ok.intro Tryz.func97 rfl Tryz.ntmps97 rfl fun w0 => ?_
 by_cases h1 : 97 ≤ (c.toNat : Int)
 ·refine AI (Ae 1) <| Aw (Ae 3) fun ds => Ap rfl rfl Aa (by first | rfl | exact dT (by omega)) <| Ao (Ae 1) <| Ap rfl rfl Aa (by first | rfl | exact dT (by omega)) <| Ao (Ae 1) <| Af rfl (Au Aa (by first | rfl | exact dT (by omega)) Aa) <| As (Ae 1) ?_
  by_cases h2 : (c.toNat : Int) ≤ 122
  ·refine At <| Aq rfl Bf ?_
   show _ = _; simp [outOf, letterB, h1, h2]
  refine At <| Aq rfl Bf ?_
  show _ = _; simp [outOf, letterB, h1, h2]
 refine AI (Ae 1) <| Aw (Ae 3) fun ds => Ar rfl rfl Aa (.inl (congrArg Value.bool (by first | rfl | exact dF (by omega)))) rfl <| Ar rfl rfl Aa (.inl (congrArg Value.bool (by first | rfl | exact dF (by omega)))) rfl <| Af rfl (A5 Aa (by first | rfl | exact dF (by omega)) Aa) <| As (Ae 1) <| At <| Aq rfl Bf ?_
 show _ = _; simp [outOf, letterB, h1]
theorem VP {F : Heap} (c : UInt8) : Ok Tryz.prog 98 [.int .u8 (c.toNat : Int)].toArray F fun r _ => r = .bool (digitB c) := by
 refine Ok.intro Tryz.func98 rfl Tryz.ntmps98 rfl fun w0 => ?_
 by_cases h1 : 48 ≤ (c.toNat : Int)
 ·refine AI (Ae 1) <| Aw (Ae 3) fun ds => Ap rfl rfl Aa (by first | rfl | exact dT (by omega)) <| Ao (Ae 1) <| Ap rfl rfl Aa (by first | rfl | exact dT (by omega)) <| Ao (Ae 1) <| Af rfl (Au Aa (by first | rfl | exact dT (by omega)) Aa) <| As (Ae 1) ?_
  by_cases h2 : (c.toNat : Int) ≤ 57
  ·refine At <| Aq rfl Bf ?_
   show _ = _; simp [outOf, digitB, h1, h2]
  refine At <| Aq rfl Bf ?_
  show _ = _; simp [outOf, digitB, h1, h2]
 refine AI (Ae 1) <| Aw (Ae 3) fun ds => Ar rfl rfl Aa (.inl (congrArg Value.bool (by first | rfl | exact dF (by omega)))) rfl <| Ar rfl rfl Aa (.inl (congrArg Value.bool (by first | rfl | exact dF (by omega)))) rfl <| Af rfl (A5 Aa (by first | rfl | exact dF (by omega)) Aa) <| As (Ae 1) <| At <| Aq rfl Bf ?_
 show _ = _; simp [outOf, digitB, h1]
theorem E6 {F : Heap} (z lo hi : Int) : Ok Tryz.prog 20 [.int .i64 z, .int .i64 lo, .int .i64 hi].toArray F fun r _ => r = .bool (inB lo hi z) := by
 refine Ok.intro Tryz.func20 rfl Tryz.ntmps20 rfl fun w0 => ?_
 by_cases h1 : lo ≤ z
 ·refine AI (Ae 1) <| Aw (Ae 4) fun ds => Ap rfl rfl Aa (by first | rfl | exact dT (by omega)) <| Ao (Ae 1) <| Ap rfl rfl Aa (by first | rfl | exact dT (by omega)) <| Ao (Ae 1) <| Ap rfl rfl Aa (by first | rfl | exact dT (by omega)) <| Ao (Ae 1) <| Af rfl (Au Aa (by first | rfl | exact dT (by omega)) Aa) <| As (Ae 1) ?_
  by_cases h2 : z ≤ hi
  ·refine At <| Aq rfl Bf ?_
   show _ = _; simp [outOf, inB, h1, h2]
  refine At <| Aq rfl Bf ?_
  show _ = _; simp [outOf, inB, h1, h2]
 refine AI (Ae 1) <| Aw (Ae 4) fun ds => Ar rfl rfl Aa (.inl (congrArg Value.bool (by first | rfl | exact dF (by omega)))) rfl <| Ar rfl rfl Aa (.inl (congrArg Value.bool (by first | rfl | exact dF (by omega)))) rfl <| Ar rfl rfl Aa (.inl (congrArg Value.bool (by first | rfl | exact dF (by omega)))) rfl <| Af rfl (A5 Aa (by first | rfl | exact dF (by omega)) Aa) <| As (Ae 1) <| At <| Aq rfl Bf ?_
 show _ = _; simp [outOf, inB, h1]
theorem in1_ok {F : Heap} (z lo hi : Int) : Ok Tryz.prog 58 [.int .i64 z, .int .i64 lo, .int .i64 hi].toArray F fun r _ => r = .bool (inB lo hi z) := by
 refine Ok.intro Tryz.func58 rfl Tryz.ntmps58 rfl fun w0 => ?_
 by_cases h1 : lo ≤ z
 ·refine AI (Ae 1) <| Aw (Ae 4) fun ds => Ap rfl rfl Aa (by first | rfl | exact dT (by omega)) <| Ao (Ae 1) <| Ap rfl rfl Aa (by first | rfl | exact dT (by omega)) <| Ao (Ae 1) <| Ap rfl rfl Aa (by first | rfl | exact dT (by omega)) <| Ao (Ae 1) <| Af rfl (Au Aa (by first | rfl | exact dT (by omega)) Aa) <| As (Ae 1) ?_
  by_cases h2 : z ≤ hi
  ·refine At <| Aq rfl Bf ?_
   show _ = _; simp [outOf, inB, h1, h2]
  refine At <| Aq rfl Bf ?_
  show _ = _; simp [outOf, inB, h1, h2]
 refine AI (Ae 1) <| Aw (Ae 4) fun ds => Ar rfl rfl Aa (.inl (congrArg Value.bool (by first | rfl | exact dF (by omega)))) rfl <| Ar rfl rfl Aa (.inl (congrArg Value.bool (by first | rfl | exact dF (by omega)))) rfl <| Ar rfl rfl Aa (.inl (congrArg Value.bool (by first | rfl | exact dF (by omega)))) rfl <| Af rfl (A5 Aa (by first | rfl | exact dF (by omega)) Aa) <| As (Ae 1) <| At <| Aq rfl Bf ?_
 show _ = _; simp [outOf, inB, h1]
theorem TX {F : Heap} (z lo hi : Int) : Ok Tryz.prog 16 [.int .i64 z, .agg #[.int .i64 lo, .int .i64 hi]].toArray F fun r _ => r = .bool (inB lo hi z) := by
 refine Ok.intro Tryz.func16 rfl Tryz.ntmps16 rfl fun w0 => Ac <| Al fun ds => A3 rfl <| Bc Aa rfl fun b1 hb1 nb1 => As (Ae 1) <| Aw (Ae 5) fun ds => AS rfl (Ay bd_58 Aa AY (in1_ok _ _ _) (fun _ _ h => h)) <| As (Ae 1) <| At <| Aq rfl Bf ?_
 rfl
theorem Fw {F : Heap} (s : ByteArray) : Ok Tryz.prog 60 [.string s].toArray F fun r _ => r = .bool (nameOk s) := by
 refine Ok.intro Tryz.func60 rfl Tryz.ntmps60 rfl fun w0 => ?_
 by_cases h0 : (s.size : Int) = 0
 ·refine AI (Ae 1) <| Ac <| Aw (Ae 1) fun ds => Af rfl (J8 Tryz.underlying9 Aa) <| Ao (Ae 2) <| Ar rfl rfl Aa (.inl (congrArg Value.bool (by first | rfl | exact dT (by omega)))) rfl <| Ar rfl rfl Aa (.inl (congrArg Value.bool (by first | rfl | exact dT (by omega)))) rfl <| Ar rfl rfl Aa (.inl (congrArg Value.bool (by first | rfl | exact dT (by omega)))) rfl <| Af rfl (Au Aa (by first | rfl | exact dT (by omega)) Aa) <| Am <| Ab <| Ag Aa (by first | rfl | exact dT (by omega)) <| AI (Ae 1) <| At <| A1 <| Aq rfl Bf ?_
  show _ = _
  rw [FE (by omega)]; rfl
 refine AI (Ae 1) <| Ac <| Aw (Ae 1) fun ds => Af rfl (J8 Tryz.underlying9 Aa) <| Ao (Ae 2) <| Ap rfl rfl Aa (by first | rfl | exact dF (by omega)) <| Ao (Ae 1) <| Ap rfl rfl Aa (by first | rfl | exact dF (by omega)) <| Af rfl (J8 Tryz.underlying9 Aa) <| Ap rfl rfl Aa (by first | rfl | exact dF (by omega)) <| Ao (Ae 1) <| Af rfl (A5 Aa (by first | rfl | exact dF (by omega)) Aa) <| Am <| Ab ?_
 by_cases h16 : (16 : Int) < s.size
 ·refine Ag Aa (by first | rfl | exact dT (by omega)) <| AI (Ae 1) <| At <| A1 <| Aq rfl Bf ?_
  show _ = _
  rw [FE (by omega)]; rfl
 refine Ad Aa (by first | rfl | exact dF (by omega)) <| Aj <| Ab <| Ac <| AI (Ae 1) <| Ak ?_
 refine AJ [2, 3, 12, 13, 14, 15, 16, 17, 18, 19, 20, 21, 22, 23, 24, 25, 26, 27, 28, 29, 30, 31, 32, 33, 34, 35, 36, 37, 38, 39] (fun m e σ => ∃ k : Nat, m + k = s.size ∧ Fct e 3 (.int .i64 k) ∧ σ = ⟨F, []⟩ ∧ ∀ j (hj : j < s.size), j < k → chOk j s[j] = true) (s.size) ?_ ?_
 · exact ⟨0, by omega, Bb, rfl, fun j hj h => absurd h (by omega)⟩
 rintro m e _ ⟨k, hm, hs3, rfl, hno⟩
 by_cases hlt : k < s.size
 ·refine Ac <| Aw (Ae 2) fun ds => Af rfl (J8 Tryz.underlying9 Aa) <| As (Ae 1) <| Ag Aa (by first | rfl | exact dT (by omega)) ?_
  by_cases hl : letterB s[k] = true
  ·have hch : chOk k s[k] = true := by unfold chOk; rw [hl]; rfl
   refine Aj <| Ab <| Ac <| Ak <| Aw (Ae 2) fun ds => Af rfl (Ga Tryz.underlying9 Aa Aa rfl hlt) <| AS rfl (Ay bd_97 Aa AY (Nf _) (fun _ _ h => h)) <| Ao (Ae 2) <| Ar rfl rfl Aa (.inl (congrArg Value.bool (by first | rfl | (simp [hl]; done)))) rfl <| Ar rfl rfl Aa (.inl (congrArg Value.bool (by first | rfl | (simp [hl]; done)))) rfl <| Ar rfl rfl Aa (.inl (congrArg Value.bool (by first | rfl | (simp [hl]; done)))) rfl <| Ar rfl rfl Aa (.inr rfl) rfl <| Ar rfl rfl Aa (.inr rfl) rfl <| Ar rfl rfl Aa (.inr rfl) rfl <| Ar rfl rfl Aa (.inr rfl) rfl <| Ar rfl rfl Aa (.inr rfl) rfl <| Ar rfl rfl Aa (.inr rfl) rfl <| Ar rfl rfl Aa (.inr rfl) rfl <| Ar rfl rfl Aa (.inr rfl) rfl <| Ar rfl rfl Aa (.inr rfl) rfl <| Ar rfl rfl Aa (.inr rfl) rfl <| Ar rfl rfl Aa (.inr rfl) rfl <| Ar rfl rfl Aa (.inl (congrArg Value.bool (by first | rfl | (simp [hl]; done)))) rfl <| Af rfl (A5 Aa (by first | rfl | (simp [hl]; done)) Aa) <| Am <| Ab <| Ad Aa (by first | rfl | (simp [hl]; done)) <| Aj <| Az <| Ab <| Al fun ds => Ao (Ae 1) <| Af rfl (AE Aa Aa rfl (by omega) (by omega)) <| Ao (Ae 1) <| Am ?_
   refine Ab ⟨_, m - 1, Off.eq (B3 rfl <| BT rfl <| Ci rfl <| BY rfl <| A2), by omega, ?_⟩
   refine ⟨k + 1, by omega, Bb, rfl, fun j hj hjk => ?_⟩
   rcases Nat.lt_succ_iff_lt_or_eq.1 hjk with hjk | rfl
   · exact hno j hj hjk
   exact hch
  replace hl : letterB s[k] = false := by simpa using hl
  refine Aj <| Ab <| Ac <| Ak <| Aw (Ae 2) fun ds => Af rfl (Ga Tryz.underlying9 Aa Aa rfl hlt) <| AS rfl (Ay bd_97 Aa AY (Nf _) (fun _ _ h => h)) <| Ao (Ae 2) <| Ap rfl rfl Aa (by first | rfl | (simp [hl]; done)) <| Ao (Ae 1) <| Ap rfl rfl Aa (by first | rfl | (simp [hl]; done)) <| Ao (Ae 1) <| Ap rfl rfl Aa (by first | rfl | (simp [hl]; done)) <| Ao (Ae 1) ?_
  by_cases hz : k = 0
  ·have hch : chOk k s[k] = false := by unfold chOk; rw [hl]; simp [hz]
   refine Ar rfl rfl Aa (.inl (congrArg Value.bool (by first | rfl | exact dT (by omega)))) rfl <| Ar rfl rfl Aa (.inl (congrArg Value.bool (by first | rfl | exact dT (by omega)))) rfl <| Ar rfl rfl Aa (.inl (congrArg Value.bool (by first | rfl | exact dT (by omega)))) rfl <| Ar rfl rfl Aa (.inl (congrArg Value.bool (by first | rfl | exact dT (by omega)))) rfl <| Ar rfl rfl Aa (.inl (congrArg Value.bool (by first | rfl | exact dT (by omega)))) rfl <| Ar rfl rfl Aa (.inl (congrArg Value.bool (by first | rfl | exact dT (by omega)))) rfl <| Ar rfl rfl Aa (.inr rfl) rfl <| Ar rfl rfl Aa (.inr rfl) rfl <| Ar rfl rfl Aa (.inr rfl) rfl <| Ar rfl rfl Aa (.inr rfl) rfl <| Ar rfl rfl Aa (.inl (congrArg Value.bool (by first | rfl | exact dT (by omega)))) rfl <| Ap rfl rfl Aa (by first | rfl | (simp [hl]; done)) <| Af rfl (Au Aa (by first | rfl | exact dT (by omega)) Aa) <| Af rfl (Au Aa (by first | rfl | (simp [hl]; done)) Aa) <| Am <| Ab <| Ag Aa (by first | rfl | exact dT (by omega)) <| AI (Ae 1) <| At ?_
   refine A8 (A1 (A1 (A8 (A1 ?_))))
   refine Aq rfl Bf ?_
   show _ = _
   rw [Cy (i := k) hlt hch]; rfl
  refine Ap rfl rfl Aa (by first | rfl | exact dF (by omega)) <| Ao (Ae 1) <| Ap rfl rfl Aa (by first | rfl | exact dF (by omega)) <| Ao (Ae 1) <| Ap rfl rfl Aa (by first | rfl | exact dF (by omega)) <| Af rfl (Ga Tryz.underlying9 Aa Aa rfl hlt) <| Ap rfl rfl Aa (by first | rfl | exact dF (by omega)) <| AS rfl (Ay bd_98 Aa AY (VP _) (fun _ _ h => h)) <| Ap rfl rfl Aa (by first | rfl | exact dF (by omega)) <| Ao (Ae 1) <| Ap rfl rfl Aa (by first | rfl | exact dF (by omega)) <| Ao (Ae 1) ?_
  by_cases hd : digitB s[k] = true
  ·have hch : chOk k s[k] = true := by unfold chOk; rw [hd]; simp [hz]
   refine Ar rfl rfl Aa (.inl (congrArg Value.bool (by first | rfl | (simp [hd]; done)))) rfl <| Ar rfl rfl Aa (.inl (congrArg Value.bool (by first | rfl | (simp [hd]; done)))) rfl <| Ar rfl rfl Aa (.inl (congrArg Value.bool (by first | rfl | (simp [hd]; done)))) rfl <| Ar rfl rfl Aa (.inl (congrArg Value.bool (by first | rfl | (simp [hd]; done)))) rfl <| Ap rfl rfl Aa (by first | rfl | exact dF (by omega)) <| Af rfl (A5 Aa (by first | rfl | (simp [hd]; done)) Aa) <| Ap rfl rfl Aa (by first | rfl | (simp [hl]; done)) <| Af rfl (A5 Aa (by first | rfl | exact dF (by omega)) Aa) <| Af rfl (Au Aa (by first | rfl | (simp [hl]; done)) Aa) <| Am <| Ab <| Ad Aa (by first | rfl | (simp [hd]; done)) <| Aj <| Az <| Ab <| Al fun ds => Ao (Ae 1) <| Af rfl (AE Aa Aa rfl (by omega) (by omega)) <| Ao (Ae 1) <| Am ?_
   refine Ab ⟨_, m - 1, Off.eq (B3 rfl <| BT rfl <| Ci rfl <| BY rfl <| A2), by omega, ?_⟩
   refine ⟨k + 1, by omega, Bb, rfl, fun j hj hjk => ?_⟩
   rcases Nat.lt_succ_iff_lt_or_eq.1 hjk with hjk | rfl
   · exact hno j hj hjk
   exact hch
  replace hd : digitB s[k] = false := by simpa using hd
  refine Ap rfl rfl Aa (by first | rfl | (simp [hd]; done)) <| Ao (Ae 1) <| Ap rfl rfl Aa (by first | rfl | (simp [hd]; done)) <| Ao (Ae 1) <| Ap rfl rfl Aa (by first | rfl | (simp [hd]; done)) <| Af rfl (Ga Tryz.underlying9 Aa Aa rfl hlt) <| Ap rfl rfl Aa (by first | rfl | (simp [hd]; done)) <| Ao (Ae 1) <| Ap rfl rfl Aa (by first | rfl | exact dF (by omega)) <| Af rfl (Au Aa (by first | rfl | (simp [hd]; done)) Aa) <| Ap rfl rfl Aa (by first | rfl | (simp [hl]; done)) <| Af rfl (A5 Aa (by first | rfl | exact dF (by omega)) Aa) <| Af rfl (Au Aa (by first | rfl | (simp [hl]; done)) Aa) <| Am <| Ab ?_
  by_cases hp : (s[k].toNat : Int) = 46
  ·have hch : chOk k s[k] = true := by unfold chOk; simp [hz, hp]
   refine Ad Aa (by first | rfl | exact dF (by omega)) <| Aj <| Az <| Ab <| Al fun ds => Ao (Ae 1) <| Af rfl (AE Aa Aa rfl (by omega) (by omega)) <| Ao (Ae 1) <| Am ?_
   refine Ab ⟨_, m - 1, Off.eq (B3 rfl <| BT rfl <| Ci rfl <| BY rfl <| A2), by omega, ?_⟩
   refine ⟨k + 1, by omega, Bb, rfl, fun j hj hjk => ?_⟩
   rcases Nat.lt_succ_iff_lt_or_eq.1 hjk with hjk | rfl
   · exact hno j hj hjk
   exact hch
  have hch : chOk k s[k] = false := by unfold chOk; simp [hl, hd, hp]
  refine Ag Aa (by first | rfl | exact dT (by omega)) <| AI (Ae 1) <| At ?_
  refine A8 (A1 (A1 (A8 (A1 ?_))))
  refine Aq rfl Bf ?_
  show _ = _
  rw [Cy (i := k) hlt hch]; rfl
 refine Ac <| Aw (Ae 2) fun ds => Af rfl (J8 Tryz.underlying9 Aa) <| As (Ae 1) <| Ad Aa (by first | rfl | exact dF (by omega)) <| AC ?_
 refine A0 <| A0 <| A4 <| Ab <| AI (Ae 1) <| At <| Aq rfl Bf ?_
 show _ = _
 rw [Kg (by omega) (by omega) fun j hj => hno j hj (by omega)]; rfl
theorem CX {F : Heap} (s : ByteArray) : Ok Tryz.prog 111 [.string s].toArray F fun r _ => r = .bool (nameOk s) := by
 refine Ok.intro Tryz.func111 rfl Tryz.ntmps111 rfl fun w0 => AI (Ae 1) <| Ac <| Aw (Ae 1) fun ds => A3 rfl <| U1 Tryz.underlying9 Aa fun b1 hb1 nb1 => Am <| Ab <| Ak ?_
 refine AJ [2, 3, 4, 7, 8, 9, 10, 11, 12, 13, 14, 15, 16, 17, 18, 19, 20, 21, 22, 23, 24, 25, 26, 27, 28, 29, 30, 31, 32] (fun m e σ => ∃ k : Nat, m + k = s.size ∧ σ = ⟨F, [(b1, .stringIter s k)]⟩ ∧ ∀ j (hj : j < s.size), j < k → chOk j s[j] = true) (s.size) ?_ ?_
 · exact ⟨0, by omega, rfl, fun j hj h => absurd h (by omega)⟩
 rintro m e _ ⟨k, hm, rfl, hno⟩
 by_cases hlt : k < s.size
 ·by_cases ha : s[k].toNat < 128
  ·have hdec := decode_ascii s k hlt ha
   refine Ac <| Al fun ds => A3 rfl <| RR Aa (i := 0) rfl hlt hdec (.here) <| As (Ae 1) <| Ac <| Ag Aa rfl ?_
   by_cases hl1 : 97 ≤ (s[k].toNat : Int)
   ·refine Aj <| Ab <| Ak <| AI (Ae 4) <| Ak <| Aw (Ae 3) fun ds => Ap rfl rfl Aa (by first | rfl | exact dT (by omega)) <| Ao (Ae 1) <| Ap rfl rfl Aa (by first | rfl | exact dT (by omega)) <| Ao (Ae 1) <| Af rfl (Au Aa (by first | rfl | exact dT (by omega)) Aa) <| As (Ae 1) ?_
    by_cases hl2 : (s[k].toNat : Int) ≤ 122
    ·have hch : chOk k s[k] = true := by unfold chOk letterB digitB; simp; omega
     refine Ag Aa (by first | rfl | exact dT (by omega)) <| Aj <| Az <| Az ?_
     refine Ab ⟨_, m - 1, Off.eq (BT rfl <| Ci rfl <| BY rfl <| A2), by omega, ?_⟩
     refine ⟨k + 1, by omega, rfl, fun j hj hjk => ?_⟩
     rcases Nat.lt_succ_iff_lt_or_eq.1 hjk with hjk | rfl
     · exact hno j hj hjk
     exact hch
    refine Ad Aa (by first | rfl | exact dF (by omega)) ?_
    by_cases hz : k = 0
    ·refine Aw (Ae 3) fun ds => Ar rfl rfl Aa (.inl (congrArg Value.bool (by first | rfl | exact dF (by omega)))) rfl <| Ar rfl rfl Aa (.inl (congrArg Value.bool (by first | rfl | exact dF (by omega)))) rfl <| Ar rfl rfl Aa (.inl (congrArg Value.bool (by first | rfl | exact dF (by omega)))) rfl <| Ar rfl rfl Aa (.inr rfl) rfl <| Ar rfl rfl Aa (.inr rfl) rfl <| Ar rfl rfl Aa (.inl (congrArg Value.bool (by first | rfl | exact dF (by omega)))) rfl <| Ar rfl rfl Aa (.inl (congrArg Value.bool (by first | rfl | exact dF (by omega)))) rfl <| Ar rfl rfl Aa (.inr rfl) rfl <| Ar rfl rfl Aa (.inr rfl) rfl <| Ar rfl rfl Aa (.inl (congrArg Value.bool (by first | rfl | exact dF (by omega)))) rfl <| Af rfl (A5 Aa (by first | rfl | exact dF (by omega)) Aa) <| As (Ae 1) ?_
     have hch : chOk k s[k] = false := by unfold chOk letterB digitB; simp; omega
     refine Ad Aa (by first | rfl | exact dF (by omega)) <| AI (Ae 1) <| At ?_
     refine A8 (A8 (A1 (A8 (A1 ?_))))
     refine Aq rfl Bf ?_
     show _ = _
     rw [Cy (i := k) hlt hch]; rfl
    refine Aw (Ae 3) fun ds => Ap rfl rfl Aa (by first | rfl | exact dT (by omega)) <| Ao (Ae 1) <| Ap rfl rfl Aa (by first | rfl | exact dT (by omega)) <| Ao (Ae 1) <| Ap rfl rfl Aa (by first | rfl | exact dT (by omega)) <| Ao (Ae 1) ?_
    by_cases hd1 : 48 ≤ (s[k].toNat : Int)
    ·refine Ap rfl rfl Aa (by first | rfl | exact dT (by omega)) <| Ao (Ae 1) <| Ap rfl rfl Aa (by first | rfl | exact dT (by omega)) <| Ao (Ae 1) <| Ap rfl rfl Aa (by first | rfl | exact dT (by omega)) <| Af rfl (Au Aa (by first | rfl | exact dT (by omega)) Aa) <| Ap rfl rfl Aa (by first | rfl | exact dT (by omega)) <| Ao (Ae 1) ?_
     by_cases hd2 : (s[k].toNat : Int) ≤ 57
     ·refine Ar rfl rfl Aa (.inl (congrArg Value.bool (by first | rfl | exact dT (by omega)))) rfl <| Ar rfl rfl Aa (.inl (congrArg Value.bool (by first | rfl | exact dT (by omega)))) rfl <| Ap rfl rfl Aa (by first | rfl | exact dT (by omega)) <| Af rfl (Au Aa (by first | rfl | exact dT (by omega)) Aa) <| Af rfl (Au Aa (by first | rfl | exact dT (by omega)) Aa) <| As (Ae 1) ?_
      have hch : chOk k s[k] = true := by unfold chOk letterB digitB; simp; omega
      refine Ag Aa (by first | rfl | exact dT (by omega)) <| Aj <| Az <| Az ?_
      refine Ab ⟨_, m - 1, Off.eq (B3 rfl <| BT rfl <| Ci rfl <| A2), by omega, ?_⟩
      refine ⟨k + 1, by omega, rfl, fun j hj hjk => ?_⟩
      rcases Nat.lt_succ_iff_lt_or_eq.1 hjk with hjk | rfl
      · exact hno j hj hjk
      exact hch
     refine Ap rfl rfl Aa (by first | rfl | exact dF (by omega)) <| Ao (Ae 1) <| Ap rfl rfl Aa (by first | rfl | exact dF (by omega)) <| Ao (Ae 1) <| Ap rfl rfl Aa (by first | rfl | exact dT (by omega)) <| Af rfl (A5 Aa (by first | rfl | exact dF (by omega)) Aa) <| Af rfl (Au Aa (by first | rfl | exact dT (by omega)) Aa) <| As (Ae 1) ?_
     by_cases hp : (s[k].toNat : Int) = 46
     ·have hch : chOk k s[k] = true := by unfold chOk letterB digitB; simp; omega
      refine Ag Aa (by first | rfl | exact dT (by omega)) <| Aj <| Az <| Az ?_
      refine Ab ⟨_, m - 1, Off.eq (B3 rfl <| BT rfl <| Ci rfl <| A2), by omega, ?_⟩
      refine ⟨k + 1, by omega, rfl, fun j hj hjk => ?_⟩
      rcases Nat.lt_succ_iff_lt_or_eq.1 hjk with hjk | rfl
      · exact hno j hj hjk
      exact hch
     have hch : chOk k s[k] = false := by unfold chOk letterB digitB; simp; omega
     refine Ad Aa (by first | rfl | exact dF (by omega)) <| AI (Ae 1) <| At ?_
     refine A8 (A8 (A1 (A8 (A1 ?_))))
     refine Aq rfl Bf ?_
     show _ = _
     rw [Cy (i := k) hlt hch]; rfl
    refine Ar rfl rfl Aa (.inl (congrArg Value.bool (by first | rfl | exact dF (by omega)))) rfl <| Ar rfl rfl Aa (.inl (congrArg Value.bool (by first | rfl | exact dF (by omega)))) rfl <| Ap rfl rfl Aa (by first | rfl | exact dT (by omega)) <| Af rfl (A5 Aa (by first | rfl | exact dF (by omega)) Aa) <| Ap rfl rfl Aa (by first | rfl | exact dT (by omega)) <| Ao (Ae 1) <| Ap rfl rfl Aa (by first | rfl | exact dF (by omega)) <| Ao (Ae 1) <| Ap rfl rfl Aa (by first | rfl | exact dF (by omega)) <| Ao (Ae 1) <| Ap rfl rfl Aa (by first | rfl | exact dT (by omega)) <| Af rfl (A5 Aa (by first | rfl | exact dF (by omega)) Aa) <| Af rfl (Au Aa (by first | rfl | exact dT (by omega)) Aa) <| As (Ae 1) ?_
    by_cases hp : (s[k].toNat : Int) = 46
    ·have hch : chOk k s[k] = true := by unfold chOk letterB digitB; simp; omega
     refine Ag Aa (by first | rfl | exact dT (by omega)) <| Aj <| Az <| Az ?_
     refine Ab ⟨_, m - 1, Off.eq (B3 rfl <| BT rfl <| Ci rfl <| A2), by omega, ?_⟩
     refine ⟨k + 1, by omega, rfl, fun j hj hjk => ?_⟩
     rcases Nat.lt_succ_iff_lt_or_eq.1 hjk with hjk | rfl
     · exact hno j hj hjk
     exact hch
    have hch : chOk k s[k] = false := by unfold chOk letterB digitB; simp; omega
    refine Ad Aa (by first | rfl | exact dF (by omega)) <| AI (Ae 1) <| At ?_
    refine A8 (A8 (A1 (A8 (A1 ?_))))
    refine Aq rfl Bf ?_
    show _ = _
    rw [Cy (i := k) hlt hch]; rfl
   refine Aj <| Ab <| Ak <| AI (Ae 4) <| Ak <| Aw (Ae 3) fun ds => Ar rfl rfl Aa (.inl (congrArg Value.bool (by first | rfl | exact dF (by omega)))) rfl <| Ar rfl rfl Aa (.inl (congrArg Value.bool (by first | rfl | exact dF (by omega)))) rfl <| Af rfl (A5 Aa (by first | rfl | exact dF (by omega)) Aa) <| As (Ae 1) <| Ad Aa (by first | rfl | exact dF (by omega)) ?_
   by_cases hz : k = 0
   ·refine Aw (Ae 3) fun ds => Ar rfl rfl Aa (.inl (congrArg Value.bool (by first | rfl | exact dF (by omega)))) rfl <| Ar rfl rfl Aa (.inl (congrArg Value.bool (by first | rfl | exact dF (by omega)))) rfl <| Ar rfl rfl Aa (.inl (congrArg Value.bool (by first | rfl | exact dF (by omega)))) rfl <| Ar rfl rfl Aa (.inr rfl) rfl <| Ar rfl rfl Aa (.inr rfl) rfl <| Ar rfl rfl Aa (.inl (congrArg Value.bool (by first | rfl | exact dF (by omega)))) rfl <| Ar rfl rfl Aa (.inl (congrArg Value.bool (by first | rfl | exact dF (by omega)))) rfl <| Ar rfl rfl Aa (.inr rfl) rfl <| Ar rfl rfl Aa (.inr rfl) rfl <| Ar rfl rfl Aa (.inl (congrArg Value.bool (by first | rfl | exact dF (by omega)))) rfl <| Af rfl (A5 Aa (by first | rfl | exact dF (by omega)) Aa) <| As (Ae 1) ?_
    have hch : chOk k s[k] = false := by unfold chOk letterB digitB; simp; omega
    refine Ad Aa (by first | rfl | exact dF (by omega)) <| AI (Ae 1) <| At ?_
    refine A8 (A8 (A1 (A8 (A1 ?_))))
    refine Aq rfl Bf ?_
    show _ = _
    rw [Cy (i := k) hlt hch]; rfl
   refine Aw (Ae 3) fun ds => Ap rfl rfl Aa (by first | rfl | exact dT (by omega)) <| Ao (Ae 1) <| Ap rfl rfl Aa (by first | rfl | exact dT (by omega)) <| Ao (Ae 1) <| Ap rfl rfl Aa (by first | rfl | exact dT (by omega)) <| Ao (Ae 1) ?_
   by_cases hd1 : 48 ≤ (s[k].toNat : Int)
   ·refine Ap rfl rfl Aa (by first | rfl | exact dT (by omega)) <| Ao (Ae 1) <| Ap rfl rfl Aa (by first | rfl | exact dT (by omega)) <| Ao (Ae 1) <| Ap rfl rfl Aa (by first | rfl | exact dT (by omega)) <| Af rfl (Au Aa (by first | rfl | exact dT (by omega)) Aa) <| Ap rfl rfl Aa (by first | rfl | exact dT (by omega)) <| Ao (Ae 1) ?_
    by_cases hd2 : (s[k].toNat : Int) ≤ 57
    ·refine Ar rfl rfl Aa (.inl (congrArg Value.bool (by first | rfl | exact dT (by omega)))) rfl <| Ar rfl rfl Aa (.inl (congrArg Value.bool (by first | rfl | exact dT (by omega)))) rfl <| Ap rfl rfl Aa (by first | rfl | exact dT (by omega)) <| Af rfl (Au Aa (by first | rfl | exact dT (by omega)) Aa) <| Af rfl (Au Aa (by first | rfl | exact dT (by omega)) Aa) <| As (Ae 1) ?_
     have hch : chOk k s[k] = true := by unfold chOk letterB digitB; simp; omega
     refine Ag Aa (by first | rfl | exact dT (by omega)) <| Aj <| Az <| Az ?_
     refine Ab ⟨_, m - 1, Off.eq (B3 rfl <| BT rfl <| Ci rfl <| A2), by omega, ?_⟩
     refine ⟨k + 1, by omega, rfl, fun j hj hjk => ?_⟩
     rcases Nat.lt_succ_iff_lt_or_eq.1 hjk with hjk | rfl
     · exact hno j hj hjk
     exact hch
    refine Ap rfl rfl Aa (by first | rfl | exact dF (by omega)) <| Ao (Ae 1) <| Ap rfl rfl Aa (by first | rfl | exact dF (by omega)) <| Ao (Ae 1) <| Ap rfl rfl Aa (by first | rfl | exact dT (by omega)) <| Af rfl (A5 Aa (by first | rfl | exact dF (by omega)) Aa) <| Af rfl (Au Aa (by first | rfl | exact dT (by omega)) Aa) <| As (Ae 1) ?_
    by_cases hp : (s[k].toNat : Int) = 46
    ·have hch : chOk k s[k] = true := by unfold chOk letterB digitB; simp; omega
     refine Ag Aa (by first | rfl | exact dT (by omega)) <| Aj <| Az <| Az ?_
     refine Ab ⟨_, m - 1, Off.eq (B3 rfl <| BT rfl <| Ci rfl <| A2), by omega, ?_⟩
     refine ⟨k + 1, by omega, rfl, fun j hj hjk => ?_⟩
     rcases Nat.lt_succ_iff_lt_or_eq.1 hjk with hjk | rfl
     · exact hno j hj hjk
     exact hch
    have hch : chOk k s[k] = false := by unfold chOk letterB digitB; simp; omega
    refine Ad Aa (by first | rfl | exact dF (by omega)) <| AI (Ae 1) <| At ?_
    refine A8 (A8 (A1 (A8 (A1 ?_))))
    refine Aq rfl Bf ?_
    show _ = _
    rw [Cy (i := k) hlt hch]; rfl
   refine Ar rfl rfl Aa (.inl (congrArg Value.bool (by first | rfl | exact dF (by omega)))) rfl <| Ar rfl rfl Aa (.inl (congrArg Value.bool (by first | rfl | exact dF (by omega)))) rfl <| Ap rfl rfl Aa (by first | rfl | exact dT (by omega)) <| Af rfl (A5 Aa (by first | rfl | exact dF (by omega)) Aa) <| Ap rfl rfl Aa (by first | rfl | exact dT (by omega)) <| Ao (Ae 1) <| Ap rfl rfl Aa (by first | rfl | exact dF (by omega)) <| Ao (Ae 1) <| Ap rfl rfl Aa (by first | rfl | exact dF (by omega)) <| Ao (Ae 1) <| Ap rfl rfl Aa (by first | rfl | exact dT (by omega)) <| Af rfl (A5 Aa (by first | rfl | exact dF (by omega)) Aa) <| Af rfl (Au Aa (by first | rfl | exact dT (by omega)) Aa) <| As (Ae 1) ?_
   by_cases hp : (s[k].toNat : Int) = 46
   ·have hch : chOk k s[k] = true := by unfold chOk letterB digitB; simp; omega
    refine Ag Aa (by first | rfl | exact dT (by omega)) <| Aj <| Az <| Az ?_
    refine Ab ⟨_, m - 1, Off.eq (B3 rfl <| BT rfl <| Ci rfl <| A2), by omega, ?_⟩
    refine ⟨k + 1, by omega, rfl, fun j hj hjk => ?_⟩
    rcases Nat.lt_succ_iff_lt_or_eq.1 hjk with hjk | rfl
    · exact hno j hj hjk
    exact hch
   have hch : chOk k s[k] = false := by unfold chOk letterB digitB; simp; omega
   refine Ad Aa (by first | rfl | exact dF (by omega)) <| AI (Ae 1) <| At ?_
   refine A8 (A8 (A1 (A8 (A1 ?_))))
   refine Aq rfl Bf ?_
   show _ = _
   rw [Cy (i := k) hlt hch]; rfl
  obtain ⟨rc, wd, hdec⟩ : ∃ rc wd, Utf8.decode s k = (rc, wd) := ⟨_, _, rfl⟩
  have hrc : 128 ≤ rc := by have := PR s k hlt (by omega); rw [hdec] at this; exact this
  refine Ac <| Al fun ds => A3 rfl <| RR Aa (i := 0) rfl hlt hdec (.here) <| As (Ae 1) <| Ac <| Ag Aa rfl <| Aj <| Ab <| Ak <| AI (Ae 4) <| Ak <| Aw (Ae 3) fun ds => Ap rfl rfl Aa (by first | rfl | exact dT (by omega)) <| Ao (Ae 1) <| Ap rfl rfl Aa (by first | rfl | exact dT (by omega)) <| Ao (Ae 1) <| Af rfl (Au Aa (by first | rfl | exact dT (by omega)) Aa) <| As (Ae 1) <| Ad Aa (by first | rfl | exact dF (by omega)) ?_
  have hch : chOk k s[k] = false := by unfold chOk letterB digitB; simp; omega
  by_cases hz : k = 0
  ·refine Aw (Ae 3) fun ds => Ar rfl rfl Aa (.inl (congrArg Value.bool (by first | rfl | exact dF (by omega)))) rfl <| Ar rfl rfl Aa (.inl (congrArg Value.bool (by first | rfl | exact dF (by omega)))) rfl <| Ar rfl rfl Aa (.inl (congrArg Value.bool (by first | rfl | exact dF (by omega)))) rfl <| Ar rfl rfl Aa (.inr rfl) rfl <| Ar rfl rfl Aa (.inr rfl) rfl <| Ar rfl rfl Aa (.inl (congrArg Value.bool (by first | rfl | exact dF (by omega)))) rfl <| Ar rfl rfl Aa (.inl (congrArg Value.bool (by first | rfl | exact dF (by omega)))) rfl <| Ar rfl rfl Aa (.inr rfl) rfl <| Ar rfl rfl Aa (.inr rfl) rfl <| Ar rfl rfl Aa (.inl (congrArg Value.bool (by first | rfl | exact dF (by omega)))) rfl <| Af rfl (A5 Aa (by first | rfl | exact dF (by omega)) Aa) <| As (Ae 1) <| Ad Aa (by first | rfl | exact dF (by omega)) <| AI (Ae 1) <| At ?_
   refine A8 (A8 (A1 (A8 (A1 ?_))))
   refine Aq rfl Bf ?_
   show _ = _
   rw [Cy (i := k) hlt hch]; rfl
  refine Aw (Ae 3) fun ds => Ap rfl rfl Aa (by first | rfl | exact dT (by omega)) <| Ao (Ae 1) <| Ap rfl rfl Aa (by first | rfl | exact dT (by omega)) <| Ao (Ae 1) <| Ap rfl rfl Aa (by first | rfl | exact dT (by omega)) <| Ao (Ae 1) <| Ap rfl rfl Aa (by first | rfl | exact dT (by omega)) <| Ao (Ae 1) <| Ap rfl rfl Aa (by first | rfl | exact dT (by omega)) <| Ao (Ae 1) <| Ap rfl rfl Aa (by first | rfl | exact dT (by omega)) <| Af rfl (Au Aa (by first | rfl | exact dT (by omega)) Aa) <| Ap rfl rfl Aa (by first | rfl | exact dT (by omega)) <| Ao (Ae 1) <| Ap rfl rfl Aa (by first | rfl | exact dF (by omega)) <| Ao (Ae 1) <| Ap rfl rfl Aa (by first | rfl | exact dF (by omega)) <| Ao (Ae 1) <| Ap rfl rfl Aa (by first | rfl | exact dT (by omega)) <| Af rfl (A5 Aa (by first | rfl | exact dF (by omega)) Aa) <| Af rfl (Au Aa (by first | rfl | exact dT (by omega)) Aa) <| As (Ae 1) <| Ad Aa (by first | rfl | exact dF (by omega)) <| AI (Ae 1) <| At ?_
  refine A8 (A8 (A1 (A8 (A1 ?_))))
  refine Aq rfl Bf ?_
  show _ = _
  rw [Cy (i := k) hlt hch]; rfl
 refine Ac <| Al fun ds => A3 rfl <| x_nextE Aa (i := 0) rfl hlt <| As (Ae 1) <| Ac <| Ad Aa rfl ?_
 by_cases h0 : s.size = 0
 ·refine AC ?_
  refine A0 <| A0 <| A4 <| Ab <| Aw (Ae 3) fun ds => Ar rfl rfl Aa (.inl (congrArg Value.bool (by rw [Gm]; simp [h0]))) rfl <| Ar rfl rfl Aa (.inl (congrArg Value.bool (by rw [Gm]; simp [h0]))) rfl <| Ar rfl rfl Aa (.inl (congrArg Value.bool (by rw [Gm]; simp [h0]))) rfl <| Af rfl (A5 Aa (by rw [Gm]; simp [h0]) Aa) <| As (Ae 1) <| At <| Aq rfl Bf ?_
  show _ = _
  rw [FE (by omega)]; rfl
 refine AC ?_
 refine A0 <| A0 <| A4 <| Ab <| Aw (Ae 3) fun ds => Ap rfl rfl Aa (by rw [Gm]; simp [h0]) <| Ao (Ae 1) <| Ap rfl rfl Aa (by rw [Gm]; simp [h0]) <| Af rfl (J8 Tryz.underlying9 Aa) <| Ap rfl rfl Aa (by rw [Gm]; simp [h0]) <| Ao (Ae 1) <| Af rfl (Au Aa (by rw [Gm]; simp [h0]) Aa) <| As (Ae 1) ?_
 by_cases h16 : (s.size : Int) ≤ 16
 ·refine At <| Aq rfl Bf ?_
  show _ = _
  rw [Kg (by omega) (by omega) fun j hj => hno j hj (by omega)]; simp [outOf, h16]
 refine At <| Aq rfl Bf ?_
 show _ = _
 rw [FE (by omega)]; simp [outOf, h16]
theorem Pn {F : Heap} {v : Value} {xs : List ByteArray} (h : Sl F v 1 strE xs) (wd : ByteArray) : Ok Tryz.prog 59 [v, .string wd].toArray F fun r _ => r = .int .i64 (findI (fun x => sameS x wd) xs) := by
 refine Ok.intro Tryz.func59 rfl Tryz.ntmps59 rfl fun w0 => ?_
 have hlen := h.plain.lt
 refine AI (Ae 1) <| Aw (Ae 1) fun ds => Af rfl (A6 EY Aa h.plain) <| Af rfl (BZ Aa Aa rfl (by omega) (by omega)) <| As (Ae 1) <| Ac <| Ak ?_
 refine AJ [5, 10, 11, 12, 13, 14, 15, 16, 17, 18, 19, 20, 21] (fun m e σ => ∃ z : Int, m = (z + 1).toNat ∧ -1 ≤ z ∧ z < xs.length ∧ Fct e 5 (.int .i64 z) ∧ σ = ⟨F, []⟩ ∧ ∀ j (hj : j < xs.length), z < j → sameS xs[j] wd = false) (xs.length) ?_ ?_
 · exact ⟨xs.length - 1, by omega, by omega, by omega, Bb, rfl, fun j hj h => absurd h (by omega)⟩
 rintro m e _ ⟨z, hm, hz1, hz2, hs5, rfl, hno⟩
 by_cases hz : 0 ≤ z
 ·obtain ⟨k, rfl⟩ := Int.eq_ofNat_of_zero_le hz
  have hk : k < xs.length := by omega
  refine Ac <| Aw (Ae 3) fun ds => Ap rfl rfl Aa (by first | rfl | exact dT (by omega)) <| Ao (Ae 1) <| Ap rfl rfl Aa (by first | rfl | exact dT (by omega)) <| Ao (Ae 1) <| Ap rfl rfl Aa (by first | rfl | exact dT (by omega)) <| Af rfl (Ax  EY Aa h.plain Aa rfl (by omega)) <| Ap rfl rfl Aa (by first | rfl | exact dT (by omega)) <| Af rfl (Ah DU Aa (h.cell1 (by omega) rfl)) <| Ap rfl rfl Aa (by first | rfl | exact dT (by omega)) <| Ao (Ae 1) <| Ap rfl rfl Aa (by first | rfl | exact dT (by omega)) <| Ao (Ae 1) <| Af rfl (Au Aa (by first | rfl | exact dT (by omega)) Aa) <| Am <| Ab ?_
  by_cases hsm : sameS xs[k] wd = true
  ·refine Ad Aa (by simpa [sameS] using hsm) <| AC ?_
   refine A0 <| A0 <| A4 <| Ab <| Ac <| AI (Ae 1) <| Ak ?_
   refine AJ [4, 6, 22, 23, 24, 25, 26, 27, 28, 29, 30, 31, 32, 33] (fun m e σ => ∃ q : Nat, m + q = k ∧ Fct e 6 (.int .i64 q) ∧ σ = ⟨F, []⟩ ∧ ∀ j (hj : j < xs.length), j < q → sameS xs[j] wd = false) (k) ?_ ?_
   · exact ⟨0, by omega, Bb, rfl, fun j hj h => absurd h (by omega)⟩
   rintro m2 e2 _ ⟨q, hm2, ht6, rfl, hno2⟩
   by_cases hq : q < k
   ·refine Ac <| AI (Ae 3) <| Ag Aa (by first | rfl | exact dT (by omega)) ?_
    by_cases hsq : sameS xs[q] wd = true
    ·refine Aj <| Ab <| Ac <| Ak <| Aw (Ae 2) fun ds => Af rfl (Ax  EY Aa h.plain Aa rfl (by omega)) <| Af rfl (Ah DU Aa (h.cell1 (by omega) rfl)) <| As (Ae 2) <| Ag Aa hsq <| AI (Ae 2) <| At ?_
     refine A8 (A1 (A1 (A8 (A1 ?_))))
     refine Aq rfl Bf ?_
     show _ = _
     rw [Cz (p := fun x => sameS x wd) (k := q) (by omega) hsq hno2]; rfl
    replace hsq : sameS xs[q] wd = false := by simpa using hsq
    refine Aj <| Ab <| Ac <| Ak <| Aw (Ae 2) fun ds => Af rfl (Ax  EY Aa h.plain Aa rfl (by omega)) <| Af rfl (Ah DU Aa (h.cell1 (by omega) rfl)) <| As (Ae 2) <| Ad Aa hsq <| Aj <| Az <| Ab <| Al fun ds => Ao (Ae 1) <| Af rfl (AE Aa Aa rfl (by omega) (by omega)) <| Ao (Ae 1) <| Am ?_
    refine Ab ⟨_, m2 - 1, Off.eq (BT rfl <| Ci rfl <| A2), by omega, ?_⟩
    refine ⟨q + 1, by omega, Bb, rfl, fun j hj hjk => ?_⟩
    rcases Nat.lt_succ_iff_lt_or_eq.1 hjk with hjk | rfl
    · exact hno2 j hj hjk
    exact hsq
   refine Ac <| AI (Ae 3) <| Ad Aa (by first | rfl | exact dF (by omega)) <| AC ?_
   refine A0 <| A0 <| A4 <| Ab <| AI (Ae 2) <| At <| Aq rfl Bf ?_
   show _ = _
   rw [Cz (p := fun x => sameS x wd) (k := k) hk hsm (fun j hj hjk => hno2 j hj (by omega))]; rfl
  replace hsm : sameS xs[k] wd = false := by simpa using hsm
  refine Ag Aa (by simpa [sameS] using hsm) <| Aj <| Ab <| Ak <| Al fun ds => Ao (Ae 1) <| Af rfl (BZ Aa Aa rfl (by omega) (by omega)) <| Ao (Ae 1) <| Am <| Az ?_
  refine Ab ⟨_, m - 1, Off.eq (BT rfl <| Ci rfl <| BY rfl <| A2), by omega, ?_⟩
  refine ⟨(k : Int) - 1, by omega, by omega, by omega, Bb, rfl, fun j hj hjk => ?_⟩
  by_cases hjk2 : j = k
  · subst hjk2; exact hsm
  exact hno j hj (by omega)
 refine Ac <| Aw (Ae 3) fun ds => Ar rfl rfl Aa (.inl (congrArg Value.bool (by first | rfl | exact dF (by omega)))) rfl <| Ar rfl rfl Aa (.inl (congrArg Value.bool (by first | rfl | exact dF (by omega)))) rfl <| Ar rfl rfl Aa (.inl (congrArg Value.bool (by first | rfl | exact dF (by omega)))) rfl <| Ar rfl rfl Aa (.inl (congrArg Value.bool (by first | rfl | exact dF (by omega)))) rfl <| Ar rfl rfl Aa (.inl (congrArg Value.bool (by first | rfl | exact dF (by omega)))) rfl <| Ar rfl rfl Aa (.inl (congrArg Value.bool (by first | rfl | exact dF (by omega)))) rfl <| Af rfl (A5 Aa (by first | rfl | exact dF (by omega)) Aa) <| Am <| Ab <| Ad Aa (by first | rfl | exact dF (by omega)) <| AC ?_
 refine A0 <| A0 <| A4 <| Ab <| Ac <| AI (Ae 1) <| Ak ?_
 refine AJ [4, 6, 22, 23, 24, 25, 26, 27, 28, 29, 30, 31, 32, 33] (fun m e σ => m = 0 ∧ Fct e 6 (.int .i64 0) ∧ σ = ⟨F, []⟩) (0) ?_ ?_
 · exact ⟨rfl, Bb, rfl⟩
 rintro m2 e2 _ ⟨hm2, ht6, rfl⟩
 refine Ac <| AI (Ae 3) <| Ad Aa (by first | rfl | exact dF (by omega)) <| AC ?_
 refine A0 <| A0 <| A4 <| Ab <| AI (Ae 2) <| At <| Aq rfl Bf ?_
 show _ = _
 obtain rfl : z = -1 := by omega
 rw [CS (p := fun x => sameS x wd) (fun j hj => hno j hj (by omega))]; rfl
theorem Fg {F : Heap} {v : Value} {xs : List ByteArray} (h : Sl F v 1 strE xs) (wd : ByteArray) : Ok Tryz.prog 18 [.string wd, v].toArray F fun r _ => r = .int .i64 (freshE wd xs) := by
 refine Ok.intro Tryz.func18 rfl Tryz.ntmps18 rfl fun w0 => ?_
 by_cases hp : 0 ≤ findI (fun x => sameS x wd) xs
 ·refine AI (Ae 1) <| AI (Ae 1) <| Ac <| Aw (Ae 2) fun ds => AS rfl (Ay bd_59 Aa AY (Pn h wd) (fun _ _ h => h)) <| As (Ae 1) <| Ag Aa (by first | rfl | exact dT (by omega)) ?_
  by_cases hn : nameOk wd = true
  ·refine Al fun ds => As (Ae 1) <| Ac <| Aw (Ae 1) fun ds => AS rfl (Ay SM Aa AY (Fw wd) (fun _ _ h => h)) <| As (Ae 1) <| Ad Aa (by rw [hn]; rfl) <| Aj <| Ab <| AI (Ae 2) <| At <| Aq rfl Bf ?_
   show _ = _
   simp [outOf, freshE, hn, ← Dt, hp]
  refine Al fun ds => As (Ae 1) <| Ac <| Aw (Ae 1) fun ds => AS rfl (Ay SM Aa AY (Fw wd) (fun _ _ h => h)) <| As (Ae 1) <| Ag Aa (by simpa using hn) <| Al fun ds => As (Ae 1) <| AI (Ae 2) <| At <| Aq rfl Bf ?_
  show _ = _
  simp [outOf, freshE, hn]
 refine AI (Ae 1) <| AI (Ae 1) <| Ac <| Aw (Ae 2) fun ds => AS rfl (Ay bd_59 Aa AY (Pn h wd) (fun _ _ h => h)) <| As (Ae 1) <| Ad Aa (by first | rfl | exact dF (by omega)) ?_
 by_cases hn : nameOk wd = true
 ·refine Aj <| Ab <| Ac <| Aw (Ae 1) fun ds => AS rfl (Ay SM Aa AY (Fw wd) (fun _ _ h => h)) <| As (Ae 1) <| Ad Aa (by rw [hn]; rfl) <| Aj <| Ab <| AI (Ae 2) <| At <| Aq rfl Bf ?_
  show _ = _
  simp [outOf, freshE, hn, ← Dt, hp]
 refine Aj <| Ab <| Ac <| Aw (Ae 1) fun ds => AS rfl (Ay SM Aa AY (Fw wd) (fun _ _ h => h)) <| As (Ae 1) <| Ag Aa (by simpa using hn) <| Al fun ds => As (Ae 1) <| AI (Ae 2) <| At <| Aq rfl Bf ?_
 show _ = _
 simp [outOf, freshE, hn]
theorem Fb {F : Heap} (a b lo hi : Int) : Ok Tryz.prog 19 [.agg #[.int .i64 a, .int .i64 b], .int .i64 lo, .int .i64 hi].toArray F fun r _ => r = .int .i64 (rangeE a b lo hi) := by
 refine Ok.intro Tryz.func19 rfl Tryz.ntmps19 rfl fun w0 => ?_
 by_cases h1 : min a b < lo
 ·refine Ac <| Al fun ds => A3 rfl <| Bc Aa rfl fun b1 hb1 nb1 => As (Ae 1) <| Ac <| Aw (Ae 8) fun ds => Ar rfl rfl Aa (.inl (congrArg Value.bool (by first | rfl | exact dT (by omega)))) rfl <| Ar rfl rfl Aa (.inl (congrArg Value.bool (by first | rfl | exact dT (by omega)))) rfl <| Ar rfl rfl Aa (.inl (congrArg Value.bool (by first | rfl | exact dT (by omega)))) rfl <| Ar rfl rfl Aa (.inl (congrArg Value.bool (by first | rfl | exact dT (by omega)))) rfl <| Ar rfl rfl Aa (.inl (congrArg Value.bool (by first | rfl | exact dT (by omega)))) rfl <| Ar rfl rfl Aa (.inl (congrArg Value.bool (by first | rfl | exact dT (by omega)))) rfl <| Ar rfl rfl Aa (.inl (congrArg Value.bool (by first | rfl | exact dT (by omega)))) rfl <| Af rfl (Au Aa (by first | rfl | exact dT (by omega)) Aa) <| Am <| Ab <| Ag Aa (by first | rfl | exact dT (by omega)) <| AI (Ae 1) <| At <| A1 <| Aq rfl Bf ?_
  show _ = _
  unfold rangeE; simp only [outOf]; rw [if_pos (Or.inl h1)]
 refine Ac <| Al fun ds => A3 rfl <| Bc Aa rfl fun b2 hb2 nb2 => As (Ae 1) <| Ac <| Aw (Ae 8) fun ds => Ap rfl rfl Aa (by first | rfl | exact dF (by omega)) <| Ao (Ae 1) <| Ap rfl rfl Aa (by first | rfl | exact dF (by omega)) <| Ao (Ae 1) <| Ap rfl rfl Aa (by first | rfl | exact dF (by omega)) <| Ao (Ae 1) <| Ap rfl rfl Aa (by first | rfl | exact dF (by omega)) <| Ao (Ae 1) <| Ap rfl rfl Aa (by first | rfl | exact dF (by omega)) <| Ao (Ae 1) <| Ap rfl rfl Aa (by first | rfl | exact dF (by omega)) <| Ao (Ae 1) <| Ap rfl rfl Aa (by first | rfl | exact dF (by omega)) <| Ao (Ae 1) <| Af rfl (A5 Aa (by first | rfl | exact dF (by omega)) Aa) <| Am <| Ab ?_
 by_cases h2 : hi < max a b
 ·refine Ag Aa (by first | rfl | exact dT (by omega)) <| AI (Ae 1) <| At <| A1 <| Aq rfl Bf ?_
  show _ = _
  unfold rangeE; simp only [outOf]; rw [if_pos (Or.inr h2)]
 refine Ad Aa (by first | rfl | exact dF (by omega)) ?_
 by_cases h3 : b < a
 ·refine Aj <| Ab <| Ac <| AI (Ae 5) <| Ag Aa (by first | rfl | exact dT (by omega)) <| AI (Ae 1) <| At <| A1 <| Aq rfl Bf ?_
  show _ = _
  unfold rangeE; simp only [outOf]; rw [if_neg (by omega), if_pos h3]
 refine Aj <| Ab <| Ac <| AI (Ae 5) <| Ad Aa (by first | rfl | exact dF (by omega)) <| Aj <| Ab <| AI (Ae 1) <| At <| Aq rfl Bf ?_
 show _ = _
 unfold rangeE; simp only [outOf]; rw [if_neg (by omega), if_neg h3]
theorem PB {F : Heap} {v : Value} {xs : List Int} (h : Ints F v xs) (p : _ → Bool) {g : FuncId} {cs : List Value} (hg : Body Tryz.prog g) (hp : ∀ k (hk : k < xs.length), Ok Tryz.prog g ([Value.int .i64 xs[k]] ++ cs).toArray F fun r _ => r = .bool (p xs[k])) : Ok Tryz.prog 120 [v, .func (.func g) #[] cs.toArray].toArray F fun r _ => r = .int .i64 (findI p xs) := by
 refine Ok.intro Tryz.func120 rfl Tryz.ntmps120 rfl fun w0 => ?_
 have hlen := h.plain.lt
 refine AI (Ae 1) <| Ac <| Aw (Ae 1) fun ds => Af rfl (A6 A7 Aa h.plain) <| As (Ae 1) <| Ak ?_
 refine AJ [4, 5, 8, 9, 10, 11, 12, 13, 14, 15, 16, 17, 18] (fun m e σ => ∃ k : Nat, m + k = xs.length ∧ Fct e 8 (.int .i64 k) ∧ σ = ⟨F, []⟩ ∧ ∀ j (hj : j < xs.length), j < k → p xs[j] = false) (xs.length) ?_ ?_
 · exact ⟨0, by omega, Bb, rfl, fun j hj h => absurd h (by omega)⟩
 rintro m e _ ⟨k, hm, hs8, rfl, hno⟩
 by_cases hlt : k < xs.length
 ·refine AI (Ae 1) <| Ac <| Ag Aa (by first | rfl | exact dT (by omega)) ?_
  by_cases hpk : p xs[k] = true
  ·refine Aj <| Ab <| Ac <| Ak <| AI (Ae 2) <| Aw (Ae 3) fun ds => Af rfl (Ax  A7 Aa h.plain Aa rfl (by omega)) <| Af rfl (Ah AA Aa (h.cell1 (by omega) rfl)) <| AS rfl (Ay hg Aa AY (hp k hlt) (fun _ _ h => h)) <| Am <| Ab <| Ag Aa hpk <| AI (Ae 2) <| At ?_
   refine A8 (A1 (A1 (A8 (A1 ?_))))
   refine Aq rfl Bf ?_
   show _ = _
   rw [Cz hlt hpk hno]; rfl
  replace hpk : p xs[k] = false := by simpa using hpk
  refine Aj <| Ab <| Ac <| Ak <| AI (Ae 2) <| Aw (Ae 3) fun ds => Af rfl (Ax  A7 Aa h.plain Aa rfl (by omega)) <| Af rfl (Ah AA Aa (h.cell1 (by omega) rfl)) <| AS rfl (Ay hg Aa AY (hp k hlt) (fun _ _ h => h)) <| Am <| Ab <| Ad Aa hpk <| Aj <| Az <| Ab <| Al fun ds => Af rfl (AE Aa Aa rfl (by omega) (by omega)) <| Ao (Ae 1) <| Am ?_
  refine Ab ⟨_, m - 1, Off.eq (BT rfl <| Cw rfl <| BY rfl <| A2), by omega, ?_⟩
  refine ⟨k + 1, by omega, Bb, rfl, fun j hj hjk => ?_⟩
  rcases Nat.lt_succ_iff_lt_or_eq.1 hjk with hjk | rfl
  · exact hno j hj hjk
  exact hpk
 refine AI (Ae 1) <| Ac <| Ad Aa (by first | rfl | exact dF (by omega)) <| AC ?_
 refine A0 <| A0 <| A4 <| Ab <| AI (Ae 1) <| At <| Aq rfl Bf ?_
 show _ = _
 rw [CS fun j hj => hno j hj (by omega)]; rfl
theorem Gs {F : Heap} {v : Value} {xs : List Int} (h : Ints F v xs) (p : _ → Bool) {g : FuncId} {cs : List Value} (hg : Body Tryz.prog g) (hp : ∀ k (hk : k < xs.length), Ok Tryz.prog g ([Value.int .i64 xs[k]] ++ cs).toArray F fun r _ => r = .bool (p xs[k])) : Ok Tryz.prog 99 [v, .func (.func g) #[] cs.toArray].toArray F fun r _ => r = .bool (xs.any p) := by
 refine Ok.intro Tryz.func99 rfl Tryz.ntmps99 rfl fun w0 => AI (Ae 1) <| Aw (Ae 2) fun ds => AS rfl (Ay bd_120 Aa AY (PB h p hg hp) (fun _ _ h => h)) <| As (Ae 2) <| At <| Aq rfl Bf ?_
 show _ = _
 rw [← Dt]; rfl
theorem Pu {F : Heap} {b1 b2 T1 T2 : Nat} {lo hi : Int} (h1 : F b1 = some (bx T1 [.int .i64 lo])) (h2 : F b2 = some (bx T2 [.int .i64 hi])) (z : Int) : Ok Tryz.prog 103 [.int .i64 z, .pointer (some ⟨b1, 0, none⟩), .pointer (some ⟨b2, 0, none⟩)].toArray F fun r _ => r = .bool (!(inB lo hi z)) := by
 refine Ok.intro Tryz.func103 rfl Tryz.ntmps103 rfl fun w0 => ?_
 by_cases hz : z < lo
 ·refine AI (Ae 1) <| Aw (Ae 1) fun ds => Af rfl (Ah AA Aa (AM h1 rfl)) <| Ao (Ae 2) <| Ar rfl rfl Aa (.inl (congrArg Value.bool (by first | rfl | exact dT (by omega)))) rfl <| Ar rfl rfl Aa (.inl (congrArg Value.bool (by first | rfl | exact dT (by omega)))) rfl <| Ar rfl rfl Aa (.inl (congrArg Value.bool (by first | rfl | exact dT (by omega)))) rfl <| Af rfl (Au Aa (by first | rfl | exact dT (by omega)) Aa) <| As (Ae 1) <| At <| Aq rfl Bf ?_
  show _ = _
  have : ¬ lo ≤ z := by omega
  simp [outOf, inB, this]
 refine AI (Ae 1) <| Aw (Ae 1) fun ds => Af rfl (Ah AA Aa (AM h1 rfl)) <| Ao (Ae 2) <| Ap rfl rfl Aa (by first | rfl | exact dF (by omega)) <| Ao (Ae 1) <| Ap rfl rfl Aa (by first | rfl | exact dF (by omega)) <| Af rfl (Ah AA Aa (AM h2 rfl)) <| Ap rfl rfl Aa (by first | rfl | exact dF (by omega)) <| Ao (Ae 1) <| Af rfl (A5 Aa (by first | rfl | exact dF (by omega)) Aa) <| As (Ae 1) ?_
 by_cases hz2 : hi < z
 ·refine At <| Aq rfl Bf ?_
  show _ = _
  have : ¬ z ≤ hi := by omega
  simp [outOf, inB, hz2, this]
 refine At <| Aq rfl Bf ?_
 show _ = _
 have e1 : lo ≤ z := by omega
 have e2 : z ≤ hi := by omega
 simp [outOf, inB, hz2, e1, e2]
theorem B2 {F : Heap} {v : Value} {xs : List Int} (lo hi : Int) (h : Ints F v xs) : Ok Tryz.prog 71 [.int .i64 lo, .int .i64 hi, v].toArray F fun r _ => r = .bool (xs.any fun z => !(inB lo hi z)) := by
 refine Ok.intro Tryz.func71 rfl Tryz.ntmps71 rfl fun w0 => Ac <| Al fun ds => A3 rfl <| Bc Aa rfl fun b1 hb1 nb1 => A3 rfl <| Bc Aa rfl fun b2 hb2 nb2 => As (Ae 1) <| AL (i := 1) rfl hb1 (.next <| .here) fun F3 hF4 hz1 => ?_
 replace h := h.mono hF4
 refine AL (i := 0) rfl hb2 (.here) fun F5 hF6 hz2 => ?_
 replace h := h.mono hF6
 replace hz1 := hF6 _ _ hz1
 refine Aw (Ae 1) fun ds => Af rfl (Bu AY) <| AS rfl (Ay bd_99 Aa AY (Gs h (fun z => !(inB lo hi z)) bd_103 fun k hk => Pu hz1 hz2 _) (fun _ _ h => h)) <| As (Ae 1) <| At <| Aq rfl Bf ?_
 rfl
theorem PA {F : Heap} {v : Value} {xs : List Plc} (h : Sl F v 2 Plc.enc xs) (p : _ → Bool) {g : FuncId} {cs : List Value} (hg : Body Tryz.prog g) (hp : ∀ k (hk : k < xs.length), Ok Tryz.prog g ([Value.agg (Plc.enc xs[k]).toArray] ++ cs).toArray F fun r _ => r = .bool (p xs[k])) : Ok Tryz.prog 134 [v, .func (.func g) #[] cs.toArray].toArray F fun r _ => r = .int .i64 (findI p xs) := by
 refine Ok.intro Tryz.func134 rfl Tryz.ntmps134 rfl fun w0 => ?_
 have hlen := h.plain.lt
 refine AI (Ae 1) <| Ac <| Aw (Ae 1) fun ds => Af rfl (A6 BO Aa h.plain) <| As (Ae 1) <| Ak ?_
 refine AJ [4, 5, 8, 9, 10, 11, 12, 13, 14, 15, 16, 17, 18] (fun m e σ => ∃ k : Nat, m + k = xs.length ∧ Fct e 8 (.int .i64 k) ∧ σ = ⟨F, []⟩ ∧ ∀ j (hj : j < xs.length), j < k → p xs[j] = false) (xs.length) ?_ ?_
 · exact ⟨0, by omega, Bb, rfl, fun j hj h => absurd h (by omega)⟩
 rintro m e _ ⟨k, hm, hs8, rfl, hno⟩
 by_cases hlt : k < xs.length
 ·refine AI (Ae 1) <| Ac <| Ag Aa (by first | rfl | exact dT (by omega)) ?_
  by_cases hpk : p xs[k] = true
  ·refine Aj <| Ab <| Ac <| Ak <| AI (Ae 2) <| Aw (Ae 3) fun ds => Af rfl (Ax  BO Aa h.plain Aa rfl (by omega)) <| Af rfl (AO Mv Aa rfl rfl (h.whole (by omega))) <| AS rfl (Ay hg Aa AY (hp k hlt) (fun _ _ h => h)) <| Am <| Ab <| Ag Aa hpk <| AI (Ae 2) <| At ?_
   refine A8 (A1 (A1 (A8 (A1 ?_))))
   refine Aq rfl Bf ?_
   show _ = _
   rw [Cz hlt hpk hno]; rfl
  replace hpk : p xs[k] = false := by simpa using hpk
  refine Aj <| Ab <| Ac <| Ak <| AI (Ae 2) <| Aw (Ae 3) fun ds => Af rfl (Ax  BO Aa h.plain Aa rfl (by omega)) <| Af rfl (AO Mv Aa rfl rfl (h.whole (by omega))) <| AS rfl (Ay hg Aa AY (hp k hlt) (fun _ _ h => h)) <| Am <| Ab <| Ad Aa hpk <| Aj <| Az <| Ab <| Al fun ds => Af rfl (AE Aa Aa rfl (by omega) (by omega)) <| Ao (Ae 1) <| Am ?_
  refine Ab ⟨_, m - 1, Off.eq (BT rfl <| Cw rfl <| BY rfl <| A2), by omega, ?_⟩
  refine ⟨k + 1, by omega, Bb, rfl, fun j hj hjk => ?_⟩
  rcases Nat.lt_succ_iff_lt_or_eq.1 hjk with hjk | rfl
  · exact hno j hj hjk
  exact hpk
 refine AI (Ae 1) <| Ac <| Ad Aa (by first | rfl | exact dF (by omega)) <| AC ?_
 refine A0 <| A0 <| A4 <| Ab <| AI (Ae 1) <| At <| Aq rfl Bf ?_
 show _ = _
 rw [CS fun j hj => hno j hj (by omega)]; rfl
theorem Gr {F : Heap} {v : Value} {xs : List Plc} (h : Sl F v 2 Plc.enc xs) (p : _ → Bool) {g : FuncId} {cs : List Value} (hg : Body Tryz.prog g) (hp : ∀ k (hk : k < xs.length), Ok Tryz.prog g ([Value.agg (Plc.enc xs[k]).toArray] ++ cs).toArray F fun r _ => r = .bool (p xs[k])) : Ok Tryz.prog 125 [v, .func (.func g) #[] cs.toArray].toArray F fun r _ => r = .bool (xs.any p) := by
 refine Ok.intro Tryz.func125 rfl Tryz.ntmps125 rfl fun w0 => AI (Ae 1) <| Aw (Ae 2) fun ds => AS rfl (Ay bd_134 Aa AY (PA h p hg hp) (fun _ _ h => h)) <| As (Ae 2) <| At <| Aq rfl Bf ?_
 show _ = _
 rw [← Dt]; rfl
theorem PC {F : Heap} {v : Value} {xs : List (Value × Edn)} (h : Sl F v 4 edE xs) (p : _ → Bool) {g : FuncId} {cs : List Value} (hg : Body Tryz.prog g) (hp : ∀ k (hk : k < xs.length), Ok Tryz.prog g ([Value.agg (edE xs[k]).toArray] ++ cs).toArray F fun r _ => r = .bool (p xs[k])) : Ok Tryz.prog 135 [v, .func (.func g) #[] cs.toArray].toArray F fun r _ => r = .int .i64 (findI p xs) := by
 refine Ok.intro Tryz.func135 rfl Tryz.ntmps135 rfl fun w0 => ?_
 have hlen := h.plain.lt
 refine AI (Ae 1) <| Ac <| Aw (Ae 1) fun ds => Af rfl (A6 Bl Aa h.plain) <| As (Ae 1) <| Ak ?_
 refine AJ [4, 5, 8, 9, 10, 11, 12, 13, 14, 15, 16, 17, 18] (fun m e σ => ∃ k : Nat, m + k = xs.length ∧ Fct e 8 (.int .i64 k) ∧ σ = ⟨F, []⟩ ∧ ∀ j (hj : j < xs.length), j < k → p xs[j] = false) (xs.length) ?_ ?_
 · exact ⟨0, by omega, Bb, rfl, fun j hj h => absurd h (by omega)⟩
 rintro m e _ ⟨k, hm, hs8, rfl, hno⟩
 by_cases hlt : k < xs.length
 ·refine AI (Ae 1) <| Ac <| Ag Aa (by first | rfl | exact dT (by omega)) ?_
  by_cases hpk : p xs[k] = true
  ·refine Aj <| Ab <| Ac <| Ak <| AI (Ae 2) <| Aw (Ae 3) fun ds => Af rfl (Ax  Bl Aa h.plain Aa rfl (by omega)) <| Af rfl (AO ED Aa rfl rfl (h.whole (by omega))) <| AS rfl (Ay hg Aa AY (hp k hlt) (fun _ _ h => h)) <| Am <| Ab <| Ag Aa hpk <| AI (Ae 2) <| At ?_
   refine A8 (A1 (A1 (A8 (A1 ?_))))
   refine Aq rfl Bf ?_
   show _ = _
   rw [Cz hlt hpk hno]; rfl
  replace hpk : p xs[k] = false := by simpa using hpk
  refine Aj <| Ab <| Ac <| Ak <| AI (Ae 2) <| Aw (Ae 3) fun ds => Af rfl (Ax  Bl Aa h.plain Aa rfl (by omega)) <| Af rfl (AO ED Aa rfl rfl (h.whole (by omega))) <| AS rfl (Ay hg Aa AY (hp k hlt) (fun _ _ h => h)) <| Am <| Ab <| Ad Aa hpk <| Aj <| Az <| Ab <| Al fun ds => Af rfl (AE Aa Aa rfl (by omega) (by omega)) <| Ao (Ae 1) <| Am ?_
  refine Ab ⟨_, m - 1, Off.eq (BT rfl <| Cw rfl <| BY rfl <| A2), by omega, ?_⟩
  refine ⟨k + 1, by omega, Bb, rfl, fun j hj hjk => ?_⟩
  rcases Nat.lt_succ_iff_lt_or_eq.1 hjk with hjk | rfl
  · exact hno j hj hjk
  exact hpk
 refine AI (Ae 1) <| Ac <| Ad Aa (by first | rfl | exact dF (by omega)) <| AC ?_
 refine A0 <| A0 <| A4 <| Ab <| AI (Ae 1) <| At <| Aq rfl Bf ?_
 show _ = _
 rw [CS fun j hj => hno j hj (by omega)]; rfl
theorem Gt {F : Heap} {v : Value} {xs : List (Value × Edn)} (h : Sl F v 4 edE xs) (p : _ → Bool) {g : FuncId} {cs : List Value} (hg : Body Tryz.prog g) (hp : ∀ k (hk : k < xs.length), Ok Tryz.prog g ([Value.agg (edE xs[k]).toArray] ++ cs).toArray F fun r _ => r = .bool (p xs[k])) : Ok Tryz.prog 129 [v, .func (.func g) #[] cs.toArray].toArray F fun r _ => r = .bool (xs.any p) := by
 refine Ok.intro Tryz.func129 rfl Tryz.ntmps129 rfl fun w0 => AI (Ae 1) <| Aw (Ae 2) fun ds => AS rfl (Ay bd_135 Aa AY (PC h p hg hp) (fun _ _ h => h)) <| As (Ae 2) <| At <| Aq rfl Bf ?_
 show _ = _
 rw [← Dt]; rfl
theorem P9 {F : Heap} {v : Value} {xs : List (Int × Int)} (h : Sl F v 2 spanE xs) (p : _ → Bool) {g : FuncId} {cs : List Value} (hg : Body Tryz.prog g) (hp : ∀ k (hk : k < xs.length), Ok Tryz.prog g ([Value.agg (spanE xs[k]).toArray] ++ cs).toArray F fun r _ => r = .bool (p xs[k])) : Ok Tryz.prog 119 [v, .func (.func g) #[] cs.toArray].toArray F fun r _ => r = .int .i64 (findI p xs) := by
 refine Ok.intro Tryz.func119 rfl Tryz.ntmps119 rfl fun w0 => ?_
 have hlen := h.plain.lt
 refine AI (Ae 1) <| Ac <| Aw (Ae 1) fun ds => Af rfl (A6 CL Aa h.plain) <| As (Ae 1) <| Ak ?_
 refine AJ [4, 5, 8, 9, 10, 11, 12, 13, 14, 15, 16, 17, 18] (fun m e σ => ∃ k : Nat, m + k = xs.length ∧ Fct e 8 (.int .i64 k) ∧ σ = ⟨F, []⟩ ∧ ∀ j (hj : j < xs.length), j < k → p xs[j] = false) (xs.length) ?_ ?_
 · exact ⟨0, by omega, Bb, rfl, fun j hj h => absurd h (by omega)⟩
 rintro m e _ ⟨k, hm, hs8, rfl, hno⟩
 by_cases hlt : k < xs.length
 ·refine AI (Ae 1) <| Ac <| Ag Aa (by first | rfl | exact dT (by omega)) ?_
  by_cases hpk : p xs[k] = true
  ·refine Aj <| Ab <| Ac <| Ak <| AI (Ae 2) <| Aw (Ae 3) fun ds => Af rfl (Ax  CL Aa h.plain Aa rfl (by omega)) <| Af rfl (AO Cg Aa rfl rfl (h.whole (by omega))) <| AS rfl (Ay hg Aa AY (hp k hlt) (fun _ _ h => h)) <| Am <| Ab <| Ag Aa hpk <| AI (Ae 2) <| At ?_
   refine A8 (A1 (A1 (A8 (A1 ?_))))
   refine Aq rfl Bf ?_
   show _ = _
   rw [Cz hlt hpk hno]; rfl
  replace hpk : p xs[k] = false := by simpa using hpk
  refine Aj <| Ab <| Ac <| Ak <| AI (Ae 2) <| Aw (Ae 3) fun ds => Af rfl (Ax  CL Aa h.plain Aa rfl (by omega)) <| Af rfl (AO Cg Aa rfl rfl (h.whole (by omega))) <| AS rfl (Ay hg Aa AY (hp k hlt) (fun _ _ h => h)) <| Am <| Ab <| Ad Aa hpk <| Aj <| Az <| Ab <| Al fun ds => Af rfl (AE Aa Aa rfl (by omega) (by omega)) <| Ao (Ae 1) <| Am ?_
  refine Ab ⟨_, m - 1, Off.eq (BT rfl <| Cw rfl <| BY rfl <| A2), by omega, ?_⟩
  refine ⟨k + 1, by omega, Bb, rfl, fun j hj hjk => ?_⟩
  rcases Nat.lt_succ_iff_lt_or_eq.1 hjk with hjk | rfl
  · exact hno j hj hjk
  exact hpk
 refine AI (Ae 1) <| Ac <| Ad Aa (by first | rfl | exact dF (by omega)) <| AC ?_
 refine A0 <| A0 <| A4 <| Ab <| AI (Ae 1) <| At <| Aq rfl Bf ?_
 show _ = _
 rw [CS fun j hj => hno j hj (by omega)]; rfl
theorem LT {F : Heap} {v : Value} {xs : List (Int × Int)} (h : Sl F v 2 spanE xs) (p : _ → Bool) {g : FuncId} {cs : List Value} (hg : Body Tryz.prog g) (hp : ∀ k (hk : k < xs.length), Ok Tryz.prog g ([Value.agg (spanE xs[k]).toArray] ++ cs).toArray F fun r _ => r = .bool (p xs[k])) : Ok Tryz.prog 94 [v, .func (.func g) #[] cs.toArray].toArray F fun r _ => r = .bool (xs.any p) := by
 refine Ok.intro Tryz.func94 rfl Tryz.ntmps94 rfl fun w0 => AI (Ae 1) <| Aw (Ae 2) fun ds => AS rfl (Ay bd_119 Aa AY (P9 h p hg hp) (fun _ _ h => h)) <| As (Ae 2) <| At <| Aq rfl Bf ?_
 show _ = _
 rw [← Dt]; rfl
end
section
set_option maxRecDepth 100000
open Go.RowKit
theorem B1 : ZeroT Tryz.prog 3 (.int .i64 0) := Bv (by kernel_rfl)
theorem JV : ZeroT Tryz.prog 59 (.agg #[.string ⟨#[]⟩, .int .i64 0, .int .i64 0, .slice none 0 0]) := Bv (by kernel_rfl)
theorem RO : ZeroT Tryz.prog 80 (.agg #[.string ⟨#[]⟩, .int .i64 0]) := Bv (by kernel_rfl)
theorem Df : Body Tryz.prog 71 := AF (by kernel_rfl)
theorem JQ : Body Tryz.prog 111 := AF (by kernel_rfl)
theorem W5 : Body Tryz.prog 125 := AF (by kernel_rfl)
theorem W3 : Body Tryz.prog 126 := AF (by kernel_rfl)
theorem Wy : Body Tryz.prog 129 := AF (by kernel_rfl)
theorem Wx : Body Tryz.prog 130 := AF (by kernel_rfl)
instance : FieldI Tryz.prog 30 0 0 := ⟨Bd (by kernel_rfl)⟩
theorem EJ : FieldT Tryz.prog 30 1 1 := Bd (by kernel_rfl)
instance : FieldI Tryz.prog 30 1 1 := ⟨EJ⟩
instance : FieldI Tryz.prog 59 0 0 := ⟨Bd (by kernel_rfl)⟩
theorem K7 : FieldT Tryz.prog 59 1 1 := Bd (by kernel_rfl)
instance : FieldI Tryz.prog 59 1 1 := ⟨K7⟩
theorem Jc : FieldT Tryz.prog 59 2 3 := Bd (by kernel_rfl)
instance : FieldI Tryz.prog 59 2 3 := ⟨Jc⟩
instance : FieldI Tryz.prog 80 0 0 := ⟨Bd (by kernel_rfl)⟩
instance : FieldI Tryz.prog 80 1 1 := ⟨Bd (by kernel_rfl)⟩
theorem Ef : OneT Tryz.prog 27 := BI (by kernel_rfl)
instance : OneI Tryz.prog 27 := ⟨Ef⟩
theorem B4 : OneT Tryz.prog 28 := BI (by kernel_rfl)
instance : OneI Tryz.prog 28 := ⟨B4⟩
theorem Br : OneT Tryz.prog 44 := BI (by kernel_rfl)
instance : OneI Tryz.prog 44 := ⟨Br⟩
theorem MK : SizeT Tryz.prog 59 4 := Bq (by kernel_rfl)
theorem sz_80 : SizeT Tryz.prog 80 2 := Bq (by kernel_rfl)
theorem GL {p : Value × Edn} (h : p.1.oneCell' = true) : ∀ u ∈ edE p, u.oneCell' = true := by
 intro u hu
 simp only [edE, List.mem_cons, List.not_mem_nil, or_false] at hu
 rcases hu with rfl | rfl | rfl | rfl
 · rfl
 · rfl
 · rfl
 exact h
theorem StmR.ones {F : Heap} {vp ve : Value} {ps : List (Value × Edn)} {s : Stm} (hr : StmR F vp ve ps s) : ∀ u ∈ [vp, ve], u.oneCell' = true := by
 intro u hu
 simp only [List.mem_cons, List.not_mem_nil, or_false] at hu
 rcases hu with rfl | rfl
 · exact hr.places.plain.one
 exact hr.eds.plain.one
theorem Kk {F : Heap} {v : Value} {xs : List Plc} (h : Sl F v 2 Plc.enc xs) (f : Nat → Int) {g : FuncId} {cs : List Value} (hg : Body Tryz.prog g) (hp : ∀ k (hk : k < xs.length), (∀ j, j < k → f j = 0) → Ok Tryz.prog g ([Value.int .i64 (k : Int), Value.agg (Plc.enc xs[k]).toArray] ++ cs).toArray F fun r _ => r = .int .i64 (f k)) : Ok Tryz.prog 123 [v, .func (.func g) #[] cs.toArray].toArray F fun r _ => r = .tuple #[.int .i64 (firstQ xs.length f).1, .int .i64 (firstQ xs.length f).2] := by
 refine Ok.intro Tryz.func123 rfl Tryz.ntmps123 rfl fun w0 => ?_
 have hlen := h.plain.lt
 refine AI (Ae 2) <| Ac <| Aw (Ae 1) fun ds => Af rfl (A6 BO Aa h.plain) <| As (Ae 1) <| Ak ?_
 refine AJ [4, 5, 6, 7, 8, 11, 12, 13, 14, 15, 16, 17, 18, 19, 20, 21, 22, 23, 24] (fun m e σ => ∃ k : Nat, m + k = xs.length ∧ Fct e 11 (.int .i64 (k : Int)) ∧ σ = ⟨F, []⟩ ∧ ∀ j, j < k → f j = 0) (xs.length) ?_ ?_
 · exact ⟨0, by omega, Bb, rfl, fun j h => absurd h (by omega)⟩
 rintro m e _ ⟨k, hm, hs11, rfl, hno⟩
 by_cases hlt : k < xs.length
 ·refine AI (Ae 1) <| Ac <| Ag Aa (by first | rfl | exact dT (by omega)) ?_
  by_cases hfk : f k = 0
  ·refine Aj <| Ab <| Ac <| Ak <| Aw (Ae 1) fun ds => Af rfl (Ax  BO Aa h.plain Aa rfl (by omega)) <| Af rfl (AO Mv Aa rfl rfl (h.whole (by omega))) <| A3 rfl <| AN RO rfl fun b2 hb2 nb2 => Ao (Ae 1) <| AV <| AQ sz_80 Aa Aa (i := 0) rfl rfl rfl rfl Plc.enc_one (.here) <| Am <| Ab <| Aw (Ae 3) fun ds => AS rfl (Ay hg Aa AY (hp k hlt hno) (fun _ _ h => h)) <| As (Ae 1) <| AI (Ae 2) <| Ad Aa (dF (fun h => h hfk)) <| Aj <| Az <| Ab <| By (fun _ _ h => h.drop (kD <| .refl _)) <| Al fun ds => Af rfl (AE Aa Aa rfl (by omega) (by omega)) <| Ao (Ae 1) <| Am ?_
   refine Ab ⟨_, m - 1, Off.eq (BT rfl <| Ci rfl <| Cw rfl <| BY rfl <| A2), by omega, ?_⟩
   refine ⟨k + 1, by omega, Bb, rfl, fun j hjk => ?_⟩
   rcases Nat.lt_succ_iff_lt_or_eq.1 hjk with hjk | rfl
   · exact hno j hjk
   exact hfk
  refine Aj <| Ab <| Ac <| Ak <| Aw (Ae 1) fun ds => Af rfl (Ax  BO Aa h.plain Aa rfl (by omega)) <| Af rfl (AO Mv Aa rfl rfl (h.whole (by omega))) <| A3 rfl <| AN RO rfl fun b3 hb3 nb3 => Ao (Ae 1) <| AV <| AQ sz_80 Aa Aa (i := 0) rfl rfl rfl rfl Plc.enc_one (.here) <| Am <| Ab <| Aw (Ae 3) fun ds => AS rfl (Ay hg Aa AY (hp k hlt hno) (fun _ _ h => h)) <| As (Ae 1) <| AI (Ae 2) <| Ag Aa (dT hfk) <| AI (Ae 4) <| At ?_
  refine A8 (A1 (A1 (A8 (A1 ?_))))
  refine Aq rfl Bf ?_
  show _ = _
  rw [B0 hlt hno hfk]; rfl
 refine AI (Ae 1) <| Ac <| Ad Aa (by first | rfl | exact dF (by omega)) <| AC ?_
 refine A0 <| A0 <| A4 <| Ab <| AI (Ae 2) <| At <| Aq rfl Bf ?_
 show _ = _
 rw [BU fun j hj => hno j (by omega)]; rfl
theorem Kl {F : Heap} {v : Value} {xs : List (Value × Edn)} (h : Sl F v 4 edE xs) (hone : ∀ p ∈ xs, p.1.oneCell' = true) (f : Nat → Int) {g : FuncId} {cs : List Value} (hg : Body Tryz.prog g) (hp : ∀ k (hk : k < xs.length), (∀ j, j < k → f j = 0) → Ok Tryz.prog g ([Value.int .i64 (k : Int), Value.agg (edE xs[k]).toArray] ++ cs).toArray F fun r _ => r = .int .i64 (f k)) : Ok Tryz.prog 127 [v, .func (.func g) #[] cs.toArray].toArray F fun r _ => r = .tuple #[.int .i64 (firstQ xs.length f).1, .int .i64 (firstQ xs.length f).2] := by
 refine Ok.intro Tryz.func127 rfl Tryz.ntmps127 rfl fun w0 => ?_
 have hlen := h.plain.lt
 refine AI (Ae 2) <| Ac <| Aw (Ae 1) fun ds => Af rfl (A6 Bl Aa h.plain) <| As (Ae 1) <| Ak ?_
 refine AJ [4, 5, 6, 7, 8, 11, 12, 13, 14, 15, 16, 17, 18, 19, 20, 21, 22, 23, 24] (fun m e σ => ∃ k : Nat, m + k = xs.length ∧ Fct e 11 (.int .i64 (k : Int)) ∧ σ = ⟨F, []⟩ ∧ ∀ j, j < k → f j = 0) (xs.length) ?_ ?_
 · exact ⟨0, by omega, Bb, rfl, fun j h => absurd h (by omega)⟩
 rintro m e _ ⟨k, hm, hs11, rfl, hno⟩
 by_cases hlt : k < xs.length
 ·refine AI (Ae 1) <| Ac <| Ag Aa (by first | rfl | exact dT (by omega)) ?_
  by_cases hfk : f k = 0
  ·refine Aj <| Ab <| Ac <| Ak <| Aw (Ae 1) fun ds => Af rfl (Ax  Bl Aa h.plain Aa rfl (by omega)) <| Af rfl (AO ED Aa rfl rfl (h.whole (by omega))) <| A3 rfl <| AN JV rfl fun b2 hb2 nb2 => Ao (Ae 1) <| AV <| AQ MK Aa Aa (i := 0) rfl rfl rfl rfl (GL (hone _ (List.getElem_mem hlt))) (.here) <| Am <| Ab <| Aw (Ae 3) fun ds => AS rfl (Ay hg Aa AY (hp k hlt hno) (fun _ _ h => h)) <| As (Ae 1) <| AI (Ae 2) <| Ad Aa (dF (fun h => h hfk)) <| Aj <| Az <| Ab <| By (fun _ _ h => h.drop (kD <| .refl _)) <| Al fun ds => Af rfl (AE Aa Aa rfl (by omega) (by omega)) <| Ao (Ae 1) <| Am ?_
   refine Ab ⟨_, m - 1, Off.eq (BT rfl <| Ci rfl <| Cw rfl <| BY rfl <| A2), by omega, ?_⟩
   refine ⟨k + 1, by omega, Bb, rfl, fun j hjk => ?_⟩
   rcases Nat.lt_succ_iff_lt_or_eq.1 hjk with hjk | rfl
   · exact hno j hjk
   exact hfk
  refine Aj <| Ab <| Ac <| Ak <| Aw (Ae 1) fun ds => Af rfl (Ax  Bl Aa h.plain Aa rfl (by omega)) <| Af rfl (AO ED Aa rfl rfl (h.whole (by omega))) <| A3 rfl <| AN JV rfl fun b3 hb3 nb3 => Ao (Ae 1) <| AV <| AQ MK Aa Aa (i := 0) rfl rfl rfl rfl (GL (hone _ (List.getElem_mem hlt))) (.here) <| Am <| Ab <| Aw (Ae 3) fun ds => AS rfl (Ay hg Aa AY (hp k hlt hno) (fun _ _ h => h)) <| As (Ae 1) <| AI (Ae 2) <| Ag Aa (dT hfk) <| AI (Ae 4) <| At ?_
  refine A8 (A1 (A1 (A8 (A1 ?_))))
  refine Aq rfl Bf ?_
  show _ = _
  rw [B0 hlt hno hfk]; rfl
 refine AI (Ae 1) <| Ac <| Ad Aa (by first | rfl | exact dF (by omega)) <| AC ?_
 refine A0 <| A0 <| A4 <| Ab <| AI (Ae 2) <| At <| Aq rfl Bf ?_
 show _ = _
 rw [BU fun j hj => hno j (by omega)]; rfl
theorem Ma {F : Heap} {c TB : Nat} {b : Plc} (hb : F c = some (bx TB b.enc)) (x : Plc) : Ok Tryz.prog 126 [.agg x.enc.toArray, .pointer (some ⟨c, 0, none⟩)].toArray F fun r _ => r = .bool (sameS x.name b.name) := by
 refine Ok.intro Tryz.func126 rfl Tryz.ntmps126 rfl fun w0 => Ac <| Al fun ds => A3 rfl <| Bc Aa rfl fun b1 hb1 nb1 => As (Ae 1) <| Aw (Ae 3) fun ds => Af rfl (Ah DU Aa (AM hb rfl)) <| As (Ae 2) <| At <| Aq rfl Bf ?_
 rfl
theorem LZ {F : Heap} {c TB : Nat} {b : Value × Edn} (hb : F c = some (bx TB (edE b))) (x : Value × Edn) : Ok Tryz.prog 130 [.agg (edE x).toArray, .pointer (some ⟨c, 0, none⟩)].toArray F fun r _ => r = .bool (sameS x.2.name b.2.name) := by
 refine Ok.intro Tryz.func130 rfl Tryz.ntmps130 rfl fun w0 => Ac <| Al fun ds => A3 rfl <| Bc Aa rfl fun b1 hb1 nb1 => As (Ae 1) <| Aw (Ae 3) fun ds => Af rfl (Ah DU Aa (AM hb rfl)) <| As (Ae 2) <| At <| Aq rfl Bf ?_
 rfl
theorem Nu {F : Heap} {vp ve : Value} {ps : List (Value × Edn)} {s : Stm} (hr : StmR F vp ve ps s) {c TC : Nat} (hc : F c = some (bx TC [vp, ve])) {k : Nat} (hk : k < s.places.length) : Ok Tryz.prog 124 [.int .i64 (k : Int), .agg (s.places[k].enc).toArray, .pointer (some ⟨c, 0, none⟩)].toArray F fun r _ => r = .int .i64 (plcErr s k) := by
 refine Ok.intro Tryz.func124 rfl Tryz.ntmps124 rfl fun w0 => ?_
 have hL1 := hr.places.plain.lt
 by_cases hn : nameOk s.places[k].name = true
 ·refine Ac <| Al fun ds => A3 rfl <| Bc Aa rfl fun b1 hb1 nb1 => As (Ae 1) <| Ac <| Ak <| Aw (Ae 2) fun ds => AS rfl (Ay JQ Aa AY (CX _) (fun _ _ h => h)) <| As (Ae 2) <| Ad Aa (by rw [hn]; rfl) <| Ac <| AL (i := 0) rfl hb1 (.here) fun F2 hF3 hq => ?_
  replace hr := hr.mono hF3
  replace hc := hF3 _ _ hc
  by_cases ht : (s.places.take k).any (fun y => sameS y.name s.places[k].name) = true
  ·refine Al fun ds => Ao (Ae 1) <| Af rfl (Ah Ef Aa (AM hc rfl)) <| Ao (Ae 1) <| Af rfl (Do BO Aa hr.places.plain Aa (k := k) rfl (by omega)) <| Af rfl (Bu AY) <| AS rfl (Ay W5 Aa AY (Gr (hr.places.to (k := k) (by omega)) (fun y => sameS y.name s.places[k].name) W3 fun i hi => Ma hq _) (fun _ _ h => h)) <| As (Ae 1) <| Ag Aa ht <| AI (Ae 1) <| At <| A8 <| A1 <| Aq rfl Bf ?_
   show _ = _
   rw [Dq hk]; simp [outOf, hn, ht]
  replace ht : (s.places.take k).any (fun y => sameS y.name s.places[k].name) = false := by simpa using ht
  refine Al fun ds => Ao (Ae 1) <| Af rfl (Ah Ef Aa (AM hc rfl)) <| Ao (Ae 1) <| Af rfl (Do BO Aa hr.places.plain Aa (k := k) rfl (by omega)) <| Af rfl (Bu AY) <| AS rfl (Ay W5 Aa AY (Gr (hr.places.to (k := k) (by omega)) (fun y => sameS y.name s.places[k].name) W3 fun i hi => Ma hq _) (fun _ _ h => h)) <| As (Ae 1) <| Ad Aa ht ?_
  by_cases hv : inB 0 1 s.places[k].kind = true
  ·refine Aw (Ae 1) fun ds => Af rfl (Ah AA Aa (AM hq rfl)) <| A3 rfl <| AU A7 B1 rfl (.cons Aa .nil) rfl rfl (by decide) (by simp [Value.oneCell']) fun b4 hb4 nb4 => AW (i := 0) rfl hb4 .here fun F5 hF6 hz7 => ?_
   have hsl8 := Bk hz7
   refine AS rfl (Ay Df Aa AY (B2 _ _ hsl8) (fun _ _ h => h)) <| As (Ae 1) <| Ad Aa (by simp [hv]) <| Aj <| Az <| Ab <| AI (Ae 1) <| At <| Aq rfl Bf ?_
   show _ = _
   rw [Dq hk]; simp [outOf, hn, ht, hv]
  replace hv : inB 0 1 s.places[k].kind = false := by simpa using hv
  refine Aw (Ae 1) fun ds => Af rfl (Ah AA Aa (AM hq rfl)) <| A3 rfl <| AU A7 B1 rfl (.cons Aa .nil) rfl rfl (by decide) (by simp [Value.oneCell']) fun b9 hb9 nb9 => AW (i := 0) rfl hb9 .here fun F10 hF11 hz12 => ?_
  have hsl13 := Bk hz12
  refine AS rfl (Ay Df Aa AY (B2 _ _ hsl13) (fun _ _ h => h)) <| As (Ae 1) <| Ag Aa (by simp [hv]) <| AI (Ae 1) <| At <| A8 <| A1 <| Aq rfl Bf ?_
  show _ = _
  rw [Dq hk]; simp [outOf, hn, ht, hv]
 replace hn : nameOk s.places[k].name = false := by simpa using hn
 refine Ac <| Al fun ds => A3 rfl <| Bc Aa rfl fun b14 hb14 nb14 => As (Ae 1) <| Ac <| Ak <| Aw (Ae 2) fun ds => AS rfl (Ay JQ Aa AY (CX _) (fun _ _ h => h)) <| As (Ae 2) <| Ag Aa (by rw [hn]; rfl) <| AI (Ae 1) <| At <| A8 <| A1 <| Aq rfl Bf ?_
 show _ = _
 rw [Dq hk]; simp [outOf, hn]
theorem Nt {F : Heap} {vp ve : Value} {ps : List (Value × Edn)} {s : Stm} (hr : StmR F vp ve ps s) {c TC : Nat} (hc : F c = some (bx TC [vp, ve])) {k : Nat} (hk : k < ps.length) : Ok Tryz.prog 128 [.int .i64 (k : Int), .agg (edE ps[k]).toArray, .pointer (some ⟨c, 0, none⟩)].toArray F fun r _ => r = .int .i64 (edErr s k) := by
 refine Ok.intro Tryz.func128 rfl Tryz.ntmps128 rfl fun w0 => ?_
 have hL1 := hr.eds.plain.lt
 have hL2 := hr.places.plain.lt
 have hke : k < s.editions.length := by rw [← hr.len]; exact hk
 have hea := hr.at hk
 have hrd := hr.rds _ (List.getElem_mem hk)
 have hL3 := hrd.plain.lt
 have hany := hr.any (q := fun y => sameS y.name ps[k].2.name) (k := k)
 by_cases hn : nameOk ps[k].2.name = true
 ·refine Ac <| Al fun ds => A3 rfl <| Bc Aa rfl fun b1 hb1 nb1 => As (Ae 1) <| Ac <| Ak <| Aw (Ae 2) fun ds => AS rfl (Ay JQ Aa AY (CX _) (fun _ _ h => h)) <| As (Ae 2) <| Ad Aa (by rw [hn]; rfl) <| Ac <| AL (i := 0) rfl hb1 (.here) fun F2 hF3 hq => ?_
  replace hr := hr.mono hF3
  replace hrd := hrd.mono hF3
  replace hc := hF3 _ _ hc
  by_cases ht : (ps.take k).any (fun y => sameS y.2.name ps[k].2.name) = true
  ·refine Al fun ds => Ao (Ae 1) <| Af rfl (Ah B4 Aa (AM hc rfl)) <| Ao (Ae 1) <| Af rfl (Do Bl Aa hr.eds.plain Aa (k := k) rfl (by omega)) <| Af rfl (Bu AY) <| AS rfl (Ay Wy Aa AY (Gt (hr.eds.to (k := k) (by omega)) (fun y => sameS y.2.name ps[k].2.name) Wx fun i hi => LZ hq _) (fun _ _ h => h)) <| As (Ae 1) <| Ag Aa ht ?_
   rw [hany, hea] at ht
   rw [hea] at hn
   refine AI (Ae 1) <| At <| A8 <| A1 <| Aq rfl Bf ?_
   show _ = _
   rw [CT hke]; simp [outOf, hn, ht]
  replace ht : (ps.take k).any (fun y => sameS y.2.name ps[k].2.name) = false := by simpa using ht
  refine Al fun ds => Ao (Ae 1) <| Af rfl (Ah B4 Aa (AM hc rfl)) <| Ao (Ae 1) <| Af rfl (Do Bl Aa hr.eds.plain Aa (k := k) rfl (by omega)) <| Af rfl (Bu AY) <| AS rfl (Ay Wy Aa AY (Gt (hr.eds.to (k := k) (by omega)) (fun y => sameS y.2.name ps[k].2.name) Wx fun i hi => LZ hq _) (fun _ _ h => h)) <| As (Ae 1) <| Ad Aa ht ?_
  have ht2 := ht
  rw [hany, hea] at ht2
  have hn2 := hn
  rw [hea] at hn2
  by_cases hy : (inB 1450 1850 ps[k].2.lo && inB 1450 1850 ps[k].2.hi) = true
  ·refine Aw (Ae 2) fun ds => Af rfl (Ah AA Aa (AM hq rfl)) <| Ao (Ae 2) <| Af rfl (Ah AA Aa (AM hq rfl)) <| A3 rfl <| AU A7 B1 rfl (.cons Aa (.cons Aa .nil)) rfl rfl (by decide) (by simp [Value.oneCell']) fun b4 hb4 nb4 => AW (i := 0) rfl hb4 .here fun F5 hF6 hz7 => ?_
   replace hr := hr.mono hF6
   replace hrd := hrd.mono hF6
   replace hc := hF6 _ _ hc
   replace hq := hF6 _ _ hq
   have hsl8 := Cp hz7
   refine AS rfl (Ay Df Aa AY (B2 _ _ hsl8) (fun _ _ h => h)) <| As (Ae 1) <| Ad Aa (by first | (rw [FQ]; simp only [Bool.and_eq_true] at hy; rw [hy.1, hy.2]; done) | (rw [FQ]; simp only [Bool.and_eq_true] at hy; rw [hy.1, hy.2]; rfl)) ?_
   by_cases hlh : ps[k].2.hi < ps[k].2.lo
   ·refine Aw (Ae 2) fun ds => Af rfl (Ah AA Aa (AM hq rfl)) <| Ao (Ae 2) <| Af rfl (Ah AA Aa (AM hq rfl)) <| As (Ae 2) <| Ag Aa (dT hlh) ?_
    rw [hea] at hy hlh
    refine AI (Ae 1) <| At <| A8 <| A1 <| Aq rfl Bf ?_
    show _ = _
    rw [CT hke, ednErr]; simp [outOf, hn2, ht2, hy, hlh]
   refine Aw (Ae 2) fun ds => Af rfl (Ah AA Aa (AM hq rfl)) <| Ao (Ae 2) <| Af rfl (Ah AA Aa (AM hq rfl)) <| As (Ae 2) <| Ad Aa (dF hlh) ?_
   by_cases hle : ps[k].2.rd.length = s.places.length
   ·refine Aw (Ae 1) fun ds => Af rfl (Ah Br Aa (AM hq rfl)) <| Af rfl (A6 A7 Aa hrd.plain) <| Ao (Ae 1) <| Af rfl (Ah Ef Aa (AM hc rfl)) <| Af rfl (A6 BO Aa hr.places.plain) <| As (Ae 2) <| Ad Aa (dF (by omega)) ?_
    by_cases hv : (ps[k].2.rd.any fun z => !(inB 0 3 z)) = true
    ·refine Aw (Ae 1) fun ds => Af rfl (Ah Br Aa (AM hq rfl)) <| AS rfl (Ay Df Aa AY (B2 _ _ hrd) (fun _ _ h => h)) <| As (Ae 1) <| Ag Aa hv ?_
     rw [hea] at hy hlh hle hv
     refine AI (Ae 1) <| At <| A8 <| A1 <| Aq rfl Bf ?_
     show _ = _
     rw [CT hke, ednErr]; simp [outOf, hn2, ht2, hy, hlh, hle, hv]
    replace hv : (ps[k].2.rd.any fun z => !(inB 0 3 z)) = false := by simpa using hv
    refine Aw (Ae 1) fun ds => Af rfl (Ah Br Aa (AM hq rfl)) <| AS rfl (Ay Df Aa AY (B2 _ _ hrd) (fun _ _ h => h)) <| As (Ae 1) <| Ad Aa hv ?_
    rw [hea] at hy hlh hle hv
    refine Aj <| Az <| Ab <| AI (Ae 1) <| At <| Aq rfl Bf ?_
    show _ = _
    rw [CT hke, ednErr]; simp [outOf, hn2, ht2, hy, hlh, hle, hv]
   refine Aw (Ae 1) fun ds => Af rfl (Ah Br Aa (AM hq rfl)) <| Af rfl (A6 A7 Aa hrd.plain) <| Ao (Ae 1) <| Af rfl (Ah Ef Aa (AM hc rfl)) <| Af rfl (A6 BO Aa hr.places.plain) <| As (Ae 2) <| Ag Aa (dT (by omega)) ?_
   rw [hea] at hy hlh hle
   refine AI (Ae 1) <| At <| A8 <| A1 <| Aq rfl Bf ?_
   show _ = _
   rw [CT hke, ednErr]; simp [outOf, hn2, ht2, hy, hlh, hle]
  replace hy : (inB 1450 1850 ps[k].2.lo && inB 1450 1850 ps[k].2.hi) = false := by simpa using hy
  refine Aw (Ae 2) fun ds => Af rfl (Ah AA Aa (AM hq rfl)) <| Ao (Ae 2) <| Af rfl (Ah AA Aa (AM hq rfl)) <| A3 rfl <| AU A7 B1 rfl (.cons Aa (.cons Aa .nil)) rfl rfl (by decide) (by simp [Value.oneCell']) fun b9 hb9 nb9 => AW (i := 0) rfl hb9 .here fun F10 hF11 hz12 => ?_
  have hsl13 := Cp hz12
  refine AS rfl (Ay Df Aa AY (B2 _ _ hsl13) (fun _ _ h => h)) <| As (Ae 1) <| Ag Aa (by rw [FQ]; rw [Bool.and_eq_false_iff] at hy; rcases hy with hy | hy <;> rw [hy] <;> simp) ?_
  rw [hea] at hy
  refine AI (Ae 1) <| At <| A8 <| A1 <| Aq rfl Bf ?_
  show _ = _
  rw [CT hke, ednErr]; simp [outOf, hn2, ht2, hy]
 replace hn : nameOk ps[k].2.name = false := by simpa using hn
 refine Ac <| Al fun ds => A3 rfl <| Bc Aa rfl fun b14 hb14 nb14 => As (Ae 1) <| Ac <| Ak <| Aw (Ae 2) fun ds => AS rfl (Ay JQ Aa AY (CX _) (fun _ _ h => h)) <| As (Ae 2) <| Ag Aa (by rw [hn]; rfl) ?_
 rw [hea] at hn
 refine AI (Ae 1) <| At <| A8 <| A1 <| Aq rfl Bf ?_
 show _ = _
 rw [CT hke]; simp [outOf, hn]
end
section
set_option maxRecDepth 100000
open Go.RowKit
theorem N4 : Body Tryz.prog 19 := AF (by kernel_rfl)
theorem W7 : Body Tryz.prog 123 := AF (by kernel_rfl)
theorem W6 : Body Tryz.prog 124 := AF (by kernel_rfl)
theorem W0 : Body Tryz.prog 127 := AF (by kernel_rfl)
theorem Wz : Body Tryz.prog 128 := AF (by kernel_rfl)
theorem Gy : Body Tryz.prog 20 := AF (by kernel_rfl)
theorem Ns {F : Heap} {vp ve : Value} {ps : List (Value × Edn)} {s : Stm} (hr : StmR F vp ve ps s) : Ok Tryz.prog 102 [.agg #[vp, ve]].toArray F fun r _ => r = checkTV s := by
 refine Ok.intro Tryz.func102 rfl Tryz.ntmps102 rfl fun w0 => ?_
 have hL1 := hr.places.plain.lt
 have hL2 := hr.eds.plain.lt
 by_cases h1 : inB 1 6 s.places.length = true
 ·refine Ac <| Al fun ds => A3 rfl <| Bc Aa rfl fun b1 hb1 nb1 => As (Ae 3) <| Ac <| Aw (Ae 2) fun ds => Af rfl (A6 BO Aa hr.places.plain) <| A3 rfl <| AU A7 B1 rfl (.cons Aa .nil) rfl rfl (by decide) (by simp [Value.oneCell']) fun b2 hb2 nb2 => AW (i := 0) rfl hb2 .here fun F3 hF4 hz5 => ?_
  replace hr := hr.mono hF4
  have hsl6 := Bk hz5
  refine AS rfl (Ay Df Aa AY (B2 _ _ hsl6) (fun _ _ h => h)) <| Am <| Ab <| Ad Aa (by simp [h1]) <| Aj <| Ab <| Ac <| AL (i := 0) rfl hb1 (.here) fun F7 hF8 hc1 => ?_
  replace hr := hr.mono hF8
  rcases Nk (n := s.places.length) (f := plcErr s) with h2 | ⟨i2, e2, h2, he2⟩
  ·refine Al fun ds => Ao (Ae 1) <| Af rfl (Ah Ef Aa (AM hc1 rfl)) <| Af rfl (Bu AY) <| AS rfl (Ay W7 Aa AY (Kk hr.places (plcErr s) W6 fun k hk _ => Nu hr hc1 hk) (fun _ _ h => h.trans (show Value.tuple #[.int .i64 (firstQ s.places.length (plcErr s)).1, .int .i64 (firstQ s.places.length (plcErr s)).2] = Value.tuple #[.int .i64 0, .int .i64 0] by rw [h2]))) <| As (Ae 5) <| Ac <| Ak <| AI (Ae 3) <| Ad Aa (by first | rfl | decide) ?_
   by_cases h3 : inB 1 5 s.editions.length = true
   ·refine Aw (Ae 1) fun ds => Af rfl (Ah B4 Aa (AM hc1 rfl)) <| Af rfl (A6 Bl Aa hr.eds.plain) <| A3 rfl <| AU A7 B1 rfl (.cons Aa .nil) rfl rfl (by decide) (by simp [Value.oneCell']) fun b9 hb9 nb9 => AW (i := 0) rfl hb9 .here fun F10 hF11 hz12 => ?_
    replace hr := hr.mono hF11
    replace hc1 := hF11 _ _ hc1
    have hsl13 := Bk hz12
    refine AS rfl (Ay Df Aa AY (B2 _ _ hsl13) (fun _ _ h => h)) <| As (Ae 1) <| Ad Aa (by simp [hr.len, h3]) ?_
    rcases Nk (n := s.editions.length) (f := edErr s) with h4 | ⟨i4, e4, h4, he4⟩
    ·refine Aj <| Az <| Ab <| Aw (Ae 1) fun ds => Af rfl (Ah B4 Aa (AM hc1 rfl)) <| Af rfl (Bu AY) <| AS rfl (Ay W0 Aa AY (Kl hr.eds hr.one (edErr s) Wz fun k hk _ => Nt hr hc1 hk) (fun _ _ h => h.trans (show Value.tuple #[.int .i64 (firstQ ps.length (edErr s)).1, .int .i64 (firstQ ps.length (edErr s)).2] = Value.tuple #[.int .i64 0, .int .i64 0] by rw [hr.len, h4]))) <| As (Ae 5) <| Ac <| AI (Ae 2) <| Ad Aa (by first | rfl | decide) <| Aj <| Ab <| AI (Ae 3) <| At <| Aq rfl Bf ?_
     exact (Qg h1 h2 h3 h4).symm
    refine Aj <| Az <| Ab <| Aw (Ae 1) fun ds => Af rfl (Ah B4 Aa (AM hc1 rfl)) <| Af rfl (Bu AY) <| AS rfl (Ay W0 Aa AY (Kl hr.eds hr.one (edErr s) Wz fun k hk _ => Nt hr hc1 hk) (fun _ _ h => h.trans (show Value.tuple #[.int .i64 (firstQ ps.length (edErr s)).1, .int .i64 (firstQ ps.length (edErr s)).2] = Value.tuple #[.int .i64 i4, .int .i64 e4] by rw [hr.len, h4]))) <| As (Ae 5) <| Ac <| AI (Ae 2) <| Ag Aa (dT he4) <| AI (Ae 5) <| At <| A1 <| Aq rfl Bf ?_
    exact (LX h1 h2 h3 h4 he4).symm
   replace h3 : inB 1 5 s.editions.length = false := by simpa using h3
   refine Aw (Ae 1) fun ds => Af rfl (Ah B4 Aa (AM hc1 rfl)) <| Af rfl (A6 Bl Aa hr.eds.plain) <| A3 rfl <| AU A7 B1 rfl (.cons Aa .nil) rfl rfl (by decide) (by simp [Value.oneCell']) fun b14 hb14 nb14 => AW (i := 0) rfl hb14 .here fun F15 hF16 hz17 => ?_
   replace hr := hr.mono hF16
   have hsl18 := Bk hz17
   refine AS rfl (Ay Df Aa AY (B2 _ _ hsl18) (fun _ _ h => h)) <| As (Ae 1) <| Ag Aa (by simp [hr.len, h3]) <| AI (Ae 3) <| At <| A8 <| A1 <| Aq rfl Bf ?_
   exact (Qe h1 h2 h3).symm
  refine Al fun ds => Ao (Ae 1) <| Af rfl (Ah Ef Aa (AM hc1 rfl)) <| Af rfl (Bu AY) <| AS rfl (Ay W7 Aa AY (Kk hr.places (plcErr s) W6 fun k hk _ => Nu hr hc1 hk) (fun _ _ h => h.trans (show Value.tuple #[.int .i64 (firstQ s.places.length (plcErr s)).1, .int .i64 (firstQ s.places.length (plcErr s)).2] = Value.tuple #[.int .i64 i2, .int .i64 e2] by rw [h2]))) <| As (Ae 5) <| Ac <| Ak <| AI (Ae 3) <| Ag Aa (dT he2) <| AI (Ae 5) <| At <| A8 <| A1 <| Aq rfl Bf ?_
  exact (LW h1 h2 he2).symm
 replace h1 : inB 1 6 s.places.length = false := by simpa using h1
 refine Ac <| Al fun ds => A3 rfl <| Bc Aa rfl fun b19 hb19 nb19 => As (Ae 3) <| Ac <| Aw (Ae 2) fun ds => Af rfl (A6 BO Aa hr.places.plain) <| A3 rfl <| AU A7 B1 rfl (.cons Aa .nil) rfl rfl (by decide) (by simp [Value.oneCell']) fun b20 hb20 nb20 => AW (i := 0) rfl hb20 .here fun F21 hF22 hz23 => ?_
 have hsl24 := Bk hz23
 refine AS rfl (Ay Df Aa AY (B2 _ _ hsl24) (fun _ _ h => h)) <| Am <| Ab <| Ag Aa (by simp [h1]) <| AI (Ae 3) <| At <| A1 <| Aq rfl Bf ?_
 exact (Qf h1).symm
theorem GV {F : Heap} {vp ve : Value} {ps : List (Value × Edn)} {s : Stm} (hr : StmR F vp ve ps s) {v : Value} {x : Edn} (hx : Ints F v x.rd) : Ok Tryz.prog 21 [.agg #[vp, ve], .agg #[.string x.name, .int .i64 x.lo, .int .i64 x.hi, v]].toArray F fun r _ => r = .int .i64 (ednErr s x) := by
 refine Ok.intro Tryz.func21 rfl Tryz.ntmps21 rfl fun w0 => ?_
 have hL1 := hr.places.plain.lt
 have hL2 := hx.plain.lt
 by_cases hrz : rangeE x.lo x.hi 1450 1850 = 0
 ·refine Ac <| Al fun ds => A3 rfl <| Bc Aa rfl fun b1 hb1 nb1 => A3 rfl <| Bc Aa rfl fun b2 hb2 nb2 => As (Ae 1) <| Aw (Ae 1) fun ds => Af rfl (AO (vs := [.int .i64 x.lo, .int .i64 x.hi]) Cg Aa rfl rfl (Fd 0 rfl rfl)) <| AS rfl (Ay N4 Aa AY (Fb _ _ _ _) (fun _ _ h => h)) <| As (Ae 1) <| Ac <| Aw (Ae 3) fun ds => Ap rfl rfl Aa (dT hrz) <| Ao (Ae 1) <| Ap rfl rfl Aa (dT hrz) <| Ao (Ae 1) <| Ap rfl rfl Aa (dT hrz) <| Af rfl (A6 A7 Aa hx.plain) <| Ap rfl rfl Aa (dT hrz) <| Ao (Ae 1) <| Ap rfl rfl Aa (dT hrz) <| Ao (Ae 1) <| Ap rfl rfl Aa (dT hrz) <| Af rfl (A6 BO Aa hr.places.plain) <| Ap rfl rfl Aa (dT hrz) <| Ao (Ae 1) <| Af rfl (Au Aa (dT hrz) Aa) <| Am <| Ab ?_
  by_cases hle : x.rd.length = s.places.length
  ·refine Ad Aa (dF (by omega)) <| Aj <| Ab <| Ac <| AI (Ae 1) <| Ak ?_
   refine AJ [5, 6, 21, 22, 23, 24, 25, 26, 27, 28, 29, 30, 31, 32, 33, 34, 35, 36, 37, 38] (fun m e σ => ∃ k : Nat, m + k = x.rd.length ∧ Fct e 6 (.int .i64 (k : Int)) ∧ Fct e 5 (.int .i64 (edTo s x k)) ∧ σ = ⟨F, [(b2, bx 59 [.string x.name, .int .i64 x.lo, .int .i64 x.hi, v]), (b1, bx 30 [vp, ve])]⟩) (x.rd.length) ?_ ?_
   · exact ⟨0, by omega, Bb, by rw [JK, show edZero s x = rangeE x.lo x.hi 1450 1850 by unfold edZero; rw [if_neg (fun h => h hrz), if_neg (fun h => h hle), hrz]]; exact Bb, rfl⟩
   rintro m e _ ⟨k, hm, ht6, ht5, rfl⟩
   by_cases hlt : k < x.rd.length
   ·refine Ac <| Aw (Ae 3) fun ds => Af rfl (A6 A7 Aa hx.plain) <| Ao (Ae 2) <| Ap rfl rfl Aa (by first | rfl | exact dT (by omega)) <| Ao (Ae 1) <| Ap rfl rfl Aa (by first | rfl | exact dT (by omega)) <| Ao (Ae 1) <| Af rfl (Au Aa (by first | rfl | exact dT (by omega)) Aa) <| Am <| Ab ?_
    by_cases hz : edTo s x k = 0
    ·refine Ag Aa (dT hz) ?_
     by_cases hv : inB 0 3 x.rd[k] = true
     ·refine Aj <| Ab <| Ac <| Ak <| Aw (Ae 3) fun ds => Af rfl (Ax  A7 Aa hx.plain Aa rfl hlt) <| Af rfl (Ah AA Aa (hx.cell1 hlt rfl)) <| AS rfl (Ay Gy Aa AY (E6 _ _ _) (fun _ _ h => h)) <| As (Ae 1) <| Ad Aa (by rw [hv]; rfl) <| Aj <| Az <| Ab <| Al fun ds => Ao (Ae 1) <| Af rfl (AE Aa Aa rfl (by omega) (by omega)) <| Ao (Ae 1) <| Am ?_
      refine Ab ⟨_, m - 1, Off.eq (B3 rfl <| Cw rfl <| BY rfl <| A2), by omega, ?_⟩
      exact ⟨k + 1, by omega, Bb, by rw [Ew hlt hz, hv]; rw [hz] at ht5; exact Bb, rfl⟩
     replace hv : inB 0 3 x.rd[k] = false := by simpa using hv
     refine Aj <| Ab <| Ac <| Ak <| Aw (Ae 3) fun ds => Af rfl (Ax  A7 Aa hx.plain Aa rfl hlt) <| Af rfl (Ah AA Aa (hx.cell1 hlt rfl)) <| AS rfl (Ay Gy Aa AY (E6 _ _ _) (fun _ _ h => h)) <| As (Ae 1) <| Ag Aa (by rw [hv]; rfl) <| Al fun ds => Ao (Ae 1) <| Am <| Az <| Ab <| Al fun ds => Ao (Ae 1) <| Af rfl (AE Aa Aa rfl (by omega) (by omega)) <| Ao (Ae 1) <| Am ?_
     refine Ab ⟨_, m - 1, Off.eq (B3 rfl <| Ci rfl <| A2), by omega, ?_⟩
     exact ⟨k + 1, by omega, Bb, by rw [Ew hlt hz, hv]; exact Bb, rfl⟩
    refine Ad Aa (dF hz) <| AC ?_
    refine A0 <| A0 <| A4 <| Ab <| AI (Ae 2) <| At <| Aq rfl Bf ?_
    show _ = _
    rw [← JL hz]; rfl
   refine Ac <| Aw (Ae 3) fun ds => Af rfl (A6 A7 Aa hx.plain) <| Ao (Ae 2) <| Ar rfl rfl Aa (.inl (congrArg Value.bool (by first | rfl | exact dF (by omega)))) rfl <| Ar rfl rfl Aa (.inl (congrArg Value.bool (by first | rfl | exact dF (by omega)))) rfl <| Af rfl (A5 Aa (by first | rfl | exact dF (by omega)) Aa) <| Am <| Ab <| Ad Aa rfl ?_
   obtain rfl : k = x.rd.length := by omega
   refine AC ?_
   refine A0 <| A0 <| A4 <| Ab <| AI (Ae 2) <| At <| Aq rfl Bf ?_
   show _ = _
   rw [← GK (Nat.le_refl _)]; rfl
  refine Ag Aa (dT (by omega)) <| Al fun ds => As (Ae 1) <| Ac <| AI (Ae 1) <| Ak ?_
  refine AJ [5, 6, 21, 22, 23, 24, 25, 26, 27, 28, 29, 30, 31, 32, 33, 34, 35, 36, 37, 38] (fun m e σ => ∃ k : Nat, m + k = x.rd.length ∧ Fct e 6 (.int .i64 (k : Int)) ∧ Fct e 5 (.int .i64 (edTo s x k)) ∧ σ = ⟨F, [(b2, bx 59 [.string x.name, .int .i64 x.lo, .int .i64 x.hi, v]), (b1, bx 30 [vp, ve])]⟩) (x.rd.length) ?_ ?_
  · exact ⟨0, by omega, Bb, by rw [JK, show edZero s x = 3 by unfold edZero; rw [if_neg (fun h => h hrz), if_pos hle]]; exact Bb, rfl⟩
  rintro m e _ ⟨k, hm, ht6, ht5, rfl⟩
  by_cases hlt : k < x.rd.length
  ·refine Ac <| Aw (Ae 3) fun ds => Af rfl (A6 A7 Aa hx.plain) <| Ao (Ae 2) <| Ap rfl rfl Aa (by first | rfl | exact dT (by omega)) <| Ao (Ae 1) <| Ap rfl rfl Aa (by first | rfl | exact dT (by omega)) <| Ao (Ae 1) <| Af rfl (Au Aa (by first | rfl | exact dT (by omega)) Aa) <| Am <| Ab ?_
   by_cases hz : edTo s x k = 0
   ·refine Ag Aa (dT hz) ?_
    by_cases hv : inB 0 3 x.rd[k] = true
    ·refine Aj <| Ab <| Ac <| Ak <| Aw (Ae 3) fun ds => Af rfl (Ax  A7 Aa hx.plain Aa rfl hlt) <| Af rfl (Ah AA Aa (hx.cell1 hlt rfl)) <| AS rfl (Ay Gy Aa AY (E6 _ _ _) (fun _ _ h => h)) <| As (Ae 1) <| Ad Aa (by rw [hv]; rfl) <| Aj <| Az <| Ab <| Al fun ds => Ao (Ae 1) <| Af rfl (AE Aa Aa rfl (by omega) (by omega)) <| Ao (Ae 1) <| Am ?_
     refine Ab ⟨_, m - 1, Off.eq (B3 rfl <| Cw rfl <| BY rfl <| A2), by omega, ?_⟩
     exact ⟨k + 1, by omega, Bb, by rw [Ew hlt hz, hv]; rw [hz] at ht5; exact Bb, rfl⟩
    replace hv : inB 0 3 x.rd[k] = false := by simpa using hv
    refine Aj <| Ab <| Ac <| Ak <| Aw (Ae 3) fun ds => Af rfl (Ax  A7 Aa hx.plain Aa rfl hlt) <| Af rfl (Ah AA Aa (hx.cell1 hlt rfl)) <| AS rfl (Ay Gy Aa AY (E6 _ _ _) (fun _ _ h => h)) <| As (Ae 1) <| Ag Aa (by rw [hv]; rfl) <| Al fun ds => Ao (Ae 1) <| Am <| Az <| Ab <| Al fun ds => Ao (Ae 1) <| Af rfl (AE Aa Aa rfl (by omega) (by omega)) <| Ao (Ae 1) <| Am ?_
    refine Ab ⟨_, m - 1, Off.eq (B3 rfl <| Ci rfl <| A2), by omega, ?_⟩
    exact ⟨k + 1, by omega, Bb, by rw [Ew hlt hz, hv]; exact Bb, rfl⟩
   refine Ad Aa (dF hz) <| AC ?_
   refine A0 <| A0 <| A4 <| Ab <| AI (Ae 2) <| At <| Aq rfl Bf ?_
   show _ = _
   rw [← JL hz]; rfl
  refine Ac <| Aw (Ae 3) fun ds => Af rfl (A6 A7 Aa hx.plain) <| Ao (Ae 2) <| Ar rfl rfl Aa (.inl (congrArg Value.bool (by first | rfl | exact dF (by omega)))) rfl <| Ar rfl rfl Aa (.inl (congrArg Value.bool (by first | rfl | exact dF (by omega)))) rfl <| Af rfl (A5 Aa (by first | rfl | exact dF (by omega)) Aa) <| Am <| Ab <| Ad Aa rfl ?_
  obtain rfl : k = x.rd.length := by omega
  refine AC ?_
  refine A0 <| A0 <| A4 <| Ab <| AI (Ae 2) <| At <| Aq rfl Bf ?_
  show _ = _
  rw [← GK (Nat.le_refl _)]; rfl
 refine Ac <| Al fun ds => A3 rfl <| Bc Aa rfl fun b5 hb5 nb5 => A3 rfl <| Bc Aa rfl fun b6 hb6 nb6 => As (Ae 1) <| Aw (Ae 1) fun ds => Af rfl (AO (vs := [.int .i64 x.lo, .int .i64 x.hi]) Cg Aa rfl rfl (Fd 0 rfl rfl)) <| AS rfl (Ay N4 Aa AY (Fb _ _ _ _) (fun _ _ h => h)) <| As (Ae 1) <| Ac <| Aw (Ae 3) fun ds => Ar rfl rfl Aa (.inl (congrArg Value.bool (dF hrz))) rfl <| Ar rfl rfl Aa (.inl (congrArg Value.bool (dF hrz))) rfl <| Ar rfl rfl Aa (.inl (congrArg Value.bool (dF hrz))) rfl <| Ar rfl rfl Aa (.inl (congrArg Value.bool (dF hrz))) rfl <| Ar rfl rfl Aa (.inl (congrArg Value.bool (dF hrz))) rfl <| Ar rfl rfl Aa (.inl (congrArg Value.bool (dF hrz))) rfl <| Ar rfl rfl Aa (.inl (congrArg Value.bool (dF hrz))) rfl <| Af rfl (A5 Aa (dF hrz) Aa) <| Am <| Ab <| Ad Aa rfl <| Aj <| Ab <| Ac <| AI (Ae 1) <| Ak ?_
 refine AJ [5, 6, 21, 22, 23, 24, 25, 26, 27, 28, 29, 30, 31, 32, 33, 34, 35, 36, 37, 38] (fun m e σ => ∃ k : Nat, m + k = x.rd.length ∧ Fct e 6 (.int .i64 (k : Int)) ∧ Fct e 5 (.int .i64 (edTo s x k)) ∧ σ = ⟨F, [(b6, bx 59 [.string x.name, .int .i64 x.lo, .int .i64 x.hi, v]), (b5, bx 30 [vp, ve])]⟩) (x.rd.length) ?_ ?_
 · exact ⟨0, by omega, Bb, by rw [JK, show edZero s x = rangeE x.lo x.hi 1450 1850 by unfold edZero; rw [if_pos hrz]]; exact Bb, rfl⟩
 rintro m e _ ⟨k, hm, ht6, ht5, rfl⟩
 by_cases hlt : k < x.rd.length
 ·refine Ac <| Aw (Ae 3) fun ds => Af rfl (A6 A7 Aa hx.plain) <| Ao (Ae 2) <| Ap rfl rfl Aa (by first | rfl | exact dT (by omega)) <| Ao (Ae 1) <| Ap rfl rfl Aa (by first | rfl | exact dT (by omega)) <| Ao (Ae 1) <| Af rfl (Au Aa (by first | rfl | exact dT (by omega)) Aa) <| Am <| Ab ?_
  by_cases hz : edTo s x k = 0
  ·refine Ag Aa (dT hz) ?_
   by_cases hv : inB 0 3 x.rd[k] = true
   ·refine Aj <| Ab <| Ac <| Ak <| Aw (Ae 3) fun ds => Af rfl (Ax  A7 Aa hx.plain Aa rfl hlt) <| Af rfl (Ah AA Aa (hx.cell1 hlt rfl)) <| AS rfl (Ay Gy Aa AY (E6 _ _ _) (fun _ _ h => h)) <| As (Ae 1) <| Ad Aa (by rw [hv]; rfl) <| Aj <| Az <| Ab <| Al fun ds => Ao (Ae 1) <| Af rfl (AE Aa Aa rfl (by omega) (by omega)) <| Ao (Ae 1) <| Am ?_
    refine Ab ⟨_, m - 1, Off.eq (B3 rfl <| Cw rfl <| BY rfl <| A2), by omega, ?_⟩
    exact ⟨k + 1, by omega, Bb, by rw [Ew hlt hz, hv]; rw [hz] at ht5; exact Bb, rfl⟩
   replace hv : inB 0 3 x.rd[k] = false := by simpa using hv
   refine Aj <| Ab <| Ac <| Ak <| Aw (Ae 3) fun ds => Af rfl (Ax  A7 Aa hx.plain Aa rfl hlt) <| Af rfl (Ah AA Aa (hx.cell1 hlt rfl)) <| AS rfl (Ay Gy Aa AY (E6 _ _ _) (fun _ _ h => h)) <| As (Ae 1) <| Ag Aa (by rw [hv]; rfl) <| Al fun ds => Ao (Ae 1) <| Am <| Az <| Ab <| Al fun ds => Ao (Ae 1) <| Af rfl (AE Aa Aa rfl (by omega) (by omega)) <| Ao (Ae 1) <| Am ?_
   refine Ab ⟨_, m - 1, Off.eq (B3 rfl <| Ci rfl <| A2), by omega, ?_⟩
   exact ⟨k + 1, by omega, Bb, by rw [Ew hlt hz, hv]; exact Bb, rfl⟩
  refine Ad Aa (dF hz) <| AC ?_
  refine A0 <| A0 <| A4 <| Ab <| AI (Ae 2) <| At <| Aq rfl Bf ?_
  show _ = _
  rw [← JL hz]; rfl
 refine Ac <| Aw (Ae 3) fun ds => Af rfl (A6 A7 Aa hx.plain) <| Ao (Ae 2) <| Ar rfl rfl Aa (.inl (congrArg Value.bool (by first | rfl | exact dF (by omega)))) rfl <| Ar rfl rfl Aa (.inl (congrArg Value.bool (by first | rfl | exact dF (by omega)))) rfl <| Af rfl (A5 Aa (by first | rfl | exact dF (by omega)) Aa) <| Am <| Ab <| Ad Aa rfl ?_
 obtain rfl : k = x.rd.length := by omega
 refine AC ?_
 refine A0 <| A0 <| A4 <| Ab <| AI (Ae 2) <| At <| Aq rfl Bf ?_
 show _ = _
 rw [← GK (Nat.le_refl _)]; rfl
end
end Go.Proofs.YtkjfmibiinfhfabGreat
