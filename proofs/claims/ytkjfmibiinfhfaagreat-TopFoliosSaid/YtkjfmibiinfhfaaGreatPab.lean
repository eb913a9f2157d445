/-
  A part of a proof: TopFolios returns true of any press, any room and whatever is shelved, and leaves what it is handed as it was.
-/
import Derived.Test.YtkjfmibiinfhfaaGreatPaa
import Derived.ProofKit
import Derived.SizedLaws
import Derived.Carry
import Derived.OpenVars
import Derived.WideShapes
import Derived.Deep.Slices
import Derived.WalkKit
import Derived.Laws.StructEq
import Derived.KernelRfl
import Derived.Maps.Keyed
import Derived.DeepKeys4
import Derived.Test.YtkjfmibiinfhfaaGreatRows
import Derived.OpenShut
import Derived.ShutString
import Derived.ChangeOld
import Derived.Below
namespace Go.Proofs.YtkjfmibiinfhfaaGreat
set_option synthInstance.maxSize 4000
set_option synthInstance.maxHeartbeats 1000000
section
open Go.RowKit
def heapOf (W : World) : Heap := fun b => W.heap[b]?
theorem Qw (W : World) : Sub (heapOf W) W := fun _ _ h => h
theorem Va {W : World} {a : Addr} {v : Value} (h : W.cell? a = some v) : CellF (heapOf W) a v := by
 have hs := World.cell?_spot h
 unfold World.cell? at h
 split at h
 · rename_i c T fr hb
   simp [hs] at h
   exact ⟨hs, c, T, fr, hb, by simpa using h⟩
 cases h
section
variable {H : Type} {enc : TypeId × Value → H} {P : Program} {W : World}
def Rd (enc : TypeId × Value → H) (P : Program) (W : World) (t : TypeId) (cs : List Value) : Prop :=
 ∃ fuel x, DataW.trod enc P W 0 (fun _ => true) true fuel t cs = some x ∧ ∀ n ∈ x.1.weights P t, n ≤ reachBytes
theorem TP {t : TypeId} {v : Value} {d : DataW H} {p : List MemPlace} (h : DataW.Trod enc P W 0 (fun _ => true) true t v d p) (hw : ∀ n ∈ d.weights P t, n ≤ reachBytes) : Rd enc P W t v.cells.toList := by
 obtain ⟨fuel, hf⟩ := h
 exact ⟨fuel, _, hf, hw⟩
theorem PU {t : TypeId} {k : IntKind} {cs : List Value} (ht : P.underlying t = some (.int k)) (h : Rd enc P W t cs) : ∃ z, cs = [.int k z] ∧ (Lit.int k z).wf = true := by
 obtain ⟨fuel, x, hf, -⟩ := h
 obtain ⟨z, h1, -, h2⟩ := DataW.trod_int ht hf
 exact ⟨z, h1, h2⟩
theorem rd_bool {t : TypeId} {cs : List Value} (ht : P.underlying t = some .bool) (h : Rd enc P W t cs) : ∃ b, cs = [.bool b] := by
 obtain ⟨fuel, x, hf, -⟩ := h
 obtain ⟨b, h1, -⟩ := DataW.trod_bool ht hf
 exact ⟨b, h1⟩
theorem Sy {t : TypeId} {cs : List Value} (ht : P.underlying t = some .string) (h : Rd enc P W t cs) : ∃ s, cs = [.string s] := by
 obtain ⟨fuel, x, hf, -⟩ := h
 obtain ⟨s, h1, -⟩ := DataW.trod_string ht hf
 exact ⟨s, h1⟩
theorem CI {t : TypeId} {fs : Array Field} {cs : List Value} (ht : P.underlying t = some (.struct fs)) (h : Rd enc P W t cs) :
   cs.length = P.cellsOf t ∧ ∀ (i : Nat) (f : Field), fs[i]? = some f → Rd enc P W f.type ((cs.drop f.offset).take (P.cellsOf f.type)) := by
 obtain ⟨fuel, x, hf, hw⟩ := h
 obtain ⟨xs, n, -, rfl, hl, hn, hx⟩ := DataW.trod_struct ht hf
 refine ⟨hl, fun i f hi => ?_⟩
 have h1 := hx i f hi
 have hi' : i < xs.length := by rw [hn]; exact (Array.getElem?_eq_some_iff.1 hi).1
 rw [List.getElem?_eq_getElem hi'] at h1
 refine ⟨n, xs[i], h1, fun q hq => hw q ?_⟩
 simp only [DataW.weights, ht]
 refine DataW.weights_mem_each (j := i) (t := f.type) (d := xs[i].1) ?_ ?_ q hq
 · rw [List.getElem?_map]; simp [hi]
 rw [List.getElem?_map]; simp [hi']
theorem BK {fs : Array Field} {cs : List Value} (hf : ∀ (i : Nat) (f : Field), fs[i]? = some f → Rd enc P W f.type ((cs.drop f.offset).take (P.cellsOf f.type))) (i : Nat) {t o s : Nat} (h : (fs[i]?).map (fun f => (f.type, f.offset)) = some (t, o)) (hs : P.cellsOf t = s) : Rd enc P W t ((cs.drop o).take s) := by
 rw [Option.map_eq_some_iff] at h
 obtain ⟨f, h1, h2⟩ := h
 cases h2
 rw [← hs]
 exact hf i f h1
theorem Eq {e : TypeId} : ∀ {ds : List (DataW H)} {d : DataW H}, d ∈ ds → ∀ n ∈ d.weights P e, n ∈ DataW.weightsAll P e ds
 | [], _, h, _, _ => nomatch h
 | d0 :: ds, d, h, n, hn => by
   simp only [DataW.weightsAll, List.mem_append]
   rcases List.mem_cons.1 h with rfl | h
   · exact .inl hn
   exact .inr (Eq h n hn)
theorem Rz {α : Type} {p : Nat → α → Prop} : ∀ n, (∀ i, i < n → ∃ x, p i x) → ∃ xs : List α, xs.length = n ∧ ∀ i (hi : i < xs.length), p i xs[i]
 | 0, _ => ⟨[], rfl, fun i hi => absurd hi (by simp)⟩
 | n + 1, h => by
   obtain ⟨xs, h1, h2⟩ := Rz n fun i hi => h i (by omega)
   obtain ⟨x, hx⟩ := h n (by omega)
   refine ⟨xs ++ [x], by simp [h1], fun i hi => ?_⟩
   by_cases hin : i < xs.length
   · rw [List.getElem_append_left hin]; exact h2 i hin
   have : i = n := by simp at hi; omega
   subst this
   rw [List.getElem_append_right (by omega)]
   simpa [h1] using hx
theorem Dd {α : Type} {p : α → Prop} {t e s : Nat} {v : Value} {encA : α → List Value} (ht : P.underlying t = some (.slice e)) (hc : P.cellsOf e = s) (hs : 0 < s) (hb : 0 < P.bytesOf e) (hlen : ∀ x, (encA x).length = s)
   (dec : ∀ cs, Rd enc P W e cs → ∃ x : α, cs = encA x ∧ p x) (h : Rd enc P W t [v]) : ∃ xs : List α, Sl (heapOf W) v s encA xs ∧ ∀ x ∈ xs, p x := by
 obtain ⟨fuel, x, hf, hw⟩ := h
 rcases Deep.open_slice ht hf with ⟨hcs, -⟩ | ⟨a, len, cap, m, n, D, Pl, hcs, -, hl, -, hm, rfl, hel⟩
 · cases hcs
   exact ⟨[], Sl.nil, by simp⟩
 cases hcs
 simp only [if_true] at hm
 subst hm
 have hcap : m ≤ reachBytes := by
   have h1 := hw ((((List.range len).map D).length + ((List.range (m - len)).map fun j => D (len + j)).length) * P.bytesOf e) (by simp only [DataW.weights, ht]; exact List.mem_cons_self)
   simp only [List.length_map, List.length_range] at h1
   have : len + (m - len) = m := by omega
   rw [this] at h1
   exact Nat.le_trans (Nat.le_mul_of_pos_right _ hb) h1
 have hr : reachBytes < 281474976710656 := by decide
 have hwt : ∀ i, i < m → ∀ q ∈ (D i).weights P e, q ≤ reachBytes := by
   intro i hi q hq
   refine hw q ?_
   simp only [DataW.weights, ht, List.mem_cons, List.mem_append]
   by_cases hil : i < len
   · exact .inr (.inl (Eq (List.mem_map_of_mem (List.mem_range.2 hil)) q hq))
   refine .inr (.inr (Eq (d := D i) ?_ q hq))
   rw [List.mem_map]
   exact ⟨i - len, List.mem_range.2 (by omega), by rw [show len + (i - len) = i by omega]⟩
 rw [hc] at hel
 have hspot : 0 < m → a.spot = none := by
   intro h0
   obtain ⟨cs', h1, h2⟩ := hel 0 h0
   obtain ⟨-, h3, h4⟩ := World.cells?_some h1
   have h5 := h4 0 (by omega)
   rw [List.getElem?_eq_getElem (by omega)] at h5
   have h6 := World.cell?_spot h5
   simpa [Addr.add] using h6
 obtain ⟨xs, hx1, hx2⟩ := Rz (p := fun i (x : α) => p x ∧ ∀ j u, (encA x)[j]? = some u → CellF (heapOf W) (addc (base (.slice (some a) len m)) (i * s + j)) u) len fun i hi => by
   obtain ⟨cs', h1, h2⟩ := hel i (by omega)
   obtain ⟨x, rfl, hp⟩ := dec cs' ⟨n, _, h2, hwt i (by omega)⟩
   refine ⟨x, hp, fun j u hj => ?_⟩
   obtain ⟨-, h3, h4⟩ := World.cells?_some h1
   have hjs : j < s := by rw [← hlen x]; exact (List.getElem?_eq_some_iff.1 hj).1
   have h5 := h4 j hjs
   rw [hj] at h5
   have hsp := hspot (by omega)
   rw [C1 hsp, C1 (a := addc a (i * s)) rfl, E5] at h5
   exact Va h5
 refine ⟨xs, ⟨⟨some a, m, by rw [hx1], fun h0 y hy => by cases hy; exact hspot h0, (fun h => nomatch h), by omega, by omega⟩, fun i hi j u hu => (hx2 i hi).2 j u hu⟩, fun x hx => ?_⟩
 obtain ⟨i, hi, rfl⟩ := List.getElem_of_mem hx
 exact (hx2 i hi).1
theorem Vk {w w' : World} {F F' : Heap} (h : Grow w F [] w' F') : Below w.heap.size w w' := ⟨h.os, h.tape, h.output, h.size, fun k hk => h.old k hk (by simp)⟩
theorem Ok.law {f : FuncId} {args : Array Value} {u : Value} (h : Ok P f args (heapOf W) fun v _ => v = u) : Calls P f args W fun e w' => e = .returned u ∧ Below W.heap.size W w' := by
 refine (h W (Qw W) (by simp) (by simp [keys])).mono fun e w' hq => ?_
 obtain ⟨v, F', H', rfl, hg, -, -, rfl⟩ := hq
 exact ⟨rfl, Vk hg⟩
end
end
section
open Go
def letterB (c : UInt8) : Bool := decide (97 ≤ (c.toNat : Int)) && decide ((c.toNat : Int) ≤ 122)
def digitB (c : UInt8) : Bool := decide (48 ≤ (c.toNat : Int)) && decide ((c.toNat : Int) ≤ 57)
def chOk (i : Nat) (c : UInt8) : Bool := letterB c || (decide (i ≠ 0) && (digitB c || decide ((c.toNat : Int) = 46)))
def nameOk (s : ByteArray) : Bool := decide (0 < s.size ∧ s.size ≤ 16 ∧ ∀ i (h : i < s.size), chOk i s[i] = true)
theorem JQ {s : ByteArray} (h1 : 0 < s.size) (h2 : s.size ≤ 16) (h3 : ∀ i (h : i < s.size), chOk i s[i] = true) : nameOk s = true := dT ⟨h1, h2, h3⟩
theorem FF {s : ByteArray} (h : ¬ (0 < s.size ∧ s.size ≤ 16)) : nameOk s = false := dF fun ⟨a, b, _⟩ => h ⟨a, b⟩
theorem CC {s : ByteArray} {i : Nat} (h : i < s.size) (hc : chOk i s[i] = false) : nameOk s = false := dF fun ⟨_, _, a⟩ => by rw [a i h] at hc; cases hc
theorem CN (s : ByteArray) : s.toList = s.data.toList := ByteArray.toList_eq s
theorem Gr {s : ByteArray} : (s.toList == (ByteArray.mk #[]).toList) = decide (s.size = 0) := by
 rw [Bool.eq_iff_iff, decide_eq_true_iff, beq_iff_eq, CN, CN]
 constructor
 · intro h
   have : s.data.toList.length = 0 := by rw [h]; rfl
   simpa using this
 intro h
 have : s.data.toList.length = 0 := by simpa using h
 rw [List.eq_nil_of_length_eq_zero this]
def sameS (a b : ByteArray) : Bool := a.toList == b.toList
def freshE (wd : ByteArray) (xs : List ByteArray) : Int := if nameOk wd = false then 6 else if xs.any (fun x => sameS x wd) = true then 5 else 0
def rangeE (a b lo hi : Int) : Int := if min a b < lo ∨ hi < max a b then 7 else if b < a then 2 else 0
def inB (lo hi z : Int) : Bool := decide (lo ≤ z) && decide (z ≤ hi)
def firstBad (n : Nat) (f : Nat → Int) : Option Nat := (List.range n).find? fun i => decide (f i ≠ 0)
theorem Dv {n k : Nat} {f : Nat → Int} (hk : k < n) (h : f k ≠ 0) (hb : ∀ j, j < k → f j = 0) : firstBad n f = some k := by
 unfold firstBad
 rw [List.find?_range_eq_some]
 exact ⟨by simpa using h, by simpa using hk, fun j hj => by simpa using hb j hj⟩
theorem Dw {n : Nat} {f : Nat → Int} (hb : ∀ j, j < n → f j = 0) : firstBad n f = none := by
 unfold firstBad
 rw [List.find?_range_eq_none]
 intro j hj
 simpa using hb j hj
def findI {α : Type} (p : α → Bool) (xs : List α) : Int := match xs.findIdx? p with | some i => (i : Int) | none => -1
theorem DV {α : Type} {p : α → Bool} {xs : List α} {k : Nat} (hk : k < xs.length) (h : p xs[k] = true) (hb : ∀ j (hj : j < xs.length), j < k → p xs[j] = false) : findI p xs = k := by
 unfold findI
 have : xs.findIdx? p = some k := by
   rw [List.findIdx?_eq_some_iff_getElem]
   exact ⟨hk, h, fun j hj => by simpa using hb j (by omega) hj⟩
 rw [this]
theorem EH {α : Type} {p : α → Bool} {xs : List α} (hb : ∀ j (hj : j < xs.length), p xs[j] = false) : findI p xs = -1 := by
 unfold findI
 have : xs.findIdx? p = none := by
   rw [List.findIdx?_eq_none_iff]
   intro x hx
   obtain ⟨j, hj, rfl⟩ := List.mem_iff_getElem.1 hx
   exact hb j hj
 rw [this]
theorem E4 {α : Type} {p : α → Bool} {xs : List α} : decide (0 ≤ findI p xs) = xs.any p := by
 unfold findI
 cases h : xs.findIdx? p with
 | none =>
   have := List.findIdx?_eq_none_iff.1 h
   have : xs.any p = false := by simpa using this
   rw [this]; rfl
 | some i =>
   obtain ⟨hi, hp, -⟩ := List.findIdx?_eq_some_iff_getElem.1 h
   have : xs.any p = true := List.any_eq_true.2 ⟨_, List.getElem_mem hi, hp⟩
   rw [this]; simp
end
section
structure Book where
 name : ByteArray
 cls : Int
 lo : Int
 hi : Int
 large : Bool
structure Rdr where
 name : ByteArray
 permit : Int
structure Seat where
 light : Int
 small : Bool
structure Req where
 reader : Int
 book : Int
 hours : Int
 worth : Int
structure Room where
 books : List Book
 readers : List Rdr
 seats : List Seat
 reqs : List Req
@[reducible] def Book.enc (b : Book) : List Value := [.string b.name, .int .i64 b.cls, .int .i64 b.lo, .int .i64 b.hi, .bool b.large]
@[reducible] def Rdr.enc (b : Rdr) : List Value := [.string b.name, .int .i64 b.permit]
@[reducible] def Seat.enc (b : Seat) : List Value := [.int .i64 b.light, .bool b.small]
@[reducible] def Req.enc (b : Req) : List Value := [.int .i64 b.reader, .int .i64 b.book, .int .i64 b.hours, .int .i64 b.worth]
theorem Book.enc_one {b : Book} : ∀ u ∈ b.enc, u.oneCell' = true := by simp [Book.enc, Value.oneCell']
theorem Rdr.enc_one {b : Rdr} : ∀ u ∈ b.enc, u.oneCell' = true := by simp [Rdr.enc, Value.oneCell']
theorem Seat.enc_one {b : Seat} : ∀ u ∈ b.enc, u.oneCell' = true := by simp [Seat.enc, Value.oneCell']
theorem Req.enc_one {b : Req} : ∀ u ∈ b.enc, u.oneCell' = true := by simp [Req.enc, Value.oneCell']
structure RoomR (F : Heap) (vb vr vs vq : Value) (r : Room) : Prop where
 books : Sl F vb 5 Book.enc r.books
 readers : Sl F vr 2 Rdr.enc r.readers
 seats : Sl F vs 2 Seat.enc r.seats
 reqs : Sl F vq 4 Req.enc r.reqs
theorem RoomR.mono {F F' : Heap} {vb vr vs vq : Value} {r : Room} (h : RoomR F vb vr vs vq r) (hF : F.le F') : RoomR F' vb vr vs vq r :=
 ⟨h.books.mono hF, h.readers.mono hF, h.seats.mono hF, h.reqs.mono hF⟩
def bookErr (bs : List Book) (i : Nat) : Int := match bs[i]? with
 | none => 0
 | some b => if nameOk b.name = false then 6 else if (bs.take i).any (fun x => sameS x.name b.name) = true then 5
   else if (inB 0 5 b.cls && (inB 0 1000 b.lo && inB 0 1000 b.hi)) = false then 7 else if b.hi < b.lo then 2 else 0
def rdrErr (bs : List Rdr) (i : Nat) : Int := match bs[i]? with
 | none => 0
 | some b => if nameOk b.name = false then 6 else if (bs.take i).any (fun x => sameS x.name b.name) = true then 5
   else if inB 0 5 b.permit = false then 7 else 0
def seatErr (ss : List Seat) (i : Nat) : Int := match ss[i]? with
 | none => 0
 | some s => if inB 0 100 s.light = false then 7 else 0
def reqErr (r : Room) (i : Nat) : Int := match r.reqs[i]? with
 | none => 0
 | some q => if (inB 0 (r.readers.length - 1) q.reader && inB 0 (r.books.length - 1) q.book) = false then 4
   else if (inB 1 12 q.hours && inB 0 100 q.worth) = false then 7 else 0
def checkBooks (bs : List Book) : Option (Int × Int) := if 8 < bs.length then some (0, 3) else (firstBad bs.length (bookErr bs)).map fun (i : Nat) => ((i : Int), bookErr bs i)
def checkRdrs (bs : List Rdr) : Option (Int × Int) := if 8 < bs.length then some (0, 3) else (firstBad bs.length (rdrErr bs)).map fun (i : Nat) => ((i : Int), rdrErr bs i)
def checkSeats (ss : List Seat) : Option (Int × Int) := if 6 < ss.length then some (0, 3) else (firstBad ss.length (seatErr ss)).map fun (i : Nat) => ((i : Int), seatErr ss i)
def checkReqs (r : Room) : Option (Int × Int) := if 8 < r.reqs.length then some (0, 3) else (firstBad r.reqs.length (reqErr r)).map fun (i : Nat) => ((i : Int), reqErr r i)
def check (r : Room) : Int × Int × Int :=
 match checkBooks r.books with
 | some (i, e) => (1, i, e)
 | none => match checkRdrs r.readers with
   | some (i, e) => (2, i, e)
   | none => match checkSeats r.seats with
     | some (i, e) => (3, i, e)
     | none => match checkReqs r with
       | some (i, e) => (4, i, e)
       | none => (0, 0, 0)
@[reducible] def checkV (r : Room) : Value := .tuple #[.int .i64 (check r).1, .int .i64 (check r).2.1, .int .i64 (check r).2.2]
theorem Cz {bs : List Book} {k : Nat} (hk : k < bs.length) : bookErr bs k = if nameOk bs[k].name = false then 6 else if (bs.take k).any (fun x => sameS x.name bs[k].name) = true then 5
   else if (inB 0 5 bs[k].cls && (inB 0 1000 bs[k].lo && inB 0 1000 bs[k].hi)) = false then 7 else if bs[k].hi < bs[k].lo then 2 else 0 := by
 unfold bookErr; rw [List.getElem?_eq_getElem hk]
theorem DO {bs : List Rdr} {k : Nat} (hk : k < bs.length) : rdrErr bs k = if nameOk bs[k].name = false then 6 else if (bs.take k).any (fun x => sameS x.name bs[k].name) = true then 5
   else if inB 0 5 bs[k].permit = false then 7 else 0 := by
 unfold rdrErr; rw [List.getElem?_eq_getElem hk]
theorem E8 {bs : List Seat} {k : Nat} (hk : k < bs.length) : seatErr bs k = if inB 0 100 bs[k].light = false then 7 else 0 := by
 unfold seatErr; rw [List.getElem?_eq_getElem hk]
theorem CH {r : Room} {k : Nat} (hk : k < r.reqs.length) : reqErr r k = if (inB 0 (r.readers.length - 1) r.reqs[k].reader && inB 0 (r.books.length - 1) r.reqs[k].book) = false then 4
   else if (inB 1 12 r.reqs[k].hours && inB 0 100 r.reqs[k].worth) = false then 7 else 0 := by
 unfold reqErr; rw [List.getElem?_eq_getElem hk]
theorem FV {bs : List Book} (h : 8 < bs.length) : checkBooks bs = some (0, 3) := if_pos h
theorem Ck {bs : List Book} {k : Nat} {e : Int} (h : ¬ 8 < bs.length) (hk : k < bs.length) (hb : ∀ j, j < k → bookErr bs j = 0) (he : bookErr bs k = e) (hne : e ≠ 0) : checkBooks bs = some ((k : Int), e) := by
 unfold checkBooks; rw [if_neg h, Dv hk (by rw [he]; exact hne) hb]; simp [he]
theorem He {bs : List Book} (h : ¬ 8 < bs.length) (hb : ∀ j, j < bs.length → bookErr bs j = 0) : checkBooks bs = none := by
 unfold checkBooks; rw [if_neg h, Dw hb]; rfl
theorem Gw {bs : List Rdr} (h : 8 < bs.length) : checkRdrs bs = some (0, 3) := if_pos h
theorem Dy {bs : List Rdr} {k : Nat} {e : Int} (h : ¬ 8 < bs.length) (hk : k < bs.length) (hb : ∀ j, j < k → rdrErr bs j = 0) (he : rdrErr bs k = e) (hne : e ≠ 0) : checkRdrs bs = some ((k : Int), e) := by
 unfold checkRdrs; rw [if_neg h, Dv hk (by rw [he]; exact hne) hb]; simp [he]
theorem HS {bs : List Rdr} (h : ¬ 8 < bs.length) (hb : ∀ j, j < bs.length → rdrErr bs j = 0) : checkRdrs bs = none := by
 unfold checkRdrs; rw [if_neg h, Dw hb]; rfl
theorem FU {bs : List Seat} (h : 6 < bs.length) : checkSeats bs = some (0, 3) := if_pos h
theorem Gu {bs : List Seat} {k : Nat} {e : Int} (h : ¬ 6 < bs.length) (hk : k < bs.length) (hb : ∀ j, j < k → seatErr bs j = 0) (he : seatErr bs k = e) (hne : e ≠ 0) : checkSeats bs = some ((k : Int), e) := by
 unfold checkSeats; rw [if_neg h, Dv hk (by rw [he]; exact hne) hb]; simp [he]
theorem Hd {bs : List Seat} (h : ¬ 6 < bs.length) (hb : ∀ j, j < bs.length → seatErr bs j = 0) : checkSeats bs = none := by
 unfold checkSeats; rw [if_neg h, Dw hb]; rfl
theorem Gv {r : Room} (h : 8 < r.reqs.length) : checkReqs r = some (0, 3) := if_pos h
theorem Cu {r : Room} {k : Nat} {e : Int} (h : ¬ 8 < r.reqs.length) (hk : k < r.reqs.length) (hb : ∀ j, j < k → reqErr r j = 0) (he : reqErr r k = e) (hne : e ≠ 0) : checkReqs r = some ((k : Int), e) := by
 unfold checkReqs; rw [if_neg h, Dv hk (by rw [he]; exact hne) hb]; simp [he]
theorem HR {r : Room} (h : ¬ 8 < r.reqs.length) (hb : ∀ j, j < r.reqs.length → reqErr r j = 0) : checkReqs r = none := by
 unfold checkReqs; rw [if_neg h, Dw hb]; rfl
theorem FL {r : Room} {i e : Int} (h : checkBooks r.books = some (i, e)) : checkV r = .tuple #[.int .i64 1, .int .i64 i, .int .i64 e] := by unfold checkV check; rw [h]
theorem HQ {r : Room} {i e : Int} (h1 : checkBooks r.books = none) (h : checkRdrs r.readers = some (i, e)) : checkV r = .tuple #[.int .i64 2, .int .i64 i, .int .i64 e] := by unfold checkV check; rw [h1, h]
theorem K0 {r : Room} {i e : Int} (h1 : checkBooks r.books = none) (h2 : checkRdrs r.readers = none) (h : checkSeats r.seats = some (i, e)) : checkV r = .tuple #[.int .i64 3, .int .i64 i, .int .i64 e] := by unfold checkV check; rw [h1, h2, h]
theorem Ed {r : Room} {i e : Int} (h1 : checkBooks r.books = none) (h2 : checkRdrs r.readers = none) (h3 : checkSeats r.seats = none) (h : checkReqs r = some (i, e)) : checkV r = .tuple #[.int .i64 4, .int .i64 i, .int .i64 e] := by unfold checkV check; rw [h1, h2, h3, h]
theorem RL {r : Room} (h1 : checkBooks r.books = none) (h2 : checkRdrs r.readers = none) (h3 : checkSeats r.seats = none) (h : checkReqs r = none) : checkV r = .tuple #[.int .i64 0, .int .i64 0, .int .i64 0] := by unfold checkV check; rw [h1, h2, h3, h]
def optV (o : Option (Int × Int)) : Value := match o with | some (i, e) => .tuple #[.int .i64 i, .int .i64 e] | none => .tuple #[.int .i64 0, .int .i64 0]
def bnames (bs : List Book) (k : Nat) : List ByteArray := (bs.take k).map (·.name)
def rnames (bs : List Rdr) (k : Nat) : List ByteArray := (bs.take k).map (·.name)
theorem Md {bs : List Book} {k : Nat} (h : k ≤ bs.length) : (bnames bs k).length = k := by simp [bnames]; omega
theorem LY {bs : List Rdr} {k : Nat} (h : k ≤ bs.length) : (rnames bs k).length = k := by simp [rnames]; omega
theorem Ka {bs : List Book} {k : Nat} (h : k < bs.length) : bnames bs (k + 1) = bnames bs k ++ [bs[k].name] := by
 unfold bnames; rw [List.take_succ_eq_append_getElem h, List.map_append]; rfl
theorem JM {bs : List Rdr} {k : Nat} (h : k < bs.length) : rnames bs (k + 1) = rnames bs k ++ [bs[k].name] := by
 unfold rnames; rw [List.take_succ_eq_append_getElem h, List.map_append]; rfl
theorem Mc {bs : List Book} {k : Nat} (hk : k < bs.length) (h : freshE bs[k].name (bnames bs k) ≠ 0) : bookErr bs k = freshE bs[k].name (bnames bs k) := by
 rw [Cz hk]
 simp only [freshE, bnames, List.any_map, Function.comp_def] at h ⊢
 split
 · rfl
 split
 · rfl
 rename_i h1 h2; rw [if_neg h1, if_neg h2] at h; exact absurd rfl h
theorem FN {bs : List Book} {k : Nat} (hk : k < bs.length) (h : freshE bs[k].name (bnames bs k) = 0) : bookErr bs k = if inB 0 5 bs[k].cls = false then 7 else rangeE bs[k].lo bs[k].hi 0 1000 := by
 rw [Cz hk]
 simp only [freshE, bnames, List.any_map, Function.comp_def] at h
 split at h
 · cases h
 rename_i h1
 split at h
 · cases h
 rename_i h2
 rw [if_neg h1, if_neg h2]
 cases hc : inB 0 5 bs[k].cls with
 | false => simp
 | true =>
   simp only [Bool.true_and, Bool.true_eq_false, if_false]
   unfold rangeE inB
   by_cases h3 : min bs[k].lo bs[k].hi < 0 ∨ 1000 < max bs[k].lo bs[k].hi
   · rw [if_pos h3, if_pos (by simp; omega)]
   rw [if_neg h3, if_neg (by simp; omega)]
theorem Nh {bs : List Rdr} {k : Nat} (hk : k < bs.length) (h : freshE bs[k].name (rnames bs k) ≠ 0) : rdrErr bs k = freshE bs[k].name (rnames bs k) := by
 rw [DO hk]
 simp only [freshE, rnames, List.any_map, Function.comp_def] at h ⊢
 split
 · rfl
 split
 · rfl
 rename_i h1 h2; rw [if_neg h1, if_neg h2] at h; exact absurd rfl h
theorem JO {bs : List Rdr} {k : Nat} (hk : k < bs.length) (h : freshE bs[k].name (rnames bs k) = 0) : rdrErr bs k = if inB 0 5 bs[k].permit = false then 7 else 0 := by
 rw [DO hk]
 simp only [freshE, rnames, List.any_map, Function.comp_def] at h
 split at h
 · cases h
 rename_i h1
 split at h
 · cases h
 rename_i h2
 rw [if_neg h1, if_neg h2]
def Room.req (r : Room) (i : Nat) : Req := r.reqs[i]?.getD ⟨0, 0, 0, 0⟩
def Room.bk (r : Room) (i : Nat) : Book := r.books[i]?.getD ⟨ByteArray.empty, 0, 0, 0, false⟩
def Room.rd (r : Room) (i : Nat) : Rdr := r.readers[i]?.getD ⟨ByteArray.empty, 0⟩
def Room.seat (r : Room) (i : Nat) : Seat := r.seats[i]?.getD ⟨0, false⟩
theorem KQ {r : Room} {i : Nat} (h : i < r.reqs.length) : r.reqs[i] = r.req i := by simp [Room.req, h]
theorem MP {r : Room} {i : Nat} (h : i < r.books.length) : r.books[i] = r.bk i := by simp [Room.bk, h]
theorem rd_at {r : Room} {i : Nat} (h : i < r.readers.length) : r.readers[i] = r.rd i := by simp [Room.rd, h]
theorem Nc {r : Room} {i : Nat} (h : i < r.seats.length) : r.seats[i] = r.seat i := by simp [Room.seat, h]
def Room.reader (r : Room) (i : Nat) : Nat := (r.req i).reader.toNat
def Room.book (r : Room) (i : Nat) : Nat := (r.req i).book.toNat
structure Valid (r : Room) : Prop where
 nb : r.books.length ≤ 8
 nr : r.readers.length ≤ 8
 ns : r.seats.length ≤ 6
 nq : r.reqs.length ≤ 8
 rq : ∀ i, i < r.reqs.length → 0 ≤ (r.req i).reader ∧ (r.req i).reader < r.readers.length ∧ 0 ≤ (r.req i).book ∧ (r.req i).book < r.books.length ∧ 1 ≤ (r.req i).hours ∧ (r.req i).hours ≤ 12 ∧ 0 ≤ (r.req i).worth ∧ (r.req i).worth ≤ 100
 st : ∀ i, i < r.seats.length → 0 ≤ (r.seat i).light ∧ (r.seat i).light ≤ 100
 bo : ∀ i, i < r.books.length → 0 ≤ (r.bk i).lo ∧ (r.bk i).lo ≤ (r.bk i).hi ∧ (r.bk i).hi ≤ 1000 ∧ 0 ≤ (r.bk i).cls ∧ (r.bk i).cls ≤ 5
 rd : ∀ i, i < r.readers.length → 0 ≤ (r.rd i).permit ∧ (r.rd i).permit ≤ 5
theorem CA {n : Nat} {f : Nat → Int} (h : firstBad n f = none) : ∀ j, j < n → f j = 0 := by
 unfold firstBad at h
 rw [List.find?_range_eq_none] at h
 intro j hj
 simpa using h j hj
theorem HU {bs : List Book} {i e : Int} (h : checkBooks bs = some (i, e)) : e ≠ 0 := by
 unfold checkBooks at h
 split at h
 · simp at h; omega
 cases hf : firstBad bs.length (bookErr bs) with
 | none => rw [hf] at h; simp at h
 | some k =>
   rw [hf] at h; simp at h
   have := List.find?_some hf
   rw [← h.2]; simpa using this
theorem JZ {bs : List Rdr} {i e : Int} (h : checkRdrs bs = some (i, e)) : e ≠ 0 := by
 unfold checkRdrs at h
 split at h
 · simp at h; omega
 cases hf : firstBad bs.length (rdrErr bs) with
 | none => rw [hf] at h; simp at h
 | some k =>
   rw [hf] at h; simp at h
   have := List.find?_some hf
   rw [← h.2]; simpa using this
theorem ND {bs : List Seat} {i e : Int} (h : checkSeats bs = some (i, e)) : e ≠ 0 := by
 unfold checkSeats at h
 split at h
 · simp at h; omega
 cases hf : firstBad bs.length (seatErr bs) with
 | none => rw [hf] at h; simp at h
 | some k =>
   rw [hf] at h; simp at h
   have := List.find?_some hf
   rw [← h.2]; simpa using this
theorem Py {r : Room} {i e : Int} (h : checkReqs r = some (i, e)) : e ≠ 0 := by
 unfold checkReqs at h
 split at h
 · simp at h; omega
 cases hf : firstBad r.reqs.length (reqErr r) with
 | none => rw [hf] at h; simp at h
 | some k =>
   rw [hf] at h; simp at h
   have := List.find?_some hf
   rw [← h.2]; simpa using this
theorem QC {r : Room} (h : (check r).2.2 = 0) : checkBooks r.books = none ∧ checkRdrs r.readers = none ∧ checkSeats r.seats = none ∧ checkReqs r = none := by
 unfold check at h
 cases hb : checkBooks r.books with
 | some p => obtain ⟨i, e⟩ := p; rw [hb] at h; exact absurd h (HU hb)
 | none =>
   cases hr : checkRdrs r.readers with
   | some p => obtain ⟨i, e⟩ := p; rw [hb, hr] at h; exact absurd h (JZ hr)
   | none =>
     cases hs : checkSeats r.seats with
     | some p => obtain ⟨i, e⟩ := p; rw [hb, hr, hs] at h; exact absurd h (ND hs)
     | none =>
       cases hq : checkReqs r with
       | some p => obtain ⟨i, e⟩ := p; rw [hb, hr, hs, hq] at h; exact absurd h (Py hq)
       | none => exact ⟨rfl, rfl, rfl, rfl⟩
theorem DE {r : Room} (h : (check r).2.2 = 0) : Valid r := by
 obtain ⟨hb, hr, hs, hq⟩ := QC h
 unfold checkBooks at hb
 unfold checkRdrs at hr
 unfold checkSeats at hs
 unfold checkReqs at hq
 split at hb
 · cases hb
 rename_i nb
 split at hr
 · cases hr
 rename_i nr
 split at hs
 · cases hs
 rename_i ns
 split at hq
 · cases hq
 rename_i nq
 simp only [Option.map_eq_none_iff] at hb hr hs hq
 replace hb := CA hb
 replace hr := CA hr
 replace hs := CA hs
 replace hq := CA hq
 refine ⟨by omega, by omega, by omega, by omega, fun i hi => ?_, fun i hi => ?_, fun i hi => ?_, fun i hi => ?_⟩
 · have := hq i hi
   rw [CH hi, KQ hi] at this
   split at this
   · cases this
   split at this
   · cases this
   rename_i h1 h2
   simp [inB] at h1 h2
   omega
 · have := hs i hi
   rw [E8 hi, Nc hi] at this
   split at this
   · cases this
   rename_i h1; simp [inB] at h1; omega
 · have := hb i hi
   rw [Cz hi, MP hi] at this
   split at this
   · cases this
   split at this
   · cases this
   split at this
   · cases this
   split at this
   · cases this
   rename_i h1 h2 h3 h4; simp [inB] at h3; omega
 have := hr i hi
 rw [DO hi, rd_at hi] at this
 split at this
 · cases this
 split at this
 · cases this
 split at this
 · cases this
 rename_i h1 h2 h3; simp [inB] at h3; omega
def light (r : Room) (i s : Nat) : Int := (r.req i).hours * (r.seat s).light
def reason (r : Room) (i s : Nat) : Int :=
 if (r.rd (r.reader i)).permit < (r.bk (r.book i)).cls then 1
 else if (r.bk (r.book i)).large = true ∧ (r.seat s).small = true then 2
 else if (r.bk (r.book i)).lo < light r i s then 3 else 0
theorem Ei {r : Room} (hv : Valid r) {i s : Nat} (hi : i < r.reqs.length) (hs : s < r.seats.length) : 0 ≤ light r i s ∧ light r i s ≤ 1200 := by
 have h1 := hv.rq i hi
 have h2 := hv.st s hs
 unfold light
 constructor
 · exact Int.mul_nonneg (by omega) h2.1
 have : (r.req i).hours * (r.seat s).light ≤ 12 * 100 := Int.mul_le_mul h1.2.2.2.2.2.1 h2.2 h2.1 (by omega)
 omega
@[reducible] def natE (n : Nat) : List Value := [.int .i64 (n : Int)]
abbrev Nats (F : Heap) (v : Value) (l : List Nat) : Prop := Sl F v 1 natE l
theorem Ints.nats {F : Heap} {v : Value} {xs : List Int} (h : Ints F v xs) (h0 : ∀ x ∈ xs, 0 ≤ x) : Nats F v (xs.map Int.toNat) := by
 refine ⟨by simpa using h.plain, fun i hi j u hu => ?_⟩
 have hi' : i < xs.length := by simpa using hi
 refine h.cells i hi' j u ?_
 simp only [List.getElem_map, natE, intE] at hu ⊢
 rwa [Int.toNat_of_nonneg (h0 _ (List.getElem_mem hi'))] at hu
theorem Nats.ints {F : Heap} {v : Value} {l : List Nat} (h : Nats F v l) : Ints F v (l.map fun (n : Nat) => (n : Int)) := by
 refine ⟨by simpa using h.plain, fun i hi j u hu => ?_⟩
 have hi' : i < l.length := by simpa using hi
 refine h.cells i hi' j u ?_
 simpa [natE, intE] using hu
def notAsc (xs : List Int) : Bool := (List.range xs.length).any fun i => decide (0 < i ∧ xs[i]?.getD 0 ≤ xs[i - 1]?.getD 0)
theorem My {xs : List Int} {i : Nat} (h0 : 0 < i) (h : i < xs.length) (hle : xs[i] ≤ xs[i - 1]) : notAsc xs = true := by
 unfold notAsc
 rw [List.any_eq_true]
 refine ⟨i, by simpa using h, ?_⟩
 have : i - 1 < xs.length := by omega
 simp [h, this, h0, hle]
theorem VG {xs : List Int} (h : ∀ i (hi : i < xs.length), 0 < i → ¬ xs[i] ≤ xs[i - 1]) : notAsc xs = false := by
 unfold notAsc
 rw [List.any_eq_false]
 intro i hi
 simp only [List.mem_range] at hi
 by_cases h0 : 0 < i
 · have := h i hi h0
   have h1 : i - 1 < xs.length := by omega
   simp [hi, h1, h0]; omega
 simp [h0]
def someErr (r : Room) (xs : List Int) : Int :=
 if (check r).2.2 ≠ 0 then (check r).2.2
 else if (xs.any fun z => !(inB 0 (r.reqs.length - 1) z)) = true then 4
 else if notAsc xs = true then 2 else 0
theorem PA {xs : List Int} {lo hi : Int} (h : ∀ j (hj : j < xs.length), inB lo hi xs[j] = true) : (xs.any fun z => !(inB lo hi z)) = false := by
 rw [List.any_eq_false]
 intro z hz
 obtain ⟨j, hj, rfl⟩ := List.mem_iff_getElem.1 hz
 simp [h j hj]
end
section
theorem Valid.book {r : Room} (hv : Valid r) {i : Nat} (hi : i < r.reqs.length) : r.reqs[i].book = (r.book i : Int) ∧ r.book i < r.books.length := by
 have := hv.rq i hi
 rw [KQ hi]
 unfold Room.book
 omega
theorem Valid.reader {r : Room} (hv : Valid r) {i : Nat} (hi : i < r.reqs.length) : r.reqs[i].reader = (r.reader i : Int) ∧ r.reader i < r.readers.length := by
 have := hv.rq i hi
 rw [KQ hi]
 unfold Room.reader
 omega
theorem NY {r : Room} {xs : List Int} (h : (check r).2.2 ≠ 0) : someErr r xs = (check r).2.2 := if_pos h
theorem Oa {r : Room} {xs : List Int} (h0 : (check r).2.2 = 0) (h : (xs.any fun z => !(inB 0 (r.reqs.length - 1) z)) = true) : someErr r xs = 4 := by
 unfold someErr; rw [if_neg (by simpa using h0), if_pos h]
theorem NZ {r : Room} {xs : List Int} {i : Nat} (h0 : (check r).2.2 = 0) (ha : (xs.any fun z => !(inB 0 (r.reqs.length - 1) z)) = false) (hp : 0 < i) (hi : i < xs.length) (hle : xs[i] ≤ xs[i - 1]) : someErr r xs = 2 := by
 unfold someErr; rw [if_neg (by simpa using h0), if_neg (by rw [ha]; simp), if_pos (My hp hi hle)]
theorem PN {r : Room} {xs : List Int} (h0 : (check r).2.2 = 0) (ha : (xs.any fun z => !(inB 0 (r.reqs.length - 1) z)) = false) (h : ∀ i (hi : i < xs.length), 0 < i → ¬ xs[i] ≤ xs[i - 1]) : someErr r xs = 0 := by
 unfold someErr; rw [if_neg (by simpa using h0), if_neg (by rw [ha]; simp), if_neg (by rw [VG h]; simp)]
theorem BB {r : Room} : someErr r [] = (check r).2.2 := by
 unfold someErr
 split
 · rfl
 rename_i h
 have : notAsc [] = false := rfl
 rw [this]
 simp at h ⊢
 exact h.symm
def whyE (r : Room) (i s : Int) : Int × Int :=
 if (check r).2.2 ≠ 0 then (0, (check r).2.2) else if (inB 0 (r.reqs.length - 1) i && inB 0 (r.seats.length - 1) s) = false then (0, 4) else (reason r i.toNat s.toNat, 0)
@[reducible] def pairV (p : Int × Int) : Go.Value := .tuple #[.int .i64 p.1, .int .i64 p.2]
theorem GJ {n : Nat} {i : Int} (h : inB 0 (n - 1) i = true) : ∃ k : Nat, i = k ∧ k < n := by
 simp [inB] at h
 obtain ⟨k, rfl⟩ := Int.eq_ofNat_of_zero_le h.1
 exact ⟨k, rfl, by omega⟩
end
section
def Two (r : Room) (a b : Nat) : Prop := r.reader a ≠ r.reader b ∧ r.book a ≠ r.book b
instance {r : Room} : DecidableRel (Two r) := fun _ _ => inferInstanceAs (Decidable (_ ∧ _))
def Apart (r : Room) (l : List Nat) : Prop := l.Pairwise (Two r)
instance {r : Room} {l : List Nat} : Decidable (Apart r l) := inferInstanceAs (Decidable (List.Pairwise _ _))
theorem Two.symm {r : Room} {a b : Nat} (h : Two r a b) : Two r b a := ⟨fun e => h.1 e.symm, fun e => h.2 e.symm⟩
theorem Ts {r : Room} {l : List Nat} : Apart r l ↔ ∀ i k (hi : i < l.length) (hk : k < i), Two r l[i] (l[k]'(by omega)) := by
 unfold Apart
 rw [List.pairwise_iff_getElem]
 exact ⟨fun h i k hi hk => (h k i (by omega) hi hk).symm, fun h i j hi hj hij => (h j i hj hij).symm⟩
def step (r : Room) (q : Nat) (taken : List Nat) (sub : List Nat → Option (List Nat × Int)) (best : Option (List Nat × Int)) (s : Nat) : Option (List Nat × Int) :=
 if s ∈ taken ∨ reason r q s ≠ 0 then best
 else match sub (taken ++ [s]) with
   | none => best
   | some (l, n) => match best with
     | none => some (s :: l, n + light r q s)
     | some (_, m) => if n + light r q s < m then some (s :: l, n + light r q s) else best
def giveR (r : Room) : List Nat → List Nat → Option (List Nat × Int)
 | [], _ => some ([], 0)
 | q :: rest, taken => (List.range r.seats.length).foldl (step r q taken (giveR r rest)) none
def allR (r : Room) (l : List Nat) : Option (List Nat × Int) := if Apart r l then giveR r l [] else none
theorem N4 {r : Room} {xs : List Int} (h : someErr r xs = 0) : ∃ l : List Nat, xs = l.map (fun (n : Nat) => (n : Int)) ∧ (∀ i ∈ l, i < r.reqs.length) ∧ l.Pairwise (· < ·) := by
 unfold someErr at h
 split at h
 · rename_i h0; exact absurd h h0
 split at h
 · cases h
 rename_i h1
 split at h
 · cases h
 rename_i h2
 have hin : ∀ x ∈ xs, 0 ≤ x ∧ x < r.reqs.length := by
   intro x hx
   have : ¬ (!(inB 0 (r.reqs.length - 1) x)) = true := fun hb => h1 (List.any_eq_true.2 ⟨x, hx, hb⟩)
   simp [inB] at this
   omega
 refine ⟨xs.map Int.toNat, ?_, ?_, ?_⟩
 · rw [List.map_map]
   symm
   conv => rhs; rw [← List.map_id xs]
   apply List.map_congr_left
   intro x hx
   have := hin x hx
   simp only [Function.comp, id]
   omega
 · intro i hi
   obtain ⟨x, hx, rfl⟩ := List.mem_map.1 hi
   have := hin x hx
   omega
 have hstep : ∀ i (hi : i < xs.length), 0 < i → xs[i - 1] < xs[i] := by
   intro i hi h0
   by_cases hle : xs[i] ≤ xs[i - 1]
   · exact absurd (My h0 hi hle) h2
   omega
 rw [List.pairwise_iff_getElem]
 have key : ∀ d i (hi : i + d + 1 < xs.length), xs[i]'(by omega) < xs[i + d + 1] := by
   intro d
   induction d with
   | zero => intro i hi; have := hstep (i + 1) hi (by omega); simpa using this
   | succ d ih =>
     intro i hi
     have h1 := ih i (by omega)
     have h2 := hstep (i + (d + 1) + 1) hi (by omega)
     simp only [Nat.add_sub_cancel] at h2
     have e : i + (d + 1) = i + d + 1 := by omega
     simp only [e] at h2 ⊢
     omega
 intro i j hi hj hij
 simp only [List.length_map] at hi hj
 simp only [List.getElem_map]
 obtain ⟨d, rfl⟩ : ∃ d, j = i + d + 1 := ⟨j - i - 1, by omega⟩
 have := key d i hj
 have h0 := hin _ (List.getElem_mem hi)
 omega
theorem DY {r : Room} {xs : List Int} (h : someErr r xs = 0) : Valid r := by
 unfold someErr at h
 split at h
 · rename_i h0; exact absurd h h0
 rename_i h0; exact DE (by simpa using h0)
theorem Dn {α : Type} {f : α → Nat → α} {b : α} {k : Nat} : (List.range (k + 1)).foldl f b = f ((List.range k).foldl f b) k := by
 rw [List.range_succ, List.foldl_append]; rfl
def GoodGive (r : Room) (l : List Nat) (o : Option (List Nat × Int)) : Prop := ∀ s n, o = some (s, n) → s.length = l.length ∧ 0 ≤ n ∧ n ≤ 1200 * l.length ∧ ∀ x ∈ s, x < r.seats.length
theorem SO {r : Room} (hv : Valid r) {q k : Nat} {rest taken : List Nat} (hq : q < r.reqs.length) (hk : k < r.seats.length) {sub : List Nat → Option (List Nat × Int)} (hs : ∀ t, GoodGive r rest (sub t)) {best : Option (List Nat × Int)} (hb : GoodGive r (q :: rest) best) : GoodGive r (q :: rest) (step r q taken sub best k) := by
 unfold step
 split
 · exact hb
 have hl := Ei hv hq hk
 cases h1 : sub (taken ++ [k]) with
 | none => exact hb
 | some p =>
   obtain ⟨l, n⟩ := p
   obtain ⟨a1, a2, a3, a4⟩ := hs _ l n h1
   have hnew : GoodGive r (q :: rest) (some (k :: l, n + light r q k)) := by
     intro s m hsm
     simp only [Option.some.injEq, Prod.mk.injEq] at hsm
     obtain ⟨rfl, rfl⟩ := hsm
     refine ⟨by simp [a1], by omega, by simp only [List.length_cons]; omega, fun x hx => ?_⟩
     rcases List.mem_cons.1 hx with rfl | hx
     · exact hk
     exact a4 x hx
   cases best with
   | none => exact hnew
   | some b =>
     obtain ⟨lb, m⟩ := b
     simp only
     split
     · exact hnew
     exact hb
theorem M9 {r : Room} (hv : Valid r) {q : Nat} {rest taken : List Nat} (hq : q < r.reqs.length) {sub : List Nat → Option (List Nat × Int)} (hs : ∀ t, GoodGive r rest (sub t)) : ∀ k, k ≤ r.seats.length → GoodGive r (q :: rest) ((List.range k).foldl (step r q taken sub) none)
 | 0, _ => fun s n h => nomatch h
 | k + 1, hk => by rw [Dn]; exact SO hv hq (by omega) hs (M9 hv hq hs k (by omega))
theorem M8 {r : Room} (hv : Valid r) : ∀ (l : List Nat), (∀ i ∈ l, i < r.reqs.length) → ∀ taken, GoodGive r l (giveR r l taken)
 | [], _ => fun _ s n h => by
   simp only [giveR, Option.some.injEq, Prod.mk.injEq] at h
   obtain ⟨rfl, rfl⟩ := h
   exact ⟨rfl, by omega, by simp, by simp⟩
 | q :: rest, hl => fun taken => M9 hv (hl q (by simp)) (M8 hv rest fun i hi => hl i (List.mem_cons_of_mem _ hi)) _ (Nat.le_refl _)
end
section
def cutoff (best : Option (List Nat × Int)) (sum : Int) : Bool := match best with | some (_, L) => decide (L ≤ sum) | none => false
def tryS (r : Room) (q : Nat) (pre : List Nat) (sum : Int) (sub : List Nat → Int → Option (List Nat × Int) → Option (List Nat × Int)) (best : Option (List Nat × Int)) (s : Nat) : Option (List Nat × Int) :=
 if s ∈ pre ∨ reason r q s ≠ 0 then best else sub (pre ++ [s]) (sum + light r q s) best
def search (r : Room) : List Nat → List Nat → Int → Option (List Nat × Int) → Option (List Nat × Int)
 | [], pre, sum, best => if cutoff best sum = true then best else some (pre, sum)
 | q :: rest, pre, sum, best => if cutoff best sum = true then best else (List.range r.seats.length).foldl (tryS r q pre sum (search r rest)) best
def better (best o : Option (List Nat × Int)) (pre : List Nat) (sum : Int) : Option (List Nat × Int) := match o with
 | none => best
 | some (l, n) => match best with
   | none => some (pre ++ l, sum + n)
   | some (lb, L) => if sum + n < L then some (pre ++ l, sum + n) else some (lb, L)
theorem Mp {r : Room} (hv : Valid r) : ∀ (rem : List Nat), (∀ i ∈ rem, i < r.reqs.length) → ∀ pre sum best, search r rem pre sum best = better best (giveR r rem pre) pre sum
 | [], _ => fun pre sum best => by
   unfold search giveR better cutoff
   cases best with
   | none => simp
   | some p =>
     obtain ⟨lb, L⟩ := p
     simp only [List.append_nil, Int.add_zero, decide_eq_true_eq]
     by_cases h : L ≤ sum
     · rw [if_pos h, if_neg (by omega)]
     rw [if_neg h, if_pos (by omega)]
 | q :: rest, hl => fun pre sum best => by
   have hq := hl q (by simp)
   have hrest : ∀ i ∈ rest, i < r.reqs.length := fun i hi => hl i (List.mem_cons_of_mem _ hi)
   have IH := Mp hv rest hrest
   have hgood := M8 hv (q :: rest) hl pre
   unfold search
   by_cases hc : cutoff best sum = true
   · rw [if_pos hc]
     cases best with
     | none => simp [cutoff] at hc
     | some p =>
       obtain ⟨lb, L⟩ := p
       simp only [cutoff, decide_eq_true_eq] at hc
       unfold better
       cases ho : giveR r (q :: rest) pre with
       | none => rfl
       | some o =>
         obtain ⟨l, n⟩ := o
         have := (hgood l n ho).2.1
         simp only
         rw [if_neg (by omega)]
   rw [if_neg hc]
   show _ = better best ((List.range r.seats.length).foldl (step r q pre (giveR r rest)) none) pre sum
   have key : ∀ k, k ≤ r.seats.length → (List.range k).foldl (tryS r q pre sum (search r rest)) best = better best ((List.range k).foldl (step r q pre (giveR r rest)) none) pre sum := by
     intro k
     induction k with
     | zero => intro _; rfl
     | succ k ih =>
       intro hk
       rw [Dn, Dn, ih (by omega)]
       generalize (List.range k).foldl (step r q pre (giveR r rest)) none = o
       unfold tryS step
       by_cases hs : k ∈ pre ∨ reason r q k ≠ 0
       · rw [if_pos hs, if_pos hs]
       rw [if_neg hs, if_neg hs, IH]
       cases hg : giveR r rest (pre ++ [k]) with
       | none => rfl
       | some p =>
         obtain ⟨l, n⟩ := p
         have e1 : pre ++ [k] ++ l = pre ++ k :: l := by simp
         have e2 : sum + light r q k + n = sum + (n + light r q k) := by omega
         cases o with
         | none =>
           simp only [better]
           cases best with
           | none => simp only [e1, e2]
           | some b => obtain ⟨lb, L⟩ := b; simp only [e1, e2]
         | some o =>
           obtain ⟨lo, m⟩ := o
           cases best with
           | none =>
             simp only [better]
             by_cases h1 : n + light r q k < m
             · rw [if_pos h1, if_pos (by omega)]; simp only [e1, e2]
             rw [if_neg h1, if_neg (by omega)]
           | some b =>
             obtain ⟨lb, L⟩ := b
             simp only [better]
             by_cases h0 : sum + m < L
             · rw [if_pos h0]
               by_cases h1 : n + light r q k < m
               · rw [if_pos h1]; simp only; rw [if_pos (by omega), if_pos (by omega)]; simp only [e1, e2]
               rw [if_neg h1]; simp only; rw [if_neg (by omega), if_pos h0]
             rw [if_neg h0]
             by_cases h1 : n + light r q k < m
             · rw [if_pos h1]; simp only
               by_cases h2 : sum + light r q k + n < L
               · rw [if_pos h2, if_pos (by omega)]; simp only [e1, e2]
               rw [if_neg h2, if_neg (by omega)]
             rw [if_neg h1]; simp only; rw [if_neg (by omega), if_neg h0]
   exact key _ (Nat.le_refl _)
theorem Og {r : Room} (hv : Valid r) {l : List Nat} (hl : ∀ i ∈ l, i < r.reqs.length) : search r l [] 0 none = giveR r l [] := by
 rw [Mp hv l hl]
 unfold better
 cases giveR r l [] with
 | none => rfl
 | some p => obtain ⟨a, b⟩ := p; simp
end
section
open Go.RowKit
theorem Qp {r : Room} {i s : Nat} (h : r.reqs.length ≤ i) : light r i s = 0 := by
 simp [light, Room.req, List.getElem?_eq_none h]
theorem Qo {r : Room} {i s : Nat} (h : r.seats.length ≤ s) : light r i s = 0 := by
 simp [light, Room.seat, List.getElem?_eq_none h]
def lightsAt (r : Room) (i k : Nat) : List Value := (List.range 48).map fun n => .int .i64 (if n / 6 < i ∨ n / 6 = i ∧ n % 6 < k then light r (n / 6) (n % 6) else 0)
def lights (r : Room) : List Value := (List.range 48).map fun n => .int .i64 (light r (n / 6) (n % 6))
theorem FS {r : Room} {i k : Nat} : (lightsAt r i k).length = 48 := by simp [lightsAt]
theorem CV {r : Room} : (lights r).length = 48 := by simp [lights]
theorem LZ {r : Room} : lightsAt r 0 0 = List.replicate 48 (.int .i64 0) := by
 unfold lightsAt
 apply List.ext_getElem
 · simp
 intro n h1 h2
 rw [List.getElem_replicate]
 simp only [List.getElem_map]
 rw [if_neg (by omega)]
theorem Nw {r : Room} {i k : Nat} (h : r.seats.length ≤ k) : lightsAt r i k = lightsAt r (i + 1) 0 := by
 unfold lightsAt
 apply List.map_congr_left
 intro n _
 by_cases h1 : n / 6 < i
 · rw [if_pos (.inl h1), if_pos (.inl (by omega))]
 by_cases h2 : n / 6 = i
 · rw [if_pos (show n / 6 < i + 1 ∨ n / 6 = i + 1 ∧ n % 6 < 0 from .inl (by omega))]
   by_cases h3 : n % 6 < k
   · rw [if_pos (.inr ⟨h2, h3⟩)]
   rw [if_neg (by omega), Qo (by omega)]
 rw [if_neg (by omega), if_neg (by omega)]
theorem Nx {r : Room} {i : Nat} (h : r.reqs.length ≤ i) : lightsAt r i 0 = lights r := by
 unfold lightsAt lights
 apply List.map_congr_left
 intro n _
 by_cases h1 : n / 6 < i
 · rw [if_pos (.inl h1)]
 rw [if_neg (by omega), Qp (by omega)]
theorem Nv {r : Room} {i k : Nat} (_hi : i < 8) (hk : k < 6) : (lightsAt r i k).set (i * 6 + k) (.int .i64 (light r i k)) = lightsAt r i (k + 1) := by
 unfold lightsAt
 apply List.ext_getElem
 · simp
 intro n h1 h2
 rw [List.getElem_set]
 simp only [List.getElem_map, List.getElem_range]
 by_cases hn : i * 6 + k = n
 · subst hn
   rw [if_pos rfl]
   have e1 : (i * 6 + k) / 6 = i := by omega
   have e2 : (i * 6 + k) % 6 = k := by omega
   rw [e1, e2, if_pos (.inr ⟨rfl, by omega⟩)]
 rw [if_neg hn]
 congr 1
 by_cases h3 : n / 6 < i ∨ n / 6 = i ∧ n % 6 < k
 · rw [if_pos h3, if_pos (by omega)]
 rw [if_neg h3, if_neg (by omega)]
theorem Qn {r : Room} {i s : Nat} (hi : i < 8) (hs : s < 6) : (lights r)[i * 6 + s]? = some (.int .i64 (light r i s)) := by
 unfold lights
 rw [List.getElem?_map, List.getElem?_range (by omega)]
 have e1 : (i * 6 + s) / 6 = i := by omega
 have e2 : (i * 6 + s) % 6 = s := by omega
 simp [e1, e2]
def roomCells (vb vr vs vq : Value) (ls : List Value) (vl : Value) : List Value := vb :: vr :: vs :: vq :: (ls ++ [vl])
theorem Fh {vb vr vs vq vl : Value} {ls : List Value} (h : ls.length = 48) : (roomCells vb vr vs vq ls vl).length = 53 := by simp [roomCells, h]
theorem LW {vb vr vs vq vl : Value} {r : Room} {i k : Nat} (hi : i < 8) (hk : k < 6) : (roomCells vb vr vs vq (lightsAt r i k) vl).set (0 + 4 + i * 6 + k * 1) (.int .i64 (light r i k)) = roomCells vb vr vs vq (lightsAt r i (k + 1)) vl := by
 have : 0 + 4 + i * 6 + k * 1 = (i * 6 + k) + 1 + 1 + 1 + 1 := by omega
 unfold roomCells
 rw [this]
 simp only [List.set_cons_succ]
 rw [List.set_append_left (i * 6 + k) _ (by rw [FS]; omega), Nv hi hk]
theorem LX {vb vr vs vq vl u : Value} {r : Room} : (roomCells vb vr vs vq (lights r) vl).set (0 + 52) u = roomCells vb vr vs vq (lights r) u := by
 unfold roomCells
 rw [show 0 + 52 = 48 + 1 + 1 + 1 + 1 from rfl]
 simp only [List.set_cons_succ]
 rw [List.set_append_right _ _ (by rw [CV]; omega), CV]
 rfl
@[reducible] def ruleE (p : Int × Value) : List Value := [.int .i64 p.1, p.2]
theorem E3 {p : Int × Value} (h : p.2.oneCell' = true) : ∀ u ∈ ruleE p, u.oneCell' = true := by
 intro u hu
 simp only [ruleE, List.mem_cons, List.not_mem_nil, or_false] at hu
 rcases hu with rfl | rfl
 · rfl
 exact h
abbrev ptr (b : Nat) : Value := .pointer (some ⟨b, 0, none⟩)
structure Num where
 room : Nat
 rdroom : Nat
 rule : Nat
 fbook : Nat
 proom : Nat
 l1 : Nat
 l2 : Nat
 l3 : Nat
 l4 : Nat
def bookFn (N : Num) (c1 : Nat) : Value := .func (.func N.l1) #[] #[ptr c1]
def ruleFns (N : Num) (c1 c8 c3 : Nat) : List (Int × Value) := [(1, .func (.func N.l2) #[] #[ptr c8, ptr c1]), (2, .func (.func N.l3) #[] #[ptr c8, ptr c1]), (3, .func (.func N.l4) #[] #[ptr c3, ptr c8])]
structure RoomX (N : Num) (F : Heap) (b c1 c8 c3 : Nat) (vb vr vs vq vl : Value) (r : Room) : Prop where
 room : RoomR F vb vr vs vq r
 blk : F b = some (bx N.room (roomCells vb vr vs vq (lights r) vl))
 box : F c1 = some (bx N.rdroom [vb, vr, vs, vq])
 bk : F c8 = some (bx N.fbook [bookFn N c1])
 me : F c3 = some (bx N.proom [ptr b])
 rules : Sl F vl 2 ruleE (ruleFns N c1 c8 c3)
theorem RoomX.mono {N : Num} {F F' : Heap} {b c1 c8 c3 : Nat} {vb vr vs vq vl : Value} {r : Room} (h : RoomX N F b c1 c8 c3 vb vr vs vq vl r) (hF : F.le F') : RoomX N F' b c1 c8 c3 vb vr vs vq vl r :=
 ⟨h.room.mono hF, hF _ _ h.blk, hF _ _ h.box, hF _ _ h.bk, hF _ _ h.me, h.rules.mono hF⟩
theorem RoomX.rule_cell {N : Num} {F : Heap} {b c1 c8 c3 : Nat} {vb vr vs vq vl : Value} {r : Room} (h : RoomX N F b c1 c8 c3 vb vr vs vq vl r) : CellF F ⟨b, 52, none⟩ vl :=
 CellF.own h.blk (by
   unfold roomCells
   simp only [List.getElem?_cons_succ]
   rw [List.getElem?_append_right (by rw [CV]; omega), CV]; rfl)
theorem RoomX.light_cell {N : Num} {F : Heap} {b c1 c8 c3 : Nat} {vb vr vs vq vl : Value} {r : Room} (h : RoomX N F b c1 c8 c3 vb vr vs vq vl r) {i s : Nat} (hi : i < 8) (hs : s < 6) : CellF F ⟨b, 0 + 4 + i * 6 + s * 1, none⟩ (.int .i64 (light r i s)) :=
 CellF.own h.blk (by
   have : 0 + 4 + i * 6 + s * 1 = (i * 6 + s) + 1 + 1 + 1 + 1 := by omega
   rw [this]
   unfold roomCells
   simp only [List.getElem?_cons_succ]
   rw [List.getElem?_append_left (by rw [CV]; omega)]
   exact Qn hi hs)
def Looked (N : Num) (F : Heap) (p : Value) (r : Room) : Prop := ∃ b c1 c8 c3 vb vr vs vq vl, p = ptr b ∧ RoomX N F b c1 c8 c3 vb vr vs vq vl r
theorem Looked.mono {N : Num} {F F' : Heap} {p : Value} {r : Room} (h : Looked N F p r) (hF : F.le F') : Looked N F' p r := by
 obtain ⟨b, c1, c8, c3, vb, vr, vs, vq, vl, hp, hX⟩ := h
 exact ⟨b, c1, c8, c3, vb, vr, vs, vq, vl, hp, hX.mono hF⟩
theorem Sx {N : Num} {F : Heap} {b T c1 c8 c3 : Nat} (h : F b = some (bx T [.int .i64 1, .func (.func N.l2) #[] #[ptr c8, ptr c1], .int .i64 2, .func (.func N.l3) #[] #[ptr c8, ptr c1], .int .i64 3, .func (.func N.l4) #[] #[ptr c3, ptr c8]])) :
   Sl F (.slice (some ⟨b, 0, none⟩) 3 3) 2 ruleE (ruleFns N c1 c8 c3) :=
 Sl.box h rfl (by omega) (by omega) fun i hi j u hu => by
   match i, hi, j, hu with
   | 0, _, 0, hu => exact hu
   | 0, _, 1, hu => exact hu
   | 1, _, 0, hu => exact hu
   | 1, _, 1, hu => exact hu
   | 2, _, 0, hu => exact hu
   | 2, _, 1, hu => exact hu
   | 0, _, j + 2, hu => simp [ruleE] at hu
   | 1, _, j + 2, hu => simp [ruleE] at hu
   | 2, _, j + 2, hu => simp [ruleE] at hu
end
section
open Go.RowKit
theorem O9 : ∀ (x : Nat), ∀ u ∈ natE x, u.oneCell' = true := by simp [natE, Value.oneCell']
structure GivenC (G : Heap) (o : Option (List Nat × Int)) (is : Bool) (vs : Value) (n : Int) : Prop where
 is_ : is = o.isSome
 no : o = none → vs = .slice none 0 0 ∧ n = 0
 so : ∀ l m, o = some (l, m) → n = m ∧ Nats G vs l
theorem GivenC.mono {G G' : Heap} {o : Option (List Nat × Int)} {is : Bool} {vs : Value} {n : Int} (h : GivenC G o is vs n) (hG : G.le G') : GivenC G' o is vs n :=
 ⟨h.is_, h.no, fun l m e => ⟨(h.so l m e).1, (h.so l m e).2.mono hG⟩⟩
theorem GivenC.one {G : Heap} {o : Option (List Nat × Int)} {is : Bool} {vs : Value} {n : Int} (h : GivenC G o is vs n) : vs.oneCell' = true := by
 cases o with
 | none => obtain ⟨rfl, -⟩ := h.no rfl; rfl
 | some p => exact (h.so p.1 p.2 rfl).2.plain.one
theorem GivenC.ones {G : Heap} {o : Option (List Nat × Int)} {is : Bool} {vs : Value} {n : Int} (h : GivenC G o is vs n) : ∀ u ∈ [Value.bool is, vs, .int .i64 n], u.oneCell' = true := by
 intro u hu
 simp only [List.mem_cons, List.not_mem_nil, or_false] at hu
 rcases hu with rfl | rfl | rfl
 · rfl
 · exact h.one
 rfl
theorem GivenC.none {G : Heap} : GivenC G none false (.slice none 0 0) 0 := ⟨rfl, fun _ => ⟨rfl, rfl⟩, (fun _ _ h => nomatch h)⟩
theorem GivenC.some {G : Heap} {l : List Nat} {vs : Value} {n : Int} (h : Nats G vs l) : GivenC G (some (l, n)) true vs n := ⟨rfl, (fun h => nomatch h), fun l' m e => by cases e; exact ⟨rfl, h⟩⟩
end
section
open Go.RowKit
structure BestC (F : Heap) (best : Option (List Nat × Int)) (vb : Value) (L : Int) : Prop where
 no : best = none → L = -1 ∧ vb = .slice none 0 0
 so : ∀ l m, best = some (l, m) → L = m ∧ Nats F vb l ∧ 0 ≤ m
theorem BestC.mono {F F' : Heap} {best : Option (List Nat × Int)} {vb : Value} {L : Int} (h : BestC F best vb L) (hF : F.le F') : BestC F' best vb L :=
 ⟨h.no, fun l m e => ⟨(h.so l m e).1, (h.so l m e).2.1.mono hF, (h.so l m e).2.2⟩⟩
theorem BestC.cut {F : Heap} {best : Option (List Nat × Int)} {vb : Value} {L sum : Int} (h : BestC F best vb L) : cutoff best sum = true ↔ 0 ≤ L ∧ L ≤ sum := by
 unfold cutoff
 cases best with
 | none => obtain ⟨rfl, -⟩ := h.no rfl; simp
 | some p => obtain ⟨l, m⟩ := p; obtain ⟨rfl, -, h0⟩ := h.so l m rfl; simp [h0]
theorem BestC.one {F : Heap} {best : Option (List Nat × Int)} {vb : Value} {L : Int} (h : BestC F best vb L) : vb.oneCell' = true := by
 cases best with
 | none => obtain ⟨-, rfl⟩ := h.no rfl; rfl
 | some p => exact (h.so p.1 p.2 rfl).2.1.plain.one
structure NextX (N : Num) (TS TN fn : Nat) (F : Heap) (b c1 c8 c3 : Nat) (vb vr vs vq vl : Value) (r : Room) (v : Value) (l : List Nat) (bl bb bo co d2 d3 d7 n : Nat) : Prop where
 room : RoomX N F b c1 c8 c3 vb vr vs vq vl r
 idx : Nats F v l
 own : F co = some (bx TS [.slice (some ⟨bo, 0, none⟩) n n])
 rm : F d2 = some (bx N.proom [ptr b])
 rq : F d3 = some (bx TS [v])
 nx : F d7 = some (bx TN [.func (.func fn) #[] #[ptr bl, ptr co, ptr bb, ptr d2, ptr d3, ptr d7]])
 len : l.length = n
theorem NextX.mono {N : Num} {TS TN fn : Nat} {F F' : Heap} {b c1 c8 c3 : Nat} {vb vr vs vq vl : Value} {r : Room} {v : Value} {l : List Nat} {bl bb bo co d2 d3 d7 n : Nat} (h : NextX N TS TN fn F b c1 c8 c3 vb vr vs vq vl r v l bl bb bo co d2 d3 d7 n) (hF : F.le F') : NextX N TS TN fn F' b c1 c8 c3 vb vr vs vq vl r v l bl bb bo co d2 d3 d7 n :=
 ⟨h.room.mono hF, h.idx.mono hF, hF _ _ h.own, hF _ _ h.rm, hF _ _ h.rq, hF _ _ h.nx, h.len⟩
theorem EP {m k : Nat} : (m : Int) / 2 ^ k = ((m / 2 ^ k : Nat) : Int) := by simp
theorem C0 {m k : Nat} : decide ((((m / 2 ^ k) &&& 1 : Nat) : Int) = 1) = m.testBit k := by
 rw [Nat.testBit_eq_decide_div_mod_eq, Nat.and_one_is_mod]
 congr 1
 rw [eq_iff_iff]
 omega
theorem mask_or {mask k : Nat} {pre : List Nat} (h : ∀ s, mask.testBit s = decide (s ∈ pre)) : ∀ s, (mask ||| 2 ^ k).testBit s = decide (s ∈ pre ++ [k]) := fun s => by
 rw [Nat.testBit_or, Nat.testBit_two_pow, h]
 by_cases hk : k = s
 · subst hk; simp
 have : ¬ s = k := fun e => hk e.symm
 simp [hk, this]
theorem Rs {mask k : Nat} (h : mask < 64) (hk : k < 6) : mask ||| 2 ^ k < 64 := by
 have h1 : (2 : Nat) ^ k < 2 ^ 6 := Nat.pow_lt_pow_right (by omega) hk
 exact Nat.or_lt_two_pow (n := 6) h h1
theorem PZ {k : Nat} (hk : k < 6) : (2 : Nat) ^ k < 64 := Nat.pow_lt_pow_right (n := 6) (by omega) hk
theorem T7 {own : List Value} {i k : Nat} {pre : List Nat} (hi : i < own.length) (_hp : pre.length = i) (h : own.take i = pre.flatMap natE) : (own.set i (.int .i64 k)).take (i + 1) = (pre ++ [k]).flatMap natE := by
 rw [List.take_succ_eq_append_getElem (by simpa using hi), List.take_set_of_le (Nat.le_refl _), h]
 simp [natE]
theorem FE : ∀ {l : List Nat}, (l.flatMap natE).length = l.length := by
 intro l
 induction l with
 | nil => rfl
 | cons a l ih => simp [List.flatMap_cons, natE] at ih ⊢; omega
theorem T8 {own : List Value} {i k : Nat} {pre : List Nat} (hp : pre.length = i) (h : own.take (i + 1) = (pre ++ [k]).flatMap natE) : own.take i = pre.flatMap natE := by
 have h2 := congrArg (List.take i) h
 rw [List.take_take, Nat.min_eq_left (by omega), List.flatMap_append] at h2
 rw [h2, List.take_append_of_le_length (by rw [FE]; omega), List.take_of_length_le (by rw [FE]; omega)]
theorem Uo {F : Heap} {b T n : Nat} {l : List Nat} (h : F b = some (bx T (l.flatMap natE))) (hn : l.length = n) (hl : n < 281474976710656) : Nats F (.slice (some ⟨b, 0, none⟩) n n) l := by
 subst hn
 have hlen := FE (l := l)
 refine Own.sl (E := T) (R := [(b, bx T (l.flatMap natE))]) ?_ (fun _ => rfl) (fun p hp => by simp at hp; subst hp; exact h) hl
 exact FA (by rw [hlen]; omega)
theorem S7 {l : List Nat} : ∀ u ∈ l.flatMap natE, u.oneCell' = true := fun u hu => by
 obtain ⟨x, -, hx⟩ := List.mem_flatMap.1 hu
 exact O9 x u hx
theorem S1 {b n c : Nat} (h : n ≤ c) (hn : n < 281474976710656) : Plain (.slice (some ⟨b, 0, none⟩) n c) n := ⟨_, _, rfl, fun _ x hx => by cases hx; rfl, by simp, h, hn⟩
theorem KO {r : Room} {rem pre : List Nat} {sum : Int} {best : Option (List Nat × Int)} (h : cutoff best sum = true) : search r rem pre sum best = best := by
 cases rem <;> (unfold search; rw [if_pos h])
theorem PS {r : Room} {pre : List Nat} {sum : Int} {best : Option (List Nat × Int)} (h : ¬ cutoff best sum = true) : search r [] pre sum best = some (pre, sum) := by
 unfold search; rw [if_neg h]
theorem Oh {r : Room} {q : Nat} {rest pre : List Nat} {sum : Int} {best : Option (List Nat × Int)} (h : ¬ cutoff best sum = true) : search r (q :: rest) pre sum best = (List.range r.seats.length).foldl (tryS r q pre sum (search r rest)) best := by
 conv => lhs; unfold search
 rw [if_neg h]
theorem Mj {r : Room} {q s : Nat} {pre : List Nat} {sum : Int} {sub : List Nat → Int → Option (List Nat × Int) → Option (List Nat × Int)} {best : Option (List Nat × Int)} (h : s ∈ pre ∨ reason r q s ≠ 0) : tryS r q pre sum sub best s = best := if_pos h
theorem tryS_do {r : Room} {q s : Nat} {pre : List Nat} {sum : Int} {sub : List Nat → Int → Option (List Nat × Int) → Option (List Nat × Int)} {best : Option (List Nat × Int)} (h1 : s ∉ pre) (h2 : ¬ reason r q s ≠ 0) : tryS r q pre sum sub best s = sub (pre ++ [s]) (sum + light r q s) best := if_neg fun h => h.elim h1 h2
theorem BestC.mk' {F : Heap} {l : List Nat} {ub : Value} {L : Int} (h : Nats F ub l) (h0 : 0 ≤ L) : BestC F (some (l, L)) ub L := ⟨(fun h => nomatch h), fun l' m e => by cases e; exact ⟨rfl, h, h0⟩⟩
end
section
open Go.RowKit
theorem BestC.is {F : Heap} {best : Option (List Nat × Int)} {vb : Value} {L : Int} (h : BestC F best vb L) : decide (0 ≤ L) = best.isSome := by
 cases best with
 | none => obtain ⟨rfl, -⟩ := h.no rfl; rfl
 | some p => obtain ⟨rfl, -, h0⟩ := h.so p.1 p.2 rfl; simpa using h0
theorem Sh : ∀ (l : List Nat) (a n : Nat), l.Pairwise (· < ·) → (∀ i ∈ l, a ≤ i ∧ i < n) → a ≤ n → l.length + a ≤ n
 | [], a, n, _, _, h => by simpa using h
 | x :: l, a, n, hp, hl, h => by
   have hx := hl x (by simp)
   rw [List.pairwise_cons] at hp
   have := Sh l (x + 1) n hp.2 (fun i hi => ⟨hp.1 i hi, (hl i (List.mem_cons_of_mem _ hi)).2⟩) (by omega)
   simp only [List.length_cons]
   omega
theorem FO {r : Room} (hv : Valid r) {l : List Nat} (hl : ∀ i ∈ l, i < r.reqs.length) (hp : l.Pairwise (· < ·)) : l.length ≤ 8 := by
 have := Sh l 0 r.reqs.length hp (fun i hi => ⟨by omega, hl i hi⟩) (by omega)
 have := hv.nq
 omega
theorem FH {l : List Nat} : (l.map fun (n : Nat) => (n : Int)).map Int.toNat = l := by
 rw [List.map_map, show (Int.toNat ∘ fun (n : Nat) => (n : Int)) = id from rfl, List.map_id]
def canV (r : Room) (xs : List Int) : Value := if someErr r xs = 0 then .tuple #[.bool (allR r (xs.map Int.toNat)).isSome, .int .i64 0] else .tuple #[.bool false, .int .i64 (someErr r xs)]
theorem Vb {r : Room} {xs : List Int} (h : ¬ someErr r xs = 0) : canV r xs = .tuple #[.bool false, .int .i64 (someErr r xs)] := if_neg h
theorem RT {r : Room} {l : List Nat} (h : someErr r (l.map fun (n : Nat) => (n : Int)) = 0) : canV r (l.map fun (n : Nat) => (n : Int)) = .tuple #[.bool (allR r l).isSome, .int .i64 0] := by
 unfold canV; rw [if_pos h, FH]
def seatsE (r : Room) (xs : List Int) : List Nat × Int × Int := if someErr r xs = 0 then (match allR r (xs.map Int.toNat) with | none => ([], 0, 9) | some (l, n) => (l, n, 0)) else ([], 0, someErr r xs)
theorem PR {r : Room} {xs : List Int} (h : ¬ someErr r xs = 0) : seatsE r xs = ([], 0, someErr r xs) := if_neg h
theorem Oe {r : Room} {l : List Nat} (h : someErr r (l.map fun (n : Nat) => (n : Int)) = 0) (ha : allR r l = none) : seatsE r (l.map fun (n : Nat) => (n : Int)) = ([], 0, 9) := by
 unfold seatsE; rw [if_pos h, FH, ha]
theorem Od {r : Room} {l s : List Nat} {n : Int} (h : someErr r (l.map fun (n : Nat) => (n : Int)) = 0) (ha : allR r l = some (s, n)) : seatsE r (l.map fun (n : Nat) => (n : Int)) = (s, n, 0) := by
 unfold seatsE; rw [if_pos h, FH, ha]
end
section
open Go.RowKit
def badSeat (r : Room) (l : List Nat) (ss : List Int) (i : Nat) : Bool := decide (reason r (l[i]?.getD 0) (ss[i]?.getD 0).toNat ≠ 0)
def sitsE (r : Room) (l : List Nat) (ss : List Int) : Int :=
 if ss.length ≠ l.length then 3
 else if (ss.any fun z => !(inB 0 (r.seats.length - 1) z)) = true then 4
 else if ¬ ss.Nodup then 5
 else if ¬ Apart r l then 9
 else if (List.range ss.length).any (badSeat r l ss) = true then 9 else 0
theorem TH {r : Room} {l : List Nat} {ss : List Int} (h : ss.length ≠ l.length) : sitsE r l ss = 3 := if_pos h
theorem TG {r : Room} {l : List Nat} {ss : List Int} (h1 : ss.length = l.length) (h : (ss.any fun z => !(inB 0 (r.seats.length - 1) z)) = true) : sitsE r l ss = 4 := by
 unfold sitsE; rw [if_neg (by simpa using h1), if_pos h]
theorem PO {r : Room} {l : List Nat} {ss : List Int} (h1 : ss.length = l.length) (h2 : (ss.any fun z => !(inB 0 (r.seats.length - 1) z)) = false) (h : ¬ ss.Nodup) : sitsE r l ss = 5 := by
 unfold sitsE; rw [if_neg (by simpa using h1), if_neg (by rw [h2]; simp), if_pos h]
theorem PP {r : Room} {l : List Nat} {ss : List Int} (h1 : ss.length = l.length) (h2 : (ss.any fun z => !(inB 0 (r.seats.length - 1) z)) = false) (h3 : ss.Nodup) (h : ¬ Apart r l) : sitsE r l ss = 9 := by
 unfold sitsE; rw [if_neg (by simpa using h1), if_neg (by rw [h2]; simp), if_neg (by simpa using h3), if_pos h]
theorem TI {r : Room} {l : List Nat} {ss : List Int} {i : Nat} (h1 : ss.length = l.length) (h2 : (ss.any fun z => !(inB 0 (r.seats.length - 1) z)) = false) (h3 : ss.Nodup) (h4 : Apart r l) (hi : i < ss.length) (h : badSeat r l ss i = true) : sitsE r l ss = 9 := by
 unfold sitsE; rw [if_neg (by simpa using h1), if_neg (by rw [h2]; simp), if_neg (by simpa using h3), if_neg (by simpa using h4), if_pos (List.any_eq_true.2 ⟨i, by simpa using hi, h⟩)]
theorem sits_ok {r : Room} {l : List Nat} {ss : List Int} (h1 : ss.length = l.length) (h2 : (ss.any fun z => !(inB 0 (r.seats.length - 1) z)) = false) (h3 : ss.Nodup) (h4 : Apart r l) (h : ∀ i, i < ss.length → badSeat r l ss i = false) : sitsE r l ss = 0 := by
 unfold sitsE; rw [if_neg (by simpa using h1), if_neg (by rw [h2]; simp), if_neg (by simpa using h3), if_neg (by simpa using h4), if_neg]
 rw [Bool.not_eq_true, List.any_eq_false]
 intro i hi
 simp [h i (by simpa using hi)]
theorem LO {r : Room} {l : List Nat} {ss : List Int} {i s : Nat} (hi : i < l.length) (hs : i < ss.length) (he : ss[i] = (s : Int)) : badSeat r l ss i = decide (reason r l[i] s ≠ 0) := by
 unfold badSeat
 rw [List.getElem?_eq_getElem hi, List.getElem?_eq_getElem hs, Option.getD_some, Option.getD_some, he]
 simp
theorem Js {xs : List Int} {lo hi : Int} (h : (xs.any fun z => !(inB lo hi z)) = false) {k : Nat} (hk : k < xs.length) : inB lo hi xs[k] = true := by
 rw [List.any_eq_false] at h
 simpa using h _ (List.getElem_mem hk)
theorem Qg {α : Type} {xs : List α} (h : ∀ k (hk : k < xs.length), xs[k] ∉ xs.take k) : xs.Nodup := by
 rw [List.nodup_iff_pairwise_ne, List.pairwise_iff_getElem]
 intro i j hi hj hij he
 exact h j hj (by rw [← he]; exact List.mem_take_iff_getElem.2 ⟨i, by omega, rfl⟩)
theorem PK {α : Type} {xs : List α} {k : Nat} (hk : k < xs.length) (h : xs[k] ∈ xs.take k) : ¬ xs.Nodup := fun hn => by
 rw [List.nodup_iff_pairwise_ne, List.pairwise_iff_getElem] at hn
 obtain ⟨i, hi, he⟩ := List.mem_take_iff_getElem.1 h
 exact hn i k (by omega) hk (by omega) he
end
section
open Go.RowKit
def cmpZ (a b : Int) : Int := if a < b then -1 else if b < a then 1 else 0
def cmpL : List Nat → List Nat → Int
 | [], [] => 0
 | [], _ :: _ => -1
 | _ :: _, [] => 1
 | a :: as1, b :: bs => if a < b then -1 else if b < a then 1 else cmpL as1 bs
theorem MJ {a : Nat} {as1 bs : List Nat} : cmpL (a :: as1) (a :: bs) = cmpL as1 bs := by
 simp [cmpL]
theorem GO : ∀ (k : Nat) {xs ys : List Nat}, k ≤ xs.length → k ≤ ys.length → xs.take k = ys.take k → cmpL xs ys = cmpL (xs.drop k) (ys.drop k)
 | 0, _, _, _, _, _ => rfl
 | k + 1, [], _, h, _, _ => by simp at h
 | k + 1, _ :: _, [], _, h, _ => by simp at h
 | k + 1, x :: xs, y :: ys, h1, h2, h => by
   simp only [List.take_succ_cons, List.cons.injEq] at h
   obtain ⟨rfl, h⟩ := h
   rw [MJ, GO k (by simpa using h1) (by simpa using h2) h]
   rfl
theorem Th {k : Nat} {xs ys : List Nat} (h1 : k < xs.length) (h2 : ys.length = k) (h : xs.take k = ys.take k) : cmpL xs ys = 1 := by
 rw [GO k (by omega) (by omega) h, List.drop_eq_getElem_cons h1, show ys.drop k = [] from List.drop_of_length_le (by omega)]
 rfl
theorem MK {xs ys : List Nat} (h1 : xs.length ≤ ys.length) (h : xs.take xs.length = ys.take xs.length) : cmpL xs ys = if xs.length < ys.length then -1 else 0 := by
 rw [GO xs.length (by omega) h1 h, List.drop_of_length_le (Nat.le_refl _)]
 by_cases h2 : xs.length < ys.length
 · rw [if_pos h2, List.drop_eq_getElem_cons h2]; rfl
 rw [if_neg h2, List.drop_of_length_le (by omega)]; rfl
theorem cmpL_at {k : Nat} {xs ys : List Nat} (h1 : k < xs.length) (h2 : k < ys.length) (h : xs.take k = ys.take k) (hne : cmpZ xs[k] ys[k] ≠ 0) : cmpL xs ys = cmpZ xs[k] ys[k] := by
 rw [GO k (by omega) (by omega) h, List.drop_eq_getElem_cons h1, List.drop_eq_getElem_cons h2]
 show (if xs[k] < ys[k] then (-1 : Int) else if ys[k] < xs[k] then 1 else _) = _
 unfold cmpZ at hne ⊢
 by_cases ha : xs[k] < ys[k]
 · rw [if_pos ha, if_pos (by omega)]
 rw [if_neg ha]
 rw [if_neg (show ¬ (xs[k] : Int) < ys[k] by omega)] at hne ⊢
 by_cases hb : ys[k] < xs[k]
 · rw [if_pos hb, if_pos (by omega)]
 rw [if_neg (show ¬ (ys[k] : Int) < xs[k] by omega)] at hne; exact absurd rfl hne
theorem Tg {a b : Int} (h : cmpZ a b = 0) : a = b := by
 unfold cmpZ at h
 split at h
 · cases h
 split at h
 · cases h
 omega
theorem DF {α : Type} {k : Nat} {xs ys : List α} (h1 : k < xs.length) (h2 : k < ys.length) (h : xs.take k = ys.take k) (he : xs[k] = ys[k]) : xs.take (k + 1) = ys.take (k + 1) := by
 rw [List.take_succ_eq_append_getElem h1, List.take_succ_eq_append_getElem h2, h, he]
theorem FK {α : Type} {xs ys : List α} (hl : xs.length = ys.length) (h : xs.take xs.length = ys.take xs.length) : xs = ys := by
 rw [List.take_length] at h
 rw [h, hl, List.take_length]
theorem Ro {α : Type} {k : Nat} {xs ys : List α} (h1 : k < xs.length) (h2 : k < ys.length) (he : xs[k] ≠ ys[k]) : xs ≠ ys := by
 rintro rfl; exact he rfl
def worthL (r : Room) (l : List Nat) : Int := (l.map fun i => (r.req i).worth).sum
theorem NS {r : Room} {l : List Nat} {k : Nat} (hk : k < l.length) : worthL r (l.take (k + 1)) = worthL r (l.take k) + (r.req l[k]).worth := by
 unfold worthL
 rw [List.take_succ_eq_append_getElem hk, List.map_append, List.sum_append]
 simp
theorem NR {r : Room} (hv : Valid r) {i : Nat} (hi : i < r.reqs.length) : 0 ≤ (r.req i).worth ∧ (r.req i).worth ≤ 100 := by
 have := hv.rq i hi
 omega
theorem Et {r : Room} (hv : Valid r) : ∀ {l : List Nat}, (∀ i ∈ l, i < r.reqs.length) → 0 ≤ worthL r l ∧ worthL r l ≤ 100 * l.length
 | [], _ => by simp [worthL]
 | i :: l, h => by
   have h1 := NR hv (h i (by simp))
   have h2 := Et hv (l := l) (fun j hj => h j (List.mem_cons_of_mem _ hj))
   unfold worthL at h2 ⊢
   simp only [List.map_cons, List.sum_cons, List.length_cons]
   omega
def bitsL (set : Nat) : List Nat := (List.range 8).filter fun i => set.testBit i
def bitsTo (set k : Nat) : List Nat := (List.range k).filter fun i => set.testBit i
theorem Em {set k : Nat} : bitsTo set (k + 1) = if set.testBit k = true then bitsTo set k ++ [k] else bitsTo set k := by
 unfold bitsTo
 rw [List.range_succ, List.filter_append]
 by_cases h : set.testBit k = true
 · rw [if_pos h]; simp [h]
 rw [if_neg h]; simp [h]
theorem Fa {set k : Nat} : (bitsTo set k).length ≤ k := by
 unfold bitsTo
 have := List.length_filter_le (fun i => set.testBit i) (List.range k)
 simpa using this
theorem QL {set k : Nat} (hk : k ≤ 8) (h : set < 2 ^ k) : bitsTo set k = bitsL set := by
 have key : ∀ j, k ≤ j → bitsTo set j = bitsTo set k := by
   intro j hj
   induction j with
   | zero => have : k = 0 := by omega
             rw [this]
   | succ j ih =>
     by_cases hjk : k = j + 1
     · rw [hjk]
     rw [Em, if_neg, ih (by omega)]
     have : set < 2 ^ j := Nat.lt_of_lt_of_le h (Nat.pow_le_pow_right (by omega) (by omega))
     simp [Nat.testBit_lt_two_pow this]
 exact (key 8 hk).symm
end
section
open Go.RowKit
def okSet (r : Room) (of : Int) (w set : Nat) : Bool := decide (butNot set of = 0) && decide (set &&& w = w) && (allR r (bitsL set)).isSome
def setsTo (r : Room) (of : Int) (w k : Nat) : List (List Nat) := ((List.range k).filter (okSet r of w)).map bitsL
def setsR (r : Room) (of : Int) (w : Nat) : List (List Nat) := setsTo r of w (2 ^ r.reqs.length)
theorem Eg {r : Room} {of : Int} {w k : Nat} : setsTo r of w (k + 1) = if okSet r of w k = true then setsTo r of w k ++ [bitsL k] else setsTo r of w k := by
 unfold setsTo
 rw [List.range_succ, List.filter_append]
 by_cases h : okSet r of w k = true
 · rw [if_pos h]; simp [h]
 rw [if_neg h]; simp [h]
theorem PQ {r : Room} {of : Int} {w k n : Nat} (hk : k < n) (h : okSet r of w k = true) : ∃ rest, setsTo r of w n = setsTo r of w k ++ bitsL k :: rest := by
 obtain ⟨d, rfl⟩ : ∃ d, n = (k + 1) + d := ⟨n - (k + 1), by omega⟩
 have h1 := Eg (r := r) (of := of) (w := w) (k := k)
 rw [if_pos h] at h1
 have h2 : setsTo r of w (k + 1 + d) = setsTo r of w (k + 1) ++ (((List.range d).map (k + 1 + ·)).filter (okSet r of w)).map bitsL := by
   unfold setsTo
   rw [List.range_add, List.filter_append, List.map_append]
 rw [h2, h1]
 exact ⟨(((List.range d).map (k + 1 + ·)).filter (okSet r of w)).map bitsL, by simp⟩
theorem J6 {set : Nat} : (bitsL set).length ≤ 8 := by
 unfold bitsL
 have := List.length_filter_le (fun i => set.testBit i) (List.range 8)
 simpa using this
theorem Fj {set i : Nat} : i ∈ bitsL set ↔ i < 8 ∧ set.testBit i = true := by
 unfold bitsL; simp
theorem Gy {set n : Nat} (h : set < 2 ^ n) : ∀ i ∈ bitsL set, i < n := fun i hi => by
 obtain ⟨-, h2⟩ := Fj.1 hi
 rcases Nat.lt_or_ge i n with h3 | h3
 · exact h3
 rw [Nat.testBit_lt_two_pow (Nat.lt_of_lt_of_le h (Nat.pow_le_pow_right (by omega) h3))] at h2; cases h2
theorem MQ {set : Nat} : (bitsL set).Pairwise (· < ·) := by
 unfold bitsL
 exact List.Pairwise.sublist List.filter_sublist (List.pairwise_lt_range)
theorem pow_le8 {n : Nat} (h : n ≤ 8) : 2 ^ n ≤ 256 := Nat.pow_le_pow_right (n := 2) (by omega) h
theorem M1 {r : Room} {of : Int} {w : Nat} {l : List Nat} (h : l ∈ setsR r of w) : ∃ set, set < 2 ^ r.reqs.length ∧ l = bitsL set ∧ okSet r of w set = true := by
 unfold setsR setsTo at h
 obtain ⟨set, h1, rfl⟩ := List.mem_map.1 h
 obtain ⟨h1, h2⟩ := List.mem_filter.1 h1
 exact ⟨set, by simpa using h1, rfl, h2⟩
def mostStep (num : List Nat → Int) (cmp : List Nat → List Nat → Int) (b : List Nat × Int) (l : List Nat) : List Nat × Int := if b.2 < num l ∨ (num l = b.2 ∧ cmp l b.1 < 0) then (l, num l) else b
def mostR (num : List Nat → Int) (cmp : List Nat → List Nat → Int) (xs : List (List Nat)) : List Nat × Int := xs.foldl (mostStep num cmp) ([], -1)
theorem DS {num : List Nat → Int} {cmp : List Nat → List Nat → Int} {xs : List (List Nat)} {x : List Nat} : mostR num cmp (xs ++ [x]) = mostStep num cmp (mostR num cmp xs) x := by
 unfold mostR; rw [List.foldl_append]; rfl
theorem Ey {num : List Nat → Int} {cmp : List Nat → List Nat → Int} {b : List Nat × Int} {l : List Nat} (h : b.2 < num l ∨ (num l = b.2 ∧ cmp l b.1 < 0)) : mostStep num cmp b l = (l, num l) := if_pos h
theorem Gj {num : List Nat → Int} {cmp : List Nat → List Nat → Int} {b : List Nat × Int} {l : List Nat} (h : ¬ (b.2 < num l ∨ (num l = b.2 ∧ cmp l b.1 < 0))) : mostStep num cmp b l = b := if_neg h
end
section
open Go.RowKit
def bestP (r : Room) : List Nat × Int := mostR (worthL r) cmpL (setsR r (-1) 0)
def bestE (r : Room) : List Nat × Int × Int := if (check r).2.2 = 0 then ((bestP r).1, (bestP r).2, 0) else ([], 0, (check r).2.2)
theorem LL {r : Room} (h : (check r).2.2 = 0) : bestE r = ((bestP r).1, (bestP r).2, 0) := if_pos h
theorem Tp {r : Room} (h : ¬ (check r).2.2 = 0) : bestE r = ([], 0, (check r).2.2) := if_neg h
def turnStep (r : Room) (out : List Nat) (i : Nat) : List Nat := if (allR r (out ++ [i])).isSome = true then out ++ [i] else out
def turnTo (r : Room) (k : Nat) : List Nat := (List.range k).foldl (turnStep r) []
theorem JG {r : Room} {k : Nat} : turnTo r (k + 1) = turnStep r (turnTo r k) k := Dn
theorem Hj {r : Room} {k : Nat} (h : (allR r (turnTo r k ++ [k])).isSome = true) : turnTo r (k + 1) = turnTo r k ++ [k] := by rw [JG]; exact if_pos h
theorem Jk {r : Room} {k : Nat} (h : ¬ (allR r (turnTo r k ++ [k])).isSome = true) : turnTo r (k + 1) = turnTo r k := by rw [JG]; exact if_neg h
theorem GA {r : Room} : ∀ k, ∀ i ∈ turnTo r k, i < k
 | 0, i, h => nomatch h
 | k + 1, i, h => by
   by_cases hk : (allR r (turnTo r k ++ [k])).isSome = true
   · rw [Hj hk] at h
     rcases List.mem_append.1 h with h | h
     · have := GA k i h; omega
     simp at h; omega
   rw [Jk hk] at h
   have := GA k i h; omega
theorem KF {r : Room} : ∀ k, (turnTo r k).length ≤ k
 | 0 => Nat.le_refl _
 | k + 1 => by
   have := KF (r := r) k
   by_cases hk : (allR r (turnTo r k ++ [k])).isSome = true
   · rw [Hj hk]; simp; omega
   rw [Jk hk]; omega
def turnR (r : Room) : List Nat := turnTo r r.reqs.length
def turnE (r : Room) : List Nat × Int := if (check r).2.2 = 0 then (turnR r, 0) else ([], (check r).2.2)
theorem T5 {r : Room} (h : (check r).2.2 = 0) : turnE r = (turnR r, 0) := if_pos h
theorem Sr {r : Room} (h : ¬ (check r).2.2 = 0) : turnE r = ([], (check r).2.2) := if_neg h
end
section
open Go.RowKit
def useAt (r : Room) (l : List Nat) (ss : List Int) (b i : Nat) : Int := if r.book (l[i]?.getD 0) = b then light r (l[i]?.getD 0) (ss[i]?.getD 0).toNat else 0
def used (r : Room) (l : List Nat) (ss : List Int) (b : Nat) : Nat → Int
 | 0 => 0
 | n + 1 => used r l ss b n + useAt r l ss b n
theorem Mi {r : Room} {l : List Nat} {ss : List Int} {b i s : Nat} (h1 : i < l.length) (h2 : i < ss.length) (hs : ss[i] = (s : Int)) (hb : r.book l[i] = b) : useAt r l ss b i = light r l[i] s := by
 unfold useAt
 rw [List.getElem?_eq_getElem h1, List.getElem?_eq_getElem h2]
 simp [hb, hs]
theorem NT {r : Room} {l : List Nat} {ss : List Int} {b i : Nat} (h1 : i < l.length) (hb : ¬ r.book l[i] = b) : useAt r l ss b i = 0 := by
 unfold useAt
 rw [List.getElem?_eq_getElem h1]
 simp [hb]
theorem KC {r : Room} (hv : Valid r) {l : List Nat} {ss : List Int} {b : Nat} (hl : ∀ i ∈ l, i < r.reqs.length) (hs : (ss.any fun z => !(inB 0 (r.seats.length - 1) z)) = false) : ∀ n, n ≤ l.length → n ≤ ss.length → 0 ≤ used r l ss b n ∧ used r l ss b n ≤ 1200 * n
 | 0, _, _ => by simp [used]
 | n + 1, h1, h2 => by
   have ih := KC hv (b := b) hl hs n (by omega) (by omega)
   obtain ⟨s, hse, hsn⟩ := GJ (Js hs (k := n) (by omega))
   have hlb := Ei hv (hl _ (List.getElem_mem (show n < l.length by omega))) hsn
   unfold used
   by_cases hb : r.book (l[n]'(by omega)) = b
   · rw [Mi (by omega) (by omega) hse hb]; omega
   rw [NT (by omega) hb]; omega
def leftAt (r : Room) (l : List Nat) (ss : List Int) (n b : Nat) : Int × Int := ((r.bk b).lo - used r l ss b n, (r.bk b).hi - used r l ss b n)
def leftL (r : Room) (l : List Nat) (ss : List Int) (n k : Nat) : List (Int × Int) := (List.range k).map (leftAt r l ss n)
theorem Qr {r : Room} {l : List Nat} {ss : List Int} {n k : Nat} : leftL r l ss n (k + 1) = leftL r l ss n k ++ [leftAt r l ss n k] := by
 unfold leftL; rw [List.range_succ, List.map_append]; rfl
theorem C8 {r : Room} {l : List Nat} {ss : List Int} {n k : Nat} : (leftL r l ss n k).length = k := by simp [leftL]
theorem OR {r : Room} {l : List Nat} {ss : List Int} {b : Nat} : leftAt r l ss 0 b = ((r.bk b).lo, (r.bk b).hi) := by simp [leftAt, used]
theorem SG {r : Room} {l : List Nat} {ss : List Int} {n k : Nat} (h1 : n < l.length) : (leftL r l ss n k).set (r.book l[n]) (leftAt r l ss (n + 1) (r.book l[n])) = leftL r l ss (n + 1) k := by
 unfold leftL
 apply List.ext_getElem
 · simp
 intro i h2 h3
 rw [List.getElem_set]
 simp only [List.getElem_map, List.getElem_range]
 by_cases hb : r.book l[n] = i
 · rw [if_pos hb, hb]
 rw [if_neg hb]
 unfold leftAt
 rw [show used r l ss i (n + 1) = used r l ss i n + useAt r l ss i n from rfl, NT h1 hb]
 simp
theorem SH {r : Room} {l : List Nat} {ss : List Int} {n k b : Nat} (h : b < k) : (leftL r l ss n k)[b]'(by rw [C8]; exact h) = leftAt r l ss n b := by
 simp [leftL]
def leftE (r : Room) (xs ss : List Int) : List (Int × Int) × Int :=
 if someErr r xs = 0 then (if sitsE r (xs.map Int.toNat) ss = 0 then (leftL r (xs.map Int.toNat) ss xs.length r.books.length, 0) else ([], sitsE r (xs.map Int.toNat) ss)) else ([], someErr r xs)
theorem SI {r : Room} {xs ss : List Int} (h : ¬ someErr r xs = 0) : leftE r xs ss = ([], someErr r xs) := if_neg h
theorem Fl {r : Room} {l : List Nat} {ss : List Int} {e : Int} (h : someErr r (l.map fun (n : Nat) => (n : Int)) = 0) (hs : sitsE r l ss = e) (he : e ≠ 0) : leftE r (l.map fun (n : Nat) => (n : Int)) ss = ([], e) := by
 unfold leftE; rw [if_pos h, FH, hs, if_neg he]
theorem Uy {r : Room} {l : List Nat} {ss : List Int} (h : someErr r (l.map fun (n : Nat) => (n : Int)) = 0) (hs : sitsE r l ss = 0) : leftE r (l.map fun (n : Nat) => (n : Int)) ss = (leftL r l ss l.length r.books.length, 0) := by
 unfold leftE; rw [if_pos h, FH, hs, if_pos rfl, List.length_map]
theorem OS {r : Room} {l : List Nat} {ss : List Int} {i s : Nat} (h1 : i < l.length) (h2 : i < ss.length) (hs : ss[i] = (s : Int)) :
   leftAt r l ss (i + 1) (r.book l[i]) = ((leftAt r l ss i (r.book l[i])).1 - light r l[i] s, (leftAt r l ss i (r.book l[i])).2 - light r l[i] s) := by
 unfold leftAt
 rw [show used r l ss (r.book l[i]) (i + 1) = used r l ss (r.book l[i]) i + useAt r l ss (r.book l[i]) i from rfl, Mi h1 h2 hs rfl]
 ext <;> simp <;> omega
theorem Ny {r : Room} (hv : Valid r) {l : List Nat} {ss : List Int} {b : Nat} (hl : ∀ i ∈ l, i < r.reqs.length) (hs : (ss.any fun z => !(inB 0 (r.seats.length - 1) z)) = false) {n : Nat} (h1 : n ≤ l.length) (h2 : n ≤ ss.length) (h8 : l.length ≤ 8) (hb : b < r.books.length) :
   -20000 ≤ (leftAt r l ss n b).1 ∧ (leftAt r l ss n b).1 ≤ 1000 ∧ -20000 ≤ (leftAt r l ss n b).2 ∧ (leftAt r l ss n b).2 ≤ 1000 := by
 have hu := KC hv (b := b) hl hs n h1 h2
 have hb := hv.bo b hb
 unfold leftAt
 simp only
 omega
@[reducible] def spanE (p : Int × Int) : List Value := [.int .i64 p.1, .int .i64 p.2]
theorem SX {a c : Int} : ∀ {xs : List (Int × Int)} {b : Nat}, b < xs.length → (((xs.flatMap spanE).set (b * 2 + 0) (.int .i64 a)).set (b * 2 + 1) (.int .i64 c)) = (xs.set b (a, c)).flatMap spanE := by
 intro xs
 induction xs with
 | nil => intro b h; simp at h
 | cons x xs ih =>
   intro b h
   cases b with
   | zero => simp [spanE]
   | succ b =>
     have := ih (b := b) (by simpa using h)
     simp only [List.flatMap_cons, List.set_cons_succ]
     rw [← this, show (b + 1) * 2 + 0 = (b * 2 + 0) + 1 + 1 by omega, show (b + 1) * 2 + 1 = (b * 2 + 1) + 1 + 1 by omega]
     simp [spanE]
theorem MD {r : Room} {l : List Nat} {ss : List Int} {n k b j : Nat} {u : Value} (h : b < k) (hu : (spanE (leftAt r l ss n b))[j]? = some u) : ((leftL r l ss n k).flatMap spanE)[b * 2 + j]? = some u :=
 Kt (enc := spanE) (s := 2) (fun _ => rfl) (leftL r l ss n k) b (by rw [C8]; exact h) (by rw [SH h]; exact hu)
theorem Hb {r : Room} {l : List Nat} {ss : List Int} {n k : Nat} : ((leftL r l ss n k).flatMap spanE).length = k * 2 := by
 rw [Lt (enc := spanE) (s := 2) (fun _ => rfl), C8]
theorem Us {mask s : Nat} {xs : List Int} (h : ∀ t : Nat, mask.testBit t = decide ((t : Int) ∈ xs)) : ∀ t : Nat, (mask ||| 2 ^ s).testBit t = decide ((t : Int) ∈ xs ++ [(s : Int)]) := fun t => by
 rw [Nat.testBit_or, Nat.testBit_two_pow, h]
 by_cases hk : s = t
 · subst hk; simp
 have : ¬ (t : Int) = (s : Int) := fun e => hk (by omega)
 simp [hk, this]
end
section
open Go.RowKit
def wo (l xs : List Nat) : List Nat := l.filter fun x => !(decide (x ∈ xs))
theorem QW {l xs : List Nat} {k : Nat} (hk : k < l.length) : wo (l.take (k + 1)) xs = if l[k] ∈ xs then wo (l.take k) xs else wo (l.take k) xs ++ [l[k]] := by
 unfold wo
 rw [List.take_succ_eq_append_getElem hk, List.filter_append]
 by_cases h : l[k] ∈ xs
 · rw [if_pos h]; simp [h]
 rw [if_neg h]; simp [h]
def maskL (q : Nat) (l : List Nat) : Nat := l.foldl (fun m i => m ||| 2 ^ i) (2 ^ q)
theorem Qk {q : Nat} {l : List Nat} {k : Nat} (hk : k < l.length) : maskL q (l.take (k + 1)) = maskL q (l.take k) ||| 2 ^ l[k] := by
 unfold maskL; rw [List.take_succ_eq_append_getElem hk, List.foldl_append]; rfl
theorem Kl {k : Nat} (hk : k < 8) : (2 : Nat) ^ k < 256 := Nat.pow_lt_pow_right (n := 8) (by omega) hk
theorem OJ {q : Nat} (hq : q < 8) : ∀ {l : List Nat}, (∀ i ∈ l, i < 8) → maskL q l < 256 := by
 have key : ∀ (l : List Nat) (m : Nat), m < 256 → (∀ i ∈ l, i < 8) → l.foldl (fun m i => m ||| 2 ^ i) m < 256 := by
   intro l
   induction l with
   | nil => intro m hm _; exact hm
   | cons x l ih =>
     intro m hm h
     refine ih _ ?_ fun i hi => h i (List.mem_cons_of_mem _ hi)
     exact Nat.or_lt_two_pow (n := 8) hm (Kl (h x (by simp)))
 intro l h
 exact key l _ (Kl hq) h
def lenN (l : List Nat) : Int := (l.length : Int)
def keptP (r : Room) (l : List Nat) (q : Nat) : List Nat := (mostR lenN (fun a b => cmpL (wo l a) (wo l b)) (setsR r (maskL q l : Nat) (2 ^ q))).1
def canB (r : Room) (l : List Nat) : Bool := (allR r l).isSome
def givesE (r : Room) (xs : List Int) (x : Int) : List Nat × Int :=
 if someErr r xs = 0 then
   (if inB 0 (r.reqs.length - 1) x = true then
     (if x ∈ xs then ([], 2)
      else if canB r (xs.map Int.toNat) = true ∧ canB r [x.toNat] = true then (wo (xs.map Int.toNat) (keptP r (xs.map Int.toNat) x.toNat), 0) else ([], 9))
    else ([], 4))
 else ([], someErr r xs)
variable {r : Room} {l : List Nat} {x : Int} {q : Nat}
theorem SQ {xs : List Int} (h : ¬ someErr r xs = 0) : givesE r xs x = ([], someErr r xs) := if_neg h
theorem SP (h : someErr r (l.map fun (n : Nat) => (n : Int)) = 0) (h2 : inB 0 (r.reqs.length - 1) x = false) : givesE r (l.map fun (n : Nat) => (n : Int)) x = ([], 4) := by
 unfold givesE; rw [if_pos h, if_neg (by rw [h2]; simp)]
theorem La : ((q : Int) ∈ l.map fun (n : Nat) => (n : Int)) ↔ q ∈ l := by
 rw [List.mem_map]
 constructor
 · rintro ⟨a, ha, e⟩
   have : a = q := by omega
   rwa [this] at ha
 exact fun h => ⟨q, h, rfl⟩
theorem U2 (h : someErr r (l.map fun (n : Nat) => (n : Int)) = 0) (h2 : inB 0 (r.reqs.length - 1) (q : Int) = true) (h3 : q ∈ l) : givesE r (l.map fun (n : Nat) => (n : Int)) q = ([], 2) := by
 unfold givesE; rw [if_pos h, if_pos h2, if_pos (La.2 h3)]
theorem Lj (h : someErr r (l.map fun (n : Nat) => (n : Int)) = 0) (h2 : inB 0 (r.reqs.length - 1) (q : Int) = true) (h3 : q ∉ l) (h4 : ¬ (canB r l = true ∧ canB r [q] = true)) : givesE r (l.map fun (n : Nat) => (n : Int)) q = ([], 9) := by
 unfold givesE; rw [if_pos h, if_pos h2, if_neg (fun h => h3 (La.1 h)), FH, Int.toNat_natCast, if_neg h4]
theorem U1 (h : someErr r (l.map fun (n : Nat) => (n : Int)) = 0) (h2 : inB 0 (r.reqs.length - 1) (q : Int) = true) (h3 : q ∉ l) (h4 : canB r l = true ∧ canB r [q] = true) : givesE r (l.map fun (n : Nat) => (n : Int)) q = (wo l (keptP r l q), 0) := by
 unfold givesE; rw [if_pos h, if_pos h2, if_neg (fun h => h3 (La.1 h)), FH, Int.toNat_natCast, if_pos h4]
theorem natOne1 {F : Heap} {b T q : Nat} (h : F b = some (bx T [.int .i64 (q : Int)])) : Nats F (.slice (some ⟨b, 0, none⟩) 1 1) [q] :=
 Sl.box h rfl (by omega) (by omega) fun i hi j u hu => by
   have : i = 0 := by simpa using hi
   subst this
   match j, hu with
   | 0, hu => simpa [natE] using hu
   | j + 1, hu => simp [natE] at hu
end
section
open Go.RowKit
def measured (r : Room) (b : Nat) : Room := { r with books := r.books.set b { r.bk b with lo := (r.bk b).hi } }
theorem OI {r : Room} {b i : Nat} (hb : b < r.books.length) : (measured r b).bk i = if i = b then { r.bk b with lo := (r.bk b).hi } else r.bk i := by
 unfold Room.bk measured
 simp only
 rw [List.getElem?_set]
 by_cases h : b = i
 · subst h; simp [hb, MP hb]
 have : ¬ i = b := fun e => h e.symm
 simp [h, this]
theorem DI {r : Room} {b : Nat} : (measured r b).books.length = r.books.length := by simp [measured]
theorem KB {r : Room} (hv : Valid r) {b : Nat} (hb : b < r.books.length) : Valid (measured r b) := by
 refine ⟨by rw [DI]; exact hv.nb, hv.nr, hv.ns, hv.nq, fun i hi => ?_, hv.st, fun i hi => ?_, hv.rd⟩
 · have := hv.rq i hi
   rw [DI]
   exact this
 rw [DI] at hi
 have h1 := hv.bo i hi
 have h2 := hv.bo b hb
 rw [OI hb]
 split
 · simp only; omega
 exact h1
theorem SW {z : Int} : ∀ {xs : List Book} {b : Nat} (h : b < xs.length), (xs.flatMap Book.enc).set (b * 5 + 2) (.int .i64 z) = (xs.set b { xs[b] with lo := z }).flatMap Book.enc := by
 intro xs
 induction xs with
 | nil => intro b h; simp at h
 | cons x xs ih =>
   intro b h
   cases b with
   | zero => simp [Book.enc]
   | succ b =>
     have := ih (b := b) (by simpa using h)
     simp only [List.flatMap_cons, List.set_cons_succ, List.getElem_cons_succ]
     rw [← this, show (b + 1) * 5 + 2 = (b * 5 + 2) + 1 + 1 + 1 + 1 + 1 by omega]
     simp [Book.enc]
theorem Nu {r : Room} {b : Nat} (hb : b < r.books.length) : r.books.set b { r.books[b] with lo := (r.bk b).hi } = (measured r b).books := by
 unfold measured; simp only; rw [MP hb]
theorem OD {num : List Nat → Int} {cmp : List Nat → List Nat → Int} : ∀ (xs : List (List Nat)), (mostR num cmp xs).2 = -1 ∨ ∃ x ∈ xs, (mostR num cmp xs).2 = num x := by
 intro xs
 induction hn : xs.length generalizing xs with
 | zero => exact .inl (by rw [List.eq_nil_of_length_eq_zero hn]; rfl)
 | succ n ih =>
   obtain ⟨ys, y, rfl⟩ : ∃ ys y, xs = ys ++ [y] := ⟨xs.dropLast, xs.getLast (by intro h; rw [h] at hn; simp at hn), (List.dropLast_concat_getLast _).symm⟩
   have ih := ih ys (by simp at hn; exact hn)
   rw [DS]
   unfold mostStep
   split
   · exact .inr ⟨y, by simp, rfl⟩
   rcases ih with h | ⟨x, hx, h⟩
   · exact .inl h
   exact .inr ⟨x, by simp [hx], h⟩
theorem Kc {r : Room} (hv : Valid r) : -1 ≤ (bestP r).2 ∧ (bestP r).2 ≤ 800 := by
 rcases OD (num := worthL r) (cmp := cmpL) (setsR r (-1) 0) with h | ⟨x, hx, h⟩
 · unfold bestP; omega
 obtain ⟨set, h1, rfl, h2⟩ := M1 hx
 have := Et hv (Gy h1)
 have := J6 (set := set)
 unfold bestP; omega
def askStep (now : Int) (val : Nat → Int) (p : Nat × Int) (b : Nat) : Nat × Int := if p.2 < val b - now then (b, val b - now) else p
def askTo (now : Int) (val : Nat → Int) (k : Nat) : Nat × Int := (List.range k).foldl (askStep now val) (0, 0)
theorem LP {now : Int} {val : Nat → Int} {k : Nat} : askTo now val (k + 1) = askStep now val (askTo now val k) k := Dn
theorem MU {now : Int} {val : Nat → Int} {k : Nat} (h : (askTo now val k).2 < val k - now) : askTo now val (k + 1) = (k, val k - now) := by rw [LP]; exact if_pos h
theorem P8 {now : Int} {val : Nat → Int} {k : Nat} (h : ¬ (askTo now val k).2 < val k - now) : askTo now val (k + 1) = askTo now val k := by rw [LP]; exact if_neg h
def askV (now : Int) (val : Nat → Int) (n : Nat) : Int × Int × Int := if (askTo now val n).2 = 0 then (0, 0, 4) else ((askTo now val n).1, (askTo now val n).2, 0)
def askE (r : Room) : Int × Int × Int := if (check r).2.2 = 0 then askV (bestP r).2 (fun b => (bestP (measured r b)).2) r.books.length else (0, 0, (check r).2.2)
theorem Sg {r : Room} (h : (check r).2.2 = 0) : askE r = askV (bestP r).2 (fun b => (bestP (measured r b)).2) r.books.length := if_pos h
theorem VF {r : Room} (h : ¬ (check r).2.2 = 0) : askE r = (0, 0, (check r).2.2) := if_neg h
@[reducible] def trip (p : Int × Int × Int) : Value := .tuple #[.int .i64 p.1, .int .i64 p.2.1, .int .i64 p.2.2]
theorem RoomR.ones {F : Heap} {vb vr vs vq : Value} {r : Room} (h : RoomR F vb vr vs vq r) : ∀ u ∈ [vb, vr, vs, vq], u.oneCell' = true := by
 intro u hu
 simp only [List.mem_cons, List.not_mem_nil, or_false] at hu
 rcases hu with rfl | rfl | rfl | rfl
 · exact h.books.plain.one
 · exact h.readers.plain.one
 · exact h.seats.plain.one
 exact h.reqs.plain.one
theorem flat_bk {r : Room} {b j : Nat} {u : Value} (hb : b < r.books.length) (hu : ((r.bk b).enc)[j]? = some u) : (r.books.flatMap Book.enc)[b * 5 + j]? = some u :=
 Kt (enc := Book.enc) (s := 5) (fun _ => rfl) r.books b hb (by rw [MP hb]; exact hu)
theorem Ph {r : Room} : (r.books.flatMap Book.enc).length = r.books.length * 5 := Lt (enc := Book.enc) (s := 5) (fun _ => rfl) r.books
section
variable {P : Program} {n : Nat} {B : Base} {e : Env} {σ : St}
end
end
section
open Go.RowKit
@[reducible] def slE (p : Value × List Nat) : List Value := [p.1]
def Lsts (F : Heap) (v : Value) (ls : List (List Nat)) : Prop := ∃ ps : List (Value × List Nat), Sl F v 1 slE ps ∧ (∀ p ∈ ps, Nats F p.1 p.2) ∧ ps.map (·.2) = ls
theorem Lsts.mono {F F' : Heap} {v : Value} {ls : List (List Nat)} (h : Lsts F v ls) (hF : F.le F') : Lsts F' v ls := by
 obtain ⟨ps, h1, h2, h3⟩ := h
 exact ⟨ps, h1.mono hF, fun p hp => (h2 p hp).mono hF, h3⟩
def AllN (F : Heap) (ps : List (Value × List Nat)) : Prop := ∀ p ∈ ps, Nats F p.1 p.2
theorem AllN.mono {F F' : Heap} {ps : List (Value × List Nat)} (h : AllN F ps) (hF : F.le F') : AllN F' ps := fun p hp => (h p hp).mono hF
def picked (l p : List Nat) : List Nat := p.map fun i => l[i]?.getD 0
variable {r : Room} {l : List Nat} {x : Int} {q : Nat}
end
section
open Go.RowKit
def bkA : Book := ⟨⟨#[97, 116, 108, 97, 115]⟩, 2, 40, 60, true⟩
def bkP : Book := ⟨⟨#[112, 115, 97, 108, 116, 101, 114]⟩, 4, 10, 10, false⟩
def bkN : Book := ⟨⟨#[110, 111, 118, 101, 108]⟩, 1, 200, 200, false⟩
def rdA : Rdr := ⟨⟨#[97, 100, 97]⟩, 2⟩
def rdB : Rdr := ⟨⟨#[98, 111]⟩, 5⟩
def seats3 : List Seat := [⟨10, false⟩, ⟨4, true⟩, ⟨5, false⟩]
def reqs5 : List Req := [⟨0, 0, 6, 20⟩, ⟨1, 1, 2, 30⟩, ⟨0, 2, 8, 10⟩, ⟨0, 1, 1, 50⟩, ⟨1, 0, 4, 15⟩]
def roomX (n : Nat) : Room := ⟨[bkA, bkP, bkN], [rdA, rdB], seats3.take n, reqs5⟩
end
section
def Put (r : Room) : List Nat → List Nat → Prop
 | [], [] => True
 | q :: l, s :: ss => (s < r.seats.length ∧ reason r q s = 0) ∧ Put r l ss
 | _, _ => False
def cost (r : Room) : List Nat → List Nat → Int
 | q :: l, s :: ss => light r q s + cost r l ss
 | _, _ => 0
def Sits (r : Room) (l taken ss : List Nat) : Prop := Put r l ss ∧ ss.Nodup ∧ ∀ s ∈ ss, s ∉ taken
theorem Rf {r : Room} {ss : List Nat} (h : Put r [] ss) : ss = [] := by
 cases ss with
 | nil => rfl
 | cons s ss => exact absurd h (by simp [Put])
theorem Ow {r : Room} {q : Nat} {l ss : List Nat} (h : Put r (q :: l) ss) : ∃ s ss', ss = s :: ss' ∧ s < r.seats.length ∧ reason r q s = 0 ∧ Put r l ss' := by
 cases ss with
 | nil => exact absurd h (by simp [Put])
 | cons s ss => exact ⟨s, ss, rfl, h.1.1, h.1.2, h.2⟩
theorem GC {r : Room} {q s : Nat} {l t ss : List Nat} : Sits r (q :: l) t (s :: ss) ↔ s < r.seats.length ∧ reason r q s = 0 ∧ s ∉ t ∧ Sits r l (t ++ [s]) ss := by
 unfold Sits
 simp only [Put, List.nodup_cons, List.mem_cons, List.mem_append, List.not_mem_nil, or_false, not_or]
 constructor
 · rintro ⟨⟨⟨h1, h2⟩, h3⟩, ⟨h4, h5⟩, h6⟩
   exact ⟨h1, h2, h6 s (.inl rfl), h3, h5, fun x hx => ⟨h6 x (.inr hx), fun e => h4 (e ▸ hx)⟩⟩
 rintro ⟨h1, h2, h3, h4, h5, h6⟩
 refine ⟨⟨⟨h1, h2⟩, h4⟩, ⟨fun hs => (h6 s hs).2 rfl, h5⟩, fun x hx => ?_⟩
 rcases hx with rfl | hx
 · exact h3
 exact (h6 x hx).1
def LeastOf (r : Room) (l t : List Nat) (o : Option (List Nat × Int)) : Prop := match o with
 | none => ∀ ss, ¬ Sits r l t ss
 | some (ss, n) => Sits r l t ss ∧ n = cost r l ss ∧ ∀ ss', Sits r l t ss' → n ≤ cost r l ss'
def LeastTo (r : Room) (q : Nat) (l t : List Nat) (k : Nat) (o : Option (List Nat × Int)) : Prop := match o with
 | none => ∀ s ss, s < k → ¬ Sits r (q :: l) t (s :: ss)
 | some (ss, n) => Sits r (q :: l) t ss ∧ n = cost r (q :: l) ss ∧ ∀ s ss', s < k → Sits r (q :: l) t (s :: ss') → n ≤ cost r (q :: l) (s :: ss')
theorem Qt {r : Room} {q k : Nat} {l t : List Nat} {sub : List Nat → Option (List Nat × Int)} (hk : k < r.seats.length) (hs : ∀ t, LeastOf r l t (sub t)) {o : Option (List Nat × Int)} (h : LeastTo r q l t k o) : LeastTo r q l t (k + 1) (step r q t sub o k) := by
 have hcost : ∀ ss, cost r (q :: l) (k :: ss) = light r q k + cost r l ss := fun _ => rfl
 unfold step
 split
 · rename_i hc
   have hno : ∀ ss, ¬ Sits r (q :: l) t (k :: ss) := fun ss hss => by
     obtain ⟨-, h1, h2, -⟩ := GC.1 hss
     exact hc.elim h2 fun h => h h1
   cases o with
   | none =>
     intro s ss hsk
     rcases Nat.lt_succ_iff_lt_or_eq.1 hsk with h' | rfl
     · exact h s ss h'
     exact hno ss
   | some p =>
     refine ⟨h.1, h.2.1, fun s ss' hsk hss => ?_⟩
     rcases Nat.lt_succ_iff_lt_or_eq.1 hsk with h' | rfl
     · exact h.2.2 s ss' h' hss
     exact absurd hss (hno ss')
 rename_i hc
 rw [not_or] at hc
 have hr : reason r q k = 0 := Classical.byContradiction fun h => hc.2 h
 have hsub := hs (t ++ [k])
 cases h1 : sub (t ++ [k]) with
 | none =>
   rw [h1] at hsub
   have hno : ∀ ss, ¬ Sits r (q :: l) t (k :: ss) := fun ss hss => hsub ss (GC.1 hss).2.2.2
   cases o with
   | none =>
     intro s ss hsk
     rcases Nat.lt_succ_iff_lt_or_eq.1 hsk with h' | rfl
     · exact h s ss h'
     exact hno ss
   | some p =>
     refine ⟨h.1, h.2.1, fun s ss' hsk hss => ?_⟩
     rcases Nat.lt_succ_iff_lt_or_eq.1 hsk with h' | rfl
     · exact h.2.2 s ss' h' hss
     exact absurd hss (hno ss')
 | some p =>
   obtain ⟨lb, n⟩ := p
   rw [h1] at hsub
   obtain ⟨a1, a2, a3⟩ := hsub
   have hnew : Sits r (q :: l) t (k :: lb) := GC.2 ⟨hk, hr, hc.1, a1⟩
   have hle : ∀ ss', Sits r (q :: l) t (k :: ss') → n + light r q k ≤ cost r (q :: l) (k :: ss') := fun ss' hss => by
     have := a3 ss' (GC.1 hss).2.2.2
     rw [hcost]; omega
   cases o with
   | none =>
     refine ⟨hnew, by rw [hcost]; omega, fun s ss' hsk hss => ?_⟩
     rcases Nat.lt_succ_iff_lt_or_eq.1 hsk with h' | rfl
     · exact absurd hss (h s ss' h')
     exact hle ss' hss
   | some p =>
     obtain ⟨ob, m⟩ := p
     obtain ⟨b1, b2, b3⟩ := h
     by_cases hlt : n + light r q k < m
     · simp only [if_pos hlt]
       refine ⟨hnew, by rw [hcost]; omega, fun s ss' hsk hss => ?_⟩
       rcases Nat.lt_succ_iff_lt_or_eq.1 hsk with h' | rfl
       · have := b3 s ss' h' hss; omega
       exact hle ss' hss
     simp only [if_neg hlt]
     refine ⟨b1, b2, fun s ss' hsk hss => ?_⟩
     rcases Nat.lt_succ_iff_lt_or_eq.1 hsk with h' | rfl
     · exact b3 s ss' h' hss
     have := hle ss' hss; omega
theorem Ll {r : Room} : ∀ l t, LeastOf r l t (giveR r l t)
 | [], t => ⟨⟨trivial, .nil, by simp⟩, rfl, fun ss' h => by rw [Rf h.1]; exact Int.le_refl _⟩
 | q :: l, t => by
   have key : ∀ k, k ≤ r.seats.length → LeastTo r q l t k ((List.range k).foldl (step r q t (giveR r l)) none) := by
     intro k
     induction k with
     | zero => exact fun _ s ss h => absurd h (by omega)
     | succ k ih =>
       intro hk
       rw [Dn]
       exact Qt (by omega) (Ll l) (ih (by omega))
   have h := key _ (Nat.le_refl _)
   show LeastOf r (q :: l) t ((List.range r.seats.length).foldl (step r q t (giveR r l)) none)
   cases ho : (List.range r.seats.length).foldl (step r q t (giveR r l)) none with
   | none =>
     rw [ho] at h
     intro ss hss
     obtain ⟨s, ss', rfl, h1, -, -⟩ := Ow hss.1
     exact h s ss' h1 hss
   | some p =>
     rw [ho] at h
     refine ⟨h.1, h.2.1, fun ss hss => ?_⟩
     obtain ⟨s, ss', rfl, h1, -, -⟩ := Ow hss.1
     exact h.2.2 s ss' h1 hss
theorem RS {r : Room} {l : List Nat} : canB r l = true ↔ Apart r l ∧ ∃ ss, Sits r l [] ss := by
 unfold canB allR
 have := Ll (r := r) l []
 by_cases ha : Apart r l
 · rw [if_pos ha]
   cases h : giveR r l [] with
   | none => rw [h] at this; simp; exact fun _ ss => this ss
   | some p => rw [h] at this; simp; exact ⟨ha, _, this.1⟩
 rw [if_neg ha]; simp [ha]
theorem can_nil {r : Room} : canB r [] = true := RS.2 ⟨.nil, [], trivial, .nil, by simp⟩
theorem J0 : ∀ a : List Nat, cmpL a a = 0
 | [] => rfl
 | a :: as1 => by rw [MJ]; exact J0 as1
theorem Ps : ∀ a b : List Nat, cmpL b a = - cmpL a b
 | [], [] => rfl
 | [], _ :: _ => rfl
 | _ :: _, [] => rfl
 | x :: xs, y :: ys => by
   unfold cmpL
   by_cases h1 : x < y
   · rw [if_neg (by omega), if_pos h1, if_pos h1]; rfl
   by_cases h2 : y < x
   · rw [if_pos h2, if_neg h1, if_pos h2]
   rw [if_neg h2, if_neg h1, if_neg h1, if_neg h2]; exact Ps xs ys
theorem L5 : ∀ {a b c : List Nat}, cmpL a b ≤ 0 → cmpL b c ≤ 0 → cmpL a c ≤ 0
 | [], _, c, _, _ => by cases c <;> simp [cmpL]
 | _ :: _, [], _, h, _ => by simp [cmpL] at h
 | _ :: _, _ :: _, [], _, h => by simp [cmpL] at h
 | x :: xs, y :: ys, z :: zs, h1, h2 => by
   unfold cmpL at h1 h2 ⊢
   by_cases a1 : x < y
   · by_cases a2 : y < z
     · rw [if_pos (by omega)]; omega
     rw [if_neg a2] at h2
     by_cases a3 : z < y
     · rw [if_pos a3] at h2; omega
     rw [if_pos (by omega)]; omega
   rw [if_neg a1] at h1
   by_cases a2 : y < x
   · rw [if_pos a2] at h1; omega
   rw [if_neg a2] at h1
   obtain rfl : x = y := by omega
   by_cases a3 : x < z
   · rw [if_pos a3]; omega
   rw [if_neg a3] at h2 ⊢
   by_cases a4 : z < x
   · rw [if_pos a4] at h2; omega
   rw [if_neg a4] at h2 ⊢
   exact L5 h1 h2
theorem QB {a b : List Nat} (h : ¬ cmpL a b < 0) : cmpL b a ≤ 0 := by rw [Ps]; omega
def IsBest (num : List Nat → Int) (f : List Nat → List Nat) (S : List Nat → Prop) (x : List Nat) : Prop := S x ∧ ∀ y, S y → num y < num x ∨ (num y = num x ∧ cmpL (f x) (f y) ≤ 0)
theorem S8 {num : List Nat → Int} {f : List Nat → List Nat} : ∀ (xs : List (List Nat)), (∀ x ∈ xs, 0 ≤ num x) → (xs = [] ∧ mostR num (fun a b => cmpL (f a) (f b)) xs = ([], -1)) ∨ ∃ x, mostR num (fun a b => cmpL (f a) (f b)) xs = (x, num x) ∧ IsBest num f (· ∈ xs) x := by
 intro xs
 induction hn : xs.length generalizing xs with
 | zero => intro _; exact .inl (by rw [List.eq_nil_of_length_eq_zero hn]; exact ⟨rfl, rfl⟩)
 | succ n ih =>
   intro h0
   obtain ⟨ys, y, rfl⟩ : ∃ ys y, xs = ys ++ [y] := ⟨xs.dropLast, xs.getLast (by intro h; rw [h] at hn; simp at hn), (List.dropLast_concat_getLast _).symm⟩
   have hy := h0 y (by simp)
   right
   rw [DS]
   rcases ih ys (by simp at hn; exact hn) (fun x hx => h0 x (by simp [hx])) with ⟨rfl, h⟩ | ⟨x, h, hb⟩
   · rw [h, Ey (.inl (by simp only; omega))]
     exact ⟨y, rfl, by simp, fun z hz => by simp at hz; subst hz; exact .inr ⟨rfl, by rw [J0]; omega⟩⟩
   rw [h]
   by_cases hc : num x < num y ∨ (num y = num x ∧ cmpL (f y) (f x) < 0)
   · rw [Ey hc]
     refine ⟨y, rfl, by simp, fun z hz => ?_⟩
     rcases List.mem_append.1 hz with hz | hz
     · rcases hb.2 z hz with h1 | ⟨h1, h2⟩
       · rcases hc with hc | ⟨hc, -⟩ <;> exact .inl (by omega)
       rcases hc with hc | ⟨hc, h3⟩
       · exact .inl (by omega)
       exact .inr ⟨by omega, L5 (by omega) h2⟩
     simp at hz; subst hz; exact .inr ⟨rfl, by rw [J0]; omega⟩
   rw [Gj hc]
   refine ⟨x, rfl, by simp [hb.1], fun z hz => ?_⟩
   rcases List.mem_append.1 hz with hz | hz
   · exact hb.2 z hz
   simp at hz; subst hz
   rw [not_or, not_and] at hc
   by_cases h1 : num z < num x
   · exact .inl h1
   have : num z = num x := by omega
   exact .inr ⟨this, QB (hc.2 this)⟩
def Asc (l : List Nat) : Prop := l.Pairwise (· < ·)
def Deep (r : Room) (b : List Nat) (k m : Nat) (y : List Nat) : Prop := ∃ e, y = b ++ e ∧ Asc e ∧ (∀ i ∈ e, k ≤ i ∧ i < r.reqs.length) ∧ (e = [] ∨ canB r y = true) ∧ ∀ i ∈ e.head?, i < m
def Grant (r : Room) (y : List Nat) : Prop := Asc y ∧ (∀ i ∈ y, i < r.reqs.length) ∧ canB r y = true
def maskOf (l : List Nat) : Nat := l.foldl (fun m i => m ||| 2 ^ i) 0
theorem Ho {l : List Nat} {t : Nat} : (maskOf l).testBit t = decide (t ∈ l) := by
 have key : ∀ (l : List Nat) (m : Nat), (l.foldl (fun m i => m ||| 2 ^ i) m).testBit t = (m.testBit t || decide (t ∈ l)) := by
   intro l
   induction l with
   | nil => intro m; simp
   | cons x l ih =>
     intro m
     rw [List.foldl_cons, ih, Nat.testBit_or, Nat.testBit_two_pow]
     by_cases h1 : x = t
     · subst h1; simp
     have : ¬ t = x := fun e => h1 e.symm
     simp [h1, this]
 unfold maskOf
 rw [key]; simp
theorem S9 {l : List Nat} {n : Nat} (h : ∀ i ∈ l, i < n) : maskOf l < 2 ^ n := by
 apply Nat.lt_pow_two_of_testBit
 intro i hi
 rw [Ho]
 exact dF fun hm => by have := h i hm; omega
theorem asc_ext {a b : List Nat} (ha : Asc a) (hb : Asc b) (h : ∀ i, i ∈ a ↔ i ∈ b) : a = b :=
 List.Perm.eq_of_pairwise (le := (· < ·)) (fun x y _ _ h1 h2 => by omega) ha hb
   ((List.perm_ext_iff_of_nodup (ha.imp fun h => Nat.ne_of_lt h) (hb.imp fun h => Nat.ne_of_lt h)).2 h)
theorem J5 {l : List Nat} {n : Nat} (hn : n ≤ 8) (h : ∀ i ∈ l, i < n) (ha : Asc l) : bitsL (maskOf l) = l :=
 asc_ext MQ ha fun i => by
   rw [Fj, Ho]
   constructor
   · rintro ⟨-, h2⟩; simpa using h2
   intro hi; exact ⟨by have := h i hi; omega, by simpa using hi⟩
theorem Nt {r : Room} (hv : Valid r) {of : Int} {w : Nat} {y : List Nat} : y ∈ setsR r of w ↔ Asc y ∧ (∀ i ∈ y, i < r.reqs.length) ∧ okSet r of w (maskOf y) = true := by
 have h8 := hv.nq
 constructor
 · intro h
   obtain ⟨set, h1, rfl, h2⟩ := M1 h
   refine ⟨MQ, Gy h1, ?_⟩
   have : maskOf (bitsL set) = set := by
     apply Nat.eq_of_testBit_eq
     intro i
     rw [Ho]
     by_cases hi : i < 8
     · by_cases hb : set.testBit i = true
       · rw [hb]; exact dT (Fj.2 ⟨hi, hb⟩)
       have : set.testBit i = false := by simpa using hb
       rw [this]; exact dF fun h => hb (Fj.1 h).2
     rw [Nat.testBit_lt_two_pow (Nat.lt_of_lt_of_le h1 (Nat.pow_le_pow_right (by omega) (by omega)))]
     exact dF fun h => hi (Fj.1 h).1
   rw [this]; exact h2
 rintro ⟨h1, h2, h3⟩
 unfold setsR setsTo
 refine List.mem_map.2 ⟨maskOf y, List.mem_filter.2 ⟨by simpa using S9 h2, h3⟩, J5 h8 h2 h1⟩
theorem GK {r : Room} (hv : Valid r) {y : List Nat} : y ∈ setsR r (-1) 0 ↔ Grant r y := by
 rw [Nt hv]
 unfold Grant
 constructor
 · rintro ⟨h1, h2, h3⟩
   refine ⟨h1, h2, ?_⟩
   unfold okSet at h3
   rw [J5 hv.nq h2 h1] at h3
   simp only [Bool.and_eq_true] at h3
   exact h3.2
 rintro ⟨h1, h2, h3⟩
 refine ⟨h1, h2, ?_⟩
 unfold okSet
 rw [J5 hv.nq h2 h1]
 simp only [Bool.and_eq_true]
 exact ⟨⟨dT QF, by simp⟩, h3⟩
theorem LK {r : Room} (hv : Valid r) : ∃ x, bestP r = (x, worthL r x) ∧ IsBest (worthL r) id (Grant r) x := by
 rcases S8 (num := worthL r) (f := id) (setsR r (-1) 0) (fun x hx => (Et hv ((GK hv).1 hx).2.1).1) with ⟨h, -⟩ | ⟨x, h1, h2⟩
 · have : [] ∈ setsR r (-1) 0 := (GK hv).2 ⟨.nil, by simp, can_nil⟩
   rw [h] at this; cases this
 exact ⟨x, h1, (GK hv).1 h2.1, fun y hy => h2.2 y ((GK hv).2 hy)⟩
end
section
abbrev castL (l : List Nat) : List Int := l.map fun (n : Nat) => (n : Int)
theorem JI {r : Room} (h : (check r).2.2 = 0) {l : List Nat} (ha : Asc l) (hl : ∀ i ∈ l, i < r.reqs.length) : someErr r (castL l) = 0 := by
 unfold someErr
 rw [if_neg (by omega), if_neg, if_neg]
 · rw [VG]; simp
   intro i hi h0
   simp only [castL, List.length_map] at hi
   simp only [castL, List.getElem_map]
   have := List.pairwise_iff_getElem.1 ha (i - 1) i (by omega) hi (by omega)
   omega
 rw [PA]; simp
 intro j hj
 simp only [castL, List.length_map] at hj
 simp only [castL, List.getElem_map]
 have := hl _ (List.getElem_mem hj)
 simp [inB]; omega
theorem Nk {r : Room} : ∀ {l ss : List Nat}, Put r l ss ↔ ss.length = l.length ∧ ∀ i (h1 : i < l.length) (h2 : i < ss.length), ss[i] < r.seats.length ∧ reason r l[i] ss[i] = 0
 | [], ss => by
   constructor
   · intro h; rw [Rf h]; simp
   rintro ⟨h, -⟩; have := List.eq_nil_of_length_eq_zero h; subst this; trivial
 | q :: l, [] => by simp [Put]
 | q :: l, s :: ss => by
   have ih := Nk (r := r) (l := l) (ss := ss)
   constructor
   · rintro ⟨⟨h1, h2⟩, h3⟩
     obtain ⟨h4, h5⟩ := ih.1 h3
     refine ⟨by simp [h4], fun i a b => ?_⟩
     cases i with
     | zero => exact ⟨h1, h2⟩
     | succ i => exact h5 i (by simpa using a) (by simpa using b)
   rintro ⟨h1, h2⟩
   refine ⟨h2 0 (by simp) (by simp), ih.2 ⟨by simpa using h1, fun i a b => ?_⟩⟩
   have := h2 (i + 1) (by simpa using a) (by simpa using b)
   simpa using this
def chosenL (r : Room) (bits : Nat) : List Nat := bitsTo bits (min r.reqs.length 8)
theorem Qi {set k i : Nat} : i ∈ bitsTo set k ↔ i < k ∧ set.testBit i = true := by unfold bitsTo; simp
theorem QK {set k : Nat} : Asc (bitsTo set k) := by unfold bitsTo; exact List.Pairwise.sublist List.filter_sublist List.pairwise_lt_range
theorem L7 {r : Room} {bits : Nat} : Asc (chosenL r bits) := QK
theorem J1 {r : Room} {bits : Nat} : ∀ i ∈ chosenL r bits, i < r.reqs.length := fun i hi => by
 have := (Qi.1 hi).1; omega
theorem PL {r : Room} (hv : Valid r) {y : List Nat} (hy : Grant r y) : worthL r y ≤ (bestP r).2 := by
 obtain ⟨x, h1, h2⟩ := LK hv
 rw [h1]
 rcases h2.2 y hy with h | ⟨h, -⟩ <;> simp only <;> omega
theorem QO {r : Room} (hv : Valid r) : Grant r (bestP r).1 ∧ worthL r (bestP r).1 = (bestP r).2 := by
 obtain ⟨x, h1, h2⟩ := LK hv
 rw [h1]; exact ⟨h2.1, rfl⟩
def Easier (r r' : Room) : Prop := r'.reqs.length = r.reqs.length ∧ r.seats.length ≤ r'.seats.length ∧ (∀ i, r'.reader i = r.reader i ∧ r'.book i = r.book i ∧ (r'.req i).worth = (r.req i).worth) ∧
 ∀ i s, i < r.reqs.length → s < r.seats.length → reason r i s = 0 → reason r' i s = 0
theorem Easier.can {r r' : Room} (h : Easier r r') {l : List Nat} (hl : ∀ i ∈ l, i < r.reqs.length) (hc : canB r l = true) : canB r' l = true := by
 obtain ⟨-, hs, hid, hre⟩ := h
 rw [RS] at hc ⊢
 obtain ⟨ha, ss, h1, h2, h3⟩ := hc
 obtain ⟨h4, h5⟩ := Nk.1 h1
 refine ⟨ha.imp fun {a b} h => ?_, ss, Nk.2 ⟨h4, fun i a b => ?_⟩, h2, h3⟩
 · unfold Two at h ⊢
   rw [(hid a).1, (hid b).1, (hid a).2.1, (hid b).2.1]; exact h
 obtain ⟨h6, h7⟩ := h5 i a b
 exact ⟨by omega, hre _ _ (hl _ (List.getElem_mem a)) h6 h7⟩
theorem Easier.best {r r' : Room} (h : Easier r r') (hv : Valid r) (hv' : Valid r') : (bestP r).2 ≤ (bestP r').2 := by
 obtain ⟨hg, hw⟩ := QO hv
 have hg' : Grant r' (bestP r).1 := ⟨hg.1, fun i hi => by rw [h.1]; exact hg.2.1 i hi, h.can hg.2.1 hg.2.2⟩
 have := PL hv' hg'
 have e : worthL r' (bestP r).1 = worthL r (bestP r).1 := by
   unfold worthL
   congr 1
   exact List.map_congr_left fun i _ => (h.2.2.1 i).2.2
 omega
theorem Om {r : Room} {i s : Nat} : reason r i s = 0 ↔ (r.bk (r.book i)).cls ≤ (r.rd (r.reader i)).permit ∧ ¬ ((r.bk (r.book i)).large = true ∧ (r.seat s).small = true) ∧ light r i s ≤ (r.bk (r.book i)).lo := by
 unfold reason
 split
 · simp; omega
 split
 · rename_i h; simp [h]
 split
 · simp; omega
 rename_i h1 h2 h3; simp; exact ⟨by omega, by simpa using h2, by omega⟩
end
section
theorem can_val {r : Room} {l : List Nat} (h : someErr r (castL l) = 0) : canV r (castL l) = .tuple #[.bool (canB r l), .int .i64 0] := by
 rw [RT h]; rfl
theorem P0 {r : Room} {l : List Nat} (h : someErr r (castL l) = 0) {b : Bool} (hb : canB r l = b) : canV r (castL l) = .tuple #[.bool b, .int .i64 0] := by
 rw [can_val h, hb]
end
section
def bksTo (r : Room) (f : Nat → Bool) (k : Nat) : List Book := (List.range k).map fun i => { r.bk i with large := f i }
def largeR (r : Room) (f : Nat → Bool) : Room := { r with books := bksTo r f r.books.length }
section
variable {r : Room} {f g : Nat → Bool}
theorem Dp {k : Nat} : (bksTo r f k).length = k := by simp [bksTo]
theorem QJ {k : Nat} : bksTo r f (k + 1) = bksTo r f k ++ [{ r.bk k with large := f k }] := by unfold bksTo; rw [List.range_succ, List.map_append]; rfl
theorem LH {k i : Nat} (h : i < (bksTo r f k).length) : (bksTo r f k)[i] = { r.bk i with large := f i } := by simp [bksTo]
theorem P2 {i : Nat} (h : i < r.books.length) : r.books[i] = r.bk i := by simp [Room.bk, h]
theorem OU {i : Nat} (h : i < r.books.length) : (largeR r f).bk i = { r.bk i with large := f i } := by
 have h1 : i < (largeR r f).books.length := by show i < (bksTo r f _).length; rw [Dp]; exact h
 rw [← P2 h1]
 exact LH _
theorem Tn : (bksTo r f r.books.length).map (·.name) = r.books.map (·.name) := by
 refine List.ext_getElem (by simp [bksTo]) fun i h1 h2 => ?_
 rw [List.length_map] at h2
 rw [List.getElem_map, List.getElem_map, LH, P2 h2]
theorem bks_err {i : Nat} : bookErr (bksTo r f r.books.length) i = bookErr r.books i := by
 have hany : ∀ (s : ByteArray), ((bksTo r f r.books.length).take i).any (fun x => sameS x.name s) = (r.books.take i).any (fun x => sameS x.name s) := by
   intro s
   have key : ∀ l : List Book, l.any (fun x => sameS x.name s) = (l.map (·.name)).any (fun x => sameS x s) := fun l => by rw [List.any_map]; rfl
   rw [key, key, List.map_take, List.map_take, Tn]
 by_cases h : i < r.books.length
 · have h1 : i < (bksTo r f r.books.length).length := by rw [Dp]; exact h
   rw [Cz h, Cz h1, LH, P2 h, hany]
 unfold bookErr
 rw [List.getElem?_eq_none (l := bksTo r f r.books.length) (by rw [Dp]; omega), List.getElem?_eq_none (l := r.books) (by omega)]
theorem JS : check (largeR r f) = check r := by
 have h1 : checkBooks (largeR r f).books = checkBooks r.books := by
   show checkBooks (bksTo r f r.books.length) = _
   unfold checkBooks
   rw [Dp, show bookErr (bksTo r f r.books.length) = bookErr r.books from funext fun i => bks_err]
 have h2 : checkReqs (largeR r f) = checkReqs r := by
   unfold checkReqs reqErr
   show (if 8 < r.reqs.length then _ else _) = _
   rw [show (largeR r f).books.length = r.books.length from Dp, show (largeR r f).reqs = r.reqs from rfl, show (largeR r f).readers = r.readers from rfl]
 unfold check
 rw [h1, h2]
 rfl
theorem N1 (hv : Valid r) (h : ∀ i, i < r.books.length → g i = true → f i = true) : Easier (largeR r f) (largeR r g) := by
 refine ⟨rfl, Nat.le_refl _, fun i => ⟨rfl, rfl, rfl⟩, fun i s hi hs h0 => ?_⟩
 rw [Om] at h0 ⊢
 have hb : r.book i < r.books.length := by have := hv.rq i hi; show (r.req i).book.toNat < _; omega
 have e1 : (largeR r g).book i = r.book i := rfl
 have e2 : (largeR r f).book i = r.book i := rfl
 rw [e1, OU hb]
 rw [e2, OU hb] at h0
 obtain ⟨h1, h2, h3⟩ := h0
 exact ⟨h1, fun q => h2 ⟨h _ hb q.1, q.2⟩, h3⟩
end
end
section
structure Fmt where
 name : ByteArray
 folds : ByteArray
structure Ppr where
 name : ByteArray
 wlo : Int
 whi : Int
 hlo : Int
 hhi : Int
structure Prs where
 formats : List Fmt
 papers : List Ppr
 trim : Int
 sheets : Int
structure Mk where
 fmt : Int
 ppr : Int
 sheets : Int
 half : Bool
deriving DecidableEq
structure Lf where
 sheet : Int
 col : Int
 row : Int
 inner : Bool
 turned : Bool
deriving DecidableEq
structure Mrk where
 leaf : Int
 seen : Bool
structure Bok where
 leaves : Int
 chain : Int
 wlo : Int
 whi : Int
 hlo : Int
 hhi : Int
 marks : List Mrk
@[reducible] def Fmt.enc (x : Fmt) : List Go.Value := [.string x.name, .string x.folds]
@[reducible] def Ppr.enc (x : Ppr) : List Go.Value := [.string x.name, .int .i64 x.wlo, .int .i64 x.whi, .int .i64 x.hlo, .int .i64 x.hhi]
@[reducible] def Mk.enc (x : Mk) : List Go.Value := [.int .i64 x.fmt, .int .i64 x.ppr, .int .i64 x.sheets, .bool x.half]
@[reducible] def Lf.enc (x : Lf) : List Go.Value := [.int .i64 x.sheet, .int .i64 x.col, .int .i64 x.row, .bool x.inner, .bool x.turned]
@[reducible] def Mrk.enc (x : Mrk) : List Go.Value := [.int .i64 x.leaf, .bool x.seen]
theorem Fmt.enc_one {b : Fmt} : ∀ u ∈ b.enc, u.oneCell' = true := by simp [Fmt.enc, Value.oneCell']
theorem Ppr.enc_one {b : Ppr} : ∀ u ∈ b.enc, u.oneCell' = true := by simp [Ppr.enc, Value.oneCell']
theorem Mk.enc_one {b : Mk} : ∀ u ∈ b.enc, u.oneCell' = true := by simp [Mk.enc, Value.oneCell']
theorem Lf.enc_one {b : Lf} : ∀ u ∈ b.enc, u.oneCell' = true := by simp [Lf.enc, Value.oneCell']
theorem Mrk.enc_one {b : Mrk} : ∀ u ∈ b.enc, u.oneCell' = true := by simp [Mrk.enc, Value.oneCell']
structure PrsR (F : Heap) (vf vp : Go.Value) (p : Prs) : Prop where
 formats : Sl F vf 2 Fmt.enc p.formats
 papers : Sl F vp 5 Ppr.enc p.papers
theorem PrsR.mono {F F' : Heap} {vf vp : Go.Value} {p : Prs} (h : PrsR F vf vp p) (hF : F.le F') : PrsR F' vf vp p := ⟨h.formats.mono hF, h.papers.mono hF⟩
@[reducible] def prsV (vf vp : Go.Value) (p : Prs) : Go.Value := .agg #[vf, vp, .int .i64 p.trim, .int .i64 p.sheets]
@[reducible] def bokV (vm : Go.Value) (b : Bok) : Go.Value := .agg #[.int .i64 b.leaves, .int .i64 b.chain, .int .i64 b.wlo, .int .i64 b.whi, .int .i64 b.hlo, .int .i64 b.hhi, vm]
@[reducible] def mkV (m : Mk) : Go.Value := .agg #[.int .i64 m.fmt, .int .i64 m.ppr, .int .i64 m.sheets, .bool m.half]
def Prs.ft (p : Prs) (i : Nat) : Fmt := p.formats[i]?.getD ⟨ByteArray.empty, ByteArray.empty⟩
def Prs.pr (p : Prs) (i : Nat) : Ppr := p.papers[i]?.getD ⟨ByteArray.empty, 0, 0, 0, 0⟩
def Bok.mr (b : Bok) (i : Nat) : Mrk := b.marks[i]?.getD ⟨0, false⟩
theorem Fo {p : Prs} {i : Nat} (h : i < p.formats.length) : p.formats[i] = p.ft i := by simp [Prs.ft, h]
theorem Ox {p : Prs} {i : Nat} (h : i < p.papers.length) : p.papers[i] = p.pr i := by simp [Prs.pr, h]
theorem Rp {b : Bok} {i : Nat} (h : i < b.marks.length) : b.marks[i] = b.mr i := by simp [Bok.mr, h]
def firstQ (n : Nat) (f : Nat → Int) : Int × Int := match firstBad n f with
 | none => (0, 0)
 | some i => ((i : Int), f i)
theorem D7 {n k : Nat} {f : Nat → Int} (hk : k < n) (hb : ∀ j, j < k → f j = 0) (hne : f k ≠ 0) : firstQ n f = ((k : Int), f k) := by
 unfold firstQ; rw [Dv hk hne hb]
theorem DA {n : Nat} {f : Nat → Int} (hb : ∀ j, j < n → f j = 0) : firstQ n f = (0, 0) := by unfold firstQ; rw [Dw hb]
theorem Ek {n : Nat} {f : Nat → Int} (h : (firstQ n f).2 = 0) : ∀ j, j < n → f j = 0 := by
 unfold firstQ at h
 cases hf : firstBad n f with
 | none => exact CA hf
 | some i =>
   rw [hf] at h
   unfold firstBad at hf
   have := List.find?_some hf
   simp at this
   exact absurd h this
def foldsB (s : ByteArray) : Bool := s.toList.all fun c => c == 120 || c == 121
def spansE (lo hi a b c d : Int) : Int := if (inB lo hi a && inB lo hi b && inB lo hi c && inB lo hi d) = false then 7 else if b < a ∨ d < c then 2 else 0
def fmtErr (p : Prs) (i : Nat) : Int := match p.formats[i]? with
 | none => 0
 | some x => if nameOk x.name = false then 6 else if (p.formats.take i).any (fun y => sameS y.name x.name) = true then 5 else if inB 1 4 x.folds.size = false then 3 else if foldsB x.folds = false then 6 else 0
def pprErr (p : Prs) (i : Nat) : Int := match p.papers[i]? with
 | none => 0
 | some x => if nameOk x.name = false then 6 else if (p.papers.take i).any (fun y => sameS y.name x.name) = true then 5 else spansE 1 2000 x.wlo x.whi x.hlo x.hhi
def mrkErr (b : Bok) (i : Nat) : Int := match b.marks[i]? with
 | none => 0
 | some x => if inB 0 (b.leaves - 1) x.leaf = false then 4 else 0
end
section
def timesN (s : List UInt8) (c : UInt8) : Nat := 2 ^ s.countP (· == c)
def Lf.flip (tn : Bool) (x : Lf) : Lf := { x with inner := !x.inner, turned := x.turned != tn }
def overL (onto pile : List Lf) (tn : Bool) : List Lf := onto ++ (pile.map (Lf.flip tn)).reverse
abbrev Piles := Nat → Nat → List Lf
def pile0 : Piles := fun c r => [⟨0, c, r, false, false⟩]
def foldX (cols : Nat) (tn : Bool) (p : Piles) : Piles := fun a b => if a < cols then overL (p a b) (p (2 * cols - 1 - a) b) tn else p a b
def foldY (rows : Nat) (tn : Bool) (p : Piles) : Piles := fun a b => if b < rows then overL (p a b) (p a (2 * rows - 1 - b)) tn else p a b
def lastC (s : List UInt8) : UInt8 := s.getLastD 0
def foldTo (s : List UInt8) (half : Bool) : Nat → Nat × Nat × Piles
 | 0 => (timesN s 120, timesN s 121, pile0)
 | k + 1 =>
   let t := foldTo s half k
   if s[k]?.getD 0 = 120 then (t.1 / 2, t.2.1, if k = 0 ∧ half = true then t.2.2 else foldX (t.1 / 2) (lastC s != 120) t.2.2)
   else (t.1, t.2.1 / 2, if k = 0 ∧ half = true then t.2.2 else foldY (t.2.1 / 2) (lastC s != 121) t.2.2)
def sheetL (s : List UInt8) (half : Bool) : List Lf := (foldTo s half s.length).2.2 0 0
structure Ln where
 col : Nat
 row : Nat
 x : Nat
 y : Nat
def Ln.turn (c : UInt8) (l : Ln) : Ln := if c = 120 then { l with x := l.x + 1 } else { l with y := l.y + 1 }
def turnL (pile : List Ln) (c : UInt8) : List Ln := (pile.map (Ln.turn c)).reverse
def pAt (p : List (List (List Ln))) (r c : Nat) : List Ln := ((p[r]?.getD [])[c]?).getD []
def rowL (p : List (List (List Ln))) (x : UInt8) (rows cols r k : Nat) : List (List Ln) := (List.range k).map fun c => pAt p r c ++ turnL (if x = 120 then pAt p r (cols - 1 - c) else pAt p (rows - 1 - r) c) x
def foldedL (p : List (List (List Ln))) (x : UInt8) : List (List (List Ln)) :=
 (List.range (if x = 121 then p.length / 2 else p.length)).map fun r => rowL p x p.length (p[0]?.getD []).length r (if x = 120 then (p[0]?.getD []).length / 2 else (p[0]?.getD []).length)
def startL (rows cols : Nat) : List (List (List Ln)) := (List.range rows).map fun r => (List.range cols).map fun c => [⟨c, r, 0, 0⟩]
def rowsN (s : List UInt8) (half : Bool) : Nat := if half = true ∧ s[0]?.getD 0 = 121 then timesN s 121 / 2 else timesN s 121
def colsN (s : List UInt8) (half : Bool) : Nat := if half = true ∧ s[0]?.getD 0 = 120 then timesN s 120 / 2 else timesN s 120
def cutL (s : List UInt8) (half : Bool) : List UInt8 := if half then s.tail else s
def pilesR (s : List UInt8) (half : Bool) (k : Nat) : List (List (List Ln)) := ((cutL s half).take k).foldl foldedL (startL (rowsN s half) (colsN s half))
def pileR (s : List UInt8) (half : Bool) : List Ln := pAt (pilesR s half (cutL s half).length) 0 0
def Ln.lf (last : UInt8) (s : Int) (l : Ln) : Lf := ⟨s, l.col, l.row, (l.x + l.y) % 2 == 1, (if last = 120 then l.y else l.x) % 2 == 1⟩
def sheetR (s : List UInt8) (half : Bool) : List Lf := (pileR s half).map (Ln.lf (lastC s) 0)
def words : Nat → List (List UInt8)
 | 0 => [[]]
 | k + 1 => (words k).flatMap fun w => [w ++ [120], w ++ [121]]
def wordsB (k : Nat) : Bool := (words k).all fun w => sheetL w false == sheetR w false && (k < 2 || sheetL w true == sheetR w true) && (sheetL w false).length == 2 ^ k && (k < 2 || (sheetL w true).length == 2 ^ (k - 1))
theorem words_1 : wordsB 1 = true := by kernel_rfl
theorem words_2 : wordsB 2 = true := by kernel_rfl
theorem words_3 : wordsB 3 = true := by kernel_rfl
theorem words_4 : wordsB 4 = true := by kernel_rfl
theorem GE : ∀ {k : Nat} {w : List UInt8}, w.length = k → (∀ c ∈ w, c = 120 ∨ c = 121) → w ∈ words k
 | 0, w, h, _ => by
   obtain rfl := List.eq_nil_of_length_eq_zero h
   exact List.mem_singleton.2 rfl
 | k + 1, w, h, hc => by
   have hne : w ≠ [] := fun e => by rw [e] at h; cases h
   obtain ⟨v, c, rfl⟩ : ∃ v c, w = v ++ [c] := ⟨w.dropLast, w.getLast hne, (List.dropLast_concat_getLast hne).symm⟩
   have hv : v ∈ words k := GE (by simpa using h) fun x hx => hc x (List.mem_append_left _ hx)
   refine List.mem_flatMap.2 ⟨v, hv, ?_⟩
   rcases hc c (by simp) with rfl | rfl <;> simp
theorem Su {s : List UInt8} (h : 1 ≤ s.length ∧ s.length ≤ 4) (hc : ∀ c ∈ s, c = 120 ∨ c = 121) {half : Bool} (hh : half = true → 2 ≤ s.length) : sheetL s half = sheetR s half ∧ (sheetL s half).length = 2 ^ (if half then s.length - 1 else s.length) := by
 have key : ∀ k, wordsB k = true → s.length = k → (1 ≤ k) → sheetL s half = sheetR s half ∧ (sheetL s half).length = 2 ^ (if half then s.length - 1 else s.length) := by
   intro k hk hl h1
   have := List.all_eq_true.1 hk s (GE hl hc)
   simp only [Bool.and_eq_true, Bool.or_eq_true, beq_iff_eq, decide_eq_true_eq] at this
   obtain ⟨⟨⟨a, b⟩, c⟩, d⟩ := this
   cases half with
   | false => exact ⟨a, by rw [c, hl]; rfl⟩
   | true =>
     have h2 := hh rfl
     exact ⟨b.resolve_left (by omega), by rw [d.resolve_left (by omega), hl]; rfl⟩
 have : s.length = 1 ∨ s.length = 2 ∨ s.length = 3 ∨ s.length = 4 := by omega
 rcases this with e | e | e | e
 · exact key 1 words_1 e (by omega)
 · exact key 2 words_2 e (by omega)
 · exact key 3 words_3 e (by omega)
 exact key 4 words_4 e (by omega)
end
section
def posN (n m s i : Nat) : Nat := if i < n then s * n + i else 2 * m * n - (s + 2) * n + i
def pairTo (n m : Nat) : Nat → List (Option (Nat × Nat))
 | 0 => List.replicate (2 * m * n) none
 | t + 1 => (pairTo n m t).set (posN n m (t / (2 * n)) (t % (2 * n))) (some (t / (2 * n), t % (2 * n)))
theorem KU {n m : Nat} : ∀ t, (pairTo n m t).length = 2 * m * n
 | 0 => by simp [pairTo]
 | t + 1 => by simp [pairTo, KU t]
def firstP (n : Nat) (m : Nat) : List (Nat × Nat) := (List.range m).flatMap fun s => (List.range n).map fun i => (s, i)
def secondP (n : Nat) (m : Nat) : List (Nat × Nat) := (List.range m).reverse.flatMap fun s => (List.range n).map fun i => (s, n + i)
def pairAll (n m : Nat) : List (Nat × Nat) := firstP n m ++ secondP n m
theorem Pi {n m : Nat} : firstP n (m + 1) = firstP n m ++ (List.range n).map fun i => (m, i) := by unfold firstP; rw [List.range_succ, List.flatMap_append]; simp
theorem Na {n m : Nat} : secondP n (m + 1) = ((List.range n).map fun i => (m, n + i)) ++ secondP n m := by unfold secondP; rw [List.range_succ, List.reverse_append]; simp
def pairB (n m : Nat) : Bool := pairTo n m (2 * m * n) == (pairAll n m).map some
theorem TZ : ([1, 2, 4, 8].all fun n => [1, 2, 3, 4].all fun m => pairB n m) = true := by kernel_rfl
theorem Ua {n m : Nat} (hn : n = 1 ∨ n = 2 ∨ n = 4 ∨ n = 8) (hm : 1 ≤ m ∧ m ≤ 4) : pairTo n m (2 * m * n) = (pairAll n m).map some := by
 have h1 := List.all_eq_true.1 TZ n (by rcases hn with h | h | h | h <;> simp [h])
 have h2 := List.all_eq_true.1 h1 m (by have : m = 1 ∨ m = 2 ∨ m = 3 ∨ m = 4 := by omega
                                        rcases this with h | h | h | h <;> simp [h])
 unfold pairB at h2
 exact beq_iff_eq.1 h2
def lf0 : Lf := ⟨0, 0, 0, false, false⟩
def lfP (sh : List Lf) : Option (Nat × Nat) → Lf
 | none => lf0
 | some (s, i) => { sh[i]?.getD lf0 with sheet := s }
def leavesG (sh : List Lf) (m : Nat) : List Lf := (pairAll (sh.length / 2) m).map fun q => lfP sh (some q)
def leavesTo (sh : List Lf) (m t : Nat) : List Lf := (pairTo (sh.length / 2) m t).map (lfP sh)
theorem Dm {sh : List Lf} {m t : Nat} : (leavesTo sh m t).length = 2 * m * (sh.length / 2) := by unfold leavesTo; rw [List.length_map, KU]
theorem Mb {sh : List Lf} {m t : Nat} : leavesTo sh m (t + 1) = (leavesTo sh m t).set (posN (sh.length / 2) m (t / (2 * (sh.length / 2))) (t % (2 * (sh.length / 2)))) (lfP sh (some (t / (2 * (sh.length / 2)), t % (2 * (sh.length / 2))))) := by
 unfold leavesTo
 show ((pairTo (sh.length / 2) m t).set _ _).map _ = _
 rw [List.map_set]
theorem N0 {sh : List Lf} {m : Nat} (hn : sh.length / 2 = 1 ∨ sh.length / 2 = 2 ∨ sh.length / 2 = 4 ∨ sh.length / 2 = 8) (hm : 1 ≤ m ∧ m ≤ 4) : leavesTo sh m (2 * m * (sh.length / 2)) = leavesG sh m := by
 unfold leavesTo leavesG
 rw [Ua hn hm, List.map_map]
 rfl
end
section
open Go.RowKit
section
variable {P : Program} {n : Nat} {B : Base} {e : Env} {σ : St} {d : Option Nat} {ty : TypeId} {pos : String} {af : Array Edge} {gd : Option (Nat × Bool)}
inductive OutE {α : Type} (p : α) : List α → List α → Prop
 | here {us : List α} : OutE p (p :: us) us
 | next {u : α} {us us' : List α} : OutE p us us' → OutE p (u :: us) (u :: us')
 | skip {S us us' : List α} : OutE p us us' → OutE p (S ++ us) (S ++ us')
 | lastS {S : List α} : OutE p (S ++ [p]) S
inductive OutB {α : Type} (R : List α) : List α → List α → Prop
 | here {us : List α} : OutB R (R ++ us) us
 | last : OutB R R []
 | next {u : α} {us us' : List α} : OutB R us us' → OutB R (u :: us) (u :: us')
 | skip {S us us' : List α} : OutB R us us' → OutB R (S ++ us) (S ++ us')
 | lastS {S : List α} : OutB R (S ++ R) S
theorem OutE.perm {α : Type} {p : α} {H H1 : List α} (h : OutE p H H1) : H.Perm (p :: H1) := by
 induction h with
 | here => exact .refl _
 | next _ ih => exact (ih.cons _).trans (.swap _ _ _)
 | skip _ ih => exact (ih.append_left _).trans List.perm_middle
 | lastS => exact List.perm_append_comm
theorem OutB.perm {α : Type} {R H H1 : List α} (h : OutB R H H1) : H.Perm (R ++ H1) := by
 induction h with
 | here => exact .refl _
 | last => rw [List.append_nil]
 | next _ ih => exact (ih.cons _).trans List.perm_middle.symm
 | skip _ ih =>
   refine (ih.append_left _).trans ?_
   rw [← List.append_assoc, ← List.append_assoc]
   exact List.perm_append_comm.append_right _
 | lastS => exact List.perm_append_comm
inductive PickB {α : Type} : List α → List α → Prop
 | nil {H : List α} : PickB H []
 | all {H : List α} : PickB H H
 | one {p : α} {H H1 H' : List α} : OutE p H H1 → PickB H1 H' → PickB H (p :: H')
 | blk {R H H1 H' : List α} : OutB R H H1 → PickB H1 H' → PickB H (R ++ H')
 | lastb {R H H1 : List α} : OutB R H H1 → PickB H R
theorem PickB.sub {α : Type} {H H' : List α} (h : PickB H H') : ∃ D, H.Perm (H' ++ D) := by
 induction h with
 | @nil H => exact ⟨H, by simp⟩
 | all => exact ⟨[], by simp⟩
 | one ho _ ih => obtain ⟨D, hD⟩ := ih; exact ⟨D, ho.perm.trans (hD.cons _)⟩
 | blk ho _ ih => obtain ⟨D, hD⟩ := ih; exact ⟨D, by rw [List.append_assoc]; exact ho.perm.trans (hD.append_left _)⟩
 | lastb ho => exact ⟨_, ho.perm⟩
theorem Holds.pickB {w : World} (h : Holds B σ w) {H' : List (Nat × Obj)} (hp : PickB σ.H H') : Holds B ⟨σ.F, H'⟩ w := by
 obtain ⟨D, hD⟩ := hp.sub
 refine h.perm (fun p hm => hD.symm.mem_iff.1 (List.mem_append_left _ hm)) fun hn => ?_
 have := (hD.map (·.1)).nodup_iff.1 hn
 rw [List.map_append, List.nodup_append] at this
 exact this.1
theorem VN {c : Code} {Q : Exit → Env → St → Prop} {H' : List (Nat × Obj)} (hp : PickB σ.H H') (h : WC P n B c Q e ⟨σ.F, H'⟩) : WC P n B c Q e σ := Bk (fun _ _ hw => hw.pickB hp) h
theorem Tu {ops : Array Oper} {Q : Exit → Env → St → Prop} {σS : St} {ts : List Nat} {fuel : Nat} {listed : Array Bool} {H' : List (Nat × Obj)} (hp : PickB σ.H H') (h : WX P n B ops Q σS ts fuel listed e ⟨σ.F, H'⟩) : WX P n B ops Q σS ts fuel listed e σ := VJ (fun _ hw => hw.pickB hp) h
end
end
section
open Go.RowKit
theorem Nr {F F' : Heap} (hF : F.le F') {b : Nat} (h : F' b = none) : F b = none := by
 cases hb : F b with
 | none => rfl
 | some o => have := hF _ _ hb; rw [h] at this; cases this
theorem ext_le {F0 F F' : Heap} (h0 : F0.le F) (hF : F.le F') {b : Nat} (h : F' b = F0 b) : F b = F0 b := by
 cases h2 : F b with
 | some o => rw [← h]; exact (hF _ _ h2).symm
 | none => exact (Nr h0 h2).symm
theorem Holds.weak {B : Base} {F F' : Heap} {H : List (Nat × Obj)} {w : World} (h : Holds B ⟨F', H⟩ w) (hF : F.le F') (h0 : B.F0.le F) : Holds B ⟨F, H⟩ w :=
 ⟨h.os, h.tape, h.output, h.size, h.old, fun b o hb => h.sub b o (hF b o hb), fun p hp => let ⟨h1, h2, h3⟩ := h.own p hp; ⟨h1, Nr hF h2, h3⟩, h.nodup, fun b hb => ext_le h0 hF (h.ext b hb), h0,
   fun D hD => let ⟨h1, h2, h3, h4⟩ := h.marks D hD; ⟨h1, Nr hF h2, h3, h4⟩, h.dnodup⟩
end
section
open Go.RowKit
def IsK (P : Program) (K : Nat) (v : Value) : Prop := ∃ l, keyOf P K v = some l
structure MapT (P : Program) (M K E : Nat) (z : Value) : Prop where
 under : P.underlying M = some (.map K E)
 zero : ZeroT P E z
 keyed : Go.Maps.Keyed P K
def entryO (p : (Value × Value) × Nat) : MapEntry := ⟨p.1.1, p.1.2, p.2⟩
def mapO (es : List (Value × Value)) : Obj := .map (es.zipIdx.map entryO).toArray es.length
theorem Rt {es : List (Value × Value)} {j : Nat} {e : MapEntry} (h : (es.zipIdx.map entryO)[j]? = some e) : ∃ p, es[j]? = some p ∧ e = ⟨p.1, p.2, j⟩ := by
 rw [List.getElem?_map, List.getElem?_zipIdx] at h
 cases hj : es[j]? with
 | none => rw [hj] at h; simp at h
 | some p => rw [hj] at h; simp [entryO] at h; exact ⟨p, rfl, h.symm⟩
theorem Ut {es : List (Value × Value)} {e : MapEntry} (h : e ∈ es.zipIdx.map entryO) : ∃ j p, es[j]? = some p ∧ e = ⟨p.1, p.2, j⟩ := by
 obtain ⟨j, hj⟩ := List.getElem?_of_mem h
 obtain ⟨p, h1, h2⟩ := Rt hj
 exact ⟨j, p, h1, h2⟩
section
variable {P : Program} {n : Nat} {B : Base} {e : Env} {σ : St} {d : Option Nat} {ty : TypeId} {pos : String} {af : Array Edge} {gd : Option (Nat × Bool)}
theorem Gn {K : Nat} (hK : Go.Maps.Keyed P K) {k : Value} (hk : IsK P K k) {es : List (Value × Value)} (hall : ∀ p ∈ es, IsK P K p.1) (w : World) :
   ((Instr.findKey K k (es.zipIdx.map entryO)).run P w = .ok none w ∧ ∀ p ∈ es, p.1 ≠ k) ∨ ∃ j u, (Instr.findKey K k (es.zipIdx.map entryO)).run P w = .ok (some (j, u)) w ∧ es[j]? = some (k, u) := by
 obtain ⟨l, hl⟩ := hk
 rcases hK.find w hl (es.zipIdx.map entryO) (fun e he => by obtain ⟨j, p, h1, rfl⟩ := Ut he; exact hall p (List.mem_of_getElem? h1)) with ⟨h1, h2⟩ | ⟨j, e0, h1, h2, h3⟩
 · refine .inl ⟨h1, fun p hp => ?_⟩
   obtain ⟨j, hj⟩ := List.getElem?_of_mem hp
   have : entryO (p, j) ∈ es.zipIdx.map entryO := by
     refine List.mem_map.2 ⟨(p, j), ?_, rfl⟩
     rw [List.mem_zipIdx_iff_getElem?]; exact hj
   exact h2 _ this
 obtain ⟨p, q1, rfl⟩ := Rt h2
 refine .inr ⟨j, p.2, h1, ?_⟩
 rw [q1]
 simp only at h3
 rw [← h3]
theorem Mf {M : Nat} {K : Value → St → Prop} (hn : ∀ b, B.w0.heap.size ≤ b → σ.F b = none → K (.map (some b)) ⟨σ.F, (b, mapO []) :: σ.H⟩) : OpX P n B ⟨d, .makeMap M none, ty, pos, af, gd⟩ e σ K :=
 .run fun w hw => ⟨_, _, _, .inl (by simp [execOp, Instr.makeMap]; rfl), hw.alloc (mapO []), hn _ hw.size hw.fresh⟩
theorem DN {b : Nat} {es : List (Value × Value)} {w : World} (h : w.heap[b]? = some (mapO es)) : (Go.getObj b).run P w = .ok (mapO es) w := by
 simp only [Go.getObj, Sem.run, h]; simp [mapO]
theorem Fx {b : Nat} {es es' : List (Value × Value)} {w : World} (h : w.heap[b]? = some (mapO es)) : (Go.setObj b (mapO es')).run P w = .ok () { w with heap := w.heap.setIfInBounds b (mapO es') } := by
 simp only [Go.setObj, Sem.run, h]; simp [mapO]
theorem Mz {es : List (Value × Value)} (hd : (es.map (·.1)).Nodup) {i j : Nat} {k u v : Value} (hi : es[i]? = some (k, u)) (hj : es[j]? = some (k, v)) : i = j := by
 have h1 : (es.map (·.1))[i]? = some k := by simp [hi]
 have h2 : (es.map (·.1))[j]? = some k := by simp [hj]
 have hl : i < (es.map (·.1)).length := (List.getElem?_eq_some_iff.1 h1).1
 exact (List.getElem?_inj hl hd).1 (by rw [h1, h2])
theorem JK {M K E : Nat} {z k : Value} {b : Nat} {es : List (Value × Value)} (hT : MapT P M K E z) (hk : IsK P K k) (hall : ∀ p ∈ es, IsK P K p.1) (hno : ∀ p ∈ es, p.1 ≠ k) {w : World} (hb : w.heap[b]? = some (mapO es)) (ok : Bool) :
   (Instr.lookup M (.map (some b)) k ok).run P w = .ok (if ok then .tuple #[z, .bool false] else z) w := by
 obtain ⟨l, hl⟩ := hk
 have hc := fun em => hT.keyed.check w em hl
 have hb' := DN (P := P) hb; unfold mapO at hb'
 have hf : (Instr.findKey K k (es.zipIdx.map entryO)).run P w = .ok none w := by
   rcases Gn hT.keyed ⟨l, hl⟩ hall w with ⟨h, -⟩ | ⟨j, u, -, h⟩
   · exact h
   exact absurd rfl (hno _ (List.mem_of_getElem? h))
 cases ok <;> simp [Instr.lookup, Bq hT.under, hb', hc, hf, Fg hT.zero]
theorem JJ {M K E : Nat} {z k u : Value} {b j : Nat} {es : List (Value × Value)} (hT : MapT P M K E z) (hk : IsK P K k) (hall : ∀ p ∈ es, IsK P K p.1) (hd : (es.map (·.1)).Nodup) (hj : es[j]? = some (k, u)) {w : World} (hb : w.heap[b]? = some (mapO es)) (ok : Bool) :
   (Instr.lookup M (.map (some b)) k ok).run P w = .ok (if ok then .tuple #[u, .bool true] else u) w := by
 obtain ⟨l, hl⟩ := hk
 have hc := fun em => hT.keyed.check w em hl
 have hb' := DN (P := P) hb; unfold mapO at hb'
 have hf : (Instr.findKey K k (es.zipIdx.map entryO)).run P w = .ok (some (j, u)) w := by
   rcases Gn hT.keyed ⟨l, hl⟩ hall w with ⟨-, h⟩ | ⟨i, v, h1, h2⟩
   · exact absurd rfl (h _ (List.mem_of_getElem? hj))
   have := Mz hd h2 hj
   subst this
   rw [h2] at hj
   simp only [Option.some.injEq, Prod.mk.injEq] at hj
   rw [h1, hj.2]
 cases ok <;> simp [Instr.lookup, Bq hT.under, hb', hc, hf]
theorem Ms {M K E i b : Nat} {x y : Operand} {z k : Value} {es : List (Value × Value)} (hT : MapT P M K E z) (hx : ev e x = .map (some b)) (hy : ev e y = k) (hi : σ.H[i]? = some (b, mapO es)) (hk : IsK P K k) (hall : ∀ p ∈ es, IsK P K p.1) (hno : ∀ p ∈ es, p.1 ≠ k) :
   OpR P B ⟨d, .lookup M x y false, ty, pos, af, gd⟩ e σ z := fun w hw => by
 have := JK hT hk hall hno (hw.own _ (List.mem_of_getElem? hi)).1 false
 simp [execOp, hx, hy, this]
theorem CU {M K E i b j : Nat} {x y : Operand} {z k u : Value} {es : List (Value × Value)} (hT : MapT P M K E z) (hx : ev e x = .map (some b)) (hy : ev e y = k) (hi : σ.H[i]? = some (b, mapO es)) (hk : IsK P K k) (hall : ∀ p ∈ es, IsK P K p.1) (hd : (es.map (·.1)).Nodup) (hj : es[j]? = some (k, u)) :
   OpR P B ⟨d, .lookup M x y false, ty, pos, af, gd⟩ e σ u := fun w hw => by
 have := JJ hT hk hall hd hj (hw.own _ (List.mem_of_getElem? hi)).1 false
 simp [execOp, hx, hy, this]
theorem PX {M K E i b : Nat} {x y : Operand} {z k : Value} {es : List (Value × Value)} (hT : MapT P M K E z) (hx : ev e x = .map (some b)) (hy : ev e y = k) (hi : σ.H[i]? = some (b, mapO es)) (hk : IsK P K k) (hall : ∀ p ∈ es, IsK P K p.1) (hno : ∀ p ∈ es, p.1 ≠ k) :
   OpR P B ⟨d, .lookup M x y true, ty, pos, af, gd⟩ e σ (.tuple #[z, .bool false]) := fun w hw => by
 have := JK hT hk hall hno (hw.own _ (List.mem_of_getElem? hi)).1 true
 simp [execOp, hx, hy, this]
theorem PW {M K E i b j : Nat} {x y : Operand} {z k u : Value} {es : List (Value × Value)} (hT : MapT P M K E z) (hx : ev e x = .map (some b)) (hy : ev e y = k) (hi : σ.H[i]? = some (b, mapO es)) (hk : IsK P K k) (hall : ∀ p ∈ es, IsK P K p.1) (hd : (es.map (·.1)).Nodup) (hj : es[j]? = some (k, u)) :
   OpR P B ⟨d, .lookup M x y true, ty, pos, af, gd⟩ e σ (.tuple #[u, .bool true]) := fun w hw => by
 have := JJ hT hk hall hd hj (hw.own _ (List.mem_of_getElem? hi)).1 true
 simp [execOp, hx, hy, this]
theorem Hv {M K E i b : Nat} {x y : Operand} {z k : Value} {es : List (Value × Value)} {H' : List (Nat × Obj)} {Q : Value → St → Prop} (hT : MapT P M K E z) (hx : ev e x = .map (some b)) (hy : ev e y = k) (hi : σ.H[i]? = some (b, mapO es)) (hk : IsK P K k) (hall : ∀ p ∈ es, IsK P K p.1) (hno : ∀ p ∈ es, p.1 ≠ k)
   (hH : SetL σ.H i (b, mapO (es ++ [(k, z)])) H') (hn : Q (.tuple #[z, .int .i64 es.length]) ⟨σ.F, H'⟩) : OpX P n B ⟨d, .mapEntry M x y, ty, pos, af, gd⟩ e σ Q := .run fun w hw => by
 have hb := (hw.own _ (List.mem_of_getElem? hi)).1
 obtain ⟨l, hl⟩ := hk
 have hc := fun em => hT.keyed.check w em hl
 have hf : (Instr.findKey K k (es.zipIdx.map entryO)).run P w = .ok none w := by
   rcases Gn hT.keyed ⟨l, hl⟩ hall w with ⟨h, -⟩ | ⟨j, u, -, h⟩
   · exact h
   exact absurd rfl (hno _ (List.mem_of_getElem? h))
 have hobj : Obj.map ((es.zipIdx.map entryO).toArray.push ⟨k, z, es.length⟩) (es.length + 1) = mapO (es ++ [(k, z)]) := by
   unfold mapO
   congr 1
   · simp [List.zipIdx_append, entryO]
   simp
 rw [hH.eq.1] at hn
 refine ⟨_, _, _, .inl ?_, hw.setObj hi (o' := mapO (es ++ [(k, z)])), hn⟩
 have hg := DN (P := P) hb
 have hs := Fx (P := P) (es' := (es ++ [(k, z)])) hb
 simp only [execOp, hx, hy, Instr.mapEntry, Sem.run_bind, Bq hT.under, Result.andThen_ok, hg]
 simp only [mapO, hc, Result.andThen_ok, hf, Fg hT.zero, Sem.run_bind]
 rw [hobj, hs]
 simp [goInt, mapO]
theorem Hu {M K E i b j : Nat} {x y : Operand} {z k u : Value} {es : List (Value × Value)} {Q : Value → St → Prop} (hT : MapT P M K E z) (hx : ev e x = .map (some b)) (hy : ev e y = k) (hi : σ.H[i]? = some (b, mapO es)) (hk : IsK P K k) (hall : ∀ p ∈ es, IsK P K p.1) (hd : (es.map (·.1)).Nodup) (hj : es[j]? = some (k, u))
   (hn : Q (.tuple #[u, .int .i64 j]) σ) : OpX P n B ⟨d, .mapEntry M x y, ty, pos, af, gd⟩ e σ Q := .run fun w hw => by
 have hb := (hw.own _ (List.mem_of_getElem? hi)).1
 obtain ⟨l, hl⟩ := hk
 have hc := fun em => hT.keyed.check w em hl
 have hf : (Instr.findKey K k (es.zipIdx.map entryO)).run P w = .ok (some (j, u)) w := by
   rcases Gn hT.keyed ⟨l, hl⟩ hall w with ⟨-, h⟩ | ⟨i, v, h1, h2⟩
   · exact absurd rfl (h _ (List.mem_of_getElem? hj))
   have := Mz hd h2 hj
   subst this
   rw [h2] at hj
   simp only [Option.some.injEq, Prod.mk.injEq] at hj
   rw [h1, hj.2]
 have hat : (es.zipIdx.map entryO).toArray[j]? = some ⟨k, u, j⟩ := by
   simp [List.getElem?_zipIdx, hj, entryO]
 have hobj : Obj.map ((es.zipIdx.map entryO).toArray.modify j fun e => { e with key := k }) es.length = mapO es := by
   unfold mapO
   congr 1
   apply Array.ext'
   apply List.ext_getElem?
   intro m
   rw [Array.getElem?_toList, Array.getElem?_modify]
   by_cases hm : j = m
   · subst hm; rw [if_pos rfl, hat]; simp only [Option.map_some]; rw [← Array.getElem?_toList] at hat; exact hat.symm
   rw [if_neg hm, Array.getElem?_toList]
 have hst := hT.keyed.stays w hl
 have hself : ({ w with heap := w.heap.setIfInBounds b (mapO es) } : World) = w := by
   have : w.heap.setIfInBounds b (mapO es) = w.heap := by
     apply Array.ext_getElem?
     intro m
     rw [Array.getElem?_setIfInBounds]
     split
     · rename_i hm; subst hm; rw [hb]; split
       · rfl
       rename_i hm2; exact absurd (Array.getElem?_eq_some_iff.1 hb).1 hm2
     rfl
   rw [this]
 have hs := Fx (P := P) (es' := es) hb
 rw [hself] at hs
 have hg := DN (P := P) hb
 refine ⟨_, _, _, .inl ?_, hw, hn⟩
 simp only [execOp, hx, hy, Instr.mapEntry, Sem.run_bind, Bq hT.under, Result.andThen_ok, hg]
 simp only [mapO, hc, Result.andThen_ok, hf, Sem.run_bind, hat, Option.map_some, Option.getD_some, hst]
 rw [hobj, hs]
 simp [goInt]
theorem C7 {M i b j : Nat} {x y s : Operand} {k v : Value} {es : List (Value × Value)} {H' : List (Nat × Obj)} {Q : Value → St → Prop} (hx : ev e x = .map (some b)) (hs : ev e s = .int .i64 j) (hy : ev e y = v) (hi : σ.H[i]? = some (b, mapO es)) (hj : (es[j]?).map (·.1) = some k)
   (hH : SetL σ.H i (b, mapO (es.set j (k, v))) H') (hn : Q undef ⟨σ.F, H'⟩) : OpX P n B ⟨d, .entryStore M x s y, ty, pos, af, gd⟩ e σ Q := .run fun w hw => by
 have hb := (hw.own _ (List.mem_of_getElem? hi)).1
 cases hj' : es[j]? with
 | none => rw [hj'] at hj; simp at hj
 | some p =>
   rw [hj'] at hj
   simp only [Option.map_some, Option.some.injEq] at hj
   have hjl := (List.getElem?_eq_some_iff.1 hj').1
   have hfi : (es.zipIdx.map entryO).toArray.findIdx? (fun e => (e.born : Int) == (j : Int)) = some j := by
     rw [List.findIdx?_toArray, List.findIdx?_eq_some_iff_getElem]
     refine ⟨by simpa using hjl, by simp [entryO], fun m hm => by simp [entryO]; omega⟩
   have hobj : Obj.map ((es.zipIdx.map entryO).toArray.modify j fun e => { e with val := v }) es.length = mapO (es.set j (k, v)) := by
     unfold mapO
     congr 1
     · apply Array.ext'
       apply List.ext_getElem?
       intro m
       rw [Array.getElem?_toList, Array.getElem?_modify]
       simp only [List.getElem?_toArray, List.getElem?_map, List.getElem?_zipIdx, List.getElem?_set]
       by_cases hm : j = m
       · subst hm; rw [if_pos rfl, hj']; simp [hjl, entryO, hj]
       rw [if_neg hm]; simp [hm]
     simp
   have hg := DN (P := P) hb
   have hst := Fx (P := P) (es' := es.set j (k, v)) hb
   rw [hH.eq.1] at hn
   refine ⟨_, _, _, .inr ⟨?_, rfl⟩, hw.setObj hi (o' := mapO (es.set j (k, v))), hn⟩
   simp only [execOp, hx, hy, hs, Instr.entryStore, Sem.run_bind, Sem.run_pure, Result.andThen_ok, hg]
   simp only [mapO, asInt, asIntOf, Sem.run_bind, Sem.run_pure, Result.andThen_ok, hfi]
   rw [hobj, hst]
   simp [mapO]
theorem SD {T d : Nat} (hu : P.underlying T = some .bool) (b : Bool) : P.keyLits (d + 1) T [.bool b] = some [.bool b] := by simp [Program.keyLits, hu]
theorem HF {T d : Nat} {q : IntKind} (hu : P.underlying T = some (.int q)) {z : Int} (hz : (Lit.int q z).wf = true) : P.keyLits (d + 1) T [.int q z] = some [.int q z] := by simp [Program.keyLits, hu, hz]
theorem OX {K d : Nat} {f0 f1 : Field} (hu : P.underlying K = some (.struct #[f0, f1])) (hk : P.keyType K = true) (hc : P.cellsOf K = 2) (c0 : P.cellsOf f0.type = 1) (c1 : P.cellsOf f1.type = 1) (hs : P.types.size = d)
   (o0 : f0.offset = 0) (o1 : f1.offset = 1) (n0 : (f0.name != "_") = true) (n1 : (f1.name != "_") = true) {a b : Value} {la lb : List Lit} (ha : P.keyLits d f0.type [a] = some la) (hb : P.keyLits d f1.type [b] = some lb) : IsK P K (.agg #[a, b]) := by
 have h : (P.keyLits (P.types.size + 1) K [a, b]) = some (la ++ lb) := by
   rw [hs]
   unfold Program.keyLits
   rw [hu]
   simp only [hc]
   have hall : (#[f0, f1] : Array Field).all (·.name != "_") = true := by simp [n0, n1]
   rw [if_pos ⟨rfl, hall⟩]
   simp [o0, o1, c0, c1, ha, hb]
 refine ⟨.string (keyBytes (la ++ lb)), ?_⟩
 unfold keyOf
 rw [hu]
 have hf : (Value.agg #[a, b]).formed P K = true := by simp [Value.formed, hu, hc]
 simp only [hk, hf, Bool.and_self, if_true]
 show (P.keyLits (P.types.size + 1) K [a, b]).map _ = _
 rw [h]; rfl
theorem wf64 {z : Int} (h1 : -9223372036854775808 ≤ z) (h2 : z ≤ 9223372036854775807) : (Lit.int .i64 z).wf = true := by
 have e1 : IntKind.i64.min = -9223372036854775808 := by decide
 have e2 : IntKind.i64.max = 9223372036854775807 := by decide
 simp [Lit.wf, e1, e2, h1, h2]
theorem R0 {es : List (Value × Value)} (k : Value) : (∀ p ∈ es, p.1 ≠ k) ∨ ∃ (j : Nat) (u : Value), es[j]? = some (k, u) := by
 by_cases h : ∃ p ∈ es, p.1 = k
 · obtain ⟨p, hp, rfl⟩ := h
   obtain ⟨j, hj⟩ := List.getElem?_of_mem hp
   exact .inr ⟨j, p.2, hj⟩
 exact .inl fun p hp he => h ⟨p, hp, he⟩
theorem Cs {K : Nat} {es : List (Value × Value)} {k v : Value} (h : ∀ p ∈ es, IsK P K p.1) (hk : IsK P K k) : ∀ p ∈ es ++ [(k, v)], IsK P K p.1 := by
 intro p hp
 rcases List.mem_append.1 hp with hp | hp
 · exact h p hp
 simp at hp; subst hp; exact hk
theorem Da {es : List (Value × Value)} {k v : Value} (h : (es.map (·.1)).Nodup) (hk : ∀ p ∈ es, p.1 ≠ k) : ((es ++ [(k, v)]).map (·.1)).Nodup := by
 rw [List.map_append, List.nodup_append]
 refine ⟨h, by simp, fun a ha b hb => ?_⟩
 obtain ⟨p, hp, rfl⟩ := List.mem_map.1 ha
 simp at hb; subst hb
 exact hk p hp
theorem map_set {es : List (Value × Value)} {j : Nat} {k u v : Value} (hj : es[j]? = some (k, u)) : (es.set j (k, v)).map (·.1) = es.map (·.1) := by
 apply List.ext_getElem?
 intro m
 rw [List.getElem?_map, List.getElem?_map, List.getElem?_set]
 by_cases hm : j = m
 · subst hm; rw [if_pos rfl, hj]; simp [(List.getElem?_eq_some_iff.1 hj).1]
 rw [if_neg hm]
theorem Un {es : List (Value × Value)} {j : Nat} {k u v : Value} (h : (es.map (·.1)).Nodup) (hj : es[j]? = some (k, u)) : ((es.set j (k, v)).map (·.1)).Nodup := by rw [map_set hj]; exact h
theorem Si {K : Nat} {es : List (Value × Value)} {j : Nat} {k u v : Value} (h : ∀ p ∈ es, IsK P K p.1) (hj : es[j]? = some (k, u)) : ∀ p ∈ es.set j (k, v), IsK P K p.1 := by
 intro p hp
 have : p.1 ∈ (es.set j (k, v)).map (·.1) := List.mem_map_of_mem hp
 rw [map_set hj] at this
 obtain ⟨q, hq, he⟩ := List.mem_map.1 this
 rw [← he]; exact h q hq
theorem TJ {es : List (Value × Value)} {j : Nat} {k u v : Value} (hj : es[j]? = some (k, u)) : (es.set j (k, v))[j]? = some (k, v) := by
 rw [List.getElem?_set, if_pos rfl, if_pos (List.getElem?_eq_some_iff.1 hj).1]
theorem EO {es : List (Value × Value)} {p : Value × Value} : (es ++ [p])[es.length]? = some p := by simp
theorem Hz {es : List (Value × Value)} {p q : Value × Value} : (es ++ [p]).set es.length q = es ++ [q] := by
 rw [List.set_append_right _ _ (Nat.le_refl _)]; simp
theorem TV {T d0 d1 : Nat} {x y : Operand} {a0 b0 : Bool} {k : IntKind} {a1 b1 : Int} {u : TypeId} {f0 f1 : Field} (hu : P.underlying T = some (.struct #[f0, f1])) (hst : P.stoodInHeld T = false) (hg : P.eqGuardType P.depth T = false)
   (n0 : f0.name ≠ "_") (n1 : f1.name ≠ "_") (o0 : f0.offset = 0) (o1 : f1.offset = 1) (h0 : P.underlying f0.type = some .bool) (h1 : P.underlying f1.type = some (.int k)) (s0 : OneT P f0.type) (s1 : OneT P f1.type) (_e0 : d0 = 0) (_e1 : d1 = 0)
   (hx : ev e x = .agg #[.bool a0, .int .i64 a1]) (hy : ev e y = .agg #[.bool b0, .int .i64 b1]) :
   OpR P B ⟨d, .binOp .eql T x y u, ty, pos, af, gd⟩ e σ (.bool ((a0 == b0) && (a1 == b1))) := fun w _ => by
 have hf : P.fieldsOf T = #[f0, f1] := by simp [Program.fieldsOf, hu]
 have hu' : P.underlying T = some (.struct (P.fieldsOf T)) := by rw [hf]; exact hu
 have p0 : ∀ cs : Array Value, ∀ v, cs[0]? = some v → (part f0.type cs f0.offset).run P w = .ok v w := fun cs v hv => by simp [part, Eu s0, o0, hv]
 have p1 : ∀ cs : Array Value, ∀ v, cs[1]? = some v → (part f1.type cs f1.offset).run P w = .ok v w := fun cs v hv => by simp [part, Eu s1, o1, hv]
 have he := run_eql_struct (P := P) w T #[.bool a0, .int .i64 a1] #[.bool b0, .int .i64 b1]
 rw [run_equalIn_struct w 9999 T _ _ hu' hst, hf] at he
 have hgd := run_eqGuard_agg (P := P) w .eql T x y #[.bool a0, .int .i64 a1] #[.bool b0, .int .i64 b1] hg
 simp only [execOp, hx, hy, Sem.run_bind, hgd, Result.andThen_ok, he]
 simp only [Op.eqFields, ne_eq, n0, n1, not_false_eq_true, if_true, Sem.run_bind, p0 _ _ (show (#[Value.bool a0, Value.int .i64 a1] : Array Value)[0]? = some (.bool a0) from rfl), p0 _ _ (show (#[Value.bool b0, Value.int .i64 b1] : Array Value)[0]? = some (.bool b0) from rfl), Result.andThen_ok, run_equalIn_bool' w 9998 f0.type a0 b0 h0]
 cases hab : (a0 == b0) with
 | false => simp
 | true =>
   simp [p1 _ _ (show (#[Value.bool a0, Value.int .i64 a1] : Array Value)[1]? = some (.int .i64 a1) from rfl), p1 _ _ (show (#[Value.bool b0, Value.int .i64 b1] : Array Value)[1]? = some (.int .i64 b1) from rfl), run_equalIn_int w 9998 f1.type .i64 k a1 b1 h1]
   by_cases hc : a1 = b1 <;> simp [hc]
end
end
section
open Go.RowKit
section
variable {P : Program} {n : Nat} {B : Base} {e : Env} {σ : St} {d : Option Nat} {ty : TypeId} {pos : String} {af : Array Edge} {gd : Option (Nat × Bool)}
theorem CE {x y : Operand} {a b : Int} {t u : TypeId} (hx : ev e x = .int .i64 a) (hy : ev e y = .int .i64 b) (ha : 0 ≤ a) (ha2 : a ≤ 9223372036854775807) (hb : 0 < b) :
   OpR P B ⟨d, .binOp .quo t x y u, ty, pos, af, gd⟩ e σ (.int .i64 (a / b)) := fun w _ => by
 have h0 : ¬ b = 0 := by omega
 have h1 : 0 ≤ a / b := Int.ediv_nonneg ha (by omega)
 have h2 : a / b ≤ a := Int.ediv_le_self b ha
 have h3 : IntKind.i64.wrap (a / b) = a / b := CZ (by omega) (by omega)
 simp [execOp, hx, hy, eqGuard, binOp, Op.intDiv, h0, Int.tdiv_eq_ediv_of_nonneg ha, h3]
theorem QT {c : Code} {Q : Exit → Env → St → Prop} {i b : Nat} {o : Obj} {H' : List (Nat × Obj)} (hM : B.M = []) (hi : σ.H[i]? = some (b, o)) (hH : DelL σ.H i H')
   (h : ∀ F', σ.F.le F' → F' b = some o → WC P n B c Q e ⟨F', H'⟩) : WC P n B c Q e σ := by
 intro ds a w ha hw
 have h2 := hw.own _ (List.mem_of_getElem? hi)
 have hb : B.w0.heap.size ≤ b := h2.2.2.resolve_right (fun hm => by rw [show (B.at ds).M = [] from hM] at hm; cases hm)
 rw [hH.eq] at h
 exact h _ (EF h2.2.1) DT ds a w ha (hw.freeze hi hb)
theorem VK {ops : Array Oper} {Q : Exit → Env → St → Prop} {l : List Oper} {H' : List (Nat × Obj)} (hp : Pick σ.H H') (h : WL P n B ops Q l e ⟨σ.F, H'⟩) : WL P n B ops Q l e σ := VL (fun _ hw => hw.pick hp) h
theorem G6 {M K E i b : Nat} {x y y2 : Operand} {z k v : Value} {es : List (Value × Value)} {H' : List (Nat × Obj)} {Q : Value → St → Prop} (hT : MapT P M K E z) (hx : ev e x = .map (some b)) (hy : ev e y = k) (hy2 : ev e y2 = v) (hi : σ.H[i]? = some (b, mapO es)) (hk : IsK P K k) (hall : ∀ p ∈ es, IsK P K p.1) (hno : ∀ p ∈ es, p.1 ≠ k)
   (hH : SetL σ.H i (b, mapO (es ++ [(k, v)])) H') (hn : Q undef ⟨σ.F, H'⟩) : OpX P n B ⟨d, .mapUpdate M x y y2, ty, pos, af, gd⟩ e σ Q := .run fun w hw => by
 have hb := (hw.own _ (List.mem_of_getElem? hi)).1
 obtain ⟨l, hl⟩ := hk
 have hc := fun em => hT.keyed.check w em hl
 have hf : (Instr.findKey K k (es.zipIdx.map entryO)).run P w = .ok none w := by
   rcases Gn hT.keyed ⟨l, hl⟩ hall w with ⟨h, -⟩ | ⟨j, u, -, h⟩
   · exact h
   exact absurd rfl (hno _ (List.mem_of_getElem? h))
 have hobj : Obj.map ((es.zipIdx.map entryO).toArray.push ⟨k, v, es.length⟩) (es.length + 1) = mapO (es ++ [(k, v)]) := by
   unfold mapO
   congr 1
   · simp [List.zipIdx_append, entryO]
   simp
 rw [hH.eq.1] at hn
 refine ⟨_, _, _, .inr ⟨?_, rfl⟩, hw.setObj hi (o' := mapO (es ++ [(k, v)])), hn⟩
 have hg := DN (P := P) hb
 have hs := Fx (P := P) (es' := (es ++ [(k, v)])) hb
 simp only [execOp, hx, hy, hy2, Instr.mapUpdate, Sem.run_bind, Bq hT.under, Result.andThen_ok, hg]
 simp only [mapO, hc, Result.andThen_ok, hf, Sem.run_bind]
 rw [hobj, hs]
 simp [mapO]
end
end
section
open Go.RowKit
section
variable {P : Program} {n : Nat} {B : Base} {e : Env} {σ : St} {d : Option Nat} {ty : TypeId} {pos : String} {af : Array Edge} {gd : Option (Nat × Bool)}
theorem KN : ∀ (vs pre : List Value) (c : List Value), vs.length ≤ c.length → setAt (pre ++ c).toArray pre.length vs = (pre ++ (vs ++ c.drop vs.length)).toArray
 | [], pre, c, _ => by simp [setAt]
 | v :: vs, pre, [], h => by simp at h
 | v :: vs, pre, u :: c, h => by
   unfold setAt
   have : (pre ++ u :: c).toArray.setIfInBounds pre.length v = ((pre ++ [v]) ++ c).toArray := by simp
   rw [this]
   have := KN vs (pre ++ [v]) c (by simpa using h)
   simp only [List.length_append, List.length_singleton] at this
   rw [this]; simp
end
end
section
open Go.RowKit
section
variable {P : Program} {n : Nat} {B : Base} {e : Env} {σ : St} {d : Option Nat} {ty : TypeId} {pos : String} {af : Array Edge} {gd : Option (Nat × Bool)}
theorem Sv {l vs : List Value} {j : Nat} (h : j + vs.length ≤ l.length) : setAt l.toArray j vs = (l.take j ++ (vs ++ l.drop (j + vs.length))).toArray := by
 have h1 := KN vs (l.take j) (l.drop j) (by rw [List.length_drop]; omega)
 rw [List.take_append_drop, List.length_take, Nat.min_eq_left (by omega), List.drop_drop] at h1
 exact h1
theorem Ji {T E s k j m : Nat} {x y : Operand} {v u : Value} {vs cs : List Value} {R TT : List (Nat × Obj)} {f g : List (Nat × Obj) → List (Nat × Obj)} {K : Value → St → Prop} (hT : SizeT P T m) (hx : ev e x = .pointer (some (addc (base v) j))) (hy : ev e y = u) (hu : u.cells = vs.toArray) (hm : vs.length = m)
   (hown : Own E s v k cs R) (hj : j + m ≤ cs.length) (h0 : 0 < m) (h1 : ∀ z ∈ vs, z.oneCell' = true) (hH : Hole σ.H TT f) (hR : Tail TT R g) (hn : ∀ R', Own E s v k (cs.take j ++ (vs ++ cs.drop (j + m))) R' → K undef ⟨σ.F, f (g R')⟩) : OpX P n B ⟨d, .store T x y, ty, pos, af, gd⟩ e σ K := .run fun w hw => by
 subst hm
 obtain ⟨A, q1, q2⟩ := hH.eq
 obtain ⟨C, r1, r2⟩ := hR.eq
 match R, hown with
 | [], h => obtain ⟨-, -, rfl⟩ := h; simp only [List.length_nil] at hj; omega
 | [(bb, o)], h =>
   obtain ⟨cap, spare, rfl, rfl, h3, h4, h5⟩ := h
   have hH' : σ.H = A ++ ([(bb, bx E (cs ++ spare))] ++ C) := by rw [q1, r1]
   have hb := (hw.own (bb, bx E (cs ++ spare)) (by rw [hH']; simp)).1
   obtain ⟨w', e1, e2, e3, e4, e5, e6, e7⟩ := CG (P := P) vs j 0 (cs ++ spare).toArray w hb (by simp; omega) h1
   rw [Nat.add_zero, Sv (by rw [List.length_append]; omega)] at e6
   have hset : (cs ++ spare).take j ++ (vs ++ (cs ++ spare).drop (j + vs.length)) = (cs.take j ++ (vs ++ cs.drop (j + vs.length))) ++ spare := by
     rw [List.take_append_of_le_length (by omega), List.drop_append_of_le_length (by omega)]; simp
   rw [hset] at e6
   have had : addc (base (.slice (some ⟨bb, 0, none⟩) k cap)) j = ⟨bb, j, none⟩ := by simp [addc, base]
   rw [had] at hx
   have hrun : (execOp (ev e) ⟨d, .store T x y, ty, pos, af, gd⟩).run P w = .ok .skip w' := by
     simp [execOp, hx, hy, Instr.storeAt, Instr.sureAddr, storeVar, hu, BE hT, e1]
   have hl : (cs.take j ++ (vs ++ cs.drop (j + vs.length))).length = cs.length := by simp; omega
   have hnew := hn [(bb, bx E ((cs.take j ++ (vs ++ cs.drop (j + vs.length))) ++ spare))] ⟨cap, spare, rfl, rfl, by rw [hl]; exact h3, by rw [List.length_append, hl]; simpa using h4, h5⟩
   rw [r2, q2] at hnew
   exact ⟨_, _, _, .inr ⟨hrun, rfl⟩, hw.rewrite hH' e2 e3 e4 e5 e6 e7, hnew⟩
end
theorem HJ {α : Type} {enc : α → List Value} {s : Nat} (hs : ∀ x, (enc x).length = s) {x : α} : ∀ (l : List α) (i : Nat), i < l.length → (l.flatMap enc).take (i * s) ++ (enc x ++ (l.flatMap enc).drop (i * s + s)) = (l.set i x).flatMap enc
 | [], i, hi => absurd hi (by simp)
 | a :: l, 0, hi => by
   simp only [List.flatMap_cons, List.set_cons_zero, Nat.zero_mul, Nat.zero_add, List.take_zero, List.nil_append]
   rw [List.drop_append_of_le_length (by rw [hs]; exact Nat.le_refl _), List.drop_of_length_le (by rw [hs]; exact Nat.le_refl _), List.nil_append]
 | a :: l, i + 1, hi => by
   simp only [List.flatMap_cons, List.set_cons_succ]
   have ih := HJ hs (x := x) l i (by simpa using hi)
   rw [Nat.add_mul, Nat.one_mul, Nat.add_comm (i * s) s, ← hs a, List.take_append, List.take_of_length_le (by omega), Nat.add_sub_cancel_left, Nat.add_assoc, List.drop_append, List.drop_of_length_le (by omega), Nat.add_sub_cancel_left, List.nil_append, List.append_assoc, hs a, ih]
end
section
set_option maxRecDepth 100000
open Go.RowKit
section
variable {P : Program} {B : Base} {e : Env} {σ : St} {d : Option Nat} {ty : TypeId} {pos : String} {af : Array Edge} {gd : Option (Nat × Bool)}
theorem K8 {z : Int} (h1 : 0 ≤ z) (h2 : z < 18446744073709551616) : IntKind.u64.wrap z = z := by
 simp [IntKind.wrap, IntKind.signed, IntKind.bits]; omega
theorem Jn {x y : Operand} {a b : Nat} {t u : TypeId} (hx : ev e x = .int .u64 (a : Int)) (hy : ev e y = .int .u64 (b : Int)) (h : a + b < 18446744073709551616) :
   OpR P B ⟨d, .binOp .add t x y u, ty, pos, af, gd⟩ e σ (.int .u64 ((a + b : Nat) : Int)) := fun w _ => by
 have hw : IntKind.u64.wrap ((a : Int) + (b : Int)) = ((a + b : Nat) : Int) := by rw [← Int.natCast_add]; exact K8 (by omega) (by omega)
 simp [execOp, hx, hy, eqGuard, binOp, Op.intArith, hw]
theorem KS {x y : Operand} {m k : Nat} {t u : TypeId} (hx : ev e x = .int .u64 (m : Int)) (hy : ev e y = .int .u64 (k : Int)) (h1 : m < 18446744073709551616) (h2 : k < 18446744073709551616) :
   OpR P B ⟨d, .binOp .and t x y u, ty, pos, af, gd⟩ e σ (.int .u64 ((m &&& k : Nat) : Int)) := fun w _ => by
 have hle : m &&& k ≤ m := Nat.and_le_left
 have e1 : (BitVec.ofInt 64 (m : Int) &&& BitVec.ofInt 64 (k : Int)).toNat = m &&& k := by
   rw [BitVec.ofInt_natCast, BitVec.ofInt_natCast, BitVec.toNat_and, BitVec.toNat_ofNat, BitVec.toNat_ofNat, Nat.mod_eq_of_lt (by omega), Nat.mod_eq_of_lt (by omega)]
 have e2 : IntKind.u64.wrap ((m &&& k : Nat) : Int) = ((m &&& k : Nat) : Int) := K8 (by omega) (by omega)
 have e3 : Op.intBits .and .u64 (m : Int) (k : Int) = pure (.int .u64 (IntKind.u64.wrap ((BitVec.ofInt 64 (m : Int) &&& BitVec.ofInt 64 (k : Int)).toNat : Int))) := rfl
 rw [e1, e2] at e3
 simp only [execOp, hx, hy, eqGuard, binOp, e3]
 simp
theorem Hm {x y : Operand} {m k : Nat} {t u : TypeId} {kd : IntKind} (hx : ev e x = .int .u64 (m : Int)) (hy : ev e y = .int kd (k : Int)) (hk : k < 64) :
   OpR P B ⟨d, .binOp .shr t x y u, ty, pos, af, gd⟩ e σ (.int .u64 ((m / 2 ^ k : Nat) : Int)) := FR hx hy rfl hk (by simp)
end
def on1 (n : Nat) : Nat := (n / 2 ^ 1 &&& 6148914691236517205) + (n &&& 6148914691236517205)
def on2 (n : Nat) : Nat := (n / 2 ^ 2 &&& 3689348814741910323) + (n &&& 3689348814741910323)
def on3 (n : Nat) : Nat := n / 2 ^ 4 + n &&& 1085102592571150095
def on4 (n : Nat) : Nat := n + n / 2 ^ 8
def on5 (n : Nat) : Nat := n + n / 2 ^ 16
def on6 (n : Nat) : Nat := n + n / 2 ^ 32
def onN (n : Nat) : Nat := on6 (on5 (on4 (on3 (on2 (on1 n))))) &&& 127
def bitsF (n : Nat) : List Nat := (List.range 16).filter fun i => n.testBit i
theorem onN_eq : ∀ n, n < 2048 → onN n = (bitsF n).length := by
 have h : (List.range 2048).all (fun n => onN n == (bitsF n).length) = true := by kernel_rfl
 intro n hn
 have := List.all_eq_true.1 h n (List.mem_range.2 hn)
 exact beq_iff_eq.1 this
theorem S4 : ∀ n, n < 2048 → on1 n < 4096 ∧ on2 (on1 n) < 4096 ∧ on3 (on2 (on1 n)) < 4096 ∧ on4 (on3 (on2 (on1 n))) < 4096 ∧ on5 (on4 (on3 (on2 (on1 n)))) < 4096 ∧ on6 (on5 (on4 (on3 (on2 (on1 n))))) < 4096 := by
 have h : (List.range 2048).all (fun n => decide (on1 n < 4096 ∧ on2 (on1 n) < 4096 ∧ on3 (on2 (on1 n)) < 4096 ∧ on4 (on3 (on2 (on1 n))) < 4096 ∧ on5 (on4 (on3 (on2 (on1 n)))) < 4096 ∧ on6 (on5 (on4 (on3 (on2 (on1 n))))) < 4096)) = true := by kernel_rfl
 intro n hn
 exact of_decide_eq_true (List.all_eq_true.1 h n (List.mem_range.2 hn))
def bitLen (n : Nat) : Nat := if n = 0 then 0 else n.log2 + 1
def tab8 : ByteArray := ⟨#[0, 1, 2, 2, 3, 3, 3, 3, 4, 4, 4, 4, 4, 4, 4, 4, 5, 5, 5, 5, 5, 5, 5, 5, 5, 5, 5, 5, 5, 5, 5, 5, 6, 6, 6, 6, 6, 6, 6, 6, 6, 6, 6, 6, 6, 6, 6, 6, 6, 6, 6, 6, 6, 6, 6, 6, 6, 6, 6, 6, 6, 6, 6, 6, 7, 7, 7, 7, 7, 7, 7, 7, 7, 7, 7, 7, 7, 7, 7, 7, 7, 7, 7, 7, 7, 7, 7, 7, 7, 7, 7, 7, 7, 7, 7, 7, 7, 7, 7, 7, 7, 7, 7, 7, 7, 7, 7, 7, 7, 7, 7, 7, 7, 7, 7, 7, 7, 7, 7, 7, 7, 7, 7, 7, 7, 7, 7, 7, 8, 8, 8, 8, 8, 8, 8, 8, 8, 8, 8, 8, 8, 8, 8, 8, 8, 8, 8, 8, 8, 8, 8, 8, 8, 8, 8, 8, 8, 8, 8, 8, 8, 8, 8, 8, 8, 8, 8, 8, 8, 8, 8, 8, 8, 8, 8, 8, 8, 8, 8, 8, 8, 8, 8, 8, 8, 8, 8, 8, 8, 8, 8, 8, 8, 8, 8, 8, 8, 8, 8, 8, 8, 8, 8, 8, 8, 8, 8, 8, 8, 8, 8, 8, 8, 8, 8, 8, 8, 8, 8, 8, 8, 8, 8, 8, 8, 8, 8, 8, 8, 8, 8, 8, 8, 8, 8, 8, 8, 8, 8, 8, 8, 8, 8, 8, 8, 8, 8, 8, 8, 8, 8, 8, 8, 8, 8, 8]⟩
theorem Fc : tab8.size = 256 := rfl
theorem QY {n : Nat} (h : n < 256) (hk : n < tab8.size) : ((tab8[n]'hk).toNat : Int) = (bitLen n : Int) := by
 have ht : (List.range 256).all (fun i => if h : i < tab8.size then (tab8[i]'h).toNat == bitLen i else false) = true := by kernel_rfl
 have := List.all_eq_true.1 ht n (List.mem_range.2 h)
 rw [dif_pos hk] at this
 rw [beq_iff_eq.1 this]
theorem GP {n : Nat} (h : n < 256) : bitLen n ≤ 8 := by
 have ht : (List.range 256).all (fun i => decide (bitLen i ≤ 8)) = true := by kernel_rfl
 exact of_decide_eq_true (List.all_eq_true.1 ht n (List.mem_range.2 h))
def bitsFT (n k : Nat) : List Nat := (List.range k).filter fun i => n.testBit i
theorem QN {n : Nat} (h : n < 2048) : bitsFT n (bitLen n) = bitsF n := by
 have ht : (List.range 2048).all (fun i => decide (bitsFT i (bitLen i) = bitsF i)) = true := by kernel_rfl
 exact of_decide_eq_true (List.all_eq_true.1 ht n (List.mem_range.2 h))
theorem P4 {n : Nat} (h : n < 2048) : bitLen n ≤ 11 := by
 have ht : (List.range 2048).all (fun i => decide (bitLen i ≤ 11)) = true := by kernel_rfl
 exact of_decide_eq_true (List.all_eq_true.1 ht n (List.mem_range.2 h))
theorem Vj {n : Nat} (h : n < 2048) (h2 : 256 ≤ n) : bitLen n = 8 + bitLen (n / 2 ^ 8) := by
 have ht : (List.range 2048).all (fun i => decide (256 ≤ i → bitLen i = 8 + bitLen (i / 2 ^ 8))) = true := by kernel_rfl
 exact of_decide_eq_true (List.all_eq_true.1 ht n (List.mem_range.2 h)) h2
theorem QM {n k : Nat} (h : n.testBit k = true) : bitsFT n (k + 1) = bitsFT n k ++ [k] := by unfold bitsFT; rw [List.range_succ, List.filter_append]; simp [h]
theorem To {n k : Nat} (h : n.testBit k = false) : bitsFT n (k + 1) = bitsFT n k := by unfold bitsFT; rw [List.range_succ, List.filter_append]; simp [h]
theorem LJ {n k : Nat} : (bitsFT n k).length ≤ k := by have := List.length_filter_le (fun i => n.testBit i) (List.range k); rw [List.length_range] at this; exact this
theorem RW {n k : Nat} : ((n / 2 ^ k &&& 1 : Nat) : Int) = 1 ↔ n.testBit k = true := by
 rw [Nat.and_one_is_mod, Nat.testBit_eq_decide_div_mod_eq, decide_eq_true_iff]; omega
end
section
def fewF (a b : Nat) : Bool := if ((bitsF a).length : Int) - ((bitsF b).length : Int) ≠ 0 then decide (((bitsF a).length : Int) - ((bitsF b).length : Int) < 0) else decide (cmpL (bitsF a) (bitsF b) < 0)
def Prs.fold (p : Prs) (m : Mk) : List UInt8 := (p.ft m.fmt.toNat).folds.toList
def Prs.pap (p : Prs) (m : Mk) : Ppr := p.pr m.ppr.toNat
def colN (p : Prs) (m : Mk) : Nat := timesN (p.fold m) 120
def rowN (p : Prs) (m : Mk) : Nat := timesN (p.fold m) 121
def upB (s : List UInt8) : Bool := lastC s == 120
def mkErr (p : Prs) (m : Mk) : Int :=
 if (inB 0 (p.formats.length - 1) m.fmt && inB 0 (p.papers.length - 1) m.ppr) = false then 4 else if inB 1 p.sheets m.sheets = false then 7
 else if m.half = true ∧ (m.sheets ≠ 1 ∨ (p.fold m).length < 2) then 2 else 0
def leavesP (p : Prs) (m : Mk) : List Lf := leavesG (sheetL (p.fold m) m.half) m.sheets.toNat
def hasB (p : Prs) (m : Mk) (x : Lf) (half : Int) : Bool := inB (4 * x.col) (4 * x.col + 4) (colN p m * (1 + 2 * half)) && inB (2 * x.row) (2 * x.row + 2) (rowN p m)
def untrueTo (p : Prs) (m : Mk) (b : Bok) (s half : Int) : Nat → Nat
 | 0 => 0
 | k + 1 => if ((leavesP p m)[(b.mr k).leaf.toNat]?.getD lf0).sheet = s ∧ hasB p m ((leavesP p m)[(b.mr k).leaf.toNat]?.getD lf0) half ≠ (b.mr k).seen then untrueTo p m b s half k ||| 8 * 2 ^ k else untrueTo p m b s half k
def untrueN (p : Prs) (m : Mk) (b : Bok) (s half : Int) : Nat := untrueTo p m b s half b.marks.length
def lessN (p : Prs) (m : Mk) (b : Bok) (s : Int) : Nat := if fewF (untrueN p m b s 1) (untrueN p m b s 0) = true then untrueN p m b s 1 else untrueN p m b s 0
def reachB (lo hi less slo shi : Int) : Bool := decide (lo - less ≤ shi) && decide (slo ≤ hi)
def wideP (p : Prs) (m : Mk) : Int × Int := if upB (p.fold m) = true then ((p.pap m).wlo / colN p m, (p.pap m).whi / colN p m) else ((p.pap m).hlo / rowN p m, (p.pap m).hhi / rowN p m)
def highP (p : Prs) (m : Mk) : Int × Int := if upB (p.fold m) = true then ((p.pap m).hlo / rowN p m, (p.pap m).hhi / rowN p m) else ((p.pap m).wlo / colN p m, (p.pap m).whi / colN p m)
def chainP (p : Prs) (m : Mk) : Int := if upB (p.fold m) = true then 1 else 2
def bit3 (p : Prs) (m : Mk) (b : Bok) : Nat :=
 (if b.chain ≠ 0 ∧ b.chain ≠ chainP p m then 1 else 0) ||| (if reachB (wideP p m).1 (wideP p m).2 p.trim b.wlo b.whi = false then 2 else 0) ||| (if reachB (highP p m).1 (highP p m).2 (2 * p.trim) b.hlo b.hhi = false then 4 else 0)
def offTo (p : Prs) (m : Mk) (b : Bok) : Nat → Nat
 | 0 => bit3 p m b
 | s + 1 => offTo p m b s ||| lessN p m b s
def offP (p : Prs) (m : Mk) (b : Bok) : Int := if ((leavesP p m).length : Int) ≠ b.leaves then -1 else (offTo p m b m.sheets.toNat : Int)
def mkN (p : Prs) (n : Nat) : Mk := ⟨(n / 2 / p.sheets.toNat / p.papers.length : Nat), (n / 2 / p.sheets.toNat % p.papers.length : Nat), (n / 2 % p.sheets.toNat : Nat) + 1, n % 2 == 1⟩
def mksTo (p : Prs) (k : Nat) : List Mk := ((List.range k).map (mkN p)).filter fun m => mkErr p m == 0
def mksL (p : Prs) : List Mk := mksTo p (p.formats.length * p.papers.length * p.sheets.toNat * 2)
def agreeL (p : Prs) (b : Bok) : List Mk := (mksL p).filter fun m => offP p m b == 0
def checkF (p : Prs) : Int × Int × Int :=
 if inB 1 6 p.formats.length = false then (1, 0, 3) else if (firstQ p.formats.length (fmtErr p)).2 ≠ 0 then (1, firstQ p.formats.length (fmtErr p))
 else if inB 1 4 p.papers.length = false then (2, 0, 3) else if (firstQ p.papers.length (pprErr p)).2 ≠ 0 then (2, firstQ p.papers.length (pprErr p)) else if (inB 0 60 p.trim && inB 1 4 p.sheets) = false then (3, 0, 7) else (0, 0, 0)
@[reducible] def checkFV (p : Prs) : Go.Value := .tuple #[.int .i64 (checkF p).1, .int .i64 (checkF p).2.1, .int .i64 (checkF p).2.2]
def checkB (p : Prs) (b : Bok) : Int × Int × Int :=
 if (checkF p).2.2 ≠ 0 then (0, 0, (checkF p).2.2) else if inB 1 64 b.leaves = false then (1, 0, 7) else if inB 0 2 b.chain = false then (2, 0, 2) else if spansE 0 2000 b.wlo b.whi b.hlo b.hhi ≠ 0 then (3, 0, spansE 0 2000 b.wlo b.whi b.hlo b.hhi)
 else if 8 < b.marks.length then (4, 0, 3) else if (firstQ b.marks.length (mrkErr b)).2 ≠ 0 then (4, firstQ b.marks.length (mrkErr b)) else (0, 0, 0)
@[reducible] def checkBV (p : Prs) (b : Bok) : Go.Value := .tuple #[.int .i64 (checkB p b).1, .int .i64 (checkB p b).2.1, .int .i64 (checkB p b).2.2]
structure ValidF (p : Prs) : Prop where
 nf : 1 ≤ p.formats.length ∧ p.formats.length ≤ 6
 fmt : ∀ j, j < p.formats.length → fmtErr p j = 0
 np : 1 ≤ p.papers.length ∧ p.papers.length ≤ 4
 ppr : ∀ j, j < p.papers.length → pprErr p j = 0
 trim : 0 ≤ p.trim ∧ p.trim ≤ 60
 sheets : 1 ≤ p.sheets ∧ p.sheets ≤ 4
section
variable {p : Prs}
theorem Pw (h1 : inB 1 6 p.formats.length = false) : checkFV p = .tuple #[.int .i64 1, .int .i64 0, .int .i64 3] := by
 unfold checkFV checkF; rw [if_pos h1]
theorem L9 (h1 : inB 1 6 p.formats.length = true) {i e : Int} (h2 : firstQ p.formats.length (fmtErr p) = (i, e)) (he : e ≠ 0) : checkFV p = .tuple #[.int .i64 1, .int .i64 i, .int .i64 e] := by
 unfold checkFV checkF; rw [if_neg (by rw [h1]; simp), if_pos (by rw [h2]; exact he), h2]
theorem Pu (h1 : inB 1 6 p.formats.length = true) (h2 : firstQ p.formats.length (fmtErr p) = (0, 0)) (h3 : inB 1 4 p.papers.length = false) : checkFV p = .tuple #[.int .i64 2, .int .i64 0, .int .i64 3] := by
 unfold checkFV checkF; rw [if_neg (by rw [h1]; simp), if_neg (fun h => h (by rw [h2])), if_pos h3]
theorem L8 (h1 : inB 1 6 p.formats.length = true) (h2 : firstQ p.formats.length (fmtErr p) = (0, 0)) (h3 : inB 1 4 p.papers.length = true) {i e : Int} (h4 : firstQ p.papers.length (pprErr p) = (i, e)) (he : e ≠ 0) : checkFV p = .tuple #[.int .i64 2, .int .i64 i, .int .i64 e] := by
 unfold checkFV checkF; rw [if_neg (by rw [h1]; simp), if_neg (fun h => h (by rw [h2])), if_neg (by rw [h3]; simp), if_pos (by rw [h4]; exact he), h4]
theorem HT (h1 : inB 1 6 p.formats.length = true) (h2 : firstQ p.formats.length (fmtErr p) = (0, 0)) (h3 : inB 1 4 p.papers.length = true) (h4 : firstQ p.papers.length (pprErr p) = (0, 0)) (h5 : (inB 0 60 p.trim && inB 1 4 p.sheets) = false) : checkFV p = .tuple #[.int .i64 3, .int .i64 0, .int .i64 7] := by
 unfold checkFV checkF; rw [if_neg (by rw [h1]; simp), if_neg (fun h => h (by rw [h2])), if_neg (by rw [h3]; simp), if_neg (fun h => h (by rw [h4])), if_pos h5]
theorem Px (h1 : inB 1 6 p.formats.length = true) (h2 : firstQ p.formats.length (fmtErr p) = (0, 0)) (h3 : inB 1 4 p.papers.length = true) (h4 : firstQ p.papers.length (pprErr p) = (0, 0)) (h5 : (inB 0 60 p.trim && inB 1 4 p.sheets) = true) : checkFV p = .tuple #[.int .i64 0, .int .i64 0, .int .i64 0] := by
 unfold checkFV checkF; rw [if_neg (by rw [h1]; simp), if_neg (fun h => h (by rw [h2])), if_neg (by rw [h3]; simp), if_neg (fun h => h (by rw [h4])), if_neg (by rw [h5]; simp)]
end
theorem BZ {a b z : Int} : inB a b z = true ↔ a ≤ z ∧ z ≤ b := by unfold inB; simp
theorem Di {p : Prs} (h : (checkF p).2.2 = 0) : ValidF p := by
 unfold checkF at h
 by_cases a1 : inB 1 6 p.formats.length = false
 · rw [if_pos a1] at h; exact absurd h (by decide)
 rw [if_neg a1] at h
 by_cases a2 : (firstQ p.formats.length (fmtErr p)).2 = 0
 · rw [if_neg (fun q => q a2)] at h
   by_cases a3 : inB 1 4 p.papers.length = false
   · rw [if_pos a3] at h; exact absurd h (by decide)
   rw [if_neg a3] at h
   by_cases a4 : (firstQ p.papers.length (pprErr p)).2 = 0
   · rw [if_neg (fun q => q a4)] at h
     by_cases a5 : (inB 0 60 p.trim && inB 1 4 p.sheets) = false
     · rw [if_pos a5] at h; exact absurd h (by decide)
     rw [Bool.not_eq_false] at a1 a3 a5
     rw [Bool.and_eq_true] at a5
     obtain ⟨a6, a7⟩ := a5
     rw [BZ] at a1 a3 a6 a7
     exact ⟨by omega, Ek a2, by omega, Ek a4, a6, a7⟩
   rw [if_pos a4] at h; exact absurd h a4
 rw [if_pos a2] at h; exact absurd h a2
end
section
theorem ValidF.fm {p : Prs} (h : ValidF p) {i : Nat} (hi : i < p.formats.length) : nameOk (p.ft i).name = true ∧ (1 ≤ (p.ft i).folds.size ∧ (p.ft i).folds.size ≤ 4) ∧ foldsB (p.ft i).folds = true := by
 have h1 := h.fmt i hi
 unfold fmtErr at h1
 rw [List.getElem?_eq_getElem hi] at h1
 rw [← Fo hi]
 simp only at h1
 split at h1
 · cases h1
 rename_i a1
 split at h1
 · cases h1
 split at h1
 · cases h1
 rename_i a3
 split at h1
 · cases h1
 rename_i a4
 rw [Bool.not_eq_false] at a1 a3 a4
 rw [BZ] at a3
 exact ⟨a1, by omega, a4⟩
theorem ValidF.pp {p : Prs} (h : ValidF p) {i : Nat} (hi : i < p.papers.length) : (1 ≤ (p.pr i).wlo ∧ (p.pr i).wlo ≤ (p.pr i).whi ∧ (p.pr i).whi ≤ 2000) ∧ 1 ≤ (p.pr i).hlo ∧ (p.pr i).hlo ≤ (p.pr i).hhi ∧ (p.pr i).hhi ≤ 2000 := by
 have h1 := h.ppr i hi
 unfold pprErr at h1
 rw [List.getElem?_eq_getElem hi] at h1
 rw [← Ox hi]
 simp only at h1
 split at h1
 · cases h1
 split at h1
 · cases h1
 unfold spansE at h1
 split at h1
 · cases h1
 rename_i a3
 split at h1
 · cases h1
 rename_i a4
 rw [Bool.not_eq_false] at a3
 simp only [Bool.and_eq_true, BZ] at a3
 omega
structure MkOk (p : Prs) (m : Mk) : Prop where
 fmt : 0 ≤ m.fmt ∧ m.fmt < p.formats.length
 ppr : 0 ≤ m.ppr ∧ m.ppr < p.papers.length
 sheets : 1 ≤ m.sheets ∧ m.sheets ≤ p.sheets
 half : m.half = true → m.sheets = 1 ∧ 2 ≤ (p.fold m).length
theorem Du {p : Prs} {m : Mk} : mkErr p m = 0 ↔ MkOk p m := by
 unfold mkErr
 constructor
 · intro h
   split at h
   · cases h
   rename_i a1
   split at h
   · cases h
   rename_i a2
   split at h
   · cases h
   rename_i a3
   rw [Bool.not_eq_false] at a1 a2
   rw [Bool.and_eq_true] at a1
   obtain ⟨a4, a5⟩ := a1
   rw [BZ] at a2 a4 a5
   refine ⟨by omega, by omega, a2, fun hh => ?_⟩
   by_cases a6 : m.sheets = 1
   · by_cases a7 : (p.fold m).length < 2
     · exact absurd ⟨hh, .inr a7⟩ a3
     exact ⟨a6, by omega⟩
   exact absurd ⟨hh, .inl a6⟩ a3
 intro h
 have h1 := h.fmt
 have h2 := h.ppr
 have a4 : inB 0 (p.formats.length - 1) m.fmt = true := BZ.2 (by omega)
 have a5 : inB 0 (p.papers.length - 1) m.ppr = true := BZ.2 (by omega)
 rw [if_neg (by rw [a4, a5]; simp), if_neg (by rw [BZ.2 h.sheets]; simp), if_neg]
 rintro ⟨hh, h3⟩
 have := h.half hh
 omega
section
variable {p : Prs} {m : Mk}
theorem MkOk.fold (h : MkOk p m) (hv : ValidF p) : (1 ≤ (p.fold m).length ∧ (p.fold m).length ≤ 4) ∧ ∀ c ∈ p.fold m, c = 120 ∨ c = 121 := by
 have h1 := hv.fm (i := m.fmt.toNat) (by have := h.fmt; omega)
 have e : (p.fold m).length = (p.ft m.fmt.toNat).folds.size := by unfold Prs.fold; rw [CN]; simp
 refine ⟨by omega, fun c hc => ?_⟩
 have := List.all_eq_true.1 h1.2.2 c hc
 simpa using this
theorem MkOk.sheet (h : MkOk p m) (hv : ValidF p) : sheetL (p.fold m) m.half = sheetR (p.fold m) m.half ∧ ∃ n, (n = 1 ∨ n = 2 ∨ n = 4 ∨ n = 8) ∧ (sheetL (p.fold m) m.half).length = 2 * n := by
 obtain ⟨h1, h2⟩ := h.fold hv
 obtain ⟨h3, h4⟩ := Su h1 h2 fun hh => (h.half hh).2
 refine ⟨h3, ?_⟩
 rw [h4]
 have key : ∀ k, 1 ≤ k → k ≤ 4 → ∃ n, (n = 1 ∨ n = 2 ∨ n = 4 ∨ n = 8) ∧ 2 ^ k = 2 * n := by
   intro k a b
   have : k = 1 ∨ k = 2 ∨ k = 3 ∨ k = 4 := by omega
   rcases this with rfl | rfl | rfl | rfl
   · exact ⟨1, by simp, rfl⟩
   · exact ⟨2, by simp, rfl⟩
   · exact ⟨4, by simp, rfl⟩
   exact ⟨8, by simp, rfl⟩
 cases hh : m.half with
 | false => exact key _ (by simp; omega) (by simp; omega)
 | true =>
   have := (h.half hh).2
   exact key _ (by simp; omega) (by simp; omega)
theorem O2 {n m : Nat} : (pairAll n m).length = 2 * m * n := by
 unfold pairAll firstP secondP
 rw [List.length_append]
 have h1 : ((List.range m).flatMap fun s => (List.range n).map fun i => (s, i)).length = m * n := by
   rw [List.length_flatMap]
   simp [List.map_const']
 have h2 : ((List.range m).reverse.flatMap fun s => (List.range n).map fun i => (s, n + i)).length = m * n := by
   rw [List.length_flatMap]
   simp [List.map_const']
 rw [h1, h2, Nat.mul_assoc, Nat.two_mul]
theorem MkOk.len (h : MkOk p m) (hv : ValidF p) : 2 ≤ (leavesP p m).length ∧ (leavesP p m).length ≤ 64 := by
 obtain ⟨-, n, h1, h2⟩ := h.sheet hv
 have h3 := h.sheets
 have h4 := hv.sheets
 unfold leavesP leavesG
 rw [List.length_map, O2, h2, Nat.mul_div_cancel_left _ (by omega)]
 have : m.sheets.toNat = 1 ∨ m.sheets.toNat = 2 ∨ m.sheets.toNat = 3 ∨ m.sheets.toNat = 4 := by omega
 rcases this with e | e | e | e <;> rcases h1 with rfl | rfl | rfl | rfl <;> rw [e] <;> decide
theorem O1 {n m s i : Nat} (h : (s, i) ∈ pairAll n m) : s < m ∧ i < 2 * n := by
 unfold pairAll firstP secondP at h
 rcases List.mem_append.1 h with h | h
 · obtain ⟨a, h1, h2⟩ := List.mem_flatMap.1 h
   obtain ⟨b, h3, h4⟩ := List.mem_map.1 h2
   cases h4
   exact ⟨List.mem_range.1 h1, by have := List.mem_range.1 h3; omega⟩
 obtain ⟨a, h1, h2⟩ := List.mem_flatMap.1 h
 obtain ⟨b, h3, h4⟩ := List.mem_map.1 h2
 cases h4
 exact ⟨by simpa using h1, by have := List.mem_range.1 h3; omega⟩
theorem FG {x : Lf} (h : x ∈ leavesP p m) (hm : 1 ≤ m.sheets) : 0 ≤ x.sheet ∧ x.sheet < m.sheets := by
 unfold leavesP leavesG at h
 obtain ⟨⟨s, i⟩, h1, rfl⟩ := List.mem_map.1 h
 have := (O1 h1).1
 show (0 : Int) ≤ (s : Int) ∧ (s : Int) < _
 omega
theorem CF {b : Bok} {s half : Int} : ∀ k, k ≤ 8 → untrueTo p m b s half k < 2048
 | 0, _ => by simp [untrueTo]
 | k + 1, hk => by
   have h1 := CF (b := b) (s := s) (half := half) k (by omega)
   unfold untrueTo
   split
   · refine Nat.or_lt_two_pow (n := 11) h1 ?_
     have h2 : 2 ^ k ≤ 2 ^ 7 := Nat.pow_le_pow_right (by omega) (by omega)
     omega
   exact h1
end
structure ToldF (p : Prs) (m : Mk) (b : Bok) : Prop where
 ok : MkOk p m
 len : b.leaves = ((leavesP p m).length : Int)
 chain : b.chain = 0 ∨ b.chain = chainP p m
 wide : ∃ x k l : Int, (wideP p m).1 - p.trim ≤ x ∧ (0 ≤ x ∧ x ≤ 2000) ∧ x ≤ (wideP p m).2 ∧ 0 ≤ k ∧ 0 ≤ l ∧ b.wlo = max 0 (x - k) ∧ b.whi = min 2000 (x + l)
 high : ∃ x k l : Int, (highP p m).1 - 2 * p.trim ≤ x ∧ (0 ≤ x ∧ x ≤ 2000) ∧ x ≤ (highP p m).2 ∧ 0 ≤ k ∧ 0 ≤ l ∧ b.hlo = max 0 (x - k) ∧ b.hhi = min 2000 (x + l)
 many : b.marks.length ≤ 8
 marks : ∃ hs : Int → Int, (∀ s, 0 ≤ s → s < m.sheets → hs s = 0 ∨ hs s = 1) ∧ ∀ k, k < b.marks.length → 0 ≤ (b.mr k).leaf ∧ (b.mr k).leaf < b.leaves ∧
   (b.mr k).seen = hasB p m ((leavesP p m)[(b.mr k).leaf.toNat]?.getD lf0) (hs ((leavesP p m)[(b.mr k).leaf.toNat]?.getD lf0).sheet)
theorem JF {p : Prs} {m : Mk} {b : Bok} {s h : Int} {hs : Int → Int} (hh : hs s = h) : ∀ k, (∀ j, j < k → (b.mr j).seen = hasB p m ((leavesP p m)[(b.mr j).leaf.toNat]?.getD lf0) (hs ((leavesP p m)[(b.mr j).leaf.toNat]?.getD lf0).sheet)) → untrueTo p m b s h k = 0
 | 0, _ => rfl
 | k + 1, hk => by
   unfold untrueTo
   rw [if_neg, JF hh k fun j hj => hk j (by omega)]
   rintro ⟨h1, h2⟩
   have h3 := hk k (by omega)
   rw [h1, hh] at h3
   exact h2 h3.symm
theorem LI : bitsF 0 = [] := by unfold bitsF; simp
theorem SZ {a : Nat} : fewF a 0 = false := by
 unfold fewF
 rw [LI]
 split
 · rename_i h; rw [decide_eq_false_iff_not]; simp
 rename_i h
 have h1 : bitsF a = [] := by
   rw [Classical.not_not] at h
   exact List.eq_nil_of_length_eq_zero (by simp at h; simpa using h)
 rw [h1]; rfl
theorem Tx {a : Nat} (h : a < 65536) (h2 : fewF 0 a = false) : a = 0 := by
 unfold fewF at h2
 rw [LI] at h2
 split at h2
 · rename_i h3
   rw [decide_eq_false_iff_not] at h2
   simp at h2 h3
   exact absurd h2 h3
 rename_i h3
 have h1 : bitsF a = [] := by
   rw [Classical.not_not] at h3
   exact List.eq_nil_of_length_eq_zero (by simp at h3; simpa using h3)
 refine Nat.eq_of_testBit_eq fun i => ?_
 rw [Nat.zero_testBit]
 by_cases hi : i < 16
 · cases hb : a.testBit i with
   | false => rfl
   | true =>
     have : i ∈ bitsF a := List.mem_filter.2 ⟨List.mem_range.2 hi, hb⟩
     rw [h1] at this; cases this
 exact Nat.testBit_lt_two_pow (Nat.lt_of_lt_of_le h (Nat.pow_le_pow_right (n := 2) (by omega) (show 16 ≤ i by omega)))
section
variable {p : Prs} {m : Mk} {b : Bok}
theorem ToldF.less (h : ToldF p m b) {s : Int} (h0 : 0 ≤ s) (h1 : s < m.sheets) : lessN p m b s = 0 := by
 obtain ⟨hs, h2, h3⟩ := h.marks
 have hn : ∀ {t : Int}, hs s = t → untrueN p m b s t = 0 := fun e => JF e _ fun j hj => (h3 j hj).2.2
 unfold lessN
 rcases h2 s h0 h1 with e | e
 · rw [hn e, SZ]; simp
 rw [hn e]
 split
 · rfl
 rename_i hf
 have := CF (p := p) (m := m) (b := b) (s := s) (half := 0) b.marks.length h.many
 exact Tx (by unfold untrueN; omega) (by simpa using hf)
theorem ToldF.off (h : ToldF p m b) : offP p m b = 0 := by
 have h3 : bit3 p m b = 0 := by
   obtain ⟨x, k, l, a1, a2, a3, a4, a5, a6, a7⟩ := h.wide
   obtain ⟨y, k', l', b1, b2, b3, b4, b5, b6, b7⟩ := h.high
   unfold bit3 reachB
   have hc := h.chain
   have e1 : ¬ (b.chain ≠ 0 ∧ b.chain ≠ chainP p m) := by rintro ⟨c1, c2⟩; rcases hc with c | c; exact c1 c; exact c2 c
   have e2 : (decide ((wideP p m).1 - p.trim ≤ b.whi) && decide (b.wlo ≤ (wideP p m).2)) = true := by
     rw [Bool.and_eq_true, decide_eq_true_iff, decide_eq_true_iff]; omega
   have e3 : (decide ((highP p m).1 - 2 * p.trim ≤ b.hhi) && decide (b.hlo ≤ (highP p m).2)) = true := by
     rw [Bool.and_eq_true, decide_eq_true_iff, decide_eq_true_iff]; omega
   rw [if_neg e1, e2, e3]; rfl
 unfold offP
 rw [if_neg (fun q => q h.len.symm)]
 have key : ∀ s, s ≤ m.sheets.toNat → offTo p m b s = 0 := by
   intro s
   induction s with
   | zero => intro _; exact h3
   | succ s ih =>
     intro hs
     unfold offTo
     rw [ih (by omega), h.less (by omega) (by omega)]; rfl
 rw [key _ (Nat.le_refl _)]; rfl
theorem ToldF.check (h : ToldF p m b) (h0 : (checkF p).2.2 = 0) : (checkB p b).2.2 = 0 := by
 have hv := Di h0
 obtain ⟨x, k, l, a1, a2, a3, a4, a5, a6, a7⟩ := h.wide
 obtain ⟨y, k', l', b1, b2, b3, b4, b5, b6, b7⟩ := h.high
 obtain ⟨hs, -, h3⟩ := h.marks
 have h4 := h.ok.len hv
 have h5 := h.len
 have h6 := h.many
 have e1 : inB 1 64 b.leaves = true := BZ.2 (by omega)
 have e2 : inB 0 2 b.chain = true := BZ.2 (by
   have hc : chainP p m = 1 ∨ chainP p m = 2 := by unfold chainP; split <;> simp
   rcases h.chain with c | c <;> omega)
 have e3 : spansE 0 2000 b.wlo b.whi b.hlo b.hhi = 0 := by
   unfold spansE
   rw [if_neg, if_neg (by omega)]
   rw [Bool.not_eq_false]
   simp only [Bool.and_eq_true, BZ]
   omega
 have e4 : firstQ b.marks.length (mrkErr b) = (0, 0) := DA fun j hj => by
   unfold mrkErr
   rw [List.getElem?_eq_getElem hj]
   have h7 := h3 j hj
   rw [← Rp hj] at h7
   simp only
   rw [if_neg]
   rw [Bool.not_eq_false, BZ]
   omega
 unfold checkB
 rw [if_neg (fun q => q h0), if_neg (by rw [e1]; simp), if_neg (by rw [e2]; simp), if_neg (fun q => q e3), if_neg (by omega), if_neg (fun q => q (by rw [e4]))]
end
theorem Uq {p : Prs} (hv : ValidF p) {m : Mk} (h : MkOk p m) : m ∈ mksL p := by
 obtain ⟨f, hf⟩ := Int.eq_ofNat_of_zero_le h.fmt.1
 obtain ⟨i, hi⟩ := Int.eq_ofNat_of_zero_le h.ppr.1
 obtain ⟨s, hs⟩ := Int.eq_ofNat_of_zero_le (show 0 ≤ m.sheets - 1 by have := h.sheets; omega)
 obtain ⟨S, hS⟩ := Int.eq_ofNat_of_zero_le (show 0 ≤ p.sheets by have := hv.sheets; omega)
 have h1 := h.fmt.2
 have h2 := h.ppr.2
 have h3 := h.sheets
 have hn := hv.np
 generalize hP : p.papers.length = P at *
 generalize hG : p.formats.length = G at *
 have hs2 : s < S := by omega
 have hi2 : i < P := by omega
 have hf2 : f < G := by omega
 let t : Nat := if m.half = true then 1 else 0
 have ht : t < 2 := by show (if m.half = true then 1 else 0) < 2; split <;> omega
 let n : Nat := ((f * P + i) * S + s) * 2 + t
 have n1 : n / 2 = (f * P + i) * S + s := by show ((((f * P + i) * S + s) * 2 + t)) / 2 = _; omega
 have n2 : n % 2 = t := by show ((((f * P + i) * S + s) * 2 + t)) % 2 = _; omega
 have n3 : n / 2 % S = s := by rw [n1, Nat.mul_comm, Nat.mul_add_mod, Nat.mod_eq_of_lt hs2]
 have n4 : n / 2 / S = f * P + i := by rw [n1, Nat.mul_comm, Nat.mul_add_div (by omega), Nat.div_eq_of_lt hs2, Nat.add_zero]
 have n5 : (f * P + i) % P = i := by rw [Nat.mul_comm, Nat.mul_add_mod, Nat.mod_eq_of_lt hi2]
 have n6 : (f * P + i) / P = f := by rw [Nat.mul_comm, Nat.mul_add_div (by omega), Nat.div_eq_of_lt hi2, Nat.add_zero]
 have hlt : n < G * P * S * 2 := by
   have k1 : f * P + i < G * P := by
     have : (f + 1) * P ≤ G * P := Nat.mul_le_mul_right _ hf2
     rw [Nat.add_mul, Nat.one_mul] at this; omega
   have k2 : (f * P + i) * S + s < G * P * S := by
     have : (f * P + i + 1) * S ≤ G * P * S := Nat.mul_le_mul_right _ k1
     rw [Nat.add_mul, Nat.one_mul] at this; omega
   show ((f * P + i) * S + s) * 2 + t < _
   omega
 have hm : mkN p n = m := by
   unfold mkN
   rw [hS, Int.toNat_natCast, hP, n3, n4, n5, n6, n2]
   have e1 : (t == 1) = m.half := by show ((if m.half = true then 1 else 0) == 1) = _; cases m.half <;> rfl
   rw [e1]
   cases m with
   | mk a b c d =>
     simp only at hf hi hs
     simp only [Mk.mk.injEq]
     exact ⟨hf.symm, hi.symm, by omega, trivial⟩
 unfold mksL mksTo
 refine List.mem_filter.2 ⟨List.mem_map.2 ⟨n, List.mem_range.2 ?_, hm⟩, ?_⟩
 · rw [hP, hG, hS, Int.toNat_natCast]; exact hlt
 rw [Du.2 h]; rfl
theorem Ns {p : Prs} {m : Mk} (h : m ∈ mksL p) : MkOk p m := by
 unfold mksL mksTo at h
 have := (List.mem_filter.1 h).2
 exact Du.1 (by simpa using this)
theorem ToldF.agree {p : Prs} {m : Mk} {b : Bok} (hv : ValidF p) (h : ToldF p m b) : m ∈ agreeL p b := List.mem_filter.2 ⟨Uq hv h.ok, by rw [h.off]; rfl⟩
end
section
def lfN (p : Prs) (m : Mk) (i : Nat) : Lf := (leavesP p m)[i]?.getD lf0
theorem Gl {p : Prs} {m : Mk} {i : Nat} (h : i < (leavesP p m).length) : (leavesP p m)[i] = lfN p m i := by simp [lfN, h]
def pageV (inner : Bool) (i : Nat) (x : Lf) : Int :=
 if x.turned = true then -(if x.inner ≠ inner then 2 * (i : Int) + 1 + 1 else 2 * (i : Int) + 1) else (if x.inner ≠ inner then 2 * (i : Int) + 1 + 1 else 2 * (i : Int) + 1)
def placeF (x : Lf) : Int × Int × Int := (x.sheet, x.col, x.row)
def pageAt (p : Prs) (m : Mk) (inner : Bool) (k : Int × Int × Int) : Option Int :=
 ((List.range (leavesP p m).length).find? fun i => placeF (lfN p m i) == k).map fun i => pageV inner i (lfN p m i)
def formeC (p : Prs) (m : Mk) (inner : Bool) (s : Int) (r c : Nat) : List Int := (List.range c).filterMap fun (c : Nat) => pageAt p m inner (s, (c : Int), (r : Int))
def formeR (p : Prs) (m : Mk) (inner : Bool) (s : Int) (r : Nat) : List Int := (List.range r).flatMap fun r => formeC p m inner s r (colN p m)
def formeL (p : Prs) (m : Mk) (inner : Bool) (s : Int) : List Int := formeR p m inner s (rowN p m)
theorem Pc {p : Prs} {m : Mk} {inner : Bool} {s : Int} {r c : Nat} (h : pageAt p m inner (s, (c : Int), (r : Int)) = none) : formeC p m inner s r (c + 1) = formeC p m inner s r c := by
 unfold formeC; rw [List.range_succ, List.filterMap_append]; simp [h]
theorem Pb {p : Prs} {m : Mk} {inner : Bool} {s : Int} {r c : Nat} {z : Int} (h : pageAt p m inner (s, (c : Int), (r : Int)) = some z) : formeC p m inner s r (c + 1) = formeC p m inner s r c ++ [z] := by
 unfold formeC; rw [List.range_succ, List.filterMap_append]; simp [h]
theorem Lo {p : Prs} {m : Mk} {inner : Bool} {s : Int} {r c : Nat} : (formeC p m inner s r c).length ≤ c := by
 unfold formeC; refine Nat.le_trans (List.length_filterMap_le _ _) ?_; simp
theorem JT {p : Prs} {m : Mk} {inner : Bool} {s : Int} {r : Nat} : formeR p m inner s (r + 1) = formeR p m inner s r ++ formeC p m inner s r (colN p m) := by
 unfold formeR; rw [List.range_succ, List.flatMap_append]; simp
theorem Hp {p : Prs} {m : Mk} {inner : Bool} {s : Int} : ∀ r, (formeR p m inner s r).length ≤ r * colN p m
 | 0 => by simp [formeR]
 | r + 1 => by
   rw [JT, List.length_append, Nat.add_mul, Nat.one_mul]
   have := Hp (p := p) (m := m) (inner := inner) (s := s) r
   have := Lo (p := p) (m := m) (inner := inner) (s := s) (r := r) (c := colN p m)
   omega
theorem O4 {p : Prs} {m : Mk} {inner : Bool} {k : Int × Int × Int} (h : ∀ i, i < (leavesP p m).length → placeF (lfN p m i) ≠ k) : pageAt p m inner k = none := by
 unfold pageAt
 rw [List.find?_eq_none.2 fun i hi => by have := h i (List.mem_range.1 hi); simpa using this]; rfl
theorem O3 {p : Prs} {m : Mk} {inner : Bool} {k : Int × Int × Int} {j : Nat} (hj : j < (leavesP p m).length) (hk : placeF (lfN p m j) = k)
   (hu : ∀ i, i < (leavesP p m).length → placeF (lfN p m i) = k → i = j) : pageAt p m inner k = some (pageV inner j (lfN p m j)) := by
 unfold pageAt
 cases hf : (List.range (leavesP p m).length).find? fun i => placeF (lfN p m i) == k with
 | none => have := List.find?_eq_none.1 hf j (List.mem_range.2 hj); simp [hk] at this
 | some i =>
   have h1 := List.find?_some hf
   have h2 := List.mem_of_find?_eq_some hf
   obtain rfl := hu i (List.mem_range.1 h2) (by simpa using h1)
   rfl
def mateB (p : Prs) (m : Mk) (leaf i : Nat) : Bool := decide ((lfN p m i).sheet = (lfN p m leaf).sheet) && decide (lfN p m i ≠ lfN p m leaf)
def matesTo (p : Prs) (m : Mk) (leaf k : Nat) : List Nat := (List.range k).filter (mateB p m leaf)
def matesP (p : Prs) (m : Mk) (leaf : Nat) : List Nat := matesTo p m leaf (leavesP p m).length
theorem DW {f : Nat → Bool} {k : Nat} (h : f k = true) : (List.range (k + 1)).filter f = (List.range k).filter f ++ [k] := by
 rw [List.range_succ, List.filter_append]; simp [h]
theorem DX {f : Nat → Bool} {k : Nat} (h : f k = false) : (List.range (k + 1)).filter f = (List.range k).filter f := by
 rw [List.range_succ, List.filter_append]; simp [h]
theorem CX (f : Nat → Bool) (k : Nat) : ((List.range k).filter f).length ≤ k := by
 have := List.length_filter_le f (List.range k); rwa [List.length_range] at this
theorem SY {f : Nat → Bool} {k x : Nat} (h : x ∈ (List.range k).filter f) : x < k := List.mem_range.1 (List.mem_filter.1 h).1
def markB (p : Prs) (m : Mk) (hs : List Int) (i : Nat) : Bool := hasB p m (lfN p m i) (hs[(lfN p m i).sheet.toNat]?.getD 0)
def markedTo (p : Prs) (m : Mk) (hs : List Int) (k : Nat) : List Nat := (List.range k).filter (markB p m hs)
def markedP (p : Prs) (m : Mk) (hs : List Int) : List Nat := markedTo p m hs (leavesP p m).length
def bump (l : List Nat) (i : Nat) : List Nat := l.set i (l[i]?.getD 0 + 1)
theorem P1 {l : List Nat} {i : Nat} : (bump l i).length = l.length := by simp [bump]
def bumps (l js : List Nat) : List Nat := js.foldl bump l
theorem J3 : ∀ {js l : List Nat}, (bumps l js).length = l.length
 | [], _ => rfl
 | _ :: _, _ => by show (bumps (bump _ _) _).length = _; rw [J3, P1]
theorem QG {l js : List Nat} {j : Nat} : bumps l (js ++ [j]) = bump (bumps l js) j := by unfold bumps; rw [List.foldl_append]; rfl
theorem bump_le {l : List Nat} {M i : Nat} (h : ∀ x ∈ l, x ≤ M) : ∀ x ∈ bump l i, x ≤ M + 1 := by
 intro x hx
 unfold bump at hx
 rcases List.mem_or_eq_of_mem_set hx with h1 | rfl
 · have := h x h1; omega
 by_cases hi : i < l.length
 · rw [List.getElem?_eq_getElem hi]; have := h _ (List.getElem_mem hi); simp; omega
 rw [List.getElem?_eq_none (by omega)]; simp
theorem LD : ∀ {js l : List Nat} {M : Nat}, (∀ x ∈ l, x ≤ M) → ∀ x ∈ bumps l js, x ≤ M + js.length
 | [], _, _, h => h
 | j :: js, l, M, h => fun x hx => by
   have := LD (js := js) (bump_le (i := j) h) x hx
   simp only [List.length_cons]; omega
def manyL (p : Prs) (leaf L : Nat) (l : List Mk) : List Nat := l.foldl (fun c m => bumps c (matesP p m leaf)) (List.replicate L 0)
theorem M3 {p : Prs} {leaf L : Nat} (l : List Mk) : (manyL p leaf L l).length = L := by
 unfold manyL
 have key : ∀ (l : List Mk) (c : List Nat), (l.foldl (fun c m => bumps c (matesP p m leaf)) c).length = c.length := by
   intro l
   induction l with
   | nil => intro c; rfl
   | cons m l ih => intro c; rw [List.foldl_cons, ih, J3]
 rw [key]; simp
theorem Qm {p : Prs} {leaf L : Nat} {l : List Mk} {m : Mk} : manyL p leaf L (l ++ [m]) = bumps (manyL p leaf L l) (matesP p m leaf) := by
 unfold manyL; rw [List.foldl_append]; rfl
theorem Qj {p : Prs} {m : Mk} {leaf : Nat} : (matesP p m leaf).length ≤ (leavesP p m).length := CX _ _
theorem OK {p : Prs} {leaf L : Nat} {l : List Mk} (h : ∀ m ∈ l, (leavesP p m).length ≤ 64) : ∀ x ∈ manyL p leaf L l, x ≤ 64 * l.length := by
 have key : ∀ (l : List Mk) (c : List Nat) (M : Nat), (∀ m ∈ l, (leavesP p m).length ≤ 64) → (∀ x ∈ c, x ≤ M) → ∀ x ∈ l.foldl (fun c m => bumps c (matesP p m leaf)) c, x ≤ M + 64 * l.length := by
   intro l
   induction l with
   | nil => intro c M _ h x hx; have := h x hx; simp; omega
   | cons m l ih =>
     intro c M h1 h2 x hx
     rw [List.foldl_cons] at hx
     have h3 := ih _ (M + (matesP p m leaf).length) (fun y hy => h1 y (List.mem_cons_of_mem _ hy)) (LD h2) x hx
     have h4 := Nat.le_trans (Qj (p := p) (m := m) (leaf := leaf)) (h1 m (List.mem_cons_self ..))
     simp only [List.length_cons]; omega
 intro x hx
 have := key l (List.replicate L 0) 0 h (fun x hx => by rw [(List.mem_replicate.1 hx).2]; omega) x hx
 omega
def mustTo (p : Prs) (b : Bok) (leaf k : Nat) : List Nat := (List.range k).filter fun i => decide ((manyL p leaf b.leaves.toNat (agreeL p b))[i]?.getD 0 = (agreeL p b).length)
def mayTo (p : Prs) (b : Bok) (leaf k : Nat) : List Nat := (List.range k).filter fun i => decide (0 < (manyL p leaf b.leaves.toNat (agreeL p b))[i]?.getD 0)
def wrongS (p : Prs) (b : Bok) (best : Int) (m : Mk) : Int := if offP p m b < 0 ∨ 0 ≤ best ∧ fewF (offP p m b).toNat best.toNat = false then best else offP p m b
def wrongL (p : Prs) (b : Bok) (l : List Mk) : Int := l.foldl (wrongS p b) (-1)
theorem EM {p : Prs} {b : Bok} {l : List Mk} {m : Mk} : wrongL p b (l ++ [m]) = wrongS p b (wrongL p b l) m := by unfold wrongL; rw [List.foldl_append]; rfl
end
section
structure BokOk (p : Prs) (b : Bok) : Prop where
 prs : (checkF p).2.2 = 0
 leaves : 1 ≤ b.leaves ∧ b.leaves ≤ 64
 chain : 0 ≤ b.chain ∧ b.chain ≤ 2
 many : b.marks.length ≤ 8
 marks : ∀ k, k < b.marks.length → 0 ≤ (b.mr k).leaf ∧ (b.mr k).leaf < b.leaves
theorem LG {p : Prs} {b : Bok} (h : (checkB p b).2.2 = 0) : BokOk p b := by
 unfold checkB at h
 by_cases a1 : (checkF p).2.2 = 0
 · rw [if_neg (fun q => q a1)] at h
   by_cases a2 : inB 1 64 b.leaves = false
   · rw [if_pos a2] at h; exact absurd h (by decide)
   rw [if_neg a2] at h
   by_cases a3 : inB 0 2 b.chain = false
   · rw [if_pos a3] at h; exact absurd h (by decide)
   rw [if_neg a3] at h
   by_cases a4 : spansE 0 2000 b.wlo b.whi b.hlo b.hhi = 0
   · rw [if_neg (fun q => q a4)] at h
     by_cases a5 : 8 < b.marks.length
     · rw [if_pos a5] at h; exact absurd h (by decide)
     rw [if_neg a5] at h
     by_cases a6 : (firstQ b.marks.length (mrkErr b)).2 = 0
     · rw [Bool.not_eq_false, BZ] at a2 a3
       refine ⟨a1, a2, a3, by omega, fun k hk => ?_⟩
       have h1 := Ek a6 k hk
       unfold mrkErr at h1
       rw [List.getElem?_eq_getElem hk, Rp hk] at h1
       simp only at h1
       split at h1
       · cases h1
       rename_i a7
       rw [Bool.not_eq_false, BZ] at a7
       omega
     rw [if_pos a6] at h; exact absurd h a6
   rw [if_pos a4] at h; exact absurd h a4
 rw [if_pos a1] at h; exact absurd h a1
theorem BokOk.valid {p : Prs} {b : Bok} (h : BokOk p b) : ValidF p := Di h.prs
theorem OG {p : Prs} (hv : ValidF p) : (mksL p).length ≤ 192 := by
 unfold mksL mksTo
 refine Nat.le_trans (List.length_filter_le _ _) ?_
 rw [List.length_map, List.length_range]
 have h1 := hv.nf
 have h2 := hv.np
 have h3 := hv.sheets
 have b1 : p.formats.length * p.papers.length ≤ 6 * 4 := Nat.mul_le_mul h1.2 h2.2
 have b2 : p.formats.length * p.papers.length * p.sheets.toNat ≤ 24 * 4 := Nat.mul_le_mul b1 (by omega)
 omega
theorem J8 {p : Prs} (hv : ValidF p) {b : Bok} : (agreeL p b).length ≤ 192 := Nat.le_trans (List.length_filter_le _ _) (OG hv)
theorem Jb {p : Prs} {b : Bok} {m : Mk} (h : m ∈ agreeL p b) : MkOk p m := Ns (List.mem_filter.1 h).1
end
section
theorem EZ {s : ByteArray} : s.toList.length = s.size := by rw [CN]; simp
theorem HY {s : ByteArray} {k : Nat} (h : k < s.size) : s.toList[k]'(by rw [EZ]; exact h) = s[k] := by
 simp only [CN]; rfl
theorem QI {s : ByteArray} {k : Nat} (h : k < s.size) : s.toList[k]? = some s[k] := by rw [List.getElem?_eq_getElem (by rw [EZ]; exact h), HY h]
def timesTo (s : List UInt8) (c : UInt8) (k : Nat) : Nat := 2 ^ (s.take k).countP (· == c)
theorem Ft {s : List UInt8} {c : UInt8} : timesTo s c 0 = 1 := by simp [timesTo]
theorem EN {s : List UInt8} {c : UInt8} : timesTo s c s.length = timesN s c := by unfold timesTo timesN; rw [List.take_length]
theorem Gb {s : ByteArray} {c : UInt8} {k : Nat} (h : k < s.size) (hc : s[k] = c) : timesTo s.toList c (k + 1) = timesTo s.toList c k * 2 := by
 unfold timesTo
 rw [List.take_add_one, QI h, List.countP_append]
 simp [hc, Nat.pow_succ]
theorem Hk {s : ByteArray} {c : UInt8} {k : Nat} (h : k < s.size) (hc : ¬ s[k] = c) : timesTo s.toList c (k + 1) = timesTo s.toList c k := by
 unfold timesTo
 rw [List.take_add_one, QI h, List.countP_append]
 simp [hc]
theorem Fu {s : List UInt8} {c : UInt8} {k n : Nat} (h : k ≤ n) : 1 ≤ timesTo s c k ∧ timesTo s c k ≤ 2 ^ n := by
 unfold timesTo
 refine ⟨Nat.one_le_two_pow, Nat.pow_le_pow_right (by omega) ?_⟩
 have := List.countP_le_length (l := s.take k) (p := (· == c))
 rw [List.length_take] at this; omega
theorem Ch {a : UInt8} {n : Nat} (h : n < 256) : ((a.toNat : Int) = (n : Int)) ↔ a = UInt8.ofNat n := by
 constructor
 · intro e
   have e2 : a.toNat = n := by omega
   rw [← e2, UInt8.ofNat_toNat]
 rintro rfl
 have : (UInt8.ofNat n).toNat = n := by simp [UInt8.toNat_ofNat']; omega
 omega
theorem Ju {s : ByteArray} (h : foldsB s = true) {k : Nat} (hk : k < s.size) : s[k] = 120 ∨ s[k] = 121 := by
 have := List.all_eq_true.1 h s[k] (by rw [← HY hk]; exact List.getElem_mem _)
 simpa using this
theorem Jt {s : ByteArray} {k : Nat} (hk : k < s.size) (h1 : ¬ s[k] = 120) (h2 : ¬ s[k] = 121) : foldsB s = false := by
 cases h : foldsB s with
 | false => rfl
 | true => exact absurd (Ju h hk) (by rintro (e | e); exact h1 e; exact h2 e)
theorem Lp {s : ByteArray} (h : ∀ k (hk : k < s.size), s[k] = 120 ∨ s[k] = 121) : foldsB s = true := by
 unfold foldsB
 refine List.all_eq_true.2 fun c hc => ?_
 obtain ⟨k, hk, rfl⟩ := List.getElem_of_mem hc
 rw [EZ] at hk
 rw [HY hk]
 rcases h k hk with e | e <;> simp [e]
theorem HG {s : ByteArray} (h : 0 < s.size) : lastC s.toList = s[s.size - 1]'(by omega) := by
 unfold lastC
 have hl := EZ (s := s)
 have hne : s.toList ≠ [] := fun e => by rw [e] at hl; simp at hl; omega
 rw [List.getLastD_eq_getLast?, List.getLast?_eq_getElem?, hl, QI (by omega)]; rfl
def turnF (xs : List Nat) (n : Nat) : Nat := xs[n % xs.length]?.getD 0
theorem Sq {n : Nat} : turnF [] n = 0 := rfl
theorem T4 {xs : List Nat} {n : Nat} (h : n % xs.length < xs.length) : turnF xs n = xs[n % xs.length] := by simp [turnF, h]
theorem KG {xs : List Nat} {n B : Nat} (hB : 0 < B) (h : ∀ x ∈ xs, x < B) : turnF xs n < B := by
 unfold turnF
 cases hx : xs[n % xs.length]? with
 | none => exact hB
 | some x => exact h x (List.mem_of_getElem? hx)
@[reducible] def u16F (n : Nat) : List Go.Value := [.int .u16 (n : Int)]
end
section
open Go.RowKit
section
variable {P : Program} {n : Nat} {B : Base} {ops : Array Oper}
theorem CR {Q : Exit → Env → St → Prop} {σS : St} {ts : List Nat} {fuel : Nat} {listed : Array Bool} {e : Env} {σ : St} (i : Nat) {d : Nat} {op : Op} {ty : TypeId} {pos : String} {af : Array Edge} {v : Value} {j dj : Nat} {b c : Bool}
   (hi : ops[i]? = some ⟨some d, op, ty, pos, af, some (j, b)⟩) (hj : (ops[j]?).bind (·.dst) = some dj) (hdj : Nat.blt dj n = true) (hv : ev e (.tmp dj) = .bool c) (hc : c = b)
   (hs : Region.noSelect ops = true) (hf : Region.free .any ops listed i = true) (hr : (Region.ready .any ops listed).contains i = true) (ht : tailB ops ts i = true) (hti : ts.contains i = false) (hd : Nat.blt d n = true)
   (hS : ∀ w, Holds B σ w → Holds B σS w) (hQ : ∀ c e σ, Q (.panic c) e σ → False) (hy : OpR P B ⟨some d, op, ty, pos, af, none⟩ e σS v)
   (h : WX P n B ops Q σS ts fuel (listed.setIfInBounds i true) (upd e d v) σ) : WX P n B ops Q σS ts (fuel + 1) listed e σ := by
 intro hD hsz a w ha hw
 have hrm : i ∈ Region.ready .any ops listed := by simpa using hr
 have hlt : i < listed.size := by rw [hsz]; exact (Array.getElem?_eq_some_iff.1 hi).1
 refine Fr (v := v) hi (Region.noSelect_spec hs) (fun j hj => ⟨ops.size, List.all_eq_true.1 ht j (by simpa using hj)⟩) hti (fun c a w h => ?_) fuel listed a w hD hsz (Region.free_spec hi hf) hrm ?_ (hS w hw) ?_
 · obtain ⟨ds, e', σ', -, -, h3⟩ := h; exact (hQ c e' σ' h3).elim
 · exact .inl ⟨Fs ha hj hdj hv hc, fun w' hw' => by rw [ha.ev]; exact hy w' hw'⟩
 exact h (D2 hD hrm hlt) (by simpa using hsz) _ _ (ha.put (by simpa using hd) v) hw
theorem CS {Q : Exit → Env → St → Prop} {σS : St} {ts : List Nat} {fuel : Nat} {listed : Array Bool} {e : Env} {σ : St} (i : Nat) {d : Nat} {op : Op} {ty : TypeId} {pos : String} {af : Array Edge} {j dj : Nat} {b : Bool} {u : Value}
   (hi : ops[i]? = some ⟨some d, op, ty, pos, af, some (j, b)⟩) (hj : (ops[j]?).bind (·.dst) = some dj) (hdj : Nat.blt dj n = true) (hv : ev e (.tmp dj) = u) (hc : u = .bool (!b) ∨ u = undef)
   (hs : Region.noSelect ops = true) (hf : Region.free .any ops listed i = true) (hr : (Region.ready .any ops listed).contains i = true) (ht : tailB ops ts i = true) (hti : ts.contains i = false) (hd : Nat.blt d n = true)
   (hS : ∀ w, Holds B σ w → Holds B σS w) (hQ : ∀ c e σ, Q (.panic c) e σ → False)
   (h : WX P n B ops Q σS ts fuel (listed.setIfInBounds i true) (upd e d undef) σ) : WX P n B ops Q σS ts (fuel + 1) listed e σ := by
 intro hD hsz a w ha hw
 have hrm : i ∈ Region.ready .any ops listed := by simpa using hr
 have hlt : i < listed.size := by rw [hsz]; exact (Array.getElem?_eq_some_iff.1 hi).1
 refine Fr (v := undef) hi (Region.noSelect_spec hs) (fun j hj => ⟨ops.size, List.all_eq_true.1 ht j (by simpa using hj)⟩) hti (fun c a w h => ?_) fuel listed a w hD hsz (Region.free_spec hi hf) hrm ?_ (hS w hw) ?_
 · obtain ⟨ds, e', σ', -, -, h3⟩ := h; exact (hQ c e' σ' h3).elim
 · exact .inr ⟨G8 ha hj hdj hv hc, rfl⟩
 exact h (D2 hD hrm hlt) (by simpa using hsz) _ _ (ha.put (by simpa using hd) undef) hw
end
structure Pst where
 v0 : Value
 v1 : Value
 v2 : Value
 v3 : Value
 a : List Nat
 b : List Nat
 c : List Nat
 d : List Nat
@[reducible] def Pst.enc (x : Pst) : List Value := [x.v0, x.v1, x.v2, x.v3]
structure PstR (F : Heap) (x : Pst) : Prop where
 h0 : Sl F x.v0 1 u16F x.a
 h1 : Sl F x.v1 1 u16F x.b
 h2 : Sl F x.v2 1 u16F x.c
 h3 : Sl F x.v3 1 u16F x.d
 b0 : ∀ y ∈ x.a, y < 65536
 b1 : ∀ y ∈ x.b, y < 65536
 b2 : ∀ y ∈ x.c, y < 65536
 b3 : ∀ y ∈ x.d, y < 65536
theorem PstR.mono {F F' : Heap} {x : Pst} (h : PstR F x) (hF : F.le F') : PstR F' x := ⟨h.h0.mono hF, h.h1.mono hF, h.h2.mono hF, h.h3.mono hF, h.b0, h.b1, h.b2, h.b3⟩
theorem PstR.ones {F : Heap} {x : Pst} (h : PstR F x) : ∀ u ∈ x.enc, u.oneCell' = true := by
 intro u hu
 simp only [Pst.enc, List.mem_cons, List.not_mem_nil, or_false] at hu
 rcases hu with rfl | rfl | rfl | rfl
 · exact h.h0.plain.one
 · exact h.h1.plain.one
 · exact h.h2.plain.one
 exact h.h3.plain.one
def pst0 : Pst := ⟨.slice none 0 0, .slice none 0 0, .slice none 0 0, .slice none 0 0, [], [], [], []⟩
theorem pst0_ok {F : Heap} : PstR F pst0 := ⟨Sl.nil, Sl.nil, Sl.nil, Sl.nil, by simp [pst0], by simp [pst0], by simp [pst0], by simp [pst0]⟩
def AllP (F : Heap) (ps : List Pst) : Prop := ∀ x ∈ ps, PstR F x
theorem AllP.mono {F F' : Heap} {ps : List Pst} (h : AllP F ps) (hF : F.le F') : AllP F' ps := fun x hx => (h x hx).mono hF
def ext (f : Nat → Bool) (i : Nat) (b : Bool) : Nat → Bool := fun k => if k < i then f k else b
theorem C6 {r : Room} {f : Nat → Bool} {i : Nat} {b : Bool} : bksTo r (ext f i b) (i + 1) = bksTo r f i ++ [{ r.bk i with large := b }] := by
 rw [QJ]
 unfold bksTo ext
 congr 1
 · refine List.map_congr_left fun k hk => ?_
   simp only [if_pos (List.mem_range.1 hk)]
 simp
theorem GL {f g : Nat → Bool} {i : Nat} {a b : Bool} (h : ∀ k, k < i → g k = true → f k = true) (hab : b = true → a = true) : ∀ k, k < i + 1 → ext g i b k = true → ext f i a k = true := by
 intro k hk hg
 unfold ext at hg ⊢
 by_cases hki : k < i
 · rw [if_pos hki] at hg ⊢; exact h k hki hg
 rw [if_neg hki] at hg ⊢; exact hab hg
def oneTo (p : Prs) (l : List Mk) (k : Nat) : Bool := (l.take k).any fun m => decide (((p.ft m.fmt.toNat).folds.size : Int) = 1)
theorem KZ {p : Prs} {l : List Mk} {k : Nat} (h : k < l.length) : oneTo p l (k + 1) = (oneTo p l k || decide (((p.ft l[k].fmt.toNat).folds.size : Int) = 1)) := by
 unfold oneTo; rw [List.take_succ_eq_append_getElem h, List.any_append]; simp
theorem DR {p : Prs} {l : List Mk} {m : Mk} (h : m ∈ l) (hm : ((p.ft m.fmt.toNat).folds.size : Int) = 1) : oneTo p l l.length = true := by
 unfold oneTo; rw [List.take_length]; exact List.any_eq_true.2 ⟨m, h, dT hm⟩
end
section
set_option maxRecDepth 100000
open Go.RowKit
theorem nat_u8 {z : Int} (h : (Lit.int .u8 z).wf = true) : ∃ n : Nat, z = n ∧ n < 256 := by
 simp [Lit.wf, IntKind.min, IntKind.max, IntKind.signed, IntKind.bits] at h
 exact ⟨z.toNat, by omega, by omega⟩
theorem nat_u16 {z : Int} (h : (Lit.int .u16 z).wf = true) : ∃ n : Nat, z = n ∧ n < 65536 := by
 simp [Lit.wf, IntKind.min, IntKind.max, IntKind.signed, IntKind.bits] at h
 exact ⟨z.toNat, by omega, by omega⟩
@[reducible] def u16E (n : Nat) : List Value := [.int .u16 (n : Int)]
section
variable {H : Type} {enc : TypeId × Value → H} {W : World}
theorem EJ : Tryz.prog.cellsOf 3 = 1 := by kernel_rfl
theorem L3 (cs : List Value) (h : Rd enc Tryz.prog W 3 cs) : ∃ z : Int, cs = intE z ∧ True := by obtain ⟨z, h, -⟩ := PU Tryz.underlying3 h; exact ⟨z, h, trivial⟩
theorem LC : Tryz.prog.cellsOf 9 = 1 := by kernel_rfl
theorem UV (cs : List Value) (h : Rd enc Tryz.prog W 9 cs) : ∃ b : ByteArray, cs = strE b ∧ True := by obtain ⟨b, h⟩ := Sy Tryz.underlying9 h; exact ⟨b, h, trivial⟩
theorem UZ : Tryz.prog.cellsOf 4 = 1 := by kernel_rfl
theorem dec4 (cs : List Value) (h : Rd enc Tryz.prog W 4 cs) : ∃ b : Bool, cs = [.bool b] ∧ True := by obtain ⟨b, h⟩ := rd_bool Tryz.underlying4 h; exact ⟨b, h, trivial⟩
theorem cells5 : Tryz.prog.cellsOf 5 = 1 := by kernel_rfl
theorem dec5 (cs : List Value) (h : Rd enc Tryz.prog W 5 cs) : ∃ n : Nat, cs = [.int .u8 (n : Int)] ∧ n < 256 := by
 obtain ⟨z, rfl, hz⟩ := PU Tryz.underlying5 h
 obtain ⟨n, rfl, hn⟩ := nat_u8 hz
 exact ⟨n, rfl, hn⟩
theorem HV : Tryz.prog.cellsOf 170 = 1 := by kernel_rfl
theorem NC (cs : List Value) (h : Rd enc Tryz.prog W 170 cs) : ∃ n : Nat, cs = u16E n ∧ n < 65536 := by
 obtain ⟨z, rfl, hz⟩ := PU Tryz.underlying170 h
 obtain ⟨n, rfl, hn⟩ := nat_u16 hz
 exact ⟨n, rfl, hn⟩
theorem K1 : Tryz.prog.cellsOf 44 = 2 := by kernel_rfl
theorem Ux {α : Type} {l : List α} (h : l.length = 2) : ∃ a0 a1, l = [a0, a1] := by
 match l, h with
 | [a0, a1], _ => exact ⟨a0, a1, rfl⟩
theorem UW (cs : List Value) (h : Rd enc Tryz.prog W 44 cs) : ∃ x : Int × Int, cs = [.int .i64 x.1, .int .i64 x.2] ∧ True := by
 obtain ⟨hl, hf⟩ := CI Tryz.underlying44 h
 rw [K1] at hl
 obtain ⟨c0, c1, rfl⟩ := Ux hl
 obtain ⟨x0, e0, -⟩ := L3 _ (BK hf 0 (t := 3) (o := 0) rfl EJ)
 obtain ⟨x1, e1, -⟩ := L3 _ (BK hf 1 (t := 3) (o := 1) rfl EJ)
 simp [intE] at e0 e1
 obtain rfl := e0
 obtain rfl := e1
 exact ⟨(x0, x1), rfl, trivial⟩
theorem RP : Tryz.prog.cellsOf 58 = 2 := by kernel_rfl
theorem dec58 (cs : List Value) (h : Rd enc Tryz.prog W 58 cs) : ∃ x : Fmt, cs = x.enc ∧ True := by
 obtain ⟨hl, hf⟩ := CI Tryz.underlying58 h
 rw [RP] at hl
 obtain ⟨c0, c1, rfl⟩ := Ux hl
 obtain ⟨x0, e0, -⟩ := UV _ (BK hf 0 (t := 9) (o := 0) rfl LC)
 obtain ⟨x1, e1, -⟩ := UV _ (BK hf 1 (t := 9) (o := 1) rfl LC)
 simp [strE] at e0 e1
 obtain rfl := e0
 obtain rfl := e1
 exact ⟨⟨x0, x1⟩, rfl, trivial⟩
theorem RO : Tryz.prog.cellsOf 71 = 5 := by kernel_rfl
theorem len5 {α : Type} {l : List α} (h : l.length = 5) : ∃ a0 a1 a2 a3 a4, l = [a0, a1, a2, a3, a4] := by
 match l, h with
 | [a0, a1, a2, a3, a4], _ => exact ⟨a0, a1, a2, a3, a4, rfl⟩
theorem dec71 (cs : List Value) (h : Rd enc Tryz.prog W 71 cs) : ∃ x : Ppr, cs = x.enc ∧ True := by
 obtain ⟨hl, hf⟩ := CI Tryz.underlying71 h
 rw [RO] at hl
 obtain ⟨c0, c1, c2, c3, c4, rfl⟩ := len5 hl
 obtain ⟨x0, e0, -⟩ := UV _ (BK hf 0 (t := 9) (o := 0) rfl LC)
 obtain ⟨x1, e1, -⟩ := UW _ (BK hf 1 (t := 44) (o := 1) rfl K1)
 obtain ⟨x2, e2, -⟩ := UW _ (BK hf 2 (t := 44) (o := 3) rfl K1)
 simp [strE] at e0 e1 e2
 obtain rfl := e0
 obtain ⟨rfl, rfl⟩ := e1
 obtain ⟨rfl, rfl⟩ := e2
 exact ⟨⟨x0, x1.1, x1.2, x2.1, x2.2⟩, rfl, trivial⟩
theorem RQ : Tryz.prog.cellsOf 56 = 5 := by kernel_rfl
theorem dec56 (cs : List Value) (h : Rd enc Tryz.prog W 56 cs) : ∃ x : Book, cs = x.enc ∧ True := by
 obtain ⟨hl, hf⟩ := CI Tryz.underlying56 h
 rw [RQ] at hl
 obtain ⟨c0, c1, c2, c3, c4, rfl⟩ := len5 hl
 obtain ⟨x0, e0, -⟩ := UV _ (BK hf 0 (t := 9) (o := 0) rfl LC)
 obtain ⟨x1, e1, -⟩ := L3 _ (BK hf 1 (t := 3) (o := 1) rfl EJ)
 obtain ⟨x2, e2, -⟩ := UW _ (BK hf 2 (t := 44) (o := 2) rfl K1)
 obtain ⟨x3, e3, -⟩ := dec4 _ (BK hf 3 (t := 4) (o := 4) rfl UZ)
 simp [strE, intE] at e0 e1 e2 e3
 obtain rfl := e0
 obtain rfl := e1
 obtain ⟨rfl, rfl⟩ := e2
 obtain rfl := e3
 exact ⟨⟨x0, x1, x2.1, x2.2, x3⟩, rfl, trivial⟩
theorem Pz : Tryz.prog.cellsOf 136 = 2 := by kernel_rfl
theorem dec136 (cs : List Value) (h : Rd enc Tryz.prog W 136 cs) : ∃ x : Rdr, cs = x.enc ∧ True := by
 obtain ⟨hl, hf⟩ := CI Tryz.underlying136 h
 rw [Pz] at hl
 obtain ⟨c0, c1, rfl⟩ := Ux hl
 obtain ⟨x0, e0, -⟩ := UV _ (BK hf 0 (t := 9) (o := 0) rfl LC)
 obtain ⟨x1, e1, -⟩ := L3 _ (BK hf 1 (t := 3) (o := 1) rfl EJ)
 simp [strE, intE] at e0 e1
 obtain rfl := e0
 obtain rfl := e1
 exact ⟨⟨x0, x1⟩, rfl, trivial⟩
theorem RN : Tryz.prog.cellsOf 77 = 2 := by kernel_rfl
theorem dec77 (cs : List Value) (h : Rd enc Tryz.prog W 77 cs) : ∃ x : Seat, cs = x.enc ∧ True := by
 obtain ⟨hl, hf⟩ := CI Tryz.underlying77 h
 rw [RN] at hl
 obtain ⟨c0, c1, rfl⟩ := Ux hl
 obtain ⟨x0, e0, -⟩ := L3 _ (BK hf 0 (t := 3) (o := 0) rfl EJ)
 obtain ⟨x1, e1, -⟩ := dec4 _ (BK hf 1 (t := 4) (o := 1) rfl UZ)
 simp [intE] at e0 e1
 obtain rfl := e0
 obtain rfl := e1
 exact ⟨⟨x0, x1⟩, rfl, trivial⟩
theorem RM : Tryz.prog.cellsOf 79 = 4 := by kernel_rfl
theorem len4 {α : Type} {l : List α} (h : l.length = 4) : ∃ a0 a1 a2 a3, l = [a0, a1, a2, a3] := by
 match l, h with
 | [a0, a1, a2, a3], _ => exact ⟨a0, a1, a2, a3, rfl⟩
theorem dec79 (cs : List Value) (h : Rd enc Tryz.prog W 79 cs) : ∃ x : Req, cs = x.enc ∧ True := by
 obtain ⟨hl, hf⟩ := CI Tryz.underlying79 h
 rw [RM] at hl
 obtain ⟨c0, c1, c2, c3, rfl⟩ := len4 hl
 obtain ⟨x0, e0, -⟩ := L3 _ (BK hf 0 (t := 3) (o := 0) rfl EJ)
 obtain ⟨x1, e1, -⟩ := L3 _ (BK hf 1 (t := 3) (o := 1) rfl EJ)
 obtain ⟨x2, e2, -⟩ := L3 _ (BK hf 2 (t := 3) (o := 2) rfl EJ)
 obtain ⟨x3, e3, -⟩ := L3 _ (BK hf 3 (t := 3) (o := 3) rfl EJ)
 simp [intE] at e0 e1 e2 e3
 obtain rfl := e0
 obtain rfl := e1
 obtain rfl := e2
 obtain rfl := e3
 exact ⟨⟨x0, x1, x2, x3⟩, rfl, trivial⟩
theorem K2 : Tryz.prog.cellsOf 40 = 1 := by kernel_rfl
theorem RR : Tryz.prog.cellsOf 42 = 4 := by kernel_rfl
theorem dec42 (cs : List Value) (h : Rd enc Tryz.prog W 42 cs) : ∃ x : Pst, cs = x.enc ∧ PstR (heapOf W) x := by
 obtain ⟨hl, hf⟩ := CI Tryz.underlying42 h
 rw [RR] at hl
 obtain ⟨c0, c1, c2, c3, rfl⟩ := len4 hl
 obtain ⟨xa, sa, wa⟩ := Dd Tryz.underlying40 HV (by decide) (of_decide_eq_true (by kernel_rfl)) (fun _ => rfl) NC (BK hf 0 (t := 40) (o := 0) rfl K2)
 obtain ⟨xb, sb, wb⟩ := Dd Tryz.underlying40 HV (by decide) (of_decide_eq_true (by kernel_rfl)) (fun _ => rfl) NC (BK hf 1 (t := 40) (o := 1) rfl K2)
 obtain ⟨xc, sc, wc⟩ := Dd Tryz.underlying40 HV (by decide) (of_decide_eq_true (by kernel_rfl)) (fun _ => rfl) NC (BK hf 2 (t := 40) (o := 2) rfl K2)
 obtain ⟨xd, sd, wd⟩ := Dd Tryz.underlying40 HV (by decide) (of_decide_eq_true (by kernel_rfl)) (fun _ => rfl) NC (BK hf 3 (t := 40) (o := 3) rfl K2)
 exact ⟨⟨c0, c1, c2, c3, xa, xb, xc, xd⟩, rfl, ⟨sa, sb, sc, sd, wa, wb, wc, wd⟩⟩
theorem cells22 : Tryz.prog.cellsOf 22 = 1 := by kernel_rfl
theorem cells23 : Tryz.prog.cellsOf 23 = 1 := by kernel_rfl
theorem cells25 : Tryz.prog.cellsOf 25 = 4 := by kernel_rfl
theorem cells26 : Tryz.prog.cellsOf 26 = 1 := by kernel_rfl
theorem cells27 : Tryz.prog.cellsOf 27 = 1 := by kernel_rfl
theorem cells28 : Tryz.prog.cellsOf 28 = 1 := by kernel_rfl
theorem cells29 : Tryz.prog.cellsOf 29 = 1 := by kernel_rfl
theorem cells31 : Tryz.prog.cellsOf 31 = 4 := by kernel_rfl
theorem cells32 : Tryz.prog.cellsOf 32 = 1 := by kernel_rfl
theorem cells34 : Tryz.prog.cellsOf 34 = 2 := by kernel_rfl
theorem Tr {base : Nat} {v : Value} {d : DataW H} {p : List MemPlace} (hok : Value.okWide Tryz.prog W .any base 25 v) (h : DataW.Trod enc Tryz.prog W 0 (fun _ => true) true 25 v d p) (hw : ∀ n ∈ d.weights Tryz.prog 25, n ≤ reachBytes) :
   ∃ vf vp p, v = prsV vf vp p ∧ PrsR (heapOf W) vf vp p := by
 obtain ⟨cs, rfl, hsz⟩ := Go.WideShapes.okWide_struct Tryz.underlying25 hok
 have hr := TP h hw
 obtain ⟨hl, hf⟩ := CI Tryz.underlying25 hr
 rw [cells25] at hl
 obtain ⟨c0, c1, c2, c3, hcs⟩ := len4 hl
 have hcs' : cs = #[c0, c1, c2, c3] := by
   have : cs.toList = [c0, c1, c2, c3] := hcs
   exact Array.ext' (by simpa using this)
 subst hcs'
 obtain ⟨xa, sa, wa⟩ := Dd Tryz.underlying22 RP (by decide) (of_decide_eq_true (by kernel_rfl)) (fun _ => rfl) dec58 (BK hf 0 (t := 22) (o := 0) rfl cells22)
 obtain ⟨xb, sb, wb⟩ := Dd Tryz.underlying23 RO (by decide) (of_decide_eq_true (by kernel_rfl)) (fun _ => rfl) dec71 (BK hf 1 (t := 23) (o := 1) rfl cells23)
 obtain ⟨x2, e2, -⟩ := L3 _ (BK hf 2 (t := 3) (o := 2) rfl EJ)
 obtain ⟨x3, e3, -⟩ := L3 _ (BK hf 3 (t := 3) (o := 3) rfl EJ)
 simp [intE, Value.cells] at e2 e3
 obtain rfl := e2
 obtain rfl := e3
 exact ⟨_, _, ⟨xa, xb, x2, x3⟩, rfl, ⟨sa, sb⟩⟩
theorem VH {base : Nat} {v : Value} {d : DataW H} {p : List MemPlace} (hok : Value.okWide Tryz.prog W .any base 31 v) (h : DataW.Trod enc Tryz.prog W 0 (fun _ => true) true 31 v d p) (hw : ∀ n ∈ d.weights Tryz.prog 31, n ≤ reachBytes) :
   ∃ vb vr vs vq r, v = .agg #[vb, vr, vs, vq] ∧ RoomR (heapOf W) vb vr vs vq r := by
 obtain ⟨cs, rfl, hsz⟩ := Go.WideShapes.okWide_struct Tryz.underlying31 hok
 have hr := TP h hw
 obtain ⟨hl, hf⟩ := CI Tryz.underlying31 hr
 rw [cells31] at hl
 obtain ⟨c0, c1, c2, c3, hcs⟩ := len4 hl
 have hcs' : cs = #[c0, c1, c2, c3] := by
   have : cs.toList = [c0, c1, c2, c3] := hcs
   exact Array.ext' (by simpa using this)
 subst hcs'
 obtain ⟨xa, sa, wa⟩ := Dd Tryz.underlying26 RQ (by decide) (of_decide_eq_true (by kernel_rfl)) (fun _ => rfl) dec56 (BK hf 0 (t := 26) (o := 0) rfl cells26)
 obtain ⟨xb, sb, wb⟩ := Dd Tryz.underlying27 Pz (by decide) (of_decide_eq_true (by kernel_rfl)) (fun _ => rfl) dec136 (BK hf 1 (t := 27) (o := 1) rfl cells27)
 obtain ⟨xc, sc, wc⟩ := Dd Tryz.underlying28 RN (by decide) (of_decide_eq_true (by kernel_rfl)) (fun _ => rfl) dec77 (BK hf 2 (t := 28) (o := 2) rfl cells28)
 obtain ⟨xd, sd, wd⟩ := Dd Tryz.underlying29 RM (by decide) (of_decide_eq_true (by kernel_rfl)) (fun _ => rfl) dec79 (BK hf 3 (t := 29) (o := 3) rfl cells29)
 exact ⟨_, _, _, _, ⟨xa, xb, xc, xd⟩, rfl, ⟨sa, sb, sc, sd⟩⟩
theorem P9 {base : Nat} {v : Value} {d : DataW H} {p : List MemPlace} (hok : Value.okWide Tryz.prog W .any base 34 v) (h : DataW.Trod enc Tryz.prog W 0 (fun _ => true) true 34 v d p) (hw : ∀ n ∈ d.weights Tryz.prog 34, n ≤ reachBytes) :
   ∃ vx ps, ∃ w : Nat, v = .agg #[vx, .int .u8 (w : Int)] ∧ Sl (heapOf W) vx 4 Pst.enc ps ∧ AllP (heapOf W) ps := by
 obtain ⟨cs, rfl, hsz⟩ := Go.WideShapes.okWide_struct Tryz.underlying34 hok
 have hr := TP h hw
 obtain ⟨hl, hf⟩ := CI Tryz.underlying34 hr
 rw [cells34] at hl
 obtain ⟨c0, c1, hcs⟩ := Ux hl
 have hcs' : cs = #[c0, c1] := by
   have : cs.toList = [c0, c1] := hcs
   exact Array.ext' (by simpa using this)
 subst hcs'
 obtain ⟨xa, sa, wa⟩ := Dd Tryz.underlying32 RR (by decide) (of_decide_eq_true (by kernel_rfl)) (fun _ => rfl) dec42 (BK hf 0 (t := 32) (o := 0) rfl cells32)
 obtain ⟨n, en, hn⟩ := dec5 _ (BK hf 1 (t := 5) (o := 1) rfl cells5)
 simp [Value.cells] at en
 obtain rfl := en
 exact ⟨_, xa, n, rfl, sa, wa⟩
end
end
section
open Go.ChangeShapes Go.WideShapes Go.ChangeAt Go.RowKit
theorem Ue : ownKnob Tryz.prog.godebug = none := by kernel_rfl
theorem N2 : laidOutB Tryz.prog = true := by kernel_rfl
theorem Hi {H : Type} {P : Program} {ts : List TypeId} {ds : List (DataW H)} (h : (DataW.weightsEach P ts ds).all (· ≤ reachBytes) = true) {j : Nat} {t : TypeId} {d : DataW H} (ht : ts[j]? = some t) (hd : ds[j]? = some d) : ∀ n ∈ d.weights P t, n ≤ reachBytes := by
 intro n hn
 have := List.all_eq_true.1 h n (DataW.weights_mem_each ht hd n hn)
 simpa using this
end
end Go.Proofs.YtkjfmibiinfhfaaGreat
