/-
  A part of a proof: ReaderFewer returns true of any room, bits and numbers, and leaves what it is handed as it was. No conditions.
-/
import Derived.Test.YtbcjfkcpfjccdaaPaa
import Derived.WalkKit
import Derived.Laws.StructEq
import Derived.Test.YtbcjfkcpfjccdaaRows
import Derived.OpenShut
import Derived.ShutString
import Derived.ChangeOld
import Derived.Below
import Derived.Test.YtbcjfkcpfjccdaaProg
import Derived.KernelRfl
namespace Go.Proofs.Ytbcjfkcpfjccdaa
open Go
def letterB (c : UInt8) : Bool := decide (97 ≤ (c.toNat : Int)) && decide ((c.toNat : Int) ≤ 122)
def digitB (c : UInt8) : Bool := decide (48 ≤ (c.toNat : Int)) && decide ((c.toNat : Int) ≤ 57)
/-- May the byte 'c' stand at place 'i' of a name? -/
def chOk (i : Nat) (c : UInt8) : Bool := letterB c || (decide (i ≠ 0) && (digitB c || decide ((c.toNat : Int) = 46)))
def nameOk (s : ByteArray) : Bool := decide (0 < s.size ∧ s.size ≤ 16 ∧ ∀ i (h : i < s.size), chOk i s[i] = true)
theorem nameOk_true {s : ByteArray} (h1 : 0 < s.size) (h2 : s.size ≤ 16) (h3 : ∀ i (h : i < s.size), chOk i s[i] = true) : nameOk s = true := decide_eq_true ⟨h1, h2, h3⟩
theorem nameOk_len {s : ByteArray} (h : ¬ (0 < s.size ∧ s.size ≤ 16)) : nameOk s = false := decide_eq_false fun ⟨a, b, _⟩ => h ⟨a, b⟩
theorem nameOk_bad {s : ByteArray} {i : Nat} (h : i < s.size) (hc : chOk i s[i] = false) : nameOk s = false := decide_eq_false fun ⟨_, _, a⟩ => by rw [a i h] at hc; cases hc
theorem size_toListB (s : ByteArray) : s.toList = s.data.toList := ByteArray.toList_eq s
theorem emptyS {s : ByteArray} : (s.toList == (ByteArray.mk #[]).toList) = decide (s.size = 0) := by
  rw [Bool.eq_iff_iff, decide_eq_true_iff, beq_iff_eq, size_toListB, size_toListB]
  constructor
  · intro h
    have : s.data.toList.length = 0 := by rw [h]; rfl
    simpa using this
  · intro h
    have : s.data.toList.length = 0 := by simpa using h
    rw [List.eq_nil_of_length_eq_zero this]
/-- Are two strings the same? -/
def sameS (a b : ByteArray) : Bool := a.toList == b.toList
def freshE (wd : ByteArray) (xs : List ByteArray) : Int := if nameOk wd = false then 6 else if xs.any (fun x => sameS x wd) = true then 5 else 0
def rangeE (a b lo hi : Int) : Int := if min a b < lo ∨ hi < max a b then 7 else if b < a then 2 else 0
def inB (lo hi z : Int) : Bool := decide (lo ≤ z) && decide (z ≤ hi)
/-- The first index of a list with a fault. -/
def firstBad (n : Nat) (f : Nat → Int) : Option Nat := (List.range n).find? fun i => decide (f i ≠ 0)
theorem firstBad_some {n k : Nat} {f : Nat → Int} (hk : k < n) (h : f k ≠ 0) (hb : ∀ j, j < k → f j = 0) : firstBad n f = some k := by
  unfold firstBad
  rw [List.find?_range_eq_some]
  exact ⟨by simpa using h, by simpa using hk, fun j hj => by simpa using hb j hj⟩
theorem firstBad_none {n : Nat} {f : Nat → Int} (hb : ∀ j, j < n → f j = 0) : firstBad n f = none := by
  unfold firstBad
  rw [List.find?_range_eq_none]
  intro j hj
  simpa using hb j hj
/-- The first index at which 'p' holds; -1: none. -/
def findI {α : Type} (p : α → Bool) (xs : List α) : Int := match xs.findIdx? p with | some i => (i : Int) | none => -1
theorem findI_some {α : Type} {p : α → Bool} {xs : List α} {k : Nat} (hk : k < xs.length) (h : p xs[k] = true) (hb : ∀ j (hj : j < xs.length), j < k → p xs[j] = false) : findI p xs = k := by
  unfold findI
  have : xs.findIdx? p = some k := by
    rw [List.findIdx?_eq_some_iff_getElem]
    exact ⟨hk, h, fun j hj => by simpa using hb j (by omega) hj⟩
  rw [this]
theorem findI_none {α : Type} {p : α → Bool} {xs : List α} (hb : ∀ j (hj : j < xs.length), p xs[j] = false) : findI p xs = -1 := by
  unfold findI
  have : xs.findIdx? p = none := by
    rw [List.findIdx?_eq_none_iff]
    intro x hx
    obtain ⟨j, hj, rfl⟩ := List.mem_iff_getElem.1 hx
    exact hb j hj
  rw [this]
theorem findI_any {α : Type} {p : α → Bool} {xs : List α} : decide (0 ≤ findI p xs) = xs.any p := by
  unfold findI
  cases h : xs.findIdx? p with
  | none =>
    have := List.findIdx?_eq_none_iff.1 h
    have : xs.any p = false := by simpa using this
    rw [this]; rfl
  | some i =>
    obtain ⟨hi, hp, -⟩ := List.findIdx?_eq_some_iff_getElem.1 h
    have : xs.any p = true := List.any_eq_true.2 ⟨_, List.getElem_mem hi, hp⟩
    rw [this]; simp
end Go.Proofs.Ytbcjfkcpfjccdaa
namespace Go.Proofs.Ytbcjfkcpfjccdaa
structure Book where
  name : ByteArray
  cls : Int
  lo : Int
  hi : Int
  large : Bool
structure Rdr where
  name : ByteArray
  permit : Int
structure Seat where
  light : Int
  small : Bool
structure Req where
  reader : Int
  book : Int
  hours : Int
  worth : Int
structure Room where
  books : List Book
  readers : List Rdr
  seats : List Seat
  reqs : List Req
def Book.enc (b : Book) : List Value := [.string b.name, .int .i64 b.cls, .int .i64 b.lo, .int .i64 b.hi, .bool b.large]
def Rdr.enc (b : Rdr) : List Value := [.string b.name, .int .i64 b.permit]
def Seat.enc (b : Seat) : List Value := [.int .i64 b.light, .bool b.small]
def Req.enc (b : Req) : List Value := [.int .i64 b.reader, .int .i64 b.book, .int .i64 b.hours, .int .i64 b.worth]
theorem Book.enc_one {b : Book} : ∀ u ∈ b.enc, u.oneCell' = true := by simp [Book.enc, Value.oneCell']
theorem Rdr.enc_one {b : Rdr} : ∀ u ∈ b.enc, u.oneCell' = true := by simp [Rdr.enc, Value.oneCell']
theorem Seat.enc_one {b : Seat} : ∀ u ∈ b.enc, u.oneCell' = true := by simp [Seat.enc, Value.oneCell']
theorem Req.enc_one {b : Req} : ∀ u ∈ b.enc, u.oneCell' = true := by simp [Req.enc, Value.oneCell']
structure RoomR (F : Heap) (vb vr vs vq : Value) (r : Room) : Prop where
  books : Sl F vb 5 Book.enc r.books
  readers : Sl F vr 2 Rdr.enc r.readers
  seats : Sl F vs 2 Seat.enc r.seats
  reqs : Sl F vq 4 Req.enc r.reqs
theorem RoomR.mono {F F' : Heap} {vb vr vs vq : Value} {r : Room} (h : RoomR F vb vr vs vq r) (hF : F.le F') : RoomR F' vb vr vs vq r :=
  ⟨h.books.mono hF, h.readers.mono hF, h.seats.mono hF, h.reqs.mono hF⟩
def bookErr (bs : List Book) (i : Nat) : Int := match bs[i]? with
  | none => 0
  | some b => if nameOk b.name = false then 6 else if (bs.take i).any (fun x => sameS x.name b.name) = true then 5
    else if (inB 0 5 b.cls && (inB 0 1000 b.lo && inB 0 1000 b.hi)) = false then 7 else if b.hi < b.lo then 2 else 0
def rdrErr (bs : List Rdr) (i : Nat) : Int := match bs[i]? with
  | none => 0
  | some b => if nameOk b.name = false then 6 else if (bs.take i).any (fun x => sameS x.name b.name) = true then 5
    else if inB 0 5 b.permit = false then 7 else 0
def seatErr (ss : List Seat) (i : Nat) : Int := match ss[i]? with
  | none => 0
  | some s => if inB 0 100 s.light = false then 7 else 0
def reqErr (r : Room) (i : Nat) : Int := match r.reqs[i]? with
  | none => 0
  | some q => if (inB 0 (r.readers.length - 1) q.reader && inB 0 (r.books.length - 1) q.book) = false then 4
    else if (inB 1 12 q.hours && inB 0 100 q.worth) = false then 7 else 0
def checkBooks (bs : List Book) : Option (Int × Int) := if 8 < bs.length then some (0, 3) else (firstBad bs.length (bookErr bs)).map fun (i : Nat) => ((i : Int), bookErr bs i)
def checkRdrs (bs : List Rdr) : Option (Int × Int) := if 8 < bs.length then some (0, 3) else (firstBad bs.length (rdrErr bs)).map fun (i : Nat) => ((i : Int), rdrErr bs i)
def checkSeats (ss : List Seat) : Option (Int × Int) := if 6 < ss.length then some (0, 3) else (firstBad ss.length (seatErr ss)).map fun (i : Nat) => ((i : Int), seatErr ss i)
def checkReqs (r : Room) : Option (Int × Int) := if 8 < r.reqs.length then some (0, 3) else (firstBad r.reqs.length (reqErr r)).map fun (i : Nat) => ((i : Int), reqErr r i)
/-- P10.1. -/
def check (r : Room) : Int × Int × Int :=
  match checkBooks r.books with
  | some (i, e) => (1, i, e)
  | none => match checkRdrs r.readers with
    | some (i, e) => (2, i, e)
    | none => match checkSeats r.seats with
      | some (i, e) => (3, i, e)
      | none => match checkReqs r with
        | some (i, e) => (4, i, e)
        | none => (0, 0, 0)
/-- The three results of 'Check'. -/
def checkV (r : Room) : Value := .tuple #[.int .i64 (check r).1, .int .i64 (check r).2.1, .int .i64 (check r).2.2]
theorem bookErr_at {bs : List Book} {k : Nat} (hk : k < bs.length) : bookErr bs k = if nameOk bs[k].name = false then 6 else if (bs.take k).any (fun x => sameS x.name bs[k].name) = true then 5
    else if (inB 0 5 bs[k].cls && (inB 0 1000 bs[k].lo && inB 0 1000 bs[k].hi)) = false then 7 else if bs[k].hi < bs[k].lo then 2 else 0 := by
  unfold bookErr; rw [List.getElem?_eq_getElem hk]
theorem rdrErr_at {bs : List Rdr} {k : Nat} (hk : k < bs.length) : rdrErr bs k = if nameOk bs[k].name = false then 6 else if (bs.take k).any (fun x => sameS x.name bs[k].name) = true then 5
    else if inB 0 5 bs[k].permit = false then 7 else 0 := by
  unfold rdrErr; rw [List.getElem?_eq_getElem hk]
theorem seatErr_at {bs : List Seat} {k : Nat} (hk : k < bs.length) : seatErr bs k = if inB 0 100 bs[k].light = false then 7 else 0 := by
  unfold seatErr; rw [List.getElem?_eq_getElem hk]
theorem reqErr_at {r : Room} {k : Nat} (hk : k < r.reqs.length) : reqErr r k = if (inB 0 (r.readers.length - 1) r.reqs[k].reader && inB 0 (r.books.length - 1) r.reqs[k].book) = false then 4
    else if (inB 1 12 r.reqs[k].hours && inB 0 100 r.reqs[k].worth) = false then 7 else 0 := by
  unfold reqErr; rw [List.getElem?_eq_getElem hk]
theorem checkBooks_long {bs : List Book} (h : 8 < bs.length) : checkBooks bs = some (0, 3) := if_pos h
theorem checkBooks_bad {bs : List Book} {k : Nat} {e : Int} (h : ¬ 8 < bs.length) (hk : k < bs.length) (hb : ∀ j, j < k → bookErr bs j = 0) (he : bookErr bs k = e) (hne : e ≠ 0) : checkBooks bs = some ((k : Int), e) := by
  unfold checkBooks; rw [if_neg h, firstBad_some hk (by rw [he]; exact hne) hb]; simp [he]
theorem checkBooks_ok {bs : List Book} (h : ¬ 8 < bs.length) (hb : ∀ j, j < bs.length → bookErr bs j = 0) : checkBooks bs = none := by
  unfold checkBooks; rw [if_neg h, firstBad_none hb]; rfl
theorem checkRdrs_long {bs : List Rdr} (h : 8 < bs.length) : checkRdrs bs = some (0, 3) := if_pos h
theorem checkRdrs_bad {bs : List Rdr} {k : Nat} {e : Int} (h : ¬ 8 < bs.length) (hk : k < bs.length) (hb : ∀ j, j < k → rdrErr bs j = 0) (he : rdrErr bs k = e) (hne : e ≠ 0) : checkRdrs bs = some ((k : Int), e) := by
  unfold checkRdrs; rw [if_neg h, firstBad_some hk (by rw [he]; exact hne) hb]; simp [he]
theorem checkRdrs_ok {bs : List Rdr} (h : ¬ 8 < bs.length) (hb : ∀ j, j < bs.length → rdrErr bs j = 0) : checkRdrs bs = none := by
  unfold checkRdrs; rw [if_neg h, firstBad_none hb]; rfl
theorem checkSeats_long {bs : List Seat} (h : 6 < bs.length) : checkSeats bs = some (0, 3) := if_pos h
theorem checkSeats_bad {bs : List Seat} {k : Nat} {e : Int} (h : ¬ 6 < bs.length) (hk : k < bs.length) (hb : ∀ j, j < k → seatErr bs j = 0) (he : seatErr bs k = e) (hne : e ≠ 0) : checkSeats bs = some ((k : Int), e) := by
  unfold checkSeats; rw [if_neg h, firstBad_some hk (by rw [he]; exact hne) hb]; simp [he]
theorem checkSeats_ok {bs : List Seat} (h : ¬ 6 < bs.length) (hb : ∀ j, j < bs.length → seatErr bs j = 0) : checkSeats bs = none := by
  unfold checkSeats; rw [if_neg h, firstBad_none hb]; rfl
theorem checkReqs_long {r : Room} (h : 8 < r.reqs.length) : checkReqs r = some (0, 3) := if_pos h
theorem checkReqs_bad {r : Room} {k : Nat} {e : Int} (h : ¬ 8 < r.reqs.length) (hk : k < r.reqs.length) (hb : ∀ j, j < k → reqErr r j = 0) (he : reqErr r k = e) (hne : e ≠ 0) : checkReqs r = some ((k : Int), e) := by
  unfold checkReqs; rw [if_neg h, firstBad_some hk (by rw [he]; exact hne) hb]; simp [he]
theorem checkReqs_ok {r : Room} (h : ¬ 8 < r.reqs.length) (hb : ∀ j, j < r.reqs.length → reqErr r j = 0) : checkReqs r = none := by
  unfold checkReqs; rw [if_neg h, firstBad_none hb]; rfl
theorem checkV1 {r : Room} {i e : Int} (h : checkBooks r.books = some (i, e)) : checkV r = .tuple #[.int .i64 1, .int .i64 i, .int .i64 e] := by unfold checkV check; rw [h]
theorem checkV2 {r : Room} {i e : Int} (h1 : checkBooks r.books = none) (h : checkRdrs r.readers = some (i, e)) : checkV r = .tuple #[.int .i64 2, .int .i64 i, .int .i64 e] := by unfold checkV check; rw [h1, h]
theorem checkV3 {r : Room} {i e : Int} (h1 : checkBooks r.books = none) (h2 : checkRdrs r.readers = none) (h : checkSeats r.seats = some (i, e)) : checkV r = .tuple #[.int .i64 3, .int .i64 i, .int .i64 e] := by unfold checkV check; rw [h1, h2, h]
theorem checkV4 {r : Room} {i e : Int} (h1 : checkBooks r.books = none) (h2 : checkRdrs r.readers = none) (h3 : checkSeats r.seats = none) (h : checkReqs r = some (i, e)) : checkV r = .tuple #[.int .i64 4, .int .i64 i, .int .i64 e] := by unfold checkV check; rw [h1, h2, h3, h]
theorem checkV0 {r : Room} (h1 : checkBooks r.books = none) (h2 : checkRdrs r.readers = none) (h3 : checkSeats r.seats = none) (h : checkReqs r = none) : checkV r = .tuple #[.int .i64 0, .int .i64 0, .int .i64 0] := by unfold checkV check; rw [h1, h2, h3, h]
/-- Index and error of a part. -/
def optV (o : Option (Int × Int)) : Value := match o with | some (i, e) => .tuple #[.int .i64 i, .int .i64 e] | none => .tuple #[.int .i64 0, .int .i64 0]
def bnames (bs : List Book) (k : Nat) : List ByteArray := (bs.take k).map (·.name)
def rnames (bs : List Rdr) (k : Nat) : List ByteArray := (bs.take k).map (·.name)
theorem bnames_length {bs : List Book} {k : Nat} (h : k ≤ bs.length) : (bnames bs k).length = k := by simp [bnames]; omega
theorem rnames_length {bs : List Rdr} {k : Nat} (h : k ≤ bs.length) : (rnames bs k).length = k := by simp [rnames]; omega
theorem bnames_succ {bs : List Book} {k : Nat} (h : k < bs.length) : bnames bs (k + 1) = bnames bs k ++ [bs[k].name] := by
  unfold bnames; rw [List.take_succ_eq_append_getElem h, List.map_append]; rfl
theorem rnames_succ {bs : List Rdr} {k : Nat} (h : k < bs.length) : rnames bs (k + 1) = rnames bs k ++ [bs[k].name] := by
  unfold rnames; rw [List.take_succ_eq_append_getElem h, List.map_append]; rfl
theorem bookErr_fresh {bs : List Book} {k : Nat} (hk : k < bs.length) (h : freshE bs[k].name (bnames bs k) ≠ 0) : bookErr bs k = freshE bs[k].name (bnames bs k) := by
  rw [bookErr_at hk]
  simp only [freshE, bnames, List.any_map, Function.comp_def] at h ⊢
  split
  · rfl
  · split
    · rfl
    · rename_i h1 h2; rw [if_neg h1, if_neg h2] at h; exact absurd rfl h
theorem bookErr_rest {bs : List Book} {k : Nat} (hk : k < bs.length) (h : freshE bs[k].name (bnames bs k) = 0) : bookErr bs k = if inB 0 5 bs[k].cls = false then 7 else rangeE bs[k].lo bs[k].hi 0 1000 := by
  rw [bookErr_at hk]
  simp only [freshE, bnames, List.any_map, Function.comp_def] at h
  split at h
  · cases h
  · rename_i h1
    split at h
    · cases h
    · rename_i h2
      rw [if_neg h1, if_neg h2]
      cases hc : inB 0 5 bs[k].cls with
      | false => simp
      | true =>
        simp only [Bool.true_and, Bool.true_eq_false, if_false]
        unfold rangeE inB
        by_cases h3 : min bs[k].lo bs[k].hi < 0 ∨ 1000 < max bs[k].lo bs[k].hi
        · rw [if_pos h3, if_pos (by simp; omega)]
        · rw [if_neg h3, if_neg (by simp; omega)]
theorem rdrErr_fresh {bs : List Rdr} {k : Nat} (hk : k < bs.length) (h : freshE bs[k].name (rnames bs k) ≠ 0) : rdrErr bs k = freshE bs[k].name (rnames bs k) := by
  rw [rdrErr_at hk]
  simp only [freshE, rnames, List.any_map, Function.comp_def] at h ⊢
  split
  · rfl
  · split
    · rfl
    · rename_i h1 h2; rw [if_neg h1, if_neg h2] at h; exact absurd rfl h
theorem rdrErr_rest {bs : List Rdr} {k : Nat} (hk : k < bs.length) (h : freshE bs[k].name (rnames bs k) = 0) : rdrErr bs k = if inB 0 5 bs[k].permit = false then 7 else 0 := by
  rw [rdrErr_at hk]
  simp only [freshE, rnames, List.any_map, Function.comp_def] at h
  split at h
  · cases h
  · rename_i h1
    split at h
    · cases h
    · rename_i h2
      rw [if_neg h1, if_neg h2]
def Room.req (r : Room) (i : Nat) : Req := r.reqs[i]?.getD ⟨0, 0, 0, 0⟩
def Room.bk (r : Room) (i : Nat) : Book := r.books[i]?.getD ⟨ByteArray.empty, 0, 0, 0, false⟩
def Room.rd (r : Room) (i : Nat) : Rdr := r.readers[i]?.getD ⟨ByteArray.empty, 0⟩
def Room.seat (r : Room) (i : Nat) : Seat := r.seats[i]?.getD ⟨0, false⟩
theorem req_at {r : Room} {i : Nat} (h : i < r.reqs.length) : r.reqs[i] = r.req i := by simp [Room.req, h]
theorem bk_at {r : Room} {i : Nat} (h : i < r.books.length) : r.books[i] = r.bk i := by simp [Room.bk, h]
theorem rd_at {r : Room} {i : Nat} (h : i < r.readers.length) : r.readers[i] = r.rd i := by simp [Room.rd, h]
theorem seat_at {r : Room} {i : Nat} (h : i < r.seats.length) : r.seats[i] = r.seat i := by simp [Room.seat, h]
def Room.reader (r : Room) (i : Nat) : Nat := (r.req i).reader.toNat
def Room.book (r : Room) (i : Nat) : Nat := (r.req i).book.toNat
structure Valid (r : Room) : Prop where
  nb : r.books.length ≤ 8
  nr : r.readers.length ≤ 8
  ns : r.seats.length ≤ 6
  nq : r.reqs.length ≤ 8
  rq : ∀ i, i < r.reqs.length → 0 ≤ (r.req i).reader ∧ (r.req i).reader < r.readers.length ∧ 0 ≤ (r.req i).book ∧ (r.req i).book < r.books.length ∧ 1 ≤ (r.req i).hours ∧ (r.req i).hours ≤ 12 ∧ 0 ≤ (r.req i).worth ∧ (r.req i).worth ≤ 100
  st : ∀ i, i < r.seats.length → 0 ≤ (r.seat i).light ∧ (r.seat i).light ≤ 100
  bo : ∀ i, i < r.books.length → 0 ≤ (r.bk i).lo ∧ (r.bk i).lo ≤ (r.bk i).hi ∧ (r.bk i).hi ≤ 1000 ∧ 0 ≤ (r.bk i).cls ∧ (r.bk i).cls ≤ 5
  rd : ∀ i, i < r.readers.length → 0 ≤ (r.rd i).permit ∧ (r.rd i).permit ≤ 5
theorem firstBad_none_iff {n : Nat} {f : Nat → Int} (h : firstBad n f = none) : ∀ j, j < n → f j = 0 := by
  unfold firstBad at h
  rw [List.find?_range_eq_none] at h
  intro j hj
  simpa using h j hj
theorem checkE_books {bs : List Book} {i e : Int} (h : checkBooks bs = some (i, e)) : e ≠ 0 := by
  unfold checkBooks at h
  split at h
  · simp at h; omega
  · cases hf : firstBad bs.length (bookErr bs) with
    | none => rw [hf] at h; simp at h
    | some k =>
      rw [hf] at h; simp at h
      have := List.find?_some hf
      rw [← h.2]; simpa using this
theorem checkE_rdrs {bs : List Rdr} {i e : Int} (h : checkRdrs bs = some (i, e)) : e ≠ 0 := by
  unfold checkRdrs at h
  split at h
  · simp at h; omega
  · cases hf : firstBad bs.length (rdrErr bs) with
    | none => rw [hf] at h; simp at h
    | some k =>
      rw [hf] at h; simp at h
      have := List.find?_some hf
      rw [← h.2]; simpa using this
theorem checkE_seats {bs : List Seat} {i e : Int} (h : checkSeats bs = some (i, e)) : e ≠ 0 := by
  unfold checkSeats at h
  split at h
  · simp at h; omega
  · cases hf : firstBad bs.length (seatErr bs) with
    | none => rw [hf] at h; simp at h
    | some k =>
      rw [hf] at h; simp at h
      have := List.find?_some hf
      rw [← h.2]; simpa using this
theorem checkE_reqs {r : Room} {i e : Int} (h : checkReqs r = some (i, e)) : e ≠ 0 := by
  unfold checkReqs at h
  split at h
  · simp at h; omega
  · cases hf : firstBad r.reqs.length (reqErr r) with
    | none => rw [hf] at h; simp at h
    | some k =>
      rw [hf] at h; simp at h
      have := List.find?_some hf
      rw [← h.2]; simpa using this
theorem check_none {r : Room} (h : (check r).2.2 = 0) : checkBooks r.books = none ∧ checkRdrs r.readers = none ∧ checkSeats r.seats = none ∧ checkReqs r = none := by
  unfold check at h
  cases hb : checkBooks r.books with
  | some p => obtain ⟨i, e⟩ := p; rw [hb] at h; exact absurd h (checkE_books hb)
  | none =>
    cases hr : checkRdrs r.readers with
    | some p => obtain ⟨i, e⟩ := p; rw [hb, hr] at h; exact absurd h (checkE_rdrs hr)
    | none =>
      cases hs : checkSeats r.seats with
      | some p => obtain ⟨i, e⟩ := p; rw [hb, hr, hs] at h; exact absurd h (checkE_seats hs)
      | none =>
        cases hq : checkReqs r with
        | some p => obtain ⟨i, e⟩ := p; rw [hb, hr, hs, hq] at h; exact absurd h (checkE_reqs hq)
        | none => exact ⟨rfl, rfl, rfl, rfl⟩
theorem valid_of {r : Room} (h : (check r).2.2 = 0) : Valid r := by
  obtain ⟨hb, hr, hs, hq⟩ := check_none h
  unfold checkBooks at hb
  unfold checkRdrs at hr
  unfold checkSeats at hs
  unfold checkReqs at hq
  split at hb
  · cases hb
  · rename_i nb
    split at hr
    · cases hr
    · rename_i nr
      split at hs
      · cases hs
      · rename_i ns
        split at hq
        · cases hq
        · rename_i nq
          simp only [Option.map_eq_none_iff] at hb hr hs hq
          replace hb := firstBad_none_iff hb
          replace hr := firstBad_none_iff hr
          replace hs := firstBad_none_iff hs
          replace hq := firstBad_none_iff hq
          refine ⟨by omega, by omega, by omega, by omega, fun i hi => ?_, fun i hi => ?_, fun i hi => ?_, fun i hi => ?_⟩
          · have := hq i hi
            rw [reqErr_at hi, req_at hi] at this
            split at this
            · cases this
            · split at this
              · cases this
              · rename_i h1 h2
                simp [inB] at h1 h2
                omega
          · have := hs i hi
            rw [seatErr_at hi, seat_at hi] at this
            split at this
            · cases this
            · rename_i h1; simp [inB] at h1; omega
          · have := hb i hi
            rw [bookErr_at hi, bk_at hi] at this
            split at this
            · cases this
            · split at this
              · cases this
              · split at this
                · cases this
                · split at this
                  · cases this
                  · rename_i h1 h2 h3 h4; simp [inB] at h3; omega
          · have := hr i hi
            rw [rdrErr_at hi, rd_at hi] at this
            split at this
            · cases this
            · split at this
              · cases this
              · split at this
                · cases this
                · rename_i h1 h2 h3; simp [inB] at h3; omega
def light (r : Room) (i s : Nat) : Int := (r.req i).hours * (r.seat s).light
/-- Why request 'i' cannot be granted at seat 's'. -/
def reason (r : Room) (i s : Nat) : Int :=
  if (r.rd (r.reader i)).permit < (r.bk (r.book i)).cls then 1
  else if (r.bk (r.book i)).large = true ∧ (r.seat s).small = true then 2
  else if (r.bk (r.book i)).lo < light r i s then 3 else 0
theorem light_bound {r : Room} (hv : Valid r) {i s : Nat} (hi : i < r.reqs.length) (hs : s < r.seats.length) : 0 ≤ light r i s ∧ light r i s ≤ 1200 := by
  have h1 := hv.rq i hi
  have h2 := hv.st s hs
  unfold light
  constructor
  · exact Int.mul_nonneg (by omega) h2.1
  · have : (r.req i).hours * (r.seat s).light ≤ 12 * 100 := Int.mul_le_mul h1.2.2.2.2.2.1 h2.2 h2.1 (by omega)
    omega
def natE (n : Nat) : List Value := [.int .i64 (n : Int)]
/-- A slice of indices. -/
abbrev Nats (F : Heap) (v : Value) (l : List Nat) : Prop := Sl F v 1 natE l
theorem Ints.nats {F : Heap} {v : Value} {xs : List Int} (h : Ints F v xs) (h0 : ∀ x ∈ xs, 0 ≤ x) : Nats F v (xs.map Int.toNat) := by
  refine ⟨by simpa using h.plain, fun i hi j u hu => ?_⟩
  have hi' : i < xs.length := by simpa using hi
  refine h.cells i hi' j u ?_
  simp only [List.getElem_map, natE, intE] at hu ⊢
  rwa [Int.toNat_of_nonneg (h0 _ (List.getElem_mem hi'))] at hu
theorem Nats.ints {F : Heap} {v : Value} {l : List Nat} (h : Nats F v l) : Ints F v (l.map fun (n : Nat) => (n : Int)) := by
  refine ⟨by simpa using h.plain, fun i hi j u hu => ?_⟩
  have hi' : i < l.length := by simpa using hi
  refine h.cells i hi' j u ?_
  simpa [natE, intE] using hu
/-- Some number is not above the one before it. -/
def notAsc (xs : List Int) : Bool := (List.range xs.length).any fun i => decide (0 < i ∧ xs[i]?.getD 0 ≤ xs[i - 1]?.getD 0)
theorem notAsc_at {xs : List Int} {i : Nat} (h0 : 0 < i) (h : i < xs.length) (hle : xs[i] ≤ xs[i - 1]) : notAsc xs = true := by
  unfold notAsc
  rw [List.any_eq_true]
  refine ⟨i, by simpa using h, ?_⟩
  have : i - 1 < xs.length := by omega
  simp [h, this, h0, hle]
theorem asc_of {xs : List Int} (h : ∀ i (hi : i < xs.length), 0 < i → ¬ xs[i] ≤ xs[i - 1]) : notAsc xs = false := by
  unfold notAsc
  rw [List.any_eq_false]
  intro i hi
  simp only [List.mem_range] at hi
  by_cases h0 : 0 < i
  · have := h i hi h0
    have h1 : i - 1 < xs.length := by omega
    simp [hi, h1, h0]; omega
  · simp [h0]
/-- The error of requests. -/
def someErr (r : Room) (xs : List Int) : Int :=
  if (check r).2.2 ≠ 0 then (check r).2.2
  else if (xs.any fun z => !(inB 0 (r.reqs.length - 1) z)) = true then 4
  else if notAsc xs = true then 2 else 0
theorem any_in_none {xs : List Int} {lo hi : Int} (h : ∀ j (hj : j < xs.length), inB lo hi xs[j] = true) : (xs.any fun z => !(inB lo hi z)) = false := by
  rw [List.any_eq_false]
  intro z hz
  obtain ⟨j, hj, rfl⟩ := List.mem_iff_getElem.1 hz
  simp [h j hj]
end Go.Proofs.Ytbcjfkcpfjccdaa
namespace Go.Proofs.Ytbcjfkcpfjccdaa
theorem Valid.book {r : Room} (hv : Valid r) {i : Nat} (hi : i < r.reqs.length) : r.reqs[i].book = (r.book i : Int) ∧ r.book i < r.books.length := by
  have := hv.rq i hi
  rw [req_at hi]
  unfold Room.book
  omega
theorem Valid.reader {r : Room} (hv : Valid r) {i : Nat} (hi : i < r.reqs.length) : r.reqs[i].reader = (r.reader i : Int) ∧ r.reader i < r.readers.length := by
  have := hv.rq i hi
  rw [req_at hi]
  unfold Room.reader
  omega
theorem someErr_chk {r : Room} {xs : List Int} (h : (check r).2.2 ≠ 0) : someErr r xs = (check r).2.2 := if_pos h
theorem someErr_any {r : Room} {xs : List Int} (h0 : (check r).2.2 = 0) (h : (xs.any fun z => !(inB 0 (r.reqs.length - 1) z)) = true) : someErr r xs = 4 := by
  unfold someErr; rw [if_neg (by simpa using h0), if_pos h]
theorem someErr_asc {r : Room} {xs : List Int} {i : Nat} (h0 : (check r).2.2 = 0) (ha : (xs.any fun z => !(inB 0 (r.reqs.length - 1) z)) = false) (hp : 0 < i) (hi : i < xs.length) (hle : xs[i] ≤ xs[i - 1]) : someErr r xs = 2 := by
  unfold someErr; rw [if_neg (by simpa using h0), if_neg (by rw [ha]; simp), if_pos (notAsc_at hp hi hle)]
theorem someErr_ok {r : Room} {xs : List Int} (h0 : (check r).2.2 = 0) (ha : (xs.any fun z => !(inB 0 (r.reqs.length - 1) z)) = false) (h : ∀ i (hi : i < xs.length), 0 < i → ¬ xs[i] ≤ xs[i - 1]) : someErr r xs = 0 := by
  unfold someErr; rw [if_neg (by simpa using h0), if_neg (by rw [ha]; simp), if_neg (by rw [asc_of h]; simp)]
theorem someErr_nil {r : Room} : someErr r [] = (check r).2.2 := by
  unfold someErr
  split
  · rfl
  · rename_i h
    have : notAsc [] = false := rfl
    rw [this]
    simp at h ⊢
    exact h.symm
/-- P10.2: 'Why'. -/
def whyE (r : Room) (i s : Int) : Int × Int :=
  if (check r).2.2 ≠ 0 then (0, (check r).2.2) else if (inB 0 (r.reqs.length - 1) i && inB 0 (r.seats.length - 1) s) = false then (0, 4) else (reason r i.toNat s.toNat, 0)
def pairV (p : Int × Int) : Go.Value := .tuple #[.int .i64 p.1, .int .i64 p.2]
theorem inB_nat {n : Nat} {i : Int} (h : inB 0 (n - 1) i = true) : ∃ k : Nat, i = k ∧ k < n := by
  simp [inB] at h
  obtain ⟨k, rfl⟩ := Int.eq_ofNat_of_zero_le h.1
  exact ⟨k, rfl, by omega⟩
end Go.Proofs.Ytbcjfkcpfjccdaa
namespace Go.Proofs.Ytbcjfkcpfjccdaa
/-- No two have the same reader, or the same book. -/
def Two (r : Room) (a b : Nat) : Prop := r.reader a ≠ r.reader b ∧ r.book a ≠ r.book b
instance {r : Room} : DecidableRel (Two r) := fun _ _ => inferInstanceAs (Decidable (_ ∧ _))
def Apart (r : Room) (l : List Nat) : Prop := l.Pairwise (Two r)
instance {r : Room} {l : List Nat} : Decidable (Apart r l) := inferInstanceAs (Decidable (List.Pairwise _ _))
theorem Two.symm {r : Room} {a b : Nat} (h : Two r a b) : Two r b a := ⟨fun e => h.1 e.symm, fun e => h.2 e.symm⟩
theorem apart_iff {r : Room} {l : List Nat} : Apart r l ↔ ∀ i k (hi : i < l.length) (hk : k < i), Two r l[i] (l[k]'(by omega)) := by
  unfold Apart
  rw [List.pairwise_iff_getElem]
  exact ⟨fun h i k hi hk => (h k i (by omega) hi hk).symm, fun h i j hi hj hij => (h j i hj hij).symm⟩
/-- One more seat tried for the first request. -/
def step (r : Room) (q : Nat) (taken : List Nat) (sub : List Nat → Option (List Nat × Int)) (best : Option (List Nat × Int)) (s : Nat) : Option (List Nat × Int) :=
  if s ∈ taken ∨ reason r q s ≠ 0 then best
  else match sub (taken ++ [s]) with
    | none => best
    | some (l, n) => match best with
      | none => some (s :: l, n + light r q s)
      | some (_, m) => if n + light r q s < m then some (s :: l, n + light r q s) else best
/-- The first seats with the least light, but for those that are taken. -/
def giveR (r : Room) : List Nat → List Nat → Option (List Nat × Int)
  | [], _ => some ([], 0)
  | q :: rest, taken => (List.range r.seats.length).foldl (step r q taken (giveR r rest)) none
def allR (r : Room) (l : List Nat) : Option (List Nat × Int) := if Apart r l then giveR r l [] else none
/-- Indices that are valid. -/
theorem idx_of {r : Room} {xs : List Int} (h : someErr r xs = 0) : ∃ l : List Nat, xs = l.map (fun (n : Nat) => (n : Int)) ∧ (∀ i ∈ l, i < r.reqs.length) ∧ l.Pairwise (· < ·) := by
  unfold someErr at h
  split at h
  · rename_i h0; exact absurd h h0
  · split at h
    · cases h
    · rename_i h1
      split at h
      · cases h
      · rename_i h2
        have hin : ∀ x ∈ xs, 0 ≤ x ∧ x < r.reqs.length := by
          intro x hx
          have : ¬ (!(inB 0 (r.reqs.length - 1) x)) = true := fun hb => h1 (List.any_eq_true.2 ⟨x, hx, hb⟩)
          simp [inB] at this
          omega
        refine ⟨xs.map Int.toNat, ?_, ?_, ?_⟩
        · rw [List.map_map]
          symm
          conv => rhs; rw [← List.map_id xs]
          apply List.map_congr_left
          intro x hx
          have := hin x hx
          simp only [Function.comp, id]
          omega
        · intro i hi
          obtain ⟨x, hx, rfl⟩ := List.mem_map.1 hi
          have := hin x hx
          omega
        · have hstep : ∀ i (hi : i < xs.length), 0 < i → xs[i - 1] < xs[i] := by
            intro i hi h0
            by_cases hle : xs[i] ≤ xs[i - 1]
            · exact absurd (notAsc_at h0 hi hle) h2
            · omega
          rw [List.pairwise_iff_getElem]
          have key : ∀ d i (hi : i + d + 1 < xs.length), xs[i]'(by omega) < xs[i + d + 1] := by
            intro d
            induction d with
            | zero => intro i hi; have := hstep (i + 1) hi (by omega); simpa using this
            | succ d ih =>
              intro i hi
              have h1 := ih i (by omega)
              have h2 := hstep (i + (d + 1) + 1) hi (by omega)
              simp only [Nat.add_sub_cancel] at h2
              have e : i + (d + 1) = i + d + 1 := by omega
              simp only [e] at h2 ⊢
              omega
          intro i j hi hj hij
          simp only [List.length_map] at hi hj
          simp only [List.getElem_map]
          obtain ⟨d, rfl⟩ : ∃ d, j = i + d + 1 := ⟨j - i - 1, by omega⟩
          have := key d i hj
          have h0 := hin _ (List.getElem_mem hi)
          omega
theorem someErr_valid {r : Room} {xs : List Int} (h : someErr r xs = 0) : Valid r := by
  unfold someErr at h
  split at h
  · rename_i h0; exact absurd h h0
  · rename_i h0; exact valid_of (by simpa using h0)
theorem fold_succ {α : Type} {f : α → Nat → α} {b : α} {k : Nat} : (List.range (k + 1)).foldl f b = f ((List.range k).foldl f b) k := by
  rw [List.range_succ, List.foldl_append]; rfl
/-- What seats that are given are, at least. -/
def GoodGive (r : Room) (l : List Nat) (o : Option (List Nat × Int)) : Prop := ∀ s n, o = some (s, n) → s.length = l.length ∧ 0 ≤ n ∧ n ≤ 1200 * l.length ∧ ∀ x ∈ s, x < r.seats.length
theorem good_step {r : Room} (hv : Valid r) {q k : Nat} {rest taken : List Nat} (hq : q < r.reqs.length) (hk : k < r.seats.length) {sub : List Nat → Option (List Nat × Int)} (hs : ∀ t, GoodGive r rest (sub t)) {best : Option (List Nat × Int)} (hb : GoodGive r (q :: rest) best) : GoodGive r (q :: rest) (step r q taken sub best k) := by
  unfold step
  split
  · exact hb
  · have hl := light_bound hv hq hk
    cases h1 : sub (taken ++ [k]) with
    | none => exact hb
    | some p =>
      obtain ⟨l, n⟩ := p
      obtain ⟨a1, a2, a3, a4⟩ := hs _ l n h1
      have hnew : GoodGive r (q :: rest) (some (k :: l, n + light r q k)) := by
        intro s m hsm
        simp only [Option.some.injEq, Prod.mk.injEq] at hsm
        obtain ⟨rfl, rfl⟩ := hsm
        refine ⟨by simp [a1], by omega, by simp only [List.length_cons]; omega, fun x hx => ?_⟩
        rcases List.mem_cons.1 hx with rfl | hx
        · exact hk
        · exact a4 x hx
      cases best with
      | none => exact hnew
      | some b =>
        obtain ⟨lb, m⟩ := b
        simp only
        split
        · exact hnew
        · exact hb
theorem good_fold {r : Room} (hv : Valid r) {q : Nat} {rest taken : List Nat} (hq : q < r.reqs.length) {sub : List Nat → Option (List Nat × Int)} (hs : ∀ t, GoodGive r rest (sub t)) : ∀ k, k ≤ r.seats.length → GoodGive r (q :: rest) ((List.range k).foldl (step r q taken sub) none)
  | 0, _ => fun s n h => nomatch h
  | k + 1, hk => by rw [fold_succ]; exact good_step hv hq (by omega) hs (good_fold hv hq hs k (by omega))
theorem good_give {r : Room} (hv : Valid r) : ∀ (l : List Nat), (∀ i ∈ l, i < r.reqs.length) → ∀ taken, GoodGive r l (giveR r l taken)
  | [], _ => fun _ s n h => by
    simp only [giveR, Option.some.injEq, Prod.mk.injEq] at h
    obtain ⟨rfl, rfl⟩ := h
    exact ⟨rfl, by omega, by simp, by simp⟩
  | q :: rest, hl => fun taken => good_fold hv (hl q (by simp)) (good_give hv rest fun i hi => hl i (List.mem_cons_of_mem _ hi)) _ (Nat.le_refl _)
end Go.Proofs.Ytbcjfkcpfjccdaa
namespace Go.Proofs.Ytbcjfkcpfjccdaa
def cutoff (best : Option (List Nat × Int)) (sum : Int) : Bool := match best with | some (_, L) => decide (L ≤ sum) | none => false
def tryS (r : Room) (q : Nat) (pre : List Nat) (sum : Int) (sub : List Nat → Int → Option (List Nat × Int) → Option (List Nat × Int)) (best : Option (List Nat × Int)) (s : Nat) : Option (List Nat × Int) :=
  if s ∈ pre ∨ reason r q s ≠ 0 then best else sub (pre ++ [s]) (sum + light r q s) best
def search (r : Room) : List Nat → List Nat → Int → Option (List Nat × Int) → Option (List Nat × Int)
  | [], pre, sum, best => if cutoff best sum = true then best else some (pre, sum)
  | q :: rest, pre, sum, best => if cutoff best sum = true then best else (List.range r.seats.length).foldl (tryS r q pre sum (search r rest)) best
def better (best o : Option (List Nat × Int)) (pre : List Nat) (sum : Int) : Option (List Nat × Int) := match o with
  | none => best
  | some (l, n) => match best with
    | none => some (pre ++ l, sum + n)
    | some (lb, L) => if sum + n < L then some (pre ++ l, sum + n) else some (lb, L)
theorem search_eq {r : Room} (hv : Valid r) : ∀ (rem : List Nat), (∀ i ∈ rem, i < r.reqs.length) → ∀ pre sum best, search r rem pre sum best = better best (giveR r rem pre) pre sum
  | [], _ => fun pre sum best => by
    unfold search giveR better cutoff
    cases best with
    | none => simp
    | some p =>
      obtain ⟨lb, L⟩ := p
      simp only [List.append_nil, Int.add_zero, decide_eq_true_eq]
      by_cases h : L ≤ sum
      · rw [if_pos h, if_neg (by omega)]
      · rw [if_neg h, if_pos (by omega)]
  | q :: rest, hl => fun pre sum best => by
    have hq := hl q (by simp)
    have hrest : ∀ i ∈ rest, i < r.reqs.length := fun i hi => hl i (List.mem_cons_of_mem _ hi)
    have IH := search_eq hv rest hrest
    have hgood := good_give hv (q :: rest) hl pre
    unfold search
    by_cases hc : cutoff best sum = true
    · rw [if_pos hc]
      cases best with
      | none => simp [cutoff] at hc
      | some p =>
        obtain ⟨lb, L⟩ := p
        simp only [cutoff, decide_eq_true_eq] at hc
        unfold better
        cases ho : giveR r (q :: rest) pre with
        | none => rfl
        | some o =>
          obtain ⟨l, n⟩ := o
          have := (hgood l n ho).2.1
          simp only
          rw [if_neg (by omega)]
    · rw [if_neg hc]
      show _ = better best ((List.range r.seats.length).foldl (step r q pre (giveR r rest)) none) pre sum
      have key : ∀ k, k ≤ r.seats.length → (List.range k).foldl (tryS r q pre sum (search r rest)) best = better best ((List.range k).foldl (step r q pre (giveR r rest)) none) pre sum := by
        intro k
        induction k with
        | zero => intro _; rfl
        | succ k ih =>
          intro hk
          rw [fold_succ, fold_succ, ih (by omega)]
          generalize (List.range k).foldl (step r q pre (giveR r rest)) none = o
          unfold tryS step
          by_cases hs : k ∈ pre ∨ reason r q k ≠ 0
          · rw [if_pos hs, if_pos hs]
          · rw [if_neg hs, if_neg hs, IH]
            cases hg : giveR r rest (pre ++ [k]) with
            | none => rfl
            | some p =>
              obtain ⟨l, n⟩ := p
              have e1 : pre ++ [k] ++ l = pre ++ k :: l := by simp
              have e2 : sum + light r q k + n = sum + (n + light r q k) := by omega
              cases o with
              | none =>
                simp only [better]
                cases best with
                | none => simp only [e1, e2]
                | some b => obtain ⟨lb, L⟩ := b; simp only [e1, e2]
              | some o =>
                obtain ⟨lo, m⟩ := o
                cases best with
                | none =>
                  simp only [better]
                  by_cases h1 : n + light r q k < m
                  · rw [if_pos h1, if_pos (by omega)]; simp only [e1, e2]
                  · rw [if_neg h1, if_neg (by omega)]
                | some b =>
                  obtain ⟨lb, L⟩ := b
                  simp only [better]
                  by_cases h0 : sum + m < L
                  · rw [if_pos h0]
                    by_cases h1 : n + light r q k < m
                    · rw [if_pos h1]; simp only; rw [if_pos (by omega), if_pos (by omega)]; simp only [e1, e2]
                    · rw [if_neg h1]; simp only; rw [if_neg (by omega), if_pos h0]
                  · rw [if_neg h0]
                    by_cases h1 : n + light r q k < m
                    · rw [if_pos h1]; simp only
                      by_cases h2 : sum + light r q k + n < L
                      · rw [if_pos h2, if_pos (by omega)]; simp only [e1, e2]
                      · rw [if_neg h2, if_neg (by omega)]
                    · rw [if_neg h1]; simp only; rw [if_neg (by omega), if_neg h0]
      exact key _ (Nat.le_refl _)
theorem search_give {r : Room} (hv : Valid r) {l : List Nat} (hl : ∀ i ∈ l, i < r.reqs.length) : search r l [] 0 none = giveR r l [] := by
  rw [search_eq hv l hl]
  unfold better
  cases giveR r l [] with
  | none => rfl
  | some p => obtain ⟨a, b⟩ := p; simp
end Go.Proofs.Ytbcjfkcpfjccdaa
namespace Go.Proofs.Ytbcjfkcpfjccdaa
open Go.RowKit
theorem light_out1 {r : Room} {i s : Nat} (h : r.reqs.length ≤ i) : light r i s = 0 := by
  simp [light, Room.req, List.getElem?_eq_none h]
theorem light_out2 {r : Room} {i s : Nat} (h : r.seats.length ≤ s) : light r i s = 0 := by
  simp [light, Room.seat, List.getElem?_eq_none h]
def lightsAt (r : Room) (i k : Nat) : List Value := (List.range 48).map fun n => .int .i64 (if n / 6 < i ∨ n / 6 = i ∧ n % 6 < k then light r (n / 6) (n % 6) else 0)
def lights (r : Room) : List Value := (List.range 48).map fun n => .int .i64 (light r (n / 6) (n % 6))
theorem lightsAt_length {r : Room} {i k : Nat} : (lightsAt r i k).length = 48 := by simp [lightsAt]
theorem lights_length {r : Room} : (lights r).length = 48 := by simp [lights]
theorem lightsAt_zero {r : Room} : lightsAt r 0 0 = List.replicate 48 (.int .i64 0) := by
  unfold lightsAt
  apply List.ext_getElem
  · simp
  · intro n h1 h2
    rw [List.getElem_replicate]
    simp only [List.getElem_map]
    rw [if_neg (by omega)]
theorem lightsAt_row {r : Room} {i k : Nat} (h : r.seats.length ≤ k) : lightsAt r i k = lightsAt r (i + 1) 0 := by
  unfold lightsAt
  apply List.map_congr_left
  intro n _
  by_cases h1 : n / 6 < i
  · rw [if_pos (.inl h1), if_pos (.inl (by omega))]
  · by_cases h2 : n / 6 = i
    · rw [if_pos (show n / 6 < i + 1 ∨ n / 6 = i + 1 ∧ n % 6 < 0 from .inl (by omega))]
      by_cases h3 : n % 6 < k
      · rw [if_pos (.inr ⟨h2, h3⟩)]
      · rw [if_neg (by omega), light_out2 (by omega)]
    · rw [if_neg (by omega), if_neg (by omega)]
theorem lightsAt_all {r : Room} {i : Nat} (h : r.reqs.length ≤ i) : lightsAt r i 0 = lights r := by
  unfold lightsAt lights
  apply List.map_congr_left
  intro n _
  by_cases h1 : n / 6 < i
  · rw [if_pos (.inl h1)]
  · rw [if_neg (by omega), light_out1 (by omega)]
theorem lightsAt_set {r : Room} {i k : Nat} (_hi : i < 8) (hk : k < 6) : (lightsAt r i k).set (i * 6 + k) (.int .i64 (light r i k)) = lightsAt r i (k + 1) := by
  unfold lightsAt
  apply List.ext_getElem
  · simp
  · intro n h1 h2
    rw [List.getElem_set]
    simp only [List.getElem_map, List.getElem_range]
    by_cases hn : i * 6 + k = n
    · subst hn
      rw [if_pos rfl]
      have e1 : (i * 6 + k) / 6 = i := by omega
      have e2 : (i * 6 + k) % 6 = k := by omega
      rw [e1, e2, if_pos (.inr ⟨rfl, by omega⟩)]
    · rw [if_neg hn]
      congr 1
      by_cases h3 : n / 6 < i ∨ n / 6 = i ∧ n % 6 < k
      · rw [if_pos h3, if_pos (by omega)]
      · rw [if_neg h3, if_neg (by omega)]
theorem lights_get {r : Room} {i s : Nat} (hi : i < 8) (hs : s < 6) : (lights r)[i * 6 + s]? = some (.int .i64 (light r i s)) := by
  unfold lights
  rw [List.getElem?_map, List.getElem?_range (by omega)]
  have e1 : (i * 6 + s) / 6 = i := by omega
  have e2 : (i * 6 + s) % 6 = s := by omega
  simp [e1, e2]
def roomCells (vb vr vs vq : Value) (ls : List Value) (vl : Value) : List Value := vb :: vr :: vs :: vq :: (ls ++ [vl])
theorem roomCells_length {vb vr vs vq vl : Value} {ls : List Value} (h : ls.length = 48) : (roomCells vb vr vs vq ls vl).length = 53 := by simp [roomCells, h]
theorem roomCells_set {vb vr vs vq vl : Value} {r : Room} {i k : Nat} (hi : i < 8) (hk : k < 6) : (roomCells vb vr vs vq (lightsAt r i k) vl).set (0 + 4 + i * 6 + k * 1) (.int .i64 (light r i k)) = roomCells vb vr vs vq (lightsAt r i (k + 1)) vl := by
  have : 0 + 4 + i * 6 + k * 1 = (i * 6 + k) + 1 + 1 + 1 + 1 := by omega
  unfold roomCells
  rw [this]
  simp only [List.set_cons_succ]
  rw [List.set_append_left (i * 6 + k) _ (by rw [lightsAt_length]; omega), lightsAt_set hi hk]
theorem roomCells_end {vb vr vs vq vl u : Value} {r : Room} : (roomCells vb vr vs vq (lights r) vl).set (0 + 52) u = roomCells vb vr vs vq (lights r) u := by
  unfold roomCells
  rw [show 0 + 52 = 48 + 1 + 1 + 1 + 1 from rfl]
  simp only [List.set_cons_succ]
  rw [List.set_append_right _ _ (by rw [lights_length]; omega), lights_length]
  rfl
/-- A rule: why, and the function that tells whether it is so. -/
def ruleE (p : Int × Value) : List Value := [.int .i64 p.1, p.2]
theorem ruleE_one {p : Int × Value} (h : p.2.oneCell' = true) : ∀ u ∈ ruleE p, u.oneCell' = true := by
  intro u hu
  simp only [ruleE, List.mem_cons, List.not_mem_nil, or_false] at hu
  rcases hu with rfl | rfl
  · rfl
  · exact h
abbrev ptr (b : Nat) : Value := .pointer (some ⟨b, 0, none⟩)
/-- The types and functions that a room that is looked at names, by their numbers in the program. -/
structure Num where
  room : Nat
  rdroom : Nat
  rule : Nat
  fbook : Nat
  proom : Nat
  l1 : Nat
  l2 : Nat
  l3 : Nat
  l4 : Nat
def bookFn (N : Num) (c1 : Nat) : Value := .func (.func N.l1) #[] #[ptr c1]
def ruleFns (N : Num) (c1 c8 c3 : Nat) : List (Int × Value) := [(1, .func (.func N.l2) #[] #[ptr c8, ptr c1]), (2, .func (.func N.l3) #[] #[ptr c8, ptr c1]), (3, .func (.func N.l4) #[] #[ptr c3, ptr c8])]
structure RoomX (N : Num) (F : Heap) (b c1 c8 c3 : Nat) (vb vr vs vq vl : Value) (r : Room) : Prop where
  room : RoomR F vb vr vs vq r
  blk : F b = some (bx N.room (roomCells vb vr vs vq (lights r) vl))
  box : F c1 = some (bx N.rdroom [vb, vr, vs, vq])
  bk : F c8 = some (bx N.fbook [bookFn N c1])
  me : F c3 = some (bx N.proom [ptr b])
  rules : Sl F vl 2 ruleE (ruleFns N c1 c8 c3)
theorem RoomX.mono {N : Num} {F F' : Heap} {b c1 c8 c3 : Nat} {vb vr vs vq vl : Value} {r : Room} (h : RoomX N F b c1 c8 c3 vb vr vs vq vl r) (hF : F.le F') : RoomX N F' b c1 c8 c3 vb vr vs vq vl r :=
  ⟨h.room.mono hF, hF _ _ h.blk, hF _ _ h.box, hF _ _ h.bk, hF _ _ h.me, h.rules.mono hF⟩
theorem RoomX.rule_cell {N : Num} {F : Heap} {b c1 c8 c3 : Nat} {vb vr vs vq vl : Value} {r : Room} (h : RoomX N F b c1 c8 c3 vb vr vs vq vl r) : CellF F ⟨b, 52, none⟩ vl :=
  CellF.own h.blk (by
    unfold roomCells
    simp only [List.getElem?_cons_succ]
    rw [List.getElem?_append_right (by rw [lights_length]; omega), lights_length]; rfl)
theorem RoomX.light_cell {N : Num} {F : Heap} {b c1 c8 c3 : Nat} {vb vr vs vq vl : Value} {r : Room} (h : RoomX N F b c1 c8 c3 vb vr vs vq vl r) {i s : Nat} (hi : i < 8) (hs : s < 6) : CellF F ⟨b, 0 + 4 + i * 6 + s * 1, none⟩ (.int .i64 (light r i s)) :=
  CellF.own h.blk (by
    have : 0 + 4 + i * 6 + s * 1 = (i * 6 + s) + 1 + 1 + 1 + 1 := by omega
    rw [this]
    unfold roomCells
    simp only [List.getElem?_cons_succ]
    rw [List.getElem?_append_left (by rw [lights_length]; omega)]
    exact lights_get hi hs)
def Looked (N : Num) (F : Heap) (p : Value) (r : Room) : Prop := ∃ b c1 c8 c3 vb vr vs vq vl, p = ptr b ∧ RoomX N F b c1 c8 c3 vb vr vs vq vl r
theorem Looked.mono {N : Num} {F F' : Heap} {p : Value} {r : Room} (h : Looked N F p r) (hF : F.le F') : Looked N F' p r := by
  obtain ⟨b, c1, c8, c3, vb, vr, vs, vq, vl, hp, hX⟩ := h
  exact ⟨b, c1, c8, c3, vb, vr, vs, vq, vl, hp, hX.mono hF⟩
theorem rules_box {N : Num} {F : Heap} {b T c1 c8 c3 : Nat} (h : F b = some (bx T [.int .i64 1, .func (.func N.l2) #[] #[ptr c8, ptr c1], .int .i64 2, .func (.func N.l3) #[] #[ptr c8, ptr c1], .int .i64 3, .func (.func N.l4) #[] #[ptr c3, ptr c8]])) :
    Sl F (.slice (some ⟨b, 0, none⟩) 3 3) 2 ruleE (ruleFns N c1 c8 c3) :=
  Sl.box h rfl (by omega) (by omega) fun i hi j u hu => by
    match i, hi, j, hu with
    | 0, _, 0, hu => exact hu
    | 0, _, 1, hu => exact hu
    | 1, _, 0, hu => exact hu
    | 1, _, 1, hu => exact hu
    | 2, _, 0, hu => exact hu
    | 2, _, 1, hu => exact hu
    | 0, _, j + 2, hu => simp [ruleE] at hu
    | 1, _, j + 2, hu => simp [ruleE] at hu
    | 2, _, j + 2, hu => simp [ruleE] at hu
end Go.Proofs.Ytbcjfkcpfjccdaa
namespace Go.Proofs.Ytbcjfkcpfjccdaa
open Go.RowKit
theorem natE_one : ∀ (x : Nat), ∀ u ∈ natE x, u.oneCell' = true := by simp [natE, Value.oneCell']
structure GivenC (G : Heap) (o : Option (List Nat × Int)) (is : Bool) (vs : Value) (n : Int) : Prop where
  is_ : is = o.isSome
  no : o = none → vs = .slice none 0 0 ∧ n = 0
  so : ∀ l m, o = some (l, m) → n = m ∧ Nats G vs l
theorem GivenC.mono {G G' : Heap} {o : Option (List Nat × Int)} {is : Bool} {vs : Value} {n : Int} (h : GivenC G o is vs n) (hG : G.le G') : GivenC G' o is vs n :=
  ⟨h.is_, h.no, fun l m e => ⟨(h.so l m e).1, (h.so l m e).2.mono hG⟩⟩
theorem GivenC.one {G : Heap} {o : Option (List Nat × Int)} {is : Bool} {vs : Value} {n : Int} (h : GivenC G o is vs n) : vs.oneCell' = true := by
  cases o with
  | none => obtain ⟨rfl, -⟩ := h.no rfl; rfl
  | some p => exact (h.so p.1 p.2 rfl).2.plain.one
theorem GivenC.ones {G : Heap} {o : Option (List Nat × Int)} {is : Bool} {vs : Value} {n : Int} (h : GivenC G o is vs n) : ∀ u ∈ [Value.bool is, vs, .int .i64 n], u.oneCell' = true := by
  intro u hu
  simp only [List.mem_cons, List.not_mem_nil, or_false] at hu
  rcases hu with rfl | rfl | rfl
  · rfl
  · exact h.one
  · rfl
theorem GivenC.none {G : Heap} : GivenC G none false (.slice none 0 0) 0 := ⟨rfl, fun _ => ⟨rfl, rfl⟩, (fun _ _ h => nomatch h)⟩
theorem GivenC.some {G : Heap} {l : List Nat} {vs : Value} {n : Int} (h : Nats G vs l) : GivenC G (some (l, n)) true vs n := ⟨rfl, (fun h => nomatch h), fun l' m e => by cases e; exact ⟨rfl, h⟩⟩
end Go.Proofs.Ytbcjfkcpfjccdaa
namespace Go.Proofs.Ytbcjfkcpfjccdaa
open Go.RowKit
structure BestC (F : Heap) (best : Option (List Nat × Int)) (vb : Value) (L : Int) : Prop where
  no : best = none → L = -1 ∧ vb = .slice none 0 0
  so : ∀ l m, best = some (l, m) → L = m ∧ Nats F vb l ∧ 0 ≤ m
theorem BestC.mono {F F' : Heap} {best : Option (List Nat × Int)} {vb : Value} {L : Int} (h : BestC F best vb L) (hF : F.le F') : BestC F' best vb L :=
  ⟨h.no, fun l m e => ⟨(h.so l m e).1, (h.so l m e).2.1.mono hF, (h.so l m e).2.2⟩⟩
theorem BestC.cut {F : Heap} {best : Option (List Nat × Int)} {vb : Value} {L sum : Int} (h : BestC F best vb L) : cutoff best sum = true ↔ 0 ≤ L ∧ L ≤ sum := by
  unfold cutoff
  cases best with
  | none => obtain ⟨rfl, -⟩ := h.no rfl; simp
  | some p => obtain ⟨l, m⟩ := p; obtain ⟨rfl, -, h0⟩ := h.so l m rfl; simp [h0]
theorem BestC.one {F : Heap} {best : Option (List Nat × Int)} {vb : Value} {L : Int} (h : BestC F best vb L) : vb.oneCell' = true := by
  cases best with
  | none => obtain ⟨-, rfl⟩ := h.no rfl; rfl
  | some p => exact (h.so p.1 p.2 rfl).2.1.plain.one
structure NextX (N : Num) (TS TN fn : Nat) (F : Heap) (b c1 c8 c3 : Nat) (vb vr vs vq vl : Value) (r : Room) (v : Value) (l : List Nat) (bl bb bo co d2 d3 d7 n : Nat) : Prop where
  room : RoomX N F b c1 c8 c3 vb vr vs vq vl r
  idx : Nats F v l
  own : F co = some (bx TS [.slice (some ⟨bo, 0, none⟩) n n])
  rm : F d2 = some (bx N.proom [ptr b])
  rq : F d3 = some (bx TS [v])
  nx : F d7 = some (bx TN [.func (.func fn) #[] #[ptr bl, ptr co, ptr bb, ptr d2, ptr d3, ptr d7]])
  len : l.length = n
theorem NextX.mono {N : Num} {TS TN fn : Nat} {F F' : Heap} {b c1 c8 c3 : Nat} {vb vr vs vq vl : Value} {r : Room} {v : Value} {l : List Nat} {bl bb bo co d2 d3 d7 n : Nat} (h : NextX N TS TN fn F b c1 c8 c3 vb vr vs vq vl r v l bl bb bo co d2 d3 d7 n) (hF : F.le F') : NextX N TS TN fn F' b c1 c8 c3 vb vr vs vq vl r v l bl bb bo co d2 d3 d7 n :=
  ⟨h.room.mono hF, h.idx.mono hF, hF _ _ h.own, hF _ _ h.rm, hF _ _ h.rq, hF _ _ h.nx, h.len⟩
theorem shr_nat {m k : Nat} : (m : Int) / 2 ^ k = ((m / 2 ^ k : Nat) : Int) := by simp
theorem bit_eq {m k : Nat} : decide ((((m / 2 ^ k) &&& 1 : Nat) : Int) = 1) = m.testBit k := by
  rw [Nat.testBit_eq_decide_div_mod_eq, Nat.and_one_is_mod]
  congr 1
  rw [eq_iff_iff]
  omega
theorem mask_or {mask k : Nat} {pre : List Nat} (h : ∀ s, mask.testBit s = decide (s ∈ pre)) : ∀ s, (mask ||| 2 ^ k).testBit s = decide (s ∈ pre ++ [k]) := fun s => by
  rw [Nat.testBit_or, Nat.testBit_two_pow, h]
  by_cases hk : k = s
  · subst hk; simp
  · have : ¬ s = k := fun e => hk e.symm
    simp [hk, this]
theorem mask_lt {mask k : Nat} (h : mask < 64) (hk : k < 6) : mask ||| 2 ^ k < 64 := by
  have h1 : (2 : Nat) ^ k < 2 ^ 6 := Nat.pow_lt_pow_right (by omega) hk
  exact Nat.or_lt_two_pow (n := 6) h h1
theorem pow_lt {k : Nat} (hk : k < 6) : (2 : Nat) ^ k < 64 := Nat.pow_lt_pow_right (n := 6) (by omega) hk
theorem take_set {own : List Value} {i k : Nat} {pre : List Nat} (hi : i < own.length) (hp : pre.length = i) (h : own.take i = pre.flatMap natE) : (own.set i (.int .i64 k)).take (i + 1) = (pre ++ [k]).flatMap natE := by
  rw [List.take_succ_eq_append_getElem (by simpa using hi), List.take_set_of_le (Nat.le_refl _), h]
  simp [natE]
theorem natsE_length : ∀ {l : List Nat}, (l.flatMap natE).length = l.length := by
  intro l
  induction l with
  | nil => rfl
  | cons a l ih => simp [List.flatMap_cons, natE] at ih ⊢; omega
theorem take_pre {own : List Value} {i k : Nat} {pre : List Nat} (hp : pre.length = i) (h : own.take (i + 1) = (pre ++ [k]).flatMap natE) : own.take i = pre.flatMap natE := by
  have h2 := congrArg (List.take i) h
  rw [List.take_take, Nat.min_eq_left (by omega), List.flatMap_append] at h2
  rw [h2, List.take_append_of_le_length (by rw [natsE_length]; omega), List.take_of_length_le (by rw [natsE_length]; omega)]
theorem nats_box {F : Heap} {b T n : Nat} {l : List Nat} (h : F b = some (bx T (l.flatMap natE))) (hn : l.length = n) (hl : n < 281474976710656) : Nats F (.slice (some ⟨b, 0, none⟩) n n) l := by
  subst hn
  have hlen := natsE_length (l := l)
  refine Own.sl (E := T) (R := [(b, bx T (l.flatMap natE))]) ?_ (fun _ => rfl) (fun p hp => by simp at hp; subst hp; exact h) hl
  exact own_box (by rw [hlen]; omega)
theorem natsE_one {l : List Nat} : ∀ u ∈ l.flatMap natE, u.oneCell' = true := fun u hu => by
  obtain ⟨x, -, hx⟩ := List.mem_flatMap.1 hu
  exact natE_one x u hx
theorem plain_row {b n c : Nat} (h : n ≤ c) (hn : n < 281474976710656) : Plain (.slice (some ⟨b, 0, none⟩) n c) n := ⟨_, _, rfl, fun _ x hx => by cases hx; rfl, by simp, h, hn⟩
theorem search_cut {r : Room} {rem pre : List Nat} {sum : Int} {best : Option (List Nat × Int)} (h : cutoff best sum = true) : search r rem pre sum best = best := by
  cases rem <;> (unfold search; rw [if_pos h])
theorem search_nil {r : Room} {pre : List Nat} {sum : Int} {best : Option (List Nat × Int)} (h : ¬ cutoff best sum = true) : search r [] pre sum best = some (pre, sum) := by
  unfold search; rw [if_neg h]
theorem search_cons {r : Room} {q : Nat} {rest pre : List Nat} {sum : Int} {best : Option (List Nat × Int)} (h : ¬ cutoff best sum = true) : search r (q :: rest) pre sum best = (List.range r.seats.length).foldl (tryS r q pre sum (search r rest)) best := by
  conv => lhs; unfold search
  rw [if_neg h]
theorem tryS_skip {r : Room} {q s : Nat} {pre : List Nat} {sum : Int} {sub : List Nat → Int → Option (List Nat × Int) → Option (List Nat × Int)} {best : Option (List Nat × Int)} (h : s ∈ pre ∨ reason r q s ≠ 0) : tryS r q pre sum sub best s = best := if_pos h
theorem tryS_do {r : Room} {q s : Nat} {pre : List Nat} {sum : Int} {sub : List Nat → Int → Option (List Nat × Int) → Option (List Nat × Int)} {best : Option (List Nat × Int)} (h1 : s ∉ pre) (h2 : ¬ reason r q s ≠ 0) : tryS r q pre sum sub best s = sub (pre ++ [s]) (sum + light r q s) best := if_neg fun h => h.elim h1 h2
theorem BestC.mk' {F : Heap} {l : List Nat} {ub : Value} {L : Int} (h : Nats F ub l) (h0 : 0 ≤ L) : BestC F (some (l, L)) ub L := ⟨(fun h => nomatch h), fun l' m e => by cases e; exact ⟨rfl, h, h0⟩⟩
end Go.Proofs.Ytbcjfkcpfjccdaa
namespace Go.Proofs.Ytbcjfkcpfjccdaa
open Go.RowKit
theorem BestC.is {F : Heap} {best : Option (List Nat × Int)} {vb : Value} {L : Int} (h : BestC F best vb L) : decide (0 ≤ L) = best.isSome := by
  cases best with
  | none => obtain ⟨rfl, -⟩ := h.no rfl; rfl
  | some p => obtain ⟨rfl, -, h0⟩ := h.so p.1 p.2 rfl; simpa using h0
theorem asc_len : ∀ (l : List Nat) (a n : Nat), l.Pairwise (· < ·) → (∀ i ∈ l, a ≤ i ∧ i < n) → a ≤ n → l.length + a ≤ n
  | [], a, n, _, _, h => by simpa using h
  | x :: l, a, n, hp, hl, h => by
    have hx := hl x (by simp)
    rw [List.pairwise_cons] at hp
    have := asc_len l (x + 1) n hp.2 (fun i hi => ⟨hp.1 i hi, (hl i (List.mem_cons_of_mem _ hi)).2⟩) (by omega)
    simp only [List.length_cons]
    omega
theorem asc_length {r : Room} (hv : Valid r) {l : List Nat} (hl : ∀ i ∈ l, i < r.reqs.length) (hp : l.Pairwise (· < ·)) : l.length ≤ 8 := by
  have := asc_len l 0 r.reqs.length hp (fun i hi => ⟨by omega, hl i hi⟩) (by omega)
  have := hv.nq
  omega
theorem idx_map {l : List Nat} : (l.map fun (n : Nat) => (n : Int)).map Int.toNat = l := by
  rw [List.map_map, show (Int.toNat ∘ fun (n : Nat) => (n : Int)) = id from rfl, List.map_id]
def canV (r : Room) (xs : List Int) : Value := if someErr r xs = 0 then .tuple #[.bool (allR r (xs.map Int.toNat)).isSome, .int .i64 0] else .tuple #[.bool false, .int .i64 (someErr r xs)]
theorem canV_bad {r : Room} {xs : List Int} (h : ¬ someErr r xs = 0) : canV r xs = .tuple #[.bool false, .int .i64 (someErr r xs)] := if_neg h
theorem canV_ok {r : Room} {l : List Nat} (h : someErr r (l.map fun (n : Nat) => (n : Int)) = 0) : canV r (l.map fun (n : Nat) => (n : Int)) = .tuple #[.bool (allR r l).isSome, .int .i64 0] := by
  unfold canV; rw [if_pos h, idx_map]
def seatsE (r : Room) (xs : List Int) : List Nat × Int × Int := if someErr r xs = 0 then (match allR r (xs.map Int.toNat) with | none => ([], 0, 9) | some (l, n) => (l, n, 0)) else ([], 0, someErr r xs)
theorem seatsE_bad {r : Room} {xs : List Int} (h : ¬ someErr r xs = 0) : seatsE r xs = ([], 0, someErr r xs) := if_neg h
theorem seatsE_none {r : Room} {l : List Nat} (h : someErr r (l.map fun (n : Nat) => (n : Int)) = 0) (ha : allR r l = none) : seatsE r (l.map fun (n : Nat) => (n : Int)) = ([], 0, 9) := by
  unfold seatsE; rw [if_pos h, idx_map, ha]
theorem seatsE_some {r : Room} {l s : List Nat} {n : Int} (h : someErr r (l.map fun (n : Nat) => (n : Int)) = 0) (ha : allR r l = some (s, n)) : seatsE r (l.map fun (n : Nat) => (n : Int)) = (s, n, 0) := by
  unfold seatsE; rw [if_pos h, idx_map, ha]
end Go.Proofs.Ytbcjfkcpfjccdaa
namespace Go.Proofs.Ytbcjfkcpfjccdaa
open Go.RowKit
/-- The error of requests at seats. -/
def badSeat (r : Room) (l : List Nat) (ss : List Int) (i : Nat) : Bool := decide (reason r (l[i]?.getD 0) (ss[i]?.getD 0).toNat ≠ 0)
def sitsE (r : Room) (l : List Nat) (ss : List Int) : Int :=
  if ss.length ≠ l.length then 3
  else if (ss.any fun z => !(inB 0 (r.seats.length - 1) z)) = true then 4
  else if ¬ ss.Nodup then 5
  else if ¬ Apart r l then 9
  else if (List.range ss.length).any (badSeat r l ss) = true then 9 else 0
theorem sits_len {r : Room} {l : List Nat} {ss : List Int} (h : ss.length ≠ l.length) : sitsE r l ss = 3 := if_pos h
theorem sits_rng {r : Room} {l : List Nat} {ss : List Int} (h1 : ss.length = l.length) (h : (ss.any fun z => !(inB 0 (r.seats.length - 1) z)) = true) : sitsE r l ss = 4 := by
  unfold sitsE; rw [if_neg (by simpa using h1), if_pos h]
theorem sits_twice {r : Room} {l : List Nat} {ss : List Int} (h1 : ss.length = l.length) (h2 : (ss.any fun z => !(inB 0 (r.seats.length - 1) z)) = false) (h : ¬ ss.Nodup) : sitsE r l ss = 5 := by
  unfold sitsE; rw [if_neg (by simpa using h1), if_neg (by rw [h2]; simp), if_pos h]
theorem sits_apart {r : Room} {l : List Nat} {ss : List Int} (h1 : ss.length = l.length) (h2 : (ss.any fun z => !(inB 0 (r.seats.length - 1) z)) = false) (h3 : ss.Nodup) (h : ¬ Apart r l) : sitsE r l ss = 9 := by
  unfold sitsE; rw [if_neg (by simpa using h1), if_neg (by rw [h2]; simp), if_neg (by simpa using h3), if_pos h]
theorem sits_bad {r : Room} {l : List Nat} {ss : List Int} {i : Nat} (h1 : ss.length = l.length) (h2 : (ss.any fun z => !(inB 0 (r.seats.length - 1) z)) = false) (h3 : ss.Nodup) (h4 : Apart r l) (hi : i < ss.length) (h : badSeat r l ss i = true) : sitsE r l ss = 9 := by
  unfold sitsE; rw [if_neg (by simpa using h1), if_neg (by rw [h2]; simp), if_neg (by simpa using h3), if_neg (by simpa using h4), if_pos (List.any_eq_true.2 ⟨i, by simpa using hi, h⟩)]
theorem sits_ok {r : Room} {l : List Nat} {ss : List Int} (h1 : ss.length = l.length) (h2 : (ss.any fun z => !(inB 0 (r.seats.length - 1) z)) = false) (h3 : ss.Nodup) (h4 : Apart r l) (h : ∀ i, i < ss.length → badSeat r l ss i = false) : sitsE r l ss = 0 := by
  unfold sitsE; rw [if_neg (by simpa using h1), if_neg (by rw [h2]; simp), if_neg (by simpa using h3), if_neg (by simpa using h4), if_neg]
  rw [Bool.not_eq_true, List.any_eq_false]
  intro i hi
  simp [h i (by simpa using hi)]
theorem badSeat_at {r : Room} {l : List Nat} {ss : List Int} {i s : Nat} (hi : i < l.length) (hs : i < ss.length) (he : ss[i] = (s : Int)) : badSeat r l ss i = decide (reason r l[i] s ≠ 0) := by
  unfold badSeat
  rw [List.getElem?_eq_getElem hi, List.getElem?_eq_getElem hs, Option.getD_some, Option.getD_some, he]
  simp
theorem in_of_any {xs : List Int} {lo hi : Int} (h : (xs.any fun z => !(inB lo hi z)) = false) {k : Nat} (hk : k < xs.length) : inB lo hi xs[k] = true := by
  rw [List.any_eq_false] at h
  simpa using h _ (List.getElem_mem hk)
theorem nodup_take {α : Type} {xs : List α} (h : ∀ k (hk : k < xs.length), xs[k] ∉ xs.take k) : xs.Nodup := by
  rw [List.nodup_iff_pairwise_ne, List.pairwise_iff_getElem]
  intro i j hi hj hij he
  exact h j hj (by rw [← he]; exact List.mem_take_iff_getElem.2 ⟨i, by omega, rfl⟩)
theorem twice_take {α : Type} {xs : List α} {k : Nat} (hk : k < xs.length) (h : xs[k] ∈ xs.take k) : ¬ xs.Nodup := fun hn => by
  rw [List.nodup_iff_pairwise_ne, List.pairwise_iff_getElem] at hn
  obtain ⟨i, hi, he⟩ := List.mem_take_iff_getElem.1 h
  exact hn i k (by omega) hk (by omega) he
end Go.Proofs.Ytbcjfkcpfjccdaa
namespace Go.Proofs.Ytbcjfkcpfjccdaa
open Go.RowKit
def cmpZ (a b : Int) : Int := if a < b then -1 else if b < a then 1 else 0
/-- Lists in their order: as words in a dictionary. -/
def cmpL : List Nat → List Nat → Int
  | [], [] => 0
  | [], _ :: _ => -1
  | _ :: _, [] => 1
  | a :: as1, b :: bs => if a < b then -1 else if b < a then 1 else cmpL as1 bs
theorem cmpL_same {a : Nat} {as1 bs : List Nat} : cmpL (a :: as1) (a :: bs) = cmpL as1 bs := by
  simp [cmpL]
theorem cmpL_drop : ∀ (k : Nat) {xs ys : List Nat}, k ≤ xs.length → k ≤ ys.length → xs.take k = ys.take k → cmpL xs ys = cmpL (xs.drop k) (ys.drop k)
  | 0, _, _, _, _, _ => rfl
  | k + 1, [], _, h, _, _ => by simp at h
  | k + 1, _ :: _, [], _, h, _ => by simp at h
  | k + 1, x :: xs, y :: ys, h1, h2, h => by
    simp only [List.take_succ_cons, List.cons.injEq] at h
    obtain ⟨rfl, h⟩ := h
    rw [cmpL_same, cmpL_drop k (by simpa using h1) (by simpa using h2) h]
    rfl
theorem cmpL_end1 {k : Nat} {xs ys : List Nat} (h1 : k < xs.length) (h2 : ys.length = k) (h : xs.take k = ys.take k) : cmpL xs ys = 1 := by
  rw [cmpL_drop k (by omega) (by omega) h, List.drop_eq_getElem_cons h1, show ys.drop k = [] from List.drop_of_length_le (by omega)]
  rfl
theorem cmpL_end0 {xs ys : List Nat} (h1 : xs.length ≤ ys.length) (h : xs.take xs.length = ys.take xs.length) : cmpL xs ys = if xs.length < ys.length then -1 else 0 := by
  rw [cmpL_drop xs.length (by omega) h1 h, List.drop_of_length_le (Nat.le_refl _)]
  by_cases h2 : xs.length < ys.length
  · rw [if_pos h2, List.drop_eq_getElem_cons h2]; rfl
  · rw [if_neg h2, List.drop_of_length_le (by omega)]; rfl
theorem cmpL_at {k : Nat} {xs ys : List Nat} (h1 : k < xs.length) (h2 : k < ys.length) (h : xs.take k = ys.take k) (hne : cmpZ xs[k] ys[k] ≠ 0) : cmpL xs ys = cmpZ xs[k] ys[k] := by
  rw [cmpL_drop k (by omega) (by omega) h, List.drop_eq_getElem_cons h1, List.drop_eq_getElem_cons h2]
  show (if xs[k] < ys[k] then (-1 : Int) else if ys[k] < xs[k] then 1 else _) = _
  unfold cmpZ at hne ⊢
  by_cases ha : xs[k] < ys[k]
  · rw [if_pos ha, if_pos (by omega)]
  · rw [if_neg ha]
    rw [if_neg (show ¬ (xs[k] : Int) < ys[k] by omega)] at hne ⊢
    by_cases hb : ys[k] < xs[k]
    · rw [if_pos hb, if_pos (by omega)]
    · rw [if_neg (show ¬ (ys[k] : Int) < xs[k] by omega)] at hne; exact absurd rfl hne
theorem cmpZ_zero {a b : Int} (h : cmpZ a b = 0) : a = b := by
  unfold cmpZ at h
  split at h
  · cases h
  · split at h
    · cases h
    · omega
theorem take_succ_eq {α : Type} {k : Nat} {xs ys : List α} (h1 : k < xs.length) (h2 : k < ys.length) (h : xs.take k = ys.take k) (he : xs[k] = ys[k]) : xs.take (k + 1) = ys.take (k + 1) := by
  rw [List.take_succ_eq_append_getElem h1, List.take_succ_eq_append_getElem h2, h, he]
theorem eq_of_take {α : Type} {xs ys : List α} (hl : xs.length = ys.length) (h : xs.take xs.length = ys.take xs.length) : xs = ys := by
  rw [List.take_length] at h
  rw [h, hl, List.take_length]
theorem ne_at {α : Type} {k : Nat} {xs ys : List α} (h1 : k < xs.length) (h2 : k < ys.length) (he : xs[k] ≠ ys[k]) : xs ≠ ys := by
  rintro rfl; exact he rfl
/-- What requests are worth. -/
def worthL (r : Room) (l : List Nat) : Int := (l.map fun i => (r.req i).worth).sum
theorem worthL_take {r : Room} {l : List Nat} {k : Nat} (hk : k < l.length) : worthL r (l.take (k + 1)) = worthL r (l.take k) + (r.req l[k]).worth := by
  unfold worthL
  rw [List.take_succ_eq_append_getElem hk, List.map_append, List.sum_append]
  simp
theorem worth_bound {r : Room} (hv : Valid r) {i : Nat} (hi : i < r.reqs.length) : 0 ≤ (r.req i).worth ∧ (r.req i).worth ≤ 100 := by
  have := hv.rq i hi
  omega
theorem worthL_bound {r : Room} (hv : Valid r) : ∀ {l : List Nat}, (∀ i ∈ l, i < r.reqs.length) → 0 ≤ worthL r l ∧ worthL r l ≤ 100 * l.length
  | [], _ => by simp [worthL]
  | i :: l, h => by
    have h1 := worth_bound hv (h i (by simp))
    have h2 := worthL_bound hv (l := l) (fun j hj => h j (List.mem_cons_of_mem _ hj))
    unfold worthL at h2 ⊢
    simp only [List.map_cons, List.sum_cons, List.length_cons]
    omega
/-- The numbers of a set that is told by bits. -/
def bitsL (set : Nat) : List Nat := (List.range 8).filter fun i => set.testBit i
def bitsTo (set k : Nat) : List Nat := (List.range k).filter fun i => set.testBit i
theorem bitsTo_succ {set k : Nat} : bitsTo set (k + 1) = if set.testBit k = true then bitsTo set k ++ [k] else bitsTo set k := by
  unfold bitsTo
  rw [List.range_succ, List.filter_append]
  by_cases h : set.testBit k = true
  · rw [if_pos h]; simp [h]
  · rw [if_neg h]; simp [h]
theorem bitsTo_length {set k : Nat} : (bitsTo set k).length ≤ k := by
  unfold bitsTo
  have := List.length_filter_le (fun i => set.testBit i) (List.range k)
  simpa using this
theorem bitsTo_all {set k : Nat} (hk : k ≤ 8) (h : set < 2 ^ k) : bitsTo set k = bitsL set := by
  have key : ∀ j, k ≤ j → bitsTo set j = bitsTo set k := by
    intro j hj
    induction j with
    | zero => have : k = 0 := by omega
              rw [this]
    | succ j ih =>
      by_cases hjk : k = j + 1
      · rw [hjk]
      · rw [bitsTo_succ, if_neg, ih (by omega)]
        have : set < 2 ^ j := Nat.lt_of_lt_of_le h (Nat.pow_le_pow_right (by omega) (by omega))
        simp [Nat.testBit_lt_two_pow this]
  exact (key 8 hk).symm
end Go.Proofs.Ytbcjfkcpfjccdaa
namespace Go.Proofs.Ytbcjfkcpfjccdaa
open Go.RowKit
def okSet (r : Room) (of : Int) (w set : Nat) : Bool := decide (butNot set of = 0) && decide (set &&& w = w) && (allR r (bitsL set)).isSome
def setsTo (r : Room) (of : Int) (w k : Nat) : List (List Nat) := ((List.range k).filter (okSet r of w)).map bitsL
def setsR (r : Room) (of : Int) (w : Nat) : List (List Nat) := setsTo r of w (2 ^ r.reqs.length)
theorem setsTo_succ {r : Room} {of : Int} {w k : Nat} : setsTo r of w (k + 1) = if okSet r of w k = true then setsTo r of w k ++ [bitsL k] else setsTo r of w k := by
  unfold setsTo
  rw [List.range_succ, List.filter_append]
  by_cases h : okSet r of w k = true
  · rw [if_pos h]; simp [h]
  · rw [if_neg h]; simp [h]
theorem sets_split {r : Room} {of : Int} {w k n : Nat} (hk : k < n) (h : okSet r of w k = true) : ∃ rest, setsTo r of w n = setsTo r of w k ++ bitsL k :: rest := by
  obtain ⟨d, rfl⟩ : ∃ d, n = (k + 1) + d := ⟨n - (k + 1), by omega⟩
  have h1 := setsTo_succ (r := r) (of := of) (w := w) (k := k)
  rw [if_pos h] at h1
  have h2 : setsTo r of w (k + 1 + d) = setsTo r of w (k + 1) ++ (((List.range d).map (k + 1 + ·)).filter (okSet r of w)).map bitsL := by
    unfold setsTo
    rw [List.range_add, List.filter_append, List.map_append]
  rw [h2, h1]
  exact ⟨(((List.range d).map (k + 1 + ·)).filter (okSet r of w)).map bitsL, by simp⟩
theorem bitsL_len {set : Nat} : (bitsL set).length ≤ 8 := by
  unfold bitsL
  have := List.length_filter_le (fun i => set.testBit i) (List.range 8)
  simpa using this
theorem mem_bitsL {set i : Nat} : i ∈ bitsL set ↔ i < 8 ∧ set.testBit i = true := by
  unfold bitsL; simp
theorem bitsL_lt {set n : Nat} (h : set < 2 ^ n) : ∀ i ∈ bitsL set, i < n := fun i hi => by
  obtain ⟨-, h2⟩ := mem_bitsL.1 hi
  rcases Nat.lt_or_ge i n with h3 | h3
  · exact h3
  · rw [Nat.testBit_lt_two_pow (Nat.lt_of_lt_of_le h (Nat.pow_le_pow_right (by omega) h3))] at h2; cases h2
theorem bitsL_asc {set : Nat} : (bitsL set).Pairwise (· < ·) := by
  unfold bitsL
  exact List.Pairwise.sublist List.filter_sublist (List.pairwise_lt_range)
theorem pow_le8 {n : Nat} (h : n ≤ 8) : 2 ^ n ≤ 256 := Nat.pow_le_pow_right (n := 2) (by omega) h
theorem mem_setsR {r : Room} {of : Int} {w : Nat} {l : List Nat} (h : l ∈ setsR r of w) : ∃ set, set < 2 ^ r.reqs.length ∧ l = bitsL set ∧ okSet r of w set = true := by
  unfold setsR setsTo at h
  obtain ⟨set, h1, rfl⟩ := List.mem_map.1 h
  obtain ⟨h1, h2⟩ := List.mem_filter.1 h1
  exact ⟨set, by simpa using h1, rfl, h2⟩
/-- The list with the greatest number, the first one of several. -/
def mostStep (num : List Nat → Int) (cmp : List Nat → List Nat → Int) (b : List Nat × Int) (l : List Nat) : List Nat × Int := if b.2 < num l ∨ (num l = b.2 ∧ cmp l b.1 < 0) then (l, num l) else b
def mostR (num : List Nat → Int) (cmp : List Nat → List Nat → Int) (xs : List (List Nat)) : List Nat × Int := xs.foldl (mostStep num cmp) ([], -1)
theorem mostR_snoc {num : List Nat → Int} {cmp : List Nat → List Nat → Int} {xs : List (List Nat)} {x : List Nat} : mostR num cmp (xs ++ [x]) = mostStep num cmp (mostR num cmp xs) x := by
  unfold mostR; rw [List.foldl_append]; rfl
theorem mostStep_yes {num : List Nat → Int} {cmp : List Nat → List Nat → Int} {b : List Nat × Int} {l : List Nat} (h : b.2 < num l ∨ (num l = b.2 ∧ cmp l b.1 < 0)) : mostStep num cmp b l = (l, num l) := if_pos h
theorem mostStep_no {num : List Nat → Int} {cmp : List Nat → List Nat → Int} {b : List Nat × Int} {l : List Nat} (h : ¬ (b.2 < num l ∨ (num l = b.2 ∧ cmp l b.1 < 0))) : mostStep num cmp b l = b := if_neg h
end Go.Proofs.Ytbcjfkcpfjccdaa
namespace Go.Proofs.Ytbcjfkcpfjccdaa
open Go.RowKit
def bestP (r : Room) : List Nat × Int := mostR (worthL r) cmpL (setsR r (-1) 0)
def bestE (r : Room) : List Nat × Int × Int := if (check r).2.2 = 0 then ((bestP r).1, (bestP r).2, 0) else ([], 0, (check r).2.2)
theorem bestE_ok {r : Room} (h : (check r).2.2 = 0) : bestE r = ((bestP r).1, (bestP r).2, 0) := if_pos h
theorem bestE_bad {r : Room} (h : ¬ (check r).2.2 = 0) : bestE r = ([], 0, (check r).2.2) := if_neg h
def turnStep (r : Room) (out : List Nat) (i : Nat) : List Nat := if (allR r (out ++ [i])).isSome = true then out ++ [i] else out
def turnTo (r : Room) (k : Nat) : List Nat := (List.range k).foldl (turnStep r) []
theorem turnTo_succ {r : Room} {k : Nat} : turnTo r (k + 1) = turnStep r (turnTo r k) k := fold_succ
theorem turnTo_yes {r : Room} {k : Nat} (h : (allR r (turnTo r k ++ [k])).isSome = true) : turnTo r (k + 1) = turnTo r k ++ [k] := by rw [turnTo_succ]; exact if_pos h
theorem turnTo_no {r : Room} {k : Nat} (h : ¬ (allR r (turnTo r k ++ [k])).isSome = true) : turnTo r (k + 1) = turnTo r k := by rw [turnTo_succ]; exact if_neg h
theorem turnTo_lt {r : Room} : ∀ k, ∀ i ∈ turnTo r k, i < k
  | 0, i, h => nomatch h
  | k + 1, i, h => by
    by_cases hk : (allR r (turnTo r k ++ [k])).isSome = true
    · rw [turnTo_yes hk] at h
      rcases List.mem_append.1 h with h | h
      · have := turnTo_lt k i h; omega
      · simp at h; omega
    · rw [turnTo_no hk] at h
      have := turnTo_lt k i h; omega
theorem turnTo_len {r : Room} : ∀ k, (turnTo r k).length ≤ k
  | 0 => Nat.le_refl _
  | k + 1 => by
    have := turnTo_len (r := r) k
    by_cases hk : (allR r (turnTo r k ++ [k])).isSome = true
    · rw [turnTo_yes hk]; simp; omega
    · rw [turnTo_no hk]; omega
def turnR (r : Room) : List Nat := turnTo r r.reqs.length
def turnE (r : Room) : List Nat × Int := if (check r).2.2 = 0 then (turnR r, 0) else ([], (check r).2.2)
theorem turnE_ok {r : Room} (h : (check r).2.2 = 0) : turnE r = (turnR r, 0) := if_pos h
theorem turnE_bad {r : Room} (h : ¬ (check r).2.2 = 0) : turnE r = ([], (check r).2.2) := if_neg h
end Go.Proofs.Ytbcjfkcpfjccdaa
namespace Go.Proofs.Ytbcjfkcpfjccdaa
open Go.RowKit
/-- What the first 'n' of some requests at seats use of the light of a book. -/
def useAt (r : Room) (l : List Nat) (ss : List Int) (b i : Nat) : Int := if r.book (l[i]?.getD 0) = b then light r (l[i]?.getD 0) (ss[i]?.getD 0).toNat else 0
def used (r : Room) (l : List Nat) (ss : List Int) (b : Nat) : Nat → Int
  | 0 => 0
  | n + 1 => used r l ss b n + useAt r l ss b n
theorem useAt_yes {r : Room} {l : List Nat} {ss : List Int} {b i s : Nat} (h1 : i < l.length) (h2 : i < ss.length) (hs : ss[i] = (s : Int)) (hb : r.book l[i] = b) : useAt r l ss b i = light r l[i] s := by
  unfold useAt
  rw [List.getElem?_eq_getElem h1, List.getElem?_eq_getElem h2]
  simp [hb, hs]
theorem useAt_no {r : Room} {l : List Nat} {ss : List Int} {b i : Nat} (h1 : i < l.length) (hb : ¬ r.book l[i] = b) : useAt r l ss b i = 0 := by
  unfold useAt
  rw [List.getElem?_eq_getElem h1]
  simp [hb]
theorem used_bound {r : Room} (hv : Valid r) {l : List Nat} {ss : List Int} {b : Nat} (hl : ∀ i ∈ l, i < r.reqs.length) (hs : (ss.any fun z => !(inB 0 (r.seats.length - 1) z)) = false) : ∀ n, n ≤ l.length → n ≤ ss.length → 0 ≤ used r l ss b n ∧ used r l ss b n ≤ 1200 * n
  | 0, _, _ => by simp [used]
  | n + 1, h1, h2 => by
    have ih := used_bound hv (b := b) hl hs n (by omega) (by omega)
    obtain ⟨s, hse, hsn⟩ := inB_nat (in_of_any hs (k := n) (by omega))
    have hlb := light_bound hv (hl _ (List.getElem_mem (show n < l.length by omega))) hsn
    unfold used
    by_cases hb : r.book (l[n]'(by omega)) = b
    · rw [useAt_yes (by omega) (by omega) hse hb]; omega
    · rw [useAt_no (by omega) hb]; omega
def leftAt (r : Room) (l : List Nat) (ss : List Int) (n b : Nat) : Int × Int := ((r.bk b).lo - used r l ss b n, (r.bk b).hi - used r l ss b n)
def leftL (r : Room) (l : List Nat) (ss : List Int) (n k : Nat) : List (Int × Int) := (List.range k).map (leftAt r l ss n)
theorem leftL_succ {r : Room} {l : List Nat} {ss : List Int} {n k : Nat} : leftL r l ss n (k + 1) = leftL r l ss n k ++ [leftAt r l ss n k] := by
  unfold leftL; rw [List.range_succ, List.map_append]; rfl
theorem leftL_length {r : Room} {l : List Nat} {ss : List Int} {n k : Nat} : (leftL r l ss n k).length = k := by simp [leftL]
theorem leftAt_zero {r : Room} {l : List Nat} {ss : List Int} {b : Nat} : leftAt r l ss 0 b = ((r.bk b).lo, (r.bk b).hi) := by simp [leftAt, used]
theorem leftL_set {r : Room} {l : List Nat} {ss : List Int} {n k : Nat} (h1 : n < l.length) : (leftL r l ss n k).set (r.book l[n]) (leftAt r l ss (n + 1) (r.book l[n])) = leftL r l ss (n + 1) k := by
  unfold leftL
  apply List.ext_getElem
  · simp
  · intro i h2 h3
    rw [List.getElem_set]
    simp only [List.getElem_map, List.getElem_range]
    by_cases hb : r.book l[n] = i
    · rw [if_pos hb, hb]
    · rw [if_neg hb]
      unfold leftAt
      rw [show used r l ss i (n + 1) = used r l ss i n + useAt r l ss i n from rfl, useAt_no h1 hb]
      simp
theorem leftL_get {r : Room} {l : List Nat} {ss : List Int} {n k b : Nat} (h : b < k) : (leftL r l ss n k)[b]'(by rw [leftL_length]; exact h) = leftAt r l ss n b := by
  simp [leftL]
def leftE (r : Room) (xs ss : List Int) : List (Int × Int) × Int :=
  if someErr r xs = 0 then (if sitsE r (xs.map Int.toNat) ss = 0 then (leftL r (xs.map Int.toNat) ss xs.length r.books.length, 0) else ([], sitsE r (xs.map Int.toNat) ss)) else ([], someErr r xs)
theorem leftE_bad {r : Room} {xs ss : List Int} (h : ¬ someErr r xs = 0) : leftE r xs ss = ([], someErr r xs) := if_neg h
theorem leftE_sit {r : Room} {l : List Nat} {ss : List Int} {e : Int} (h : someErr r (l.map fun (n : Nat) => (n : Int)) = 0) (hs : sitsE r l ss = e) (he : e ≠ 0) : leftE r (l.map fun (n : Nat) => (n : Int)) ss = ([], e) := by
  unfold leftE; rw [if_pos h, idx_map, hs, if_neg he]
theorem leftE_ok {r : Room} {l : List Nat} {ss : List Int} (h : someErr r (l.map fun (n : Nat) => (n : Int)) = 0) (hs : sitsE r l ss = 0) : leftE r (l.map fun (n : Nat) => (n : Int)) ss = (leftL r l ss l.length r.books.length, 0) := by
  unfold leftE; rw [if_pos h, idx_map, hs, if_pos rfl, List.length_map]
theorem leftAt_next {r : Room} {l : List Nat} {ss : List Int} {i s : Nat} (h1 : i < l.length) (h2 : i < ss.length) (hs : ss[i] = (s : Int)) :
    leftAt r l ss (i + 1) (r.book l[i]) = ((leftAt r l ss i (r.book l[i])).1 - light r l[i] s, (leftAt r l ss i (r.book l[i])).2 - light r l[i] s) := by
  unfold leftAt
  rw [show used r l ss (r.book l[i]) (i + 1) = used r l ss (r.book l[i]) i + useAt r l ss (r.book l[i]) i from rfl, useAt_yes h1 h2 hs rfl]
  ext <;> simp <;> omega
theorem leftAt_bound {r : Room} (hv : Valid r) {l : List Nat} {ss : List Int} {b : Nat} (hl : ∀ i ∈ l, i < r.reqs.length) (hs : (ss.any fun z => !(inB 0 (r.seats.length - 1) z)) = false) {n : Nat} (h1 : n ≤ l.length) (h2 : n ≤ ss.length) (h8 : l.length ≤ 8) (hb : b < r.books.length) :
    -20000 ≤ (leftAt r l ss n b).1 ∧ (leftAt r l ss n b).1 ≤ 1000 ∧ -20000 ≤ (leftAt r l ss n b).2 ∧ (leftAt r l ss n b).2 ≤ 1000 := by
  have hu := used_bound hv (b := b) hl hs n h1 h2
  have hb := hv.bo b hb
  unfold leftAt
  simp only
  omega
def spanE (p : Int × Int) : List Value := [.int .i64 p.1, .int .i64 p.2]
theorem flat_set2 {a c : Int} : ∀ {xs : List (Int × Int)} {b : Nat}, b < xs.length → (((xs.flatMap spanE).set (b * 2 + 0) (.int .i64 a)).set (b * 2 + 1) (.int .i64 c)) = (xs.set b (a, c)).flatMap spanE := by
  intro xs
  induction xs with
  | nil => intro b h; simp at h
  | cons x xs ih =>
    intro b h
    cases b with
    | zero => simp [spanE]
    | succ b =>
      have := ih (b := b) (by simpa using h)
      simp only [List.flatMap_cons, List.set_cons_succ]
      rw [← this, show (b + 1) * 2 + 0 = (b * 2 + 0) + 1 + 1 by omega, show (b + 1) * 2 + 1 = (b * 2 + 1) + 1 + 1 by omega]
      simp [spanE]
theorem flat_left {r : Room} {l : List Nat} {ss : List Int} {n k b j : Nat} {u : Value} (h : b < k) (hu : (spanE (leftAt r l ss n b))[j]? = some u) : ((leftL r l ss n k).flatMap spanE)[b * 2 + j]? = some u :=
  flat_at (enc := spanE) (s := 2) (fun _ => rfl) (leftL r l ss n k) b (by rw [leftL_length]; exact h) (by rw [leftL_get h]; exact hu)
theorem flat_left_len {r : Room} {l : List Nat} {ss : List Int} {n k : Nat} : ((leftL r l ss n k).flatMap spanE).length = k * 2 := by
  rw [flat_len (enc := spanE) (s := 2) (fun _ => rfl), leftL_length]
theorem mask_orI {mask s : Nat} {xs : List Int} (h : ∀ t : Nat, mask.testBit t = decide ((t : Int) ∈ xs)) : ∀ t : Nat, (mask ||| 2 ^ s).testBit t = decide ((t : Int) ∈ xs ++ [(s : Int)]) := fun t => by
  rw [Nat.testBit_or, Nat.testBit_two_pow, h]
  by_cases hk : s = t
  · subst hk; simp
  · have : ¬ (t : Int) = (s : Int) := fun e => hk (by omega)
    simp [hk, this]
end Go.Proofs.Ytbcjfkcpfjccdaa
namespace Go.Proofs.Ytbcjfkcpfjccdaa
open Go.RowKit
def wo (l xs : List Nat) : List Nat := l.filter fun x => !(decide (x ∈ xs))
theorem wo_take {l xs : List Nat} {k : Nat} (hk : k < l.length) : wo (l.take (k + 1)) xs = if l[k] ∈ xs then wo (l.take k) xs else wo (l.take k) xs ++ [l[k]] := by
  unfold wo
  rw [List.take_succ_eq_append_getElem hk, List.filter_append]
  by_cases h : l[k] ∈ xs
  · rw [if_pos h]; simp [h]
  · rw [if_neg h]; simp [h]
def maskL (q : Nat) (l : List Nat) : Nat := l.foldl (fun m i => m ||| 2 ^ i) (2 ^ q)
theorem maskL_take {q : Nat} {l : List Nat} {k : Nat} (hk : k < l.length) : maskL q (l.take (k + 1)) = maskL q (l.take k) ||| 2 ^ l[k] := by
  unfold maskL; rw [List.take_succ_eq_append_getElem hk, List.foldl_append]; rfl
theorem pow_lt8 {k : Nat} (hk : k < 8) : (2 : Nat) ^ k < 256 := Nat.pow_lt_pow_right (n := 8) (by omega) hk
theorem maskL_lt {q : Nat} (hq : q < 8) : ∀ {l : List Nat}, (∀ i ∈ l, i < 8) → maskL q l < 256 := by
  have key : ∀ (l : List Nat) (m : Nat), m < 256 → (∀ i ∈ l, i < 8) → l.foldl (fun m i => m ||| 2 ^ i) m < 256 := by
    intro l
    induction l with
    | nil => intro m hm _; exact hm
    | cons x l ih =>
      intro m hm h
      refine ih _ ?_ fun i hi => h i (List.mem_cons_of_mem _ hi)
      exact Nat.or_lt_two_pow (n := 8) hm (pow_lt8 (h x (by simp)))
  intro l h
  exact key l _ (pow_lt8 hq) h
def lenN (l : List Nat) : Int := (l.length : Int)
def keptP (r : Room) (l : List Nat) (q : Nat) : List Nat := (mostR lenN (fun a b => cmpL (wo l a) (wo l b)) (setsR r (maskL q l : Nat) (2 ^ q))).1
def canB (r : Room) (l : List Nat) : Bool := (allR r l).isSome
def givesE (r : Room) (xs : List Int) (x : Int) : List Nat × Int :=
  if someErr r xs = 0 then
    (if inB 0 (r.reqs.length - 1) x = true then
      (if x ∈ xs then ([], 2)
       else if canB r (xs.map Int.toNat) = true ∧ canB r [x.toNat] = true then (wo (xs.map Int.toNat) (keptP r (xs.map Int.toNat) x.toNat), 0) else ([], 9))
     else ([], 4))
  else ([], someErr r xs)
variable {r : Room} {l : List Nat} {x : Int} {q : Nat}
theorem gives_bad {xs : List Int} (h : ¬ someErr r xs = 0) : givesE r xs x = ([], someErr r xs) := if_neg h
theorem gives_rng (h : someErr r (l.map fun (n : Nat) => (n : Int)) = 0) (h2 : inB 0 (r.reqs.length - 1) x = false) : givesE r (l.map fun (n : Nat) => (n : Int)) x = ([], 4) := by
  unfold givesE; rw [if_pos h, if_neg (by rw [h2]; simp)]
theorem mem_cast : ((q : Int) ∈ l.map fun (n : Nat) => (n : Int)) ↔ q ∈ l := by
  rw [List.mem_map]
  constructor
  · rintro ⟨a, ha, e⟩
    have : a = q := by omega
    rwa [this] at ha
  · exact fun h => ⟨q, h, rfl⟩
theorem gives_in (h : someErr r (l.map fun (n : Nat) => (n : Int)) = 0) (h2 : inB 0 (r.reqs.length - 1) (q : Int) = true) (h3 : q ∈ l) : givesE r (l.map fun (n : Nat) => (n : Int)) q = ([], 2) := by
  unfold givesE; rw [if_pos h, if_pos h2, if_pos (mem_cast.2 h3)]
theorem gives_down (h : someErr r (l.map fun (n : Nat) => (n : Int)) = 0) (h2 : inB 0 (r.reqs.length - 1) (q : Int) = true) (h3 : q ∉ l) (h4 : ¬ (canB r l = true ∧ canB r [q] = true)) : givesE r (l.map fun (n : Nat) => (n : Int)) q = ([], 9) := by
  unfold givesE; rw [if_pos h, if_pos h2, if_neg (fun h => h3 (mem_cast.1 h)), idx_map, Int.toNat_natCast, if_neg h4]
theorem gives_ok (h : someErr r (l.map fun (n : Nat) => (n : Int)) = 0) (h2 : inB 0 (r.reqs.length - 1) (q : Int) = true) (h3 : q ∉ l) (h4 : canB r l = true ∧ canB r [q] = true) : givesE r (l.map fun (n : Nat) => (n : Int)) q = (wo l (keptP r l q), 0) := by
  unfold givesE; rw [if_pos h, if_pos h2, if_neg (fun h => h3 (mem_cast.1 h)), idx_map, Int.toNat_natCast, if_pos h4]
theorem natOne1 {F : Heap} {b T q : Nat} (h : F b = some (bx T [.int .i64 (q : Int)])) : Nats F (.slice (some ⟨b, 0, none⟩) 1 1) [q] :=
  Sl.box h rfl (by omega) (by omega) fun i hi j u hu => by
    have : i = 0 := by simpa using hi
    subst this
    match j, hu with
    | 0, hu => simpa [natE] using hu
    | j + 1, hu => simp [natE] at hu
end Go.Proofs.Ytbcjfkcpfjccdaa
namespace Go.Proofs.Ytbcjfkcpfjccdaa
open Go.RowKit
def measured (r : Room) (b : Nat) : Room := { r with books := r.books.set b { r.bk b with lo := (r.bk b).hi } }
theorem measured_bk {r : Room} {b i : Nat} (hb : b < r.books.length) : (measured r b).bk i = if i = b then { r.bk b with lo := (r.bk b).hi } else r.bk i := by
  unfold Room.bk measured
  simp only
  rw [List.getElem?_set]
  by_cases h : b = i
  · subst h; simp [hb, bk_at hb]
  · have : ¬ i = b := fun e => h e.symm
    simp [h, this]
theorem measured_len {r : Room} {b : Nat} : (measured r b).books.length = r.books.length := by simp [measured]
theorem valid_measured {r : Room} (hv : Valid r) {b : Nat} (hb : b < r.books.length) : Valid (measured r b) := by
  refine ⟨by rw [measured_len]; exact hv.nb, hv.nr, hv.ns, hv.nq, fun i hi => ?_, hv.st, fun i hi => ?_, hv.rd⟩
  · have := hv.rq i hi
    rw [measured_len]
    exact this
  · rw [measured_len] at hi
    have h1 := hv.bo i hi
    have h2 := hv.bo b hb
    rw [measured_bk hb]
    split
    · simp only; omega
    · exact h1
theorem flat_setB {z : Int} : ∀ {xs : List Book} {b : Nat} (h : b < xs.length), (xs.flatMap Book.enc).set (b * 5 + 2) (.int .i64 z) = (xs.set b { xs[b] with lo := z }).flatMap Book.enc := by
  intro xs
  induction xs with
  | nil => intro b h; simp at h
  | cons x xs ih =>
    intro b h
    cases b with
    | zero => simp [Book.enc]
    | succ b =>
      have := ih (b := b) (by simpa using h)
      simp only [List.flatMap_cons, List.set_cons_succ, List.getElem_cons_succ]
      rw [← this, show (b + 1) * 5 + 2 = (b * 5 + 2) + 1 + 1 + 1 + 1 + 1 by omega]
      simp [Book.enc]
theorem measured_set {r : Room} {b : Nat} (hb : b < r.books.length) : r.books.set b { r.books[b] with lo := (r.bk b).hi } = (measured r b).books := by
  unfold measured; simp only; rw [bk_at hb]
theorem mostR_bound {num : List Nat → Int} {cmp : List Nat → List Nat → Int} : ∀ (xs : List (List Nat)), (mostR num cmp xs).2 = -1 ∨ ∃ x ∈ xs, (mostR num cmp xs).2 = num x := by
  intro xs
  induction hn : xs.length generalizing xs with
  | zero => exact .inl (by rw [List.eq_nil_of_length_eq_zero hn]; rfl)
  | succ n ih =>
    obtain ⟨ys, y, rfl⟩ : ∃ ys y, xs = ys ++ [y] := ⟨xs.dropLast, xs.getLast (by intro h; rw [h] at hn; simp at hn), (List.dropLast_concat_getLast _).symm⟩
    have ih := ih ys (by simp at hn; exact hn)
    rw [mostR_snoc]
    unfold mostStep
    split
    · exact .inr ⟨y, by simp, rfl⟩
    · rcases ih with h | ⟨x, hx, h⟩
      · exact .inl h
      · exact .inr ⟨x, by simp [hx], h⟩
theorem bestP_bound {r : Room} (hv : Valid r) : -1 ≤ (bestP r).2 ∧ (bestP r).2 ≤ 800 := by
  rcases mostR_bound (num := worthL r) (cmp := cmpL) (setsR r (-1) 0) with h | ⟨x, hx, h⟩
  · unfold bestP; omega
  · obtain ⟨set, h1, rfl, h2⟩ := mem_setsR hx
    have := worthL_bound hv (bitsL_lt h1)
    have := bitsL_len (set := set)
    unfold bestP; omega
/-- The book whose light is best measured. -/
def askStep (now : Int) (val : Nat → Int) (p : Nat × Int) (b : Nat) : Nat × Int := if p.2 < val b - now then (b, val b - now) else p
def askTo (now : Int) (val : Nat → Int) (k : Nat) : Nat × Int := (List.range k).foldl (askStep now val) (0, 0)
theorem askTo_succ {now : Int} {val : Nat → Int} {k : Nat} : askTo now val (k + 1) = askStep now val (askTo now val k) k := fold_succ
theorem askTo_yes {now : Int} {val : Nat → Int} {k : Nat} (h : (askTo now val k).2 < val k - now) : askTo now val (k + 1) = (k, val k - now) := by rw [askTo_succ]; exact if_pos h
theorem askTo_no {now : Int} {val : Nat → Int} {k : Nat} (h : ¬ (askTo now val k).2 < val k - now) : askTo now val (k + 1) = askTo now val k := by rw [askTo_succ]; exact if_neg h
def askV (now : Int) (val : Nat → Int) (n : Nat) : Int × Int × Int := if (askTo now val n).2 = 0 then (0, 0, 4) else ((askTo now val n).1, (askTo now val n).2, 0)
def askE (r : Room) : Int × Int × Int := if (check r).2.2 = 0 then askV (bestP r).2 (fun b => (bestP (measured r b)).2) r.books.length else (0, 0, (check r).2.2)
theorem askE_ok {r : Room} (h : (check r).2.2 = 0) : askE r = askV (bestP r).2 (fun b => (bestP (measured r b)).2) r.books.length := if_pos h
theorem askE_bad {r : Room} (h : ¬ (check r).2.2 = 0) : askE r = (0, 0, (check r).2.2) := if_neg h
def trip (p : Int × Int × Int) : Value := .tuple #[.int .i64 p.1, .int .i64 p.2.1, .int .i64 p.2.2]
theorem RoomR.ones {F : Heap} {vb vr vs vq : Value} {r : Room} (h : RoomR F vb vr vs vq r) : ∀ u ∈ [vb, vr, vs, vq], u.oneCell' = true := by
  intro u hu
  simp only [List.mem_cons, List.not_mem_nil, or_false] at hu
  rcases hu with rfl | rfl | rfl | rfl
  · exact h.books.plain.one
  · exact h.readers.plain.one
  · exact h.seats.plain.one
  · exact h.reqs.plain.one
theorem flat_bk {r : Room} {b j : Nat} {u : Value} (hb : b < r.books.length) (hu : ((r.bk b).enc)[j]? = some u) : (r.books.flatMap Book.enc)[b * 5 + j]? = some u :=
  flat_at (enc := Book.enc) (s := 5) (fun _ => rfl) r.books b hb (by rw [bk_at hb]; exact hu)
theorem flat_bk_len {r : Room} : (r.books.flatMap Book.enc).length = r.books.length * 5 := flat_len (enc := Book.enc) (s := 5) (fun _ => rfl) r.books
section
variable {P : Program} {n : Nat} {B : Base} {e : Env} {σ : St}
end
end Go.Proofs.Ytbcjfkcpfjccdaa
namespace Go.Proofs.Ytbcjfkcpfjccdaa
open Go.RowKit
def slE (p : Value × List Nat) : List Value := [p.1]
def Lsts (F : Heap) (v : Value) (ls : List (List Nat)) : Prop := ∃ ps : List (Value × List Nat), Sl F v 1 slE ps ∧ (∀ p ∈ ps, Nats F p.1 p.2) ∧ ps.map (·.2) = ls
theorem Lsts.mono {F F' : Heap} {v : Value} {ls : List (List Nat)} (h : Lsts F v ls) (hF : F.le F') : Lsts F' v ls := by
  obtain ⟨ps, h1, h2, h3⟩ := h
  exact ⟨ps, h1.mono hF, fun p hp => (h2 p hp).mono hF, h3⟩
def AllN (F : Heap) (ps : List (Value × List Nat)) : Prop := ∀ p ∈ ps, Nats F p.1 p.2
theorem AllN.mono {F F' : Heap} {ps : List (Value × List Nat)} (h : AllN F ps) (hF : F.le F') : AllN F' ps := fun p hp => (h p hp).mono hF
def picked (l p : List Nat) : List Nat := p.map fun i => l[i]?.getD 0
variable {r : Room} {l : List Nat} {x : Int} {q : Nat}
end Go.Proofs.Ytbcjfkcpfjccdaa
namespace Go.Proofs.Ytbcjfkcpfjccdaa
open Go.RowKit
def bkA : Book := ⟨⟨#[97, 116, 108, 97, 115]⟩, 2, 40, 60, true⟩
def bkP : Book := ⟨⟨#[112, 115, 97, 108, 116, 101, 114]⟩, 4, 10, 10, false⟩
def bkN : Book := ⟨⟨#[110, 111, 118, 101, 108]⟩, 1, 200, 200, false⟩
def rdA : Rdr := ⟨⟨#[97, 100, 97]⟩, 2⟩
def rdB : Rdr := ⟨⟨#[98, 111]⟩, 5⟩
def seats3 : List Seat := [⟨10, false⟩, ⟨4, true⟩, ⟨5, false⟩]
def reqs5 : List Req := [⟨0, 0, 6, 20⟩, ⟨1, 1, 2, 30⟩, ⟨0, 2, 8, 10⟩, ⟨0, 1, 1, 50⟩, ⟨1, 0, 4, 15⟩]
def roomX (n : Nat) : Room := ⟨[bkA, bkP, bkN], [rdA, rdB], seats3.take n, reqs5⟩
end Go.Proofs.Ytbcjfkcpfjccdaa
namespace Go.Proofs.Ytbcjfkcpfjccdaa
def Put (r : Room) : List Nat → List Nat → Prop
  | [], [] => True
  | q :: l, s :: ss => (s < r.seats.length ∧ reason r q s = 0) ∧ Put r l ss
  | _, _ => False
def cost (r : Room) : List Nat → List Nat → Int
  | q :: l, s :: ss => light r q s + cost r l ss
  | _, _ => 0
def Sits (r : Room) (l taken ss : List Nat) : Prop := Put r l ss ∧ ss.Nodup ∧ ∀ s ∈ ss, s ∉ taken
theorem put_nil {r : Room} {ss : List Nat} (h : Put r [] ss) : ss = [] := by
  cases ss with
  | nil => rfl
  | cons s ss => exact absurd h (by simp [Put])
theorem put_cons {r : Room} {q : Nat} {l ss : List Nat} (h : Put r (q :: l) ss) : ∃ s ss', ss = s :: ss' ∧ s < r.seats.length ∧ reason r q s = 0 ∧ Put r l ss' := by
  cases ss with
  | nil => exact absurd h (by simp [Put])
  | cons s ss => exact ⟨s, ss, rfl, h.1.1, h.1.2, h.2⟩
theorem sits_cons {r : Room} {q s : Nat} {l t ss : List Nat} : Sits r (q :: l) t (s :: ss) ↔ s < r.seats.length ∧ reason r q s = 0 ∧ s ∉ t ∧ Sits r l (t ++ [s]) ss := by
  unfold Sits
  simp only [Put, List.nodup_cons, List.mem_cons, List.mem_append, List.not_mem_nil, or_false, not_or]
  constructor
  · rintro ⟨⟨⟨h1, h2⟩, h3⟩, ⟨h4, h5⟩, h6⟩
    exact ⟨h1, h2, h6 s (.inl rfl), h3, h5, fun x hx => ⟨h6 x (.inr hx), fun e => h4 (e ▸ hx)⟩⟩
  · rintro ⟨h1, h2, h3, h4, h5, h6⟩
    refine ⟨⟨⟨h1, h2⟩, h4⟩, ⟨fun hs => (h6 s hs).2 rfl, h5⟩, fun x hx => ?_⟩
    rcases hx with rfl | hx
    · exact h3
    · exact (h6 x hx).1
def LeastOf (r : Room) (l t : List Nat) (o : Option (List Nat × Int)) : Prop := match o with
  | none => ∀ ss, ¬ Sits r l t ss
  | some (ss, n) => Sits r l t ss ∧ n = cost r l ss ∧ ∀ ss', Sits r l t ss' → n ≤ cost r l ss'
def LeastTo (r : Room) (q : Nat) (l t : List Nat) (k : Nat) (o : Option (List Nat × Int)) : Prop := match o with
  | none => ∀ s ss, s < k → ¬ Sits r (q :: l) t (s :: ss)
  | some (ss, n) => Sits r (q :: l) t ss ∧ n = cost r (q :: l) ss ∧ ∀ s ss', s < k → Sits r (q :: l) t (s :: ss') → n ≤ cost r (q :: l) (s :: ss')
theorem least_step {r : Room} {q k : Nat} {l t : List Nat} {sub : List Nat → Option (List Nat × Int)} (hk : k < r.seats.length) (hs : ∀ t, LeastOf r l t (sub t)) {o : Option (List Nat × Int)} (h : LeastTo r q l t k o) : LeastTo r q l t (k + 1) (step r q t sub o k) := by
  have hcost : ∀ ss, cost r (q :: l) (k :: ss) = light r q k + cost r l ss := fun _ => rfl
  unfold step
  split
  · rename_i hc
    have hno : ∀ ss, ¬ Sits r (q :: l) t (k :: ss) := fun ss hss => by
      obtain ⟨-, h1, h2, -⟩ := sits_cons.1 hss
      exact hc.elim h2 fun h => h h1
    cases o with
    | none =>
      intro s ss hsk
      rcases Nat.lt_succ_iff_lt_or_eq.1 hsk with h' | rfl
      · exact h s ss h'
      · exact hno ss
    | some p =>
      refine ⟨h.1, h.2.1, fun s ss' hsk hss => ?_⟩
      rcases Nat.lt_succ_iff_lt_or_eq.1 hsk with h' | rfl
      · exact h.2.2 s ss' h' hss
      · exact absurd hss (hno ss')
  · rename_i hc
    rw [not_or] at hc
    have hr : reason r q k = 0 := Classical.byContradiction fun h => hc.2 h
    have hsub := hs (t ++ [k])
    cases h1 : sub (t ++ [k]) with
    | none =>
      rw [h1] at hsub
      have hno : ∀ ss, ¬ Sits r (q :: l) t (k :: ss) := fun ss hss => hsub ss (sits_cons.1 hss).2.2.2
      cases o with
      | none =>
        intro s ss hsk
        rcases Nat.lt_succ_iff_lt_or_eq.1 hsk with h' | rfl
        · exact h s ss h'
        · exact hno ss
      | some p =>
        refine ⟨h.1, h.2.1, fun s ss' hsk hss => ?_⟩
        rcases Nat.lt_succ_iff_lt_or_eq.1 hsk with h' | rfl
        · exact h.2.2 s ss' h' hss
        · exact absurd hss (hno ss')
    | some p =>
      obtain ⟨lb, n⟩ := p
      rw [h1] at hsub
      obtain ⟨a1, a2, a3⟩ := hsub
      have hnew : Sits r (q :: l) t (k :: lb) := sits_cons.2 ⟨hk, hr, hc.1, a1⟩
      have hle : ∀ ss', Sits r (q :: l) t (k :: ss') → n + light r q k ≤ cost r (q :: l) (k :: ss') := fun ss' hss => by
        have := a3 ss' (sits_cons.1 hss).2.2.2
        rw [hcost]; omega
      cases o with
      | none =>
        refine ⟨hnew, by rw [hcost]; omega, fun s ss' hsk hss => ?_⟩
        rcases Nat.lt_succ_iff_lt_or_eq.1 hsk with h' | rfl
        · exact absurd hss (h s ss' h')
        · exact hle ss' hss
      | some p =>
        obtain ⟨ob, m⟩ := p
        obtain ⟨b1, b2, b3⟩ := h
        by_cases hlt : n + light r q k < m
        · simp only [if_pos hlt]
          refine ⟨hnew, by rw [hcost]; omega, fun s ss' hsk hss => ?_⟩
          rcases Nat.lt_succ_iff_lt_or_eq.1 hsk with h' | rfl
          · have := b3 s ss' h' hss; omega
          · exact hle ss' hss
        · simp only [if_neg hlt]
          refine ⟨b1, b2, fun s ss' hsk hss => ?_⟩
          rcases Nat.lt_succ_iff_lt_or_eq.1 hsk with h' | rfl
          · exact b3 s ss' h' hss
          · have := hle ss' hss; omega
theorem give_least {r : Room} : ∀ l t, LeastOf r l t (giveR r l t)
  | [], t => ⟨⟨trivial, .nil, by simp⟩, rfl, fun ss' h => by rw [put_nil h.1]; exact Int.le_refl _⟩
  | q :: l, t => by
    have key : ∀ k, k ≤ r.seats.length → LeastTo r q l t k ((List.range k).foldl (step r q t (giveR r l)) none) := by
      intro k
      induction k with
      | zero => exact fun _ s ss h => absurd h (by omega)
      | succ k ih =>
        intro hk
        rw [fold_succ]
        exact least_step (by omega) (give_least l) (ih (by omega))
    have h := key _ (Nat.le_refl _)
    show LeastOf r (q :: l) t ((List.range r.seats.length).foldl (step r q t (giveR r l)) none)
    cases ho : (List.range r.seats.length).foldl (step r q t (giveR r l)) none with
    | none =>
      rw [ho] at h
      intro ss hss
      obtain ⟨s, ss', rfl, h1, -, -⟩ := put_cons hss.1
      exact h s ss' h1 hss
    | some p =>
      rw [ho] at h
      refine ⟨h.1, h.2.1, fun ss hss => ?_⟩
      obtain ⟨s, ss', rfl, h1, -, -⟩ := put_cons hss.1
      exact h.2.2 s ss' h1 hss
theorem can_iff {r : Room} {l : List Nat} : canB r l = true ↔ Apart r l ∧ ∃ ss, Sits r l [] ss := by
  unfold canB allR
  have := give_least (r := r) l []
  by_cases ha : Apart r l
  · rw [if_pos ha]
    cases h : giveR r l [] with
    | none => rw [h] at this; simp; exact fun _ ss => this ss
    | some p => rw [h] at this; simp; exact ⟨ha, _, this.1⟩
  · rw [if_neg ha]; simp [ha]
theorem put_sub {r : Room} {l' l : List Nat} (h : l'.Sublist l) : ∀ {ss : List Nat}, Put r l ss → ∃ ss', Put r l' ss' ∧ ss'.Sublist ss := by
  induction h with
  | slnil => exact fun {ss} h => ⟨ss, h, List.Sublist.refl _⟩
  | cons a _ ih =>
    intro ss h
    obtain ⟨s, ss', rfl, -, -, h'⟩ := put_cons h
    obtain ⟨u, h1, h2⟩ := ih h'
    exact ⟨u, h1, .cons _ h2⟩
  | cons_cons a _ ih =>
    intro ss h
    obtain ⟨s, ss', rfl, h3, h4, h'⟩ := put_cons h
    obtain ⟨u, h1, h2⟩ := ih h'
    exact ⟨s :: u, ⟨⟨h3, h4⟩, h1⟩, .cons_cons _ h2⟩
theorem can_sub {r : Room} {l' l : List Nat} (h : l'.Sublist l) (hc : canB r l = true) : canB r l' = true := by
  rw [can_iff] at hc ⊢
  obtain ⟨ha, ss, h1, h2, h3⟩ := hc
  obtain ⟨u, h4, h5⟩ := put_sub h h1
  exact ⟨List.Pairwise.sublist h ha, u, h4, List.Pairwise.sublist h5 h2, fun s hs => h3 s (h5.subset hs)⟩
theorem can_nil {r : Room} : canB r [] = true := can_iff.2 ⟨.nil, [], trivial, .nil, by simp⟩
theorem cmpL_refl : ∀ a : List Nat, cmpL a a = 0
  | [] => rfl
  | a :: as1 => by rw [cmpL_same]; exact cmpL_refl as1
theorem cmpL_neg : ∀ a b : List Nat, cmpL b a = - cmpL a b
  | [], [] => rfl
  | [], _ :: _ => rfl
  | _ :: _, [] => rfl
  | x :: xs, y :: ys => by
    unfold cmpL
    by_cases h1 : x < y
    · rw [if_neg (by omega), if_pos h1, if_pos h1]; rfl
    · by_cases h2 : y < x
      · rw [if_pos h2, if_neg h1, if_pos h2]
      · rw [if_neg h2, if_neg h1, if_neg h1, if_neg h2]; exact cmpL_neg xs ys
theorem cmpL_trans : ∀ {a b c : List Nat}, cmpL a b ≤ 0 → cmpL b c ≤ 0 → cmpL a c ≤ 0
  | [], _, c, _, _ => by cases c <;> simp [cmpL]
  | _ :: _, [], _, h, _ => by simp [cmpL] at h
  | _ :: _, _ :: _, [], _, h => by simp [cmpL] at h
  | x :: xs, y :: ys, z :: zs, h1, h2 => by
    unfold cmpL at h1 h2 ⊢
    by_cases a1 : x < y
    · by_cases a2 : y < z
      · rw [if_pos (by omega)]; omega
      · rw [if_neg a2] at h2
        by_cases a3 : z < y
        · rw [if_pos a3] at h2; omega
        · rw [if_pos (by omega)]; omega
    · rw [if_neg a1] at h1
      by_cases a2 : y < x
      · rw [if_pos a2] at h1; omega
      · rw [if_neg a2] at h1
        obtain rfl : x = y := by omega
        by_cases a3 : x < z
        · rw [if_pos a3]; omega
        · rw [if_neg a3] at h2 ⊢
          by_cases a4 : z < x
          · rw [if_pos a4] at h2; omega
          · rw [if_neg a4] at h2 ⊢
            exact cmpL_trans h1 h2
theorem cmpL_total {a b : List Nat} (h : ¬ cmpL a b < 0) : cmpL b a ≤ 0 := by rw [cmpL_neg]; omega
/-- 'x' has the greatest number of all in 'S', and is the first of these. -/
def IsBest (num : List Nat → Int) (f : List Nat → List Nat) (S : List Nat → Prop) (x : List Nat) : Prop := S x ∧ ∀ y, S y → num y < num x ∨ (num y = num x ∧ cmpL (f x) (f y) ≤ 0)
theorem most_spec {num : List Nat → Int} {f : List Nat → List Nat} : ∀ (xs : List (List Nat)), (∀ x ∈ xs, 0 ≤ num x) → (xs = [] ∧ mostR num (fun a b => cmpL (f a) (f b)) xs = ([], -1)) ∨ ∃ x, mostR num (fun a b => cmpL (f a) (f b)) xs = (x, num x) ∧ IsBest num f (· ∈ xs) x := by
  intro xs
  induction hn : xs.length generalizing xs with
  | zero => intro _; exact .inl (by rw [List.eq_nil_of_length_eq_zero hn]; exact ⟨rfl, rfl⟩)
  | succ n ih =>
    intro h0
    obtain ⟨ys, y, rfl⟩ : ∃ ys y, xs = ys ++ [y] := ⟨xs.dropLast, xs.getLast (by intro h; rw [h] at hn; simp at hn), (List.dropLast_concat_getLast _).symm⟩
    have hy := h0 y (by simp)
    right
    rw [mostR_snoc]
    rcases ih ys (by simp at hn; exact hn) (fun x hx => h0 x (by simp [hx])) with ⟨rfl, h⟩ | ⟨x, h, hb⟩
    · rw [h, mostStep_yes (.inl (by simp only; omega))]
      exact ⟨y, rfl, by simp, fun z hz => by simp at hz; subst hz; exact .inr ⟨rfl, by rw [cmpL_refl]; omega⟩⟩
    · rw [h]
      by_cases hc : num x < num y ∨ (num y = num x ∧ cmpL (f y) (f x) < 0)
      · rw [mostStep_yes hc]
        refine ⟨y, rfl, by simp, fun z hz => ?_⟩
        rcases List.mem_append.1 hz with hz | hz
        · rcases hb.2 z hz with h1 | ⟨h1, h2⟩
          · rcases hc with hc | ⟨hc, -⟩ <;> exact .inl (by omega)
          · rcases hc with hc | ⟨hc, h3⟩
            · exact .inl (by omega)
            · exact .inr ⟨by omega, cmpL_trans (by omega) h2⟩
        · simp at hz; subst hz; exact .inr ⟨rfl, by rw [cmpL_refl]; omega⟩
      · rw [mostStep_no hc]
        refine ⟨x, rfl, by simp [hb.1], fun z hz => ?_⟩
        rcases List.mem_append.1 hz with hz | hz
        · exact hb.2 z hz
        · simp at hz; subst hz
          rw [not_or, not_and] at hc
          by_cases h1 : num z < num x
          · exact .inl h1
          · have : num z = num x := by omega
            exact .inr ⟨this, cmpL_total (hc.2 this)⟩
def Asc (l : List Nat) : Prop := l.Pairwise (· < ·)
/-- All that go on from 'b' with requests from 'k', of which the first one is before 'm'. -/
def Deep (r : Room) (b : List Nat) (k m : Nat) (y : List Nat) : Prop := ∃ e, y = b ++ e ∧ Asc e ∧ (∀ i ∈ e, k ≤ i ∧ i < r.reqs.length) ∧ (e = [] ∨ canB r y = true) ∧ ∀ i ∈ e.head?, i < m
/-- Requests that can be granted together. -/
def Grant (r : Room) (y : List Nat) : Prop := Asc y ∧ (∀ i ∈ y, i < r.reqs.length) ∧ canB r y = true
def maskOf (l : List Nat) : Nat := l.foldl (fun m i => m ||| 2 ^ i) 0
theorem maskOf_bit {l : List Nat} {t : Nat} : (maskOf l).testBit t = decide (t ∈ l) := by
  have key : ∀ (l : List Nat) (m : Nat), (l.foldl (fun m i => m ||| 2 ^ i) m).testBit t = (m.testBit t || decide (t ∈ l)) := by
    intro l
    induction l with
    | nil => intro m; simp
    | cons x l ih =>
      intro m
      rw [List.foldl_cons, ih, Nat.testBit_or, Nat.testBit_two_pow]
      by_cases h1 : x = t
      · subst h1; simp
      · have : ¬ t = x := fun e => h1 e.symm
        simp [h1, this]
  unfold maskOf
  rw [key]; simp
theorem maskOf_lt {l : List Nat} {n : Nat} (h : ∀ i ∈ l, i < n) : maskOf l < 2 ^ n := by
  apply Nat.lt_pow_two_of_testBit
  intro i hi
  rw [maskOf_bit]
  exact decide_eq_false fun hm => by have := h i hm; omega
theorem asc_ext {a b : List Nat} (ha : Asc a) (hb : Asc b) (h : ∀ i, i ∈ a ↔ i ∈ b) : a = b :=
  List.Perm.eq_of_pairwise (le := (· < ·)) (fun x y _ _ h1 h2 => by omega) ha hb
    ((List.perm_ext_iff_of_nodup (ha.imp fun h => Nat.ne_of_lt h) (hb.imp fun h => Nat.ne_of_lt h)).2 h)
theorem bits_mask {l : List Nat} {n : Nat} (hn : n ≤ 8) (h : ∀ i ∈ l, i < n) (ha : Asc l) : bitsL (maskOf l) = l :=
  asc_ext bitsL_asc ha fun i => by
    rw [mem_bitsL, maskOf_bit]
    constructor
    · rintro ⟨-, h2⟩; simpa using h2
    · intro hi; exact ⟨by have := h i hi; omega, by simpa using hi⟩
theorem mem_sets_iff {r : Room} (hv : Valid r) {of : Int} {w : Nat} {y : List Nat} : y ∈ setsR r of w ↔ Asc y ∧ (∀ i ∈ y, i < r.reqs.length) ∧ okSet r of w (maskOf y) = true := by
  have h8 := hv.nq
  constructor
  · intro h
    obtain ⟨set, h1, rfl, h2⟩ := mem_setsR h
    refine ⟨bitsL_asc, bitsL_lt h1, ?_⟩
    have : maskOf (bitsL set) = set := by
      apply Nat.eq_of_testBit_eq
      intro i
      rw [maskOf_bit]
      by_cases hi : i < 8
      · by_cases hb : set.testBit i = true
        · rw [hb]; exact decide_eq_true (mem_bitsL.2 ⟨hi, hb⟩)
        · have : set.testBit i = false := by simpa using hb
          rw [this]; exact decide_eq_false fun h => hb (mem_bitsL.1 h).2
      · rw [Nat.testBit_lt_two_pow (Nat.lt_of_lt_of_le h1 (Nat.pow_le_pow_right (by omega) (by omega)))]
        exact decide_eq_false fun h => hi (mem_bitsL.1 h).1
    rw [this]; exact h2
  · rintro ⟨h1, h2, h3⟩
    unfold setsR setsTo
    refine List.mem_map.2 ⟨maskOf y, List.mem_filter.2 ⟨by simpa using maskOf_lt h2, h3⟩, bits_mask h8 h2 h1⟩
theorem grant_iff {r : Room} (hv : Valid r) {y : List Nat} : y ∈ setsR r (-1) 0 ↔ Grant r y := by
  rw [mem_sets_iff hv]
  unfold Grant
  constructor
  · rintro ⟨h1, h2, h3⟩
    refine ⟨h1, h2, ?_⟩
    unfold okSet at h3
    rw [bits_mask hv.nq h2 h1] at h3
    simp only [Bool.and_eq_true] at h3
    exact h3.2
  · rintro ⟨h1, h2, h3⟩
    refine ⟨h1, h2, ?_⟩
    unfold okSet
    rw [bits_mask hv.nq h2 h1]
    simp only [Bool.and_eq_true]
    exact ⟨⟨decide_eq_true butNot_all, by simp⟩, h3⟩
theorem bestP_best {r : Room} (hv : Valid r) : ∃ x, bestP r = (x, worthL r x) ∧ IsBest (worthL r) id (Grant r) x := by
  rcases most_spec (num := worthL r) (f := id) (setsR r (-1) 0) (fun x hx => (worthL_bound hv ((grant_iff hv).1 hx).2.1).1) with ⟨h, -⟩ | ⟨x, h1, h2⟩
  · have : [] ∈ setsR r (-1) 0 := (grant_iff hv).2 ⟨.nil, by simp, can_nil⟩
    rw [h] at this; cases this
  · exact ⟨x, h1, (grant_iff hv).1 h2.1, fun y hy => h2.2 y ((grant_iff hv).2 hy)⟩
end Go.Proofs.Ytbcjfkcpfjccdaa
namespace Go.Proofs.Ytbcjfkcpfjccdaa
abbrev castL (l : List Nat) : List Int := l.map fun (n : Nat) => (n : Int)
theorem someErr_idx {r : Room} (h : (check r).2.2 = 0) {l : List Nat} (ha : Asc l) (hl : ∀ i ∈ l, i < r.reqs.length) : someErr r (castL l) = 0 := by
  unfold someErr
  rw [if_neg (by omega), if_neg, if_neg]
  · rw [asc_of]; simp
    intro i hi h0
    simp only [castL, List.length_map] at hi
    simp only [castL, List.getElem_map]
    have := List.pairwise_iff_getElem.1 ha (i - 1) i (by omega) hi (by omega)
    omega
  · rw [any_in_none]; simp
    intro j hj
    simp only [castL, List.length_map] at hj
    simp only [castL, List.getElem_map]
    have := hl _ (List.getElem_mem hj)
    simp [inB]; omega
theorem put_get {r : Room} : ∀ {l ss : List Nat}, Put r l ss ↔ ss.length = l.length ∧ ∀ i (h1 : i < l.length) (h2 : i < ss.length), ss[i] < r.seats.length ∧ reason r l[i] ss[i] = 0
  | [], ss => by
    constructor
    · intro h; rw [put_nil h]; simp
    · rintro ⟨h, -⟩; have := List.eq_nil_of_length_eq_zero h; subst this; trivial
  | q :: l, [] => by simp [Put]
  | q :: l, s :: ss => by
    have ih := put_get (r := r) (l := l) (ss := ss)
    constructor
    · rintro ⟨⟨h1, h2⟩, h3⟩
      obtain ⟨h4, h5⟩ := ih.1 h3
      refine ⟨by simp [h4], fun i a b => ?_⟩
      cases i with
      | zero => exact ⟨h1, h2⟩
      | succ i => exact h5 i (by simpa using a) (by simpa using b)
    · rintro ⟨h1, h2⟩
      refine ⟨h2 0 (by simp) (by simp), ih.2 ⟨by simpa using h1, fun i a b => ?_⟩⟩
      have := h2 (i + 1) (by simpa using a) (by simpa using b)
      simpa using this
def chosenL (r : Room) (bits : Nat) : List Nat := bitsTo bits (min r.reqs.length 8)
theorem mem_bitsTo {set k i : Nat} : i ∈ bitsTo set k ↔ i < k ∧ set.testBit i = true := by unfold bitsTo; simp
theorem bitsTo_asc {set k : Nat} : Asc (bitsTo set k) := by unfold bitsTo; exact List.Pairwise.sublist List.filter_sublist List.pairwise_lt_range
theorem chosen_asc {r : Room} {bits : Nat} : Asc (chosenL r bits) := bitsTo_asc
theorem chosen_lt {r : Room} {bits : Nat} : ∀ i ∈ chosenL r bits, i < r.reqs.length := fun i hi => by
  have := (mem_bitsTo.1 hi).1; omega
theorem chosen_err {r : Room} (h : (check r).2.2 = 0) {bits : Nat} : someErr r (castL (chosenL r bits)) = 0 := someErr_idx h chosen_asc chosen_lt
theorem chosen_part {r : Room} {a b : Nat} : (chosenL r (a &&& b)).Sublist (chosenL r a) := by
  unfold chosenL bitsTo
  have : (fun i => (a &&& b).testBit i) = fun i => (b.testBit i && a.testBit i) := by
    funext i; rw [Nat.testBit_and, Bool.and_comm]
  rw [this, ← List.filter_filter]
  exact List.filter_sublist
theorem turn_worth {r : Room} (hv : Valid r) {y : List Nat} (hy : Grant r y) : worthL r y ≤ (bestP r).2 := by
  obtain ⟨x, h1, h2⟩ := bestP_best hv
  rw [h1]
  rcases h2.2 y hy with h | ⟨h, -⟩ <;> simp only <;> omega
theorem best_grant {r : Room} (hv : Valid r) : Grant r (bestP r).1 ∧ worthL r (bestP r).1 = (bestP r).2 := by
  obtain ⟨x, h1, h2⟩ := bestP_best hv
  rw [h1]; exact ⟨h2.1, rfl⟩
/-- Each request is granted where it was. -/
def Easier (r r' : Room) : Prop := r'.reqs.length = r.reqs.length ∧ r.seats.length ≤ r'.seats.length ∧ (∀ i, r'.reader i = r.reader i ∧ r'.book i = r.book i ∧ (r'.req i).worth = (r.req i).worth) ∧
  ∀ i s, i < r.reqs.length → s < r.seats.length → reason r i s = 0 → reason r' i s = 0
theorem Easier.can {r r' : Room} (h : Easier r r') {l : List Nat} (hl : ∀ i ∈ l, i < r.reqs.length) (hc : canB r l = true) : canB r' l = true := by
  obtain ⟨-, hs, hid, hre⟩ := h
  rw [can_iff] at hc ⊢
  obtain ⟨ha, ss, h1, h2, h3⟩ := hc
  obtain ⟨h4, h5⟩ := put_get.1 h1
  refine ⟨ha.imp fun {a b} h => ?_, ss, put_get.2 ⟨h4, fun i a b => ?_⟩, h2, h3⟩
  · unfold Two at h ⊢
    rw [(hid a).1, (hid b).1, (hid a).2.1, (hid b).2.1]; exact h
  · obtain ⟨h6, h7⟩ := h5 i a b
    exact ⟨by omega, hre _ _ (hl _ (List.getElem_mem a)) h6 h7⟩
theorem Easier.best {r r' : Room} (h : Easier r r') (hv : Valid r) (hv' : Valid r') : (bestP r).2 ≤ (bestP r').2 := by
  obtain ⟨hg, hw⟩ := best_grant hv
  have hg' : Grant r' (bestP r).1 := ⟨hg.1, fun i hi => by rw [h.1]; exact hg.2.1 i hi, h.can hg.2.1 hg.2.2⟩
  have := turn_worth hv' hg'
  have e : worthL r' (bestP r).1 = worthL r (bestP r).1 := by
    unfold worthL
    congr 1
    exact List.map_congr_left fun i _ => (h.2.2.1 i).2.2
  omega
theorem reason_zero {r : Room} {i s : Nat} : reason r i s = 0 ↔ (r.bk (r.book i)).cls ≤ (r.rd (r.reader i)).permit ∧ ¬ ((r.bk (r.book i)).large = true ∧ (r.seat s).small = true) ∧ light r i s ≤ (r.bk (r.book i)).lo := by
  unfold reason
  split
  · simp; omega
  · split
    · rename_i h; simp [h]
    · split
      · simp; omega
      · rename_i h1 h2 h3; simp; exact ⟨by omega, by simpa using h2, by omega⟩
end Go.Proofs.Ytbcjfkcpfjccdaa
namespace Go.Proofs.Ytbcjfkcpfjccdaa
theorem can_val {r : Room} {l : List Nat} (h : someErr r (castL l) = 0) : canV r (castL l) = .tuple #[.bool (canB r l), .int .i64 0] := by
  rw [canV_ok h]; rfl
theorem can_val1 {r : Room} {l : List Nat} (h : someErr r (castL l) = 0) {b : Bool} (hb : canB r l = b) : canV r (castL l) = .tuple #[.bool b, .int .i64 0] := by
  rw [can_val h, hb]
/-- A slice of bytes, as numbers. -/
def u8E (n : Nat) : List Value := [.int .u8 (n : Int)]
end Go.Proofs.Ytbcjfkcpfjccdaa
namespace Go.Proofs.Ytbcjfkcpfjccdaa
open Go.RowKit
def wfI (z : Int) : Prop := (Lit.int .i64 z).wf = true
def Book.wf (b : Book) : Prop := wfI b.cls ∧ wfI b.lo ∧ wfI b.hi
def Rdr.wf (b : Rdr) : Prop := wfI b.permit
def Seat.wf (b : Seat) : Prop := wfI b.light
def Req.wf (b : Req) : Prop := wfI b.reader ∧ wfI b.book ∧ wfI b.hours ∧ wfI b.worth
def spanWf (p : Int × Int) : Prop := wfI p.1 ∧ wfI p.2
structure Room.wf (r : Room) : Prop where
  books : ∀ b ∈ r.books, b.wf
  readers : ∀ b ∈ r.readers, b.wf
  seats : ∀ b ∈ r.seats, b.wf
  reqs : ∀ b ∈ r.reqs, b.wf
theorem five {α : Type} {l : List α} (h : l.length = 5) : ∃ a b c d e, l = [a, b, c, d, e] := by
  match l, h with
  | [a, b, c, d, e], _ => exact ⟨a, b, c, d, e, rfl⟩
theorem four {α : Type} {l : List α} (h : l.length = 4) : ∃ a b c d, l = [a, b, c, d] := by
  match l, h with
  | [a, b, c, d], _ => exact ⟨a, b, c, d, rfl⟩
theorem two {α : Type} {l : List α} (h : l.length = 2) : ∃ a b, l = [a, b] := by
  match l, h with
  | [a, b], _ => exact ⟨a, b, rfl⟩
section
variable {H : Type} {enc : TypeId × Value → H} {W : World}
theorem cells3 : Try.prog.cellsOf 3 = 1 := by kernel_rfl
theorem cells4 : Try.prog.cellsOf 4 = 1 := by kernel_rfl
theorem cells9 : Try.prog.cellsOf 9 = 1 := by kernel_rfl
theorem cells60 : Try.prog.cellsOf 60 = 2 := by kernel_rfl
theorem cells62 : Try.prog.cellsOf 62 = 5 := by kernel_rfl
theorem cells64 : Try.prog.cellsOf 64 = 2 := by kernel_rfl
theorem cells66 : Try.prog.cellsOf 66 = 2 := by kernel_rfl
theorem cells58 : Try.prog.cellsOf 58 = 4 := by kernel_rfl
theorem cells27 : Try.prog.cellsOf 27 = 4 := by kernel_rfl
theorem cells5 : Try.prog.cellsOf 5 = 1 := by kernel_rfl
theorem cells77 : Try.prog.cellsOf 77 = 2 := by kernel_rfl
theorem cells80 : Try.prog.cellsOf 80 = 3 := by kernel_rfl
theorem cells82 : Try.prog.cellsOf 82 = 8 := by kernel_rfl
theorem cells22 : Try.prog.cellsOf 22 = 1 := by kernel_rfl
theorem cells23 : Try.prog.cellsOf 23 = 1 := by kernel_rfl
theorem cells24 : Try.prog.cellsOf 24 = 1 := by kernel_rfl
theorem cells25 : Try.prog.cellsOf 25 = 1 := by kernel_rfl
theorem dec_int (cs : List Value) (h : Rd enc Try.prog W 3 cs) : ∃ z, cs = [.int .i64 z] ∧ wfI z := rd_int Try.underlying3 h
theorem dec_span (cs : List Value) (h : Rd enc Try.prog W 60 cs) : ∃ p : Int × Int, cs = spanE p ∧ spanWf p := by
  obtain ⟨hl, hf⟩ := rd_struct Try.underlying60 h
  rw [cells60] at hl
  obtain ⟨a, b, rfl⟩ := two hl
  have h0 := rd_fld hf 0 (t := 3) (o := 0) rfl cells3
  have h1 := rd_fld hf 1 (t := 3) (o := 1) rfl cells3
  obtain ⟨x, hx, wx⟩ := dec_int _ h0
  obtain ⟨y, hy, wy⟩ := dec_int _ h1
  simp at hx hy
  subst hx hy
  exact ⟨(x, y), rfl, wx, wy⟩
theorem dec_book (cs : List Value) (h : Rd enc Try.prog W 62 cs) : ∃ b : Book, cs = b.enc ∧ b.wf := by
  obtain ⟨hl, hf⟩ := rd_struct Try.underlying62 h
  rw [cells62] at hl
  obtain ⟨a, b, c, d, e, rfl⟩ := five hl
  have h0 := rd_fld hf 0 (t := 9) (o := 0) rfl cells9
  have h1 := rd_fld hf 1 (t := 3) (o := 1) rfl cells3
  have h2 := rd_fld hf 2 (t := 60) (o := 2) rfl cells60
  have h3 := rd_fld hf 3 (t := 4) (o := 4) rfl cells4
  obtain ⟨n, hn⟩ := rd_string Try.underlying9 h0
  obtain ⟨x, hx, wx⟩ := dec_int _ h1
  obtain ⟨⟨y, z⟩, hy, wy⟩ := dec_span _ h2
  obtain ⟨u, hu⟩ := rd_bool Try.underlying4 h3
  simp [spanE] at hn hx hy hu
  obtain ⟨rfl, rfl⟩ := hy
  subst hn hx hu
  exact ⟨⟨n, x, y, z, u⟩, rfl, wx, wy⟩
theorem dec_rdr (cs : List Value) (h : Rd enc Try.prog W 64 cs) : ∃ b : Rdr, cs = b.enc ∧ b.wf := by
  obtain ⟨hl, hf⟩ := rd_struct Try.underlying64 h
  rw [cells64] at hl
  obtain ⟨a, b, rfl⟩ := two hl
  have h0 := rd_fld hf 0 (t := 9) (o := 0) rfl cells9
  have h1 := rd_fld hf 1 (t := 3) (o := 1) rfl cells3
  obtain ⟨n, hn⟩ := rd_string Try.underlying9 h0
  obtain ⟨x, hx, wx⟩ := dec_int _ h1
  simp at hn hx
  subst hn hx
  exact ⟨⟨n, x⟩, rfl, wx⟩
theorem dec_seat (cs : List Value) (h : Rd enc Try.prog W 66 cs) : ∃ b : Seat, cs = b.enc ∧ b.wf := by
  obtain ⟨hl, hf⟩ := rd_struct Try.underlying66 h
  rw [cells66] at hl
  obtain ⟨a, b, rfl⟩ := two hl
  have h0 := rd_fld hf 0 (t := 3) (o := 0) rfl cells3
  have h1 := rd_fld hf 1 (t := 4) (o := 1) rfl cells4
  obtain ⟨x, hx, wx⟩ := dec_int _ h0
  obtain ⟨u, hu⟩ := rd_bool Try.underlying4 h1
  simp at hu hx
  subst hu hx
  exact ⟨⟨x, u⟩, rfl, wx⟩
theorem dec_req (cs : List Value) (h : Rd enc Try.prog W 58 cs) : ∃ b : Req, cs = b.enc ∧ b.wf := by
  obtain ⟨hl, hf⟩ := rd_struct Try.underlying58 h
  rw [cells58] at hl
  obtain ⟨a, b, c, d, rfl⟩ := four hl
  have h0 := rd_fld hf 0 (t := 3) (o := 0) rfl cells3
  have h1 := rd_fld hf 1 (t := 3) (o := 1) rfl cells3
  have h2 := rd_fld hf 2 (t := 3) (o := 2) rfl cells3
  have h3 := rd_fld hf 3 (t := 3) (o := 3) rfl cells3
  obtain ⟨x, hx, wx⟩ := dec_int _ h0
  obtain ⟨y, hy, wy⟩ := dec_int _ h1
  obtain ⟨z, hz, wz⟩ := dec_int _ h2
  obtain ⟨u, hu, wu⟩ := dec_int _ h3
  simp at hu hx hy hz
  subst hu hx hy hz
  exact ⟨⟨x, y, z, u⟩, rfl, wx, wy, wz, wu⟩
set_option maxRecDepth 100000 in
/-- A room that comes in. -/
theorem arg_room {base : Nat} {v : Value} {d : DataW H} {p : List MemPlace} (hok : Value.okWide Try.prog W .any base 27 v) (h : DataW.Trod enc Try.prog W 0 (fun _ => true) true 27 v d p) (hw : ∀ n ∈ d.weights Try.prog 27, n ≤ reachBytes) :
    ∃ vb vr vs vq r, v = .agg #[vb, vr, vs, vq] ∧ RoomR (heapOf W) vb vr vs vq r ∧ r.wf := by
  obtain ⟨cs, rfl, hsz⟩ := Go.WideShapes.okWide_struct Try.underlying27 hok
  have hr := rd_of h hw
  obtain ⟨hl, hf⟩ := rd_struct Try.underlying27 hr
  rw [cells27] at hl
  obtain ⟨a, b, c, e, hcs⟩ := four hl
  have hcs' : cs = #[a, b, c, e] := by
    have : cs.toList = [a, b, c, e] := hcs
    exact Array.ext' (by simpa using this)
  subst hcs'
  have h0 := rd_fld hf 0 (t := 22) (o := 0) rfl cells22
  have h1 := rd_fld hf 1 (t := 23) (o := 1) rfl cells23
  have h2 := rd_fld hf 2 (t := 24) (o := 2) rfl cells24
  have h3 := rd_fld hf 3 (t := 25) (o := 3) rfl cells25
  obtain ⟨xb, sb, wb⟩ := rd_slice Try.underlying22 cells62 (by decide) (of_decide_eq_true (by kernel_rfl)) (fun _ => rfl) dec_book h0
  obtain ⟨xr, sr, wr⟩ := rd_slice Try.underlying23 cells64 (by decide) (of_decide_eq_true (by kernel_rfl)) (fun _ => rfl) dec_rdr h1
  obtain ⟨xs, ss, ws⟩ := rd_slice Try.underlying24 cells66 (by decide) (of_decide_eq_true (by kernel_rfl)) (fun _ => rfl) dec_seat h2
  obtain ⟨xq, sq, wq⟩ := rd_slice Try.underlying25 cells58 (by decide) (of_decide_eq_true (by kernel_rfl)) (fun _ => rfl) dec_req h3
  exact ⟨a, b, c, e, ⟨xb, xr, xs, xq⟩, rfl, ⟨sb, sr, ss, sq⟩, ⟨wb, wr, ws, wq⟩⟩
theorem nat_u8 {z : Int} (h : (Lit.int .u8 z).wf = true) : ∃ n : Nat, z = n ∧ n < 256 := by
  simp [Lit.wf, IntKind.min, IntKind.max, IntKind.signed, IntKind.bits] at h
  exact ⟨z.toNat, by omega, by omega⟩
theorem dec_u8 (cs : List Value) (h : Rd enc Try.prog W 5 cs) : ∃ n : Nat, cs = u8E n ∧ n < 256 := by
  obtain ⟨z, rfl, hz⟩ := rd_int Try.underlying5 h
  obtain ⟨n, rfl, hn⟩ := nat_u8 hz
  exact ⟨n, rfl, hn⟩
theorem okWide_array {P : Program} {r : Reach} {base : Nat} {t : TypeId} {v : Value} {n : Nat} {e : TypeId} (ht : P.underlying t = some (.array n e)) (h : Value.okWide P W r base t v) : ∃ cs, v = .agg cs ∧ cs.size = P.cellsOf t := by
  simp only [Value.okWide, ht] at h
  obtain ⟨cs, h1, h2, _⟩ := h
  exact ⟨cs, h1, h2⟩
set_option maxRecDepth 100000 in
theorem arg_bits {base : Nat} {v : Value} {d : DataW H} {p : List MemPlace} (hok : Value.okWide Try.prog W .any base 77 v) (h : DataW.Trod enc Try.prog W 0 (fun _ => true) true 77 v d p) (hw : ∀ n ∈ d.weights Try.prog 77, n ≤ reachBytes) :
    ∃ x y : Nat, v = .agg #[.int .u8 (x : Int), .int .u8 (y : Int)] ∧ x < 256 ∧ y < 256 := by
  obtain ⟨cs, rfl, hsz⟩ := okWide_array Try.underlying77 hok
  have hr := rd_of h hw
  obtain ⟨hl, hf⟩ := rd_array Try.underlying77 hr
  rw [cells77] at hl
  obtain ⟨a, b, hcs⟩ := two hl
  obtain rfl : cs = #[a, b] := by
    have : cs.toList = [a, b] := hcs
    exact Array.ext' (by simpa using this)
  have h0 := hf 0 (by decide)
  have h1 := hf 1 (by decide)
  simp only [cells5, Value.cells] at h0 h1
  obtain ⟨x, hx, wx⟩ := dec_u8 _ h0
  obtain ⟨y, hy, wy⟩ := dec_u8 _ h1
  simp [u8E] at hx hy
  subst hx hy
  exact ⟨x, y, rfl, wx, wy⟩
theorem three {α : Type} {l : List α} (h : l.length = 3) : ∃ a b c, l = [a, b, c] := by
  match l, h with
  | [a, b, c], _ => exact ⟨a, b, c, rfl⟩
theorem eight {α : Type} {l : List α} (h : l.length = 8) : ∃ a b c d e f g i, l = [a, b, c, d, e, f, g, i] := by
  match l, h with
  | [a, b, c, d, e, f, g, i], _ => exact ⟨a, b, c, d, e, f, g, i, rfl⟩
theorem dec_u8s (cs : List Value) (h : Rd enc Try.prog W 80 cs) : ∃ x y z : Nat, cs = [.int .u8 (x : Int), .int .u8 (y : Int), .int .u8 (z : Int)] ∧ x < 256 ∧ y < 256 ∧ z < 256 := by
  obtain ⟨hl, hf⟩ := rd_array Try.underlying80 h
  rw [cells80] at hl
  obtain ⟨a, b, c, rfl⟩ := three hl
  have h0 := hf 0 (by decide)
  have h1 := hf 1 (by decide)
  have h2 := hf 2 (by decide)
  simp only [cells5] at h0 h1 h2
  obtain ⟨x, hx, wx⟩ := dec_u8 _ h0
  obtain ⟨y, hy, wy⟩ := dec_u8 _ h1
  obtain ⟨z, hz, wz⟩ := dec_u8 _ h2
  simp [u8E] at hx hy hz
  subst hx hy hz
  exact ⟨x, y, z, rfl, wx, wy, wz⟩
set_option maxRecDepth 100000 in
theorem arg_easier {base : Nat} {v : Value} {d : DataW H} {p : List MemPlace} (hok : Value.okWide Try.prog W .any base 82 v) (h : DataW.Trod enc Try.prog W 0 (fun _ => true) true 82 v d p) (hw : ∀ n ∈ d.weights Try.prog 82, n ≤ reachBytes) :
    ∃ (sl : Int) (ss : Bool) (u0 u1 u2 y0 y1 y2 : Nat), v = .agg #[.int .i64 sl, .bool ss, .int .u8 (u0 : Int), .int .u8 (u1 : Int), .int .u8 (u2 : Int), .int .u8 (y0 : Int), .int .u8 (y1 : Int), .int .u8 (y2 : Int)] ∧ (u0 < 256 ∧ u1 < 256 ∧ u2 < 256) ∧ y0 < 256 ∧ y1 < 256 ∧ y2 < 256 := by
  obtain ⟨cs, rfl, hsz⟩ := Go.WideShapes.okWide_struct Try.underlying82 hok
  have hr := rd_of h hw
  obtain ⟨hl, hf⟩ := rd_struct Try.underlying82 hr
  rw [cells82] at hl
  obtain ⟨a, b, c, e, f, g, i, k, hcs⟩ := eight hl
  have hcs' : cs = #[a, b, c, e, f, g, i, k] := by
    have : cs.toList = [a, b, c, e, f, g, i, k] := hcs
    exact Array.ext' (by simpa using this)
  subst hcs'
  have h0 := rd_fld hf 0 (t := 66) (o := 0) rfl cells66
  have h1 := rd_fld hf 1 (t := 80) (o := 2) rfl cells80
  have h2 := rd_fld hf 2 (t := 80) (o := 5) rfl cells80
  obtain ⟨⟨sl, ss⟩, hs, -⟩ := dec_seat _ h0
  obtain ⟨u0, u1, u2, hu, wu⟩ := dec_u8s _ h1
  obtain ⟨y0, y1, y2, hy, wy⟩ := dec_u8s _ h2
  simp [Value.cells, Seat.enc] at hs hu hy
  obtain ⟨rfl, rfl⟩ := hs
  obtain ⟨rfl, rfl, rfl⟩ := hu
  obtain ⟨rfl, rfl, rfl⟩ := hy
  exact ⟨sl, ss, u0, u1, u2, y0, y1, y2, rfl, wu, wy⟩
end
end Go.Proofs.Ytbcjfkcpfjccdaa
namespace Go.Proofs.Ytbcjfkcpfjccdaa
open Go.ChangeShapes Go.WideShapes Go.ChangeAt Go.RowKit
theorem ownKnob0 : ownKnob Try.prog.godebug = none := by kernel_rfl
theorem laidOut : laidOutB Try.prog = true := by kernel_rfl
theorem weights_at {H : Type} {P : Program} {ts : List TypeId} {ds : List (DataW H)} (h : (DataW.weightsEach P ts ds).all (· ≤ reachBytes) = true) {j : Nat} {t : TypeId} {d : DataW H} (ht : ts[j]? = some t) (hd : ds[j]? = some d) : ∀ n ∈ d.weights P t, n ≤ reachBytes := by
  intro n hn
  have := List.all_eq_true.1 h n (DataW.weights_mem_each ht hd n hn)
  simpa using this
end Go.Proofs.Ytbcjfkcpfjccdaa
namespace Go.Proofs.Ytbcjfkcpfjccdaa
open Go.RowKit
theorem bd_100 : Body Try.prog 100 := body_of (by kernel_rfl)
theorem bd_101 : Body Try.prog 101 := body_of (by kernel_rfl)
theorem bd_102 : Body Try.prog 102 := body_of (by kernel_rfl)
theorem bd_105 : Body Try.prog 105 := body_of (by kernel_rfl)
theorem bd_106 : Body Try.prog 106 := body_of (by kernel_rfl)
theorem bd_83 : Body Try.prog 83 := body_of (by kernel_rfl)
theorem bd_84 : Body Try.prog 84 := body_of (by kernel_rfl)
theorem fd_60_0 : FieldT Try.prog 60 0 0 := fieldT_of (by kernel_rfl)
theorem fd_60_1 : FieldT Try.prog 60 1 1 := fieldT_of (by kernel_rfl)
theorem one_3 : OneT Try.prog 3 := oneT_of (by kernel_rfl)
theorem one_9 : OneT Try.prog 9 := oneT_of (by kernel_rfl)
theorem sl_136 : SliceT Try.prog 136 9 1 := sliceT_of (by kernel_rfl)
theorem sl_29 : SliceT Try.prog 29 3 1 := sliceT_of (by kernel_rfl)
set_option maxRecDepth 100000 in
theorem letter_ok {F : Heap} (c : UInt8) : Ok Try.prog 105 [.int .u8 (c.toNat : Int)].toArray F fun r _ => r = .bool (letterB c) := by
  refine Ok.intro Try.func105 rfl Try.ntmps105 rfl fun w0 => ?_
  by_cases h1 : 97 ≤ (c.toNat : Int)
  ·
   refine WC_seq ?_
   refine WC_reg fun ds => ?_
   refine WL_q rfl (q_assign lk_const) ?_
   refine WL_nil ?_
   refine then_n ?_
   refine WC_seq ?_
   refine WC_reg fun ds => ?_
   refine WL_q rfl (q_move (lk1 rfl <| lk_entry rfl)) ?_
   refine WL_q rfl (q_geq (lk0) lk_const) ?_
   refine WL_q rfl (q_move (lk0)) ?_
   refine WL_want rfl rfl (lk0) (by first | rfl | exact decide_eq_true (by omega)) ?_
   refine WL_q rfl (q_move (lk4 rfl <| lk_entry rfl)) ?_
   refine WL_want rfl rfl (lk1 rfl <| lk0) (by first | rfl | exact decide_eq_true (by omega)) ?_
   refine WL_q rfl (q_leq (lk0) lk_const) ?_
   refine WL_q rfl (q_pick_true (lk2 rfl <| lk0) (by first | rfl | exact decide_eq_true (by omega)) (lk0)) ?_
   refine WL_q rfl (q_assign (lk0)) ?_
   refine WL_nil ?_
   refine then_n ?_
   by_cases h2 : (c.toNat : Int) ≤ 122
   ·
    refine WC_ret ?_
    refine post_ret rfl (.tmp (lk0) .nil) ?_
    show _ = _; simp [outOf, letterB, h1, h2]
   ·
    refine WC_ret ?_
    refine post_ret rfl (.tmp (lk0) .nil) ?_
    show _ = _; simp [outOf, letterB, h1, h2]
  ·
   refine WC_seq ?_
   refine WC_reg fun ds => ?_
   refine WL_q rfl (q_assign lk_const) ?_
   refine WL_nil ?_
   refine then_n ?_
   refine WC_seq ?_
   refine WC_reg fun ds => ?_
   refine WL_q rfl (q_move (lk1 rfl <| lk_entry rfl)) ?_
   refine WL_q rfl (q_geq (lk0) lk_const) ?_
   refine WL_q rfl (q_move (lk0)) ?_
   refine WL_pass rfl rfl (lk0) (.inl (congrArg Value.bool (by first | rfl | exact decide_eq_false (by omega)))) rfl ?_
   refine WL_pass rfl rfl (lk1 rfl <| lk0) (.inl (congrArg Value.bool (by first | rfl | exact decide_eq_false (by omega)))) rfl ?_
   refine WL_q rfl (q_pick_false (lk2 rfl <| lk0) (by first | rfl | exact decide_eq_false (by omega)) lk_const) ?_
   refine WL_q rfl (q_assign (lk0)) ?_
   refine WL_nil ?_
   refine then_n ?_
   refine WC_ret ?_
   refine post_ret rfl (.tmp (lk0) .nil) ?_
   show _ = _; simp [outOf, letterB, h1]
set_option maxRecDepth 100000 in
theorem digit_ok {F : Heap} (c : UInt8) : Ok Try.prog 106 [.int .u8 (c.toNat : Int)].toArray F fun r _ => r = .bool (digitB c) := by
  refine Ok.intro Try.func106 rfl Try.ntmps106 rfl fun w0 => ?_
  by_cases h1 : 48 ≤ (c.toNat : Int)
  ·
   refine WC_seq ?_
   refine WC_reg fun ds => ?_
   refine WL_q rfl (q_assign lk_const) ?_
   refine WL_nil ?_
   refine then_n ?_
   refine WC_seq ?_
   refine WC_reg fun ds => ?_
   refine WL_q rfl (q_move (lk1 rfl <| lk_entry rfl)) ?_
   refine WL_q rfl (q_geq (lk0) lk_const) ?_
   refine WL_q rfl (q_move (lk0)) ?_
   refine WL_want rfl rfl (lk0) (by first | rfl | exact decide_eq_true (by omega)) ?_
   refine WL_q rfl (q_move (lk4 rfl <| lk_entry rfl)) ?_
   refine WL_want rfl rfl (lk1 rfl <| lk0) (by first | rfl | exact decide_eq_true (by omega)) ?_
   refine WL_q rfl (q_leq (lk0) lk_const) ?_
   refine WL_q rfl (q_pick_true (lk2 rfl <| lk0) (by first | rfl | exact decide_eq_true (by omega)) (lk0)) ?_
   refine WL_q rfl (q_assign (lk0)) ?_
   refine WL_nil ?_
   refine then_n ?_
   by_cases h2 : (c.toNat : Int) ≤ 57
   ·
    refine WC_ret ?_
    refine post_ret rfl (.tmp (lk0) .nil) ?_
    show _ = _; simp [outOf, digitB, h1, h2]
   ·
    refine WC_ret ?_
    refine post_ret rfl (.tmp (lk0) .nil) ?_
    show _ = _; simp [outOf, digitB, h1, h2]
  ·
   refine WC_seq ?_
   refine WC_reg fun ds => ?_
   refine WL_q rfl (q_assign lk_const) ?_
   refine WL_nil ?_
   refine then_n ?_
   refine WC_seq ?_
   refine WC_reg fun ds => ?_
   refine WL_q rfl (q_move (lk1 rfl <| lk_entry rfl)) ?_
   refine WL_q rfl (q_geq (lk0) lk_const) ?_
   refine WL_q rfl (q_move (lk0)) ?_
   refine WL_pass rfl rfl (lk0) (.inl (congrArg Value.bool (by first | rfl | exact decide_eq_false (by omega)))) rfl ?_
   refine WL_pass rfl rfl (lk1 rfl <| lk0) (.inl (congrArg Value.bool (by first | rfl | exact decide_eq_false (by omega)))) rfl ?_
   refine WL_q rfl (q_pick_false (lk2 rfl <| lk0) (by first | rfl | exact decide_eq_false (by omega)) lk_const) ?_
   refine WL_q rfl (q_assign (lk0)) ?_
   refine WL_nil ?_
   refine then_n ?_
   refine WC_ret ?_
   refine post_ret rfl (.tmp (lk0) .nil) ?_
   show _ = _; simp [outOf, digitB, h1]
set_option maxRecDepth 100000 in
theorem in10_ok {F : Heap} (z lo hi : Int) : Ok Try.prog 56 [.int .i64 z, .int .i64 lo, .int .i64 hi].toArray F fun r _ => r = .bool (inB lo hi z) := by
  refine Ok.intro Try.func56 rfl Try.ntmps56 rfl fun w0 => ?_
  by_cases h1 : lo ≤ z
  ·
   refine WC_seq ?_
   refine WC_reg fun ds => ?_
   refine WL_q rfl (q_assign lk_const) ?_
   refine WL_nil ?_
   refine then_n ?_
   refine WC_seq ?_
   refine WC_reg fun ds => ?_
   refine WL_q rfl (q_move (lk1 rfl <| lk_entry rfl)) ?_
   refine WL_q rfl (q_move (lk2 rfl <| lk_entry rfl)) ?_
   refine WL_q rfl (q_geq (lk1 rfl <| lk0) (lk0)) ?_
   refine WL_q rfl (q_move (lk0)) ?_
   refine WL_want rfl rfl (lk0) (by first | rfl | exact decide_eq_true (by omega)) ?_
   refine WL_q rfl (q_move (lk4 rfl <| lk1 rfl <| lk_entry rfl)) ?_
   refine WL_want rfl rfl (lk1 rfl <| lk0) (by first | rfl | exact decide_eq_true (by omega)) ?_
   refine WL_q rfl (q_move (lk4 rfl <| lk2 rfl <| lk_entry rfl)) ?_
   refine WL_want rfl rfl (lk2 rfl <| lk0) (by first | rfl | exact decide_eq_true (by omega)) ?_
   refine WL_q rfl (q_leq (lk1 rfl <| lk0) (lk0)) ?_
   refine WL_q rfl (q_pick_true (lk2 rfl <| lk1 rfl <| lk0) (by first | rfl | exact decide_eq_true (by omega)) (lk0)) ?_
   refine WL_q rfl (q_assign (lk0)) ?_
   refine WL_nil ?_
   refine then_n ?_
   by_cases h2 : z ≤ hi
   ·
    refine WC_ret ?_
    refine post_ret rfl (.tmp (lk0) .nil) ?_
    show _ = _; simp [outOf, inB, h1, h2]
   ·
    refine WC_ret ?_
    refine post_ret rfl (.tmp (lk0) .nil) ?_
    show _ = _; simp [outOf, inB, h1, h2]
  ·
   refine WC_seq ?_
   refine WC_reg fun ds => ?_
   refine WL_q rfl (q_assign lk_const) ?_
   refine WL_nil ?_
   refine then_n ?_
   refine WC_seq ?_
   refine WC_reg fun ds => ?_
   refine WL_q rfl (q_move (lk1 rfl <| lk_entry rfl)) ?_
   refine WL_q rfl (q_move (lk2 rfl <| lk_entry rfl)) ?_
   refine WL_q rfl (q_geq (lk1 rfl <| lk0) (lk0)) ?_
   refine WL_q rfl (q_move (lk0)) ?_
   refine WL_pass rfl rfl (lk0) (.inl (congrArg Value.bool (by first | rfl | exact decide_eq_false (by omega)))) rfl ?_
   refine WL_pass rfl rfl (lk1 rfl <| lk0) (.inl (congrArg Value.bool (by first | rfl | exact decide_eq_false (by omega)))) rfl ?_
   refine WL_pass rfl rfl (lk2 rfl <| lk0) (.inl (congrArg Value.bool (by first | rfl | exact decide_eq_false (by omega)))) rfl ?_
   refine WL_q rfl (q_pick_false (lk2 rfl <| lk1 rfl <| lk0) (by first | rfl | exact decide_eq_false (by omega)) lk_const) ?_
   refine WL_q rfl (q_assign (lk0)) ?_
   refine WL_nil ?_
   refine then_n ?_
   refine WC_ret ?_
   refine post_ret rfl (.tmp (lk0) .nil) ?_
   show _ = _; simp [outOf, inB, h1]
set_option maxRecDepth 100000 in
theorem refName_ok {F : Heap} (s : ByteArray) : Ok Try.prog 102 [.string s].toArray F fun r _ => r = .bool (nameOk s) := by
  refine Ok.intro Try.func102 rfl Try.ntmps102 rfl fun w0 => ?_
  by_cases h0 : (s.size : Int) = 0
  ·
   refine WC_seq ?_
   refine WC_reg fun ds => ?_
   refine WL_q rfl (q_assign lk_const) ?_
   refine WL_nil ?_
   refine then_n ?_
   refine WC_seq ?_
   refine WC_seq ?_
   refine WC_reg fun ds => ?_
   refine WL_q rfl (q_move (lk1 rfl <| lk_entry rfl)) ?_
   refine WL_q rfl (q_lenS Try.underlying9 (lk0)) ?_
   refine WL_q rfl (q_eql (lk0) lk_const) ?_
   refine WL_q rfl (q_move (lk0)) ?_
   refine WL_pass rfl rfl (lk0) (.inl (congrArg Value.bool (by first | rfl | exact decide_eq_true (by omega)))) rfl ?_
   refine WL_pass rfl rfl (lk1 rfl <| lk0) (.inl (congrArg Value.bool (by first | rfl | exact decide_eq_true (by omega)))) rfl ?_
   refine WL_pass rfl rfl (lk2 rfl <| lk0) (.inl (congrArg Value.bool (by first | rfl | exact decide_eq_true (by omega)))) rfl ?_
   refine WL_q rfl (q_pick_true (lk2 rfl <| lk1 rfl <| lk0) (by first | rfl | exact decide_eq_true (by omega)) lk_const) ?_
   refine WL_nil ?_
   refine then_n ?_
   refine WC_if_true (lk0) (by first | rfl | exact decide_eq_true (by omega)) ?_
   refine WC_seq ?_
   refine WC_reg fun ds => ?_
   refine WL_q rfl (q_assign lk_const) ?_
   refine WL_nil ?_
   refine then_n ?_
   refine WC_ret ?_
   refine then_r ?_
   refine post_ret rfl (.tmp (lk0) .nil) ?_
   show _ = _
   rw [nameOk_len (by omega)]; rfl
  ·
   refine WC_seq ?_
   refine WC_reg fun ds => ?_
   refine WL_q rfl (q_assign lk_const) ?_
   refine WL_nil ?_
   refine then_n ?_
   refine WC_seq ?_
   refine WC_seq ?_
   refine WC_reg fun ds => ?_
   refine WL_q rfl (q_move (lk1 rfl <| lk_entry rfl)) ?_
   refine WL_q rfl (q_lenS Try.underlying9 (lk0)) ?_
   refine WL_q rfl (q_eql (lk0) lk_const) ?_
   refine WL_q rfl (q_move (lk0)) ?_
   refine WL_want rfl rfl (lk0) (by first | rfl | exact decide_eq_false (by omega)) ?_
   refine WL_q rfl (q_move (lk4 rfl <| lk1 rfl <| lk_entry rfl)) ?_
   refine WL_want rfl rfl (lk1 rfl <| lk0) (by first | rfl | exact decide_eq_false (by omega)) ?_
   refine WL_q rfl (q_lenS Try.underlying9 (lk0)) ?_
   refine WL_want rfl rfl (lk2 rfl <| lk0) (by first | rfl | exact decide_eq_false (by omega)) ?_
   refine WL_q rfl (q_gtr (lk0) lk_const) ?_
   refine WL_q rfl (q_pick_false (lk2 rfl <| lk1 rfl <| lk0) (by first | rfl | exact decide_eq_false (by omega)) (lk0)) ?_
   refine WL_nil ?_
   refine then_n ?_
   by_cases h16 : (16 : Int) < s.size
   ·
    refine WC_if_true (lk0) (by first | rfl | exact decide_eq_true (by omega)) ?_
    refine WC_seq ?_
    refine WC_reg fun ds => ?_
    refine WL_q rfl (q_assign lk_const) ?_
    refine WL_nil ?_
    refine then_n ?_
    refine WC_ret ?_
    refine then_r ?_
    refine post_ret rfl (.tmp (lk0) .nil) ?_
    show _ = _
    rw [nameOk_len (by omega)]; rfl
   ·
    refine WC_if_false (lk0) (by first | rfl | exact decide_eq_false (by omega)) ?_
    refine WC_skip ?_
    refine then_n ?_
    refine WC_seq ?_
    refine WC_seq ?_
    refine WC_reg fun ds => ?_
    refine WL_q rfl (q_assign lk_const) ?_
    refine WL_nil ?_
    refine then_n ?_
    refine WC_block ?_
    refine WC_loopN [2, 3, 12, 13, 14, 15, 16, 17, 18, 19, 20, 21, 22, 23, 24, 25, 26, 27, 28, 29, 30, 31, 32, 33, 34, 35, 36, 37, 38, 39] (fun m e σ => ∃ k : Nat, m + k = s.size ∧ e 3 = .int .i64 k ∧ σ = ⟨F, []⟩ ∧ ∀ j (hj : j < s.size), j < k → chOk j s[j] = true) (s.size) ?_ ?_
    · exact ⟨0, by omega, (lk0), rfl, fun j hj h => absurd h (by omega)⟩
    ·
     rintro m e _ ⟨k, hm, hs3, rfl, hno⟩
     by_cases hlt : k < s.size
     ·
      refine WC_seq ?_
      refine WC_seq ?_
      refine WC_reg fun ds => ?_
      refine WL_q rfl (q_move (lk_in rfl hs3)) ?_
      refine WL_q rfl (q_move (lk1 rfl <| lk_off rfl <| lk8 rfl <| lk2 rfl <| lk_entry rfl)) ?_
      refine WL_q rfl (q_lenS Try.underlying9 (lk0)) ?_
      refine WL_q rfl (q_lss (lk2 rfl <| lk0) (lk0)) ?_
      refine WL_nil ?_
      refine then_n ?_
      refine WC_if_true (lk0) (by first | rfl | exact decide_eq_true (by omega)) ?_
      by_cases hl : letterB s[k] = true
      ·
       have hch : chOk k s[k] = true := by unfold chOk; rw [hl]; rfl
       refine WC_skip ?_
       refine then_n ?_
       refine WC_seq ?_
       refine WC_block ?_
       refine WC_seq ?_
       refine WC_reg fun ds => ?_
       refine WL_q rfl (q_move (lk4 rfl <| lk_off rfl <| lk8 rfl <| lk2 rfl <| lk_entry rfl)) ?_
       refine WL_q rfl (q_move (lk4 rfl <| lk1 rfl <| lk_in rfl hs3)) ?_
       refine WL_q rfl (q_indexS Try.underlying9 (lk1 rfl <| lk0) (lk0) rfl hlt) ?_
       refine WL_c rfl (q_call bd_105 lk_func (.cons (lk0) .nil) (letter_ok _) (fun _ _ h => h)) ?_
       refine WL_q rfl (q_not (lk0)) ?_
       refine WL_q rfl (q_move (lk0)) ?_
       refine WL_pass rfl rfl (lk0) (.inl (congrArg Value.bool (by first | rfl | (simp [hl]; done)))) rfl ?_
       refine WL_pass rfl rfl (lk1 rfl <| lk0) (.inl (congrArg Value.bool (by first | rfl | (simp [hl]; done)))) rfl ?_
       refine WL_pass rfl rfl (lk2 rfl <| lk0) (.inl (congrArg Value.bool (by first | rfl | (simp [hl]; done)))) rfl ?_
       refine WL_pass rfl rfl (lk0) (.inr rfl) rfl ?_
       refine WL_pass rfl rfl (lk1 rfl <| lk0) (.inr rfl) rfl ?_
       refine WL_pass rfl rfl (lk2 rfl <| lk0) (.inr rfl) rfl ?_
       refine WL_pass rfl rfl (lk2 rfl <| lk1 rfl <| lk0) (.inr rfl) rfl ?_
       refine WL_pass rfl rfl (lk4 rfl <| lk0) (.inr rfl) rfl ?_
       refine WL_pass rfl rfl (lk4 rfl <| lk1 rfl <| lk0) (.inr rfl) rfl ?_
       refine WL_pass rfl rfl (lk0) (.inr rfl) rfl ?_
       refine WL_pass rfl rfl (lk1 rfl <| lk0) (.inr rfl) rfl ?_
       refine WL_pass rfl rfl (lk2 rfl <| lk0) (.inr rfl) rfl ?_
       refine WL_pass rfl rfl (lk2 rfl <| lk1 rfl <| lk0) (.inr rfl) rfl ?_
       refine WL_pass rfl rfl (lk8 rfl <| lk2 rfl <| lk0) (.inr rfl) rfl ?_
       refine WL_pass rfl rfl (lk8 rfl <| lk4 rfl <| lk2 rfl <| lk0) (.inl (congrArg Value.bool (by first | rfl | (simp [hl]; done)))) rfl ?_
       refine WL_q rfl (q_pick_false (lk8 rfl <| lk4 rfl <| lk2 rfl <| lk1 rfl <| lk0) (by first | rfl | (simp [hl]; done)) lk_const) ?_
       refine WL_nil ?_
       refine then_n ?_
       refine WC_if_false (lk0) (by first | rfl | (simp [hl]; done)) ?_
       refine WC_skip ?_
       refine block_n (then_n ?_)
       refine WC_reg fun ds => ?_
       refine WL_q rfl (q_move (lk16 rfl <| lk8 rfl <| lk2 rfl <| lk_in rfl hs3)) ?_
       refine WL_q rfl (q_add (lk0) lk_const rfl (by omega) (by omega)) ?_
       refine WL_q rfl (q_assign (lk0)) ?_
       refine WL_nil ?_
       refine then_n ⟨_, m - 1, Off.eq (ou16 rfl <| ou8 rfl <| ou4 rfl <| ou1 rfl <| off_over), by omega, ?_⟩
       refine ⟨k + 1, by omega, (lk0), rfl, fun j hj hjk => ?_⟩
       rcases Nat.lt_succ_iff_lt_or_eq.1 hjk with hjk | rfl
       · exact hno j hj hjk
       · exact hch
      ·
       replace hl : letterB s[k] = false := by simpa using hl
       refine WC_skip ?_
       refine then_n ?_
       refine WC_seq ?_
       refine WC_block ?_
       refine WC_seq ?_
       refine WC_reg fun ds => ?_
       refine WL_q rfl (q_move (lk4 rfl <| lk_off rfl <| lk8 rfl <| lk2 rfl <| lk_entry rfl)) ?_
       refine WL_q rfl (q_move (lk4 rfl <| lk1 rfl <| lk_in rfl hs3)) ?_
       refine WL_q rfl (q_indexS Try.underlying9 (lk1 rfl <| lk0) (lk0) rfl hlt) ?_
       refine WL_c rfl (q_call bd_105 lk_func (.cons (lk0) .nil) (letter_ok _) (fun _ _ h => h)) ?_
       refine WL_q rfl (q_not (lk0)) ?_
       refine WL_q rfl (q_move (lk0)) ?_
       refine WL_want rfl rfl (lk0) (by first | rfl | (simp [hl]; done)) ?_
       refine WL_q rfl (q_move (lk8 rfl <| lk2 rfl <| lk_in rfl hs3)) ?_
       refine WL_want rfl rfl (lk1 rfl <| lk0) (by first | rfl | (simp [hl]; done)) ?_
       refine WL_q rfl (q_eql (lk0) lk_const) ?_
       refine WL_want rfl rfl (lk2 rfl <| lk0) (by first | rfl | (simp [hl]; done)) ?_
       refine WL_q rfl (q_move (lk0)) ?_
       by_cases hz : k = 0
       ·
        have hch : chOk k s[k] = false := by unfold chOk; rw [hl]; simp [hz]
        refine WL_pass rfl rfl (lk0) (.inl (congrArg Value.bool (by first | rfl | exact decide_eq_true (by omega)))) rfl ?_
        refine WL_pass rfl rfl (lk1 rfl <| lk0) (.inl (congrArg Value.bool (by first | rfl | exact decide_eq_true (by omega)))) rfl ?_
        refine WL_pass rfl rfl (lk2 rfl <| lk0) (.inl (congrArg Value.bool (by first | rfl | exact decide_eq_true (by omega)))) rfl ?_
        refine WL_pass rfl rfl (lk2 rfl <| lk1 rfl <| lk0) (.inl (congrArg Value.bool (by first | rfl | exact decide_eq_true (by omega)))) rfl ?_
        refine WL_pass rfl rfl (lk4 rfl <| lk0) (.inl (congrArg Value.bool (by first | rfl | exact decide_eq_true (by omega)))) rfl ?_
        refine WL_pass rfl rfl (lk4 rfl <| lk1 rfl <| lk0) (.inl (congrArg Value.bool (by first | rfl | exact decide_eq_true (by omega)))) rfl ?_
        refine WL_pass rfl rfl (lk0) (.inr rfl) rfl ?_
        refine WL_pass rfl rfl (lk1 rfl <| lk0) (.inr rfl) rfl ?_
        refine WL_pass rfl rfl (lk2 rfl <| lk0) (.inr rfl) rfl ?_
        refine WL_pass rfl rfl (lk2 rfl <| lk1 rfl <| lk0) (.inr rfl) rfl ?_
        refine WL_pass rfl rfl (lk8 rfl <| lk2 rfl <| lk0) (.inl (congrArg Value.bool (by first | rfl | exact decide_eq_true (by omega)))) rfl ?_
        refine WL_want rfl rfl (lk8 rfl <| lk4 rfl <| lk2 rfl <| lk0) (by first | rfl | (simp [hl]; done)) ?_
        refine WL_q rfl (q_pick_true (lk8 rfl <| lk2 rfl <| lk1 rfl <| lk0) (by first | rfl | exact decide_eq_true (by omega)) lk_const) ?_
        refine WL_q rfl (q_pick_true (lk8 rfl <| lk4 rfl <| lk2 rfl <| lk1 rfl <| lk0) (by first | rfl | (simp [hl]; done)) (lk0)) ?_
        refine WL_nil ?_
        refine then_n ?_
        refine WC_if_true (lk0) (by first | rfl | exact decide_eq_true (by omega)) ?_
        refine WC_seq ?_
        refine WC_reg fun ds => ?_
        refine WL_q rfl (q_assign lk_const) ?_
        refine WL_nil ?_
        refine then_n ?_
        refine WC_ret ?_
        refine block_r (then_r (then_r (block_r (then_r ?_))))
        refine post_ret rfl (.tmp (lk0) .nil) ?_
        show _ = _
        rw [nameOk_bad (i := k) hlt hch]; rfl
       ·
        refine WL_want rfl rfl (lk0) (by first | rfl | exact decide_eq_false (by omega)) ?_
        refine WL_q rfl (q_move (lk8 rfl <| lk4 rfl <| lk1 rfl <| lk_off rfl <| lk8 rfl <| lk2 rfl <| lk_entry rfl)) ?_
        refine WL_want rfl rfl (lk1 rfl <| lk0) (by first | rfl | exact decide_eq_false (by omega)) ?_
        refine WL_q rfl (q_move (lk8 rfl <| lk4 rfl <| lk2 rfl <| lk_in rfl hs3)) ?_
        refine WL_want rfl rfl (lk2 rfl <| lk0) (by first | rfl | exact decide_eq_false (by omega)) ?_
        refine WL_q rfl (q_indexS Try.underlying9 (lk1 rfl <| lk0) (lk0) rfl hlt) ?_
        refine WL_want rfl rfl (lk2 rfl <| lk1 rfl <| lk0) (by first | rfl | exact decide_eq_false (by omega)) ?_
        refine WL_c rfl (q_call bd_106 lk_func (.cons (lk0) .nil) (digit_ok _) (fun _ _ h => h)) ?_
        refine WL_want rfl rfl (lk4 rfl <| lk0) (by first | rfl | exact decide_eq_false (by omega)) ?_
        refine WL_q rfl (q_not (lk0)) ?_
        refine WL_want rfl rfl (lk4 rfl <| lk1 rfl <| lk0) (by first | rfl | exact decide_eq_false (by omega)) ?_
        refine WL_q rfl (q_move (lk0)) ?_
        by_cases hd : digitB s[k] = true
        ·
         have hch : chOk k s[k] = true := by unfold chOk; rw [hd]; simp [hz]
         refine WL_pass rfl rfl (lk0) (.inl (congrArg Value.bool (by first | rfl | (simp [hd]; done)))) rfl ?_
         refine WL_pass rfl rfl (lk1 rfl <| lk0) (.inl (congrArg Value.bool (by first | rfl | (simp [hd]; done)))) rfl ?_
         refine WL_pass rfl rfl (lk2 rfl <| lk0) (.inl (congrArg Value.bool (by first | rfl | (simp [hd]; done)))) rfl ?_
         refine WL_pass rfl rfl (lk2 rfl <| lk1 rfl <| lk0) (.inl (congrArg Value.bool (by first | rfl | (simp [hd]; done)))) rfl ?_
         refine WL_want rfl rfl (lk8 rfl <| lk2 rfl <| lk0) (by first | rfl | exact decide_eq_false (by omega)) ?_
         refine WL_q rfl (q_pick_false (lk4 rfl <| lk0) (by first | rfl | (simp [hd]; done)) lk_const) ?_
         refine WL_want rfl rfl (lk8 rfl <| lk4 rfl <| lk2 rfl <| lk0) (by first | rfl | (simp [hl]; done)) ?_
         refine WL_q rfl (q_pick_false (lk8 rfl <| lk2 rfl <| lk1 rfl <| lk0) (by first | rfl | exact decide_eq_false (by omega)) (lk0)) ?_
         refine WL_q rfl (q_pick_true (lk8 rfl <| lk4 rfl <| lk2 rfl <| lk1 rfl <| lk0) (by first | rfl | (simp [hl]; done)) (lk0)) ?_
         refine WL_nil ?_
         refine then_n ?_
         refine WC_if_false (lk0) (by first | rfl | (simp [hd]; done)) ?_
         refine WC_skip ?_
         refine block_n (then_n ?_)
         refine WC_reg fun ds => ?_
         refine WL_q rfl (q_move (lk16 rfl <| lk8 rfl <| lk2 rfl <| lk_in rfl hs3)) ?_
         refine WL_q rfl (q_add (lk0) lk_const rfl (by omega) (by omega)) ?_
         refine WL_q rfl (q_assign (lk0)) ?_
         refine WL_nil ?_
         refine then_n ⟨_, m - 1, Off.eq (ou16 rfl <| ou8 rfl <| ou4 rfl <| ou1 rfl <| off_over), by omega, ?_⟩
         refine ⟨k + 1, by omega, (lk0), rfl, fun j hj hjk => ?_⟩
         rcases Nat.lt_succ_iff_lt_or_eq.1 hjk with hjk | rfl
         · exact hno j hj hjk
         · exact hch
        ·
         replace hd : digitB s[k] = false := by simpa using hd
         refine WL_want rfl rfl (lk0) (by first | rfl | (simp [hd]; done)) ?_
         refine WL_q rfl (q_move (lk16 rfl <| lk2 rfl <| lk1 rfl <| lk_off rfl <| lk8 rfl <| lk2 rfl <| lk_entry rfl)) ?_
         refine WL_want rfl rfl (lk1 rfl <| lk0) (by first | rfl | (simp [hd]; done)) ?_
         refine WL_q rfl (q_move (lk16 rfl <| lk4 rfl <| lk_in rfl hs3)) ?_
         refine WL_want rfl rfl (lk2 rfl <| lk0) (by first | rfl | (simp [hd]; done)) ?_
         refine WL_q rfl (q_indexS Try.underlying9 (lk1 rfl <| lk0) (lk0) rfl hlt) ?_
         refine WL_want rfl rfl (lk2 rfl <| lk1 rfl <| lk0) (by first | rfl | (simp [hd]; done)) ?_
         refine WL_q rfl (q_neq (lk0) lk_const) ?_
         refine WL_want rfl rfl (lk8 rfl <| lk2 rfl <| lk0) (by first | rfl | exact decide_eq_false (by omega)) ?_
         refine WL_q rfl (q_pick_true (lk4 rfl <| lk0) (by first | rfl | (simp [hd]; done)) (lk0)) ?_
         refine WL_want rfl rfl (lk8 rfl <| lk4 rfl <| lk2 rfl <| lk0) (by first | rfl | (simp [hl]; done)) ?_
         refine WL_q rfl (q_pick_false (lk8 rfl <| lk2 rfl <| lk1 rfl <| lk0) (by first | rfl | exact decide_eq_false (by omega)) (lk0)) ?_
         refine WL_q rfl (q_pick_true (lk8 rfl <| lk4 rfl <| lk2 rfl <| lk1 rfl <| lk0) (by first | rfl | (simp [hl]; done)) (lk0)) ?_
         refine WL_nil ?_
         refine then_n ?_
         by_cases hp : (s[k].toNat : Int) = 46
         ·
          have hch : chOk k s[k] = true := by unfold chOk; simp [hz, hp]
          refine WC_if_false (lk0) (by first | rfl | exact decide_eq_false (by omega)) ?_
          refine WC_skip ?_
          refine block_n (then_n ?_)
          refine WC_reg fun ds => ?_
          refine WL_q rfl (q_move (lk16 rfl <| lk8 rfl <| lk2 rfl <| lk_in rfl hs3)) ?_
          refine WL_q rfl (q_add (lk0) lk_const rfl (by omega) (by omega)) ?_
          refine WL_q rfl (q_assign (lk0)) ?_
          refine WL_nil ?_
          refine then_n ⟨_, m - 1, Off.eq (ou16 rfl <| ou8 rfl <| ou4 rfl <| ou1 rfl <| off_over), by omega, ?_⟩
          refine ⟨k + 1, by omega, (lk0), rfl, fun j hj hjk => ?_⟩
          rcases Nat.lt_succ_iff_lt_or_eq.1 hjk with hjk | rfl
          · exact hno j hj hjk
          · exact hch
         ·
          have hch : chOk k s[k] = false := by unfold chOk; simp [hl, hd, hp]
          refine WC_if_true (lk0) (by first | rfl | exact decide_eq_true (by omega)) ?_
          refine WC_seq ?_
          refine WC_reg fun ds => ?_
          refine WL_q rfl (q_assign lk_const) ?_
          refine WL_nil ?_
          refine then_n ?_
          refine WC_ret ?_
          refine block_r (then_r (then_r (block_r (then_r ?_))))
          refine post_ret rfl (.tmp (lk0) .nil) ?_
          show _ = _
          rw [nameOk_bad (i := k) hlt hch]; rfl
     ·
      refine WC_seq ?_
      refine WC_seq ?_
      refine WC_reg fun ds => ?_
      refine WL_q rfl (q_move (lk_in rfl hs3)) ?_
      refine WL_q rfl (q_move (lk1 rfl <| lk_off rfl <| lk8 rfl <| lk2 rfl <| lk_entry rfl)) ?_
      refine WL_q rfl (q_lenS Try.underlying9 (lk0)) ?_
      refine WL_q rfl (q_lss (lk2 rfl <| lk0) (lk0)) ?_
      refine WL_nil ?_
      refine then_n ?_
      refine WC_if_false (lk0) (by first | rfl | exact decide_eq_false (by omega)) ?_
      refine WC_exit ?_
      refine then_x (then_x (exit_here ?_))
      refine then_n ?_
      refine WC_seq ?_
      refine WC_reg fun ds => ?_
      refine WL_q rfl (q_assign lk_const) ?_
      refine WL_nil ?_
      refine then_n ?_
      refine WC_ret ?_
      refine post_ret rfl (.tmp (lk0) .nil) ?_
      show _ = _
      rw [nameOk_true (by omega) (by omega) fun j hj => hno j hj (by omega)]; rfl
set_option maxRecDepth 100000 in
theorem quireName_ok {F : Heap} (s : ByteArray) : Ok Try.prog 48 [.string s].toArray F fun r _ => r = .bool (nameOk s) := by
  refine Ok.intro Try.func48 rfl Try.ntmps48 rfl fun w0 => ?_
  refine WC_seq ?_
  refine WC_reg fun ds => ?_
  refine WL_q rfl (q_assign lk_const) ?_
  refine WL_nil ?_
  refine then_n ?_
  refine WC_seq ?_
  refine WC_seq ?_
  refine WC_reg fun ds => ?_
  refine WL_q rfl (q_move (lk1 rfl <| lk_entry rfl)) ?_
  refine WL_x rfl (x_rangeS Try.underlying9 (lk0) fun b1 hb1 nb1 => ?_)
  refine WL_nil ?_
  refine then_n ?_
  refine WC_block ?_
  refine WC_loopN [2, 3, 4, 7, 8, 9, 10, 11, 12, 13, 14, 15, 16, 17, 18, 19, 20, 21, 22, 23, 24, 25, 26, 27, 28, 29, 30, 31, 32] (fun m e σ => ∃ k : Nat, m + k = s.size ∧ σ = ⟨F, [(b1, .stringIter s k)]⟩ ∧ ∀ j (hj : j < s.size), j < k → chOk j s[j] = true) (s.size) ?_ ?_
  · exact ⟨0, by omega, rfl, fun j hj h => absurd h (by omega)⟩
  ·
   rintro m e _ ⟨k, hm, rfl, hno⟩
   by_cases hlt : k < s.size
   ·
    by_cases ha : s[k].toNat < 128
    ·
     have hdec := decode_ascii s k hlt ha
     refine WC_seq ?_
     refine WC_reg fun ds => ?_
     refine WL_x rfl (x_nextS (lk_off rfl <| lk0) (i := 0) rfl hlt hdec (.here) ?_)
     refine WL_q rfl (q_extract (lk0) rfl) ?_
     refine WL_nil ?_
     refine then_n ?_
     refine WC_seq ?_
     refine WC_if_true (lk0) rfl ?_
     by_cases hl1 : 97 ≤ (s[k].toNat : Int)
     ·
      refine WC_skip ?_
      refine then_n ?_
      refine WC_block ?_
      refine WC_seq ?_
      refine WC_reg fun ds => ?_
      refine WL_q rfl (q_extract (lk1 rfl <| lk0) rfl) ?_
      refine WL_q rfl (q_extract (lk2 rfl <| lk0) rfl) ?_
      refine WL_q rfl (q_assign (lk1 rfl <| lk0)) ?_
      refine WL_q rfl (q_assign (lk1 rfl <| lk0)) ?_
      refine WL_nil ?_
      refine then_n ?_
      refine WC_block ?_
      refine WC_seq ?_
      refine WC_reg fun ds => ?_
      refine WL_q rfl (q_move (lk0)) ?_
      refine WL_q rfl (q_geq (lk0) lk_const) ?_
      refine WL_q rfl (q_move (lk0)) ?_
      refine WL_want rfl rfl (lk0) (by first | rfl | exact decide_eq_true (by omega)) ?_
      refine WL_q rfl (q_move (lk2 rfl <| lk1 rfl <| lk0)) ?_
      refine WL_want rfl rfl (lk1 rfl <| lk0) (by first | rfl | exact decide_eq_true (by omega)) ?_
      refine WL_q rfl (q_leq (lk0) lk_const) ?_
      refine WL_q rfl (q_pick_true (lk2 rfl <| lk0) (by first | rfl | exact decide_eq_true (by omega)) (lk0)) ?_
      refine WL_q rfl (q_assign (lk0)) ?_
      refine WL_nil ?_
      refine then_n ?_
      by_cases hl2 : (s[k].toNat : Int) ≤ 122
      ·
       have hch : chOk k s[k] = true := by unfold chOk letterB digitB; simp; omega
       refine WC_if_true (lk0) (by first | rfl | exact decide_eq_true (by omega)) ?_
       refine WC_skip ?_
       refine block_n (block_n ?_)
       refine then_n ⟨_, m - 1, Off.eq (ou8 rfl <| ou4 rfl <| ou1 rfl <| off_over), by omega, ?_⟩
       refine ⟨k + 1, by omega, rfl, fun j hj hjk => ?_⟩
       rcases Nat.lt_succ_iff_lt_or_eq.1 hjk with hjk | rfl
       · exact hno j hj hjk
       · exact hch
      ·
       refine WC_if_false (lk0) (by first | rfl | exact decide_eq_false (by omega)) ?_
       by_cases hz : k = 0
       ·
        refine WC_seq ?_
        refine WC_reg fun ds => ?_
        refine WL_q rfl (q_move (lk8 rfl <| lk0)) ?_
        refine WL_q rfl (q_gtr (lk0) lk_const) ?_
        refine WL_q rfl (q_move (lk0)) ?_
        refine WL_pass rfl rfl (lk0) (.inl (congrArg Value.bool (by first | rfl | exact decide_eq_false (by omega)))) rfl ?_
        refine WL_pass rfl rfl (lk1 rfl <| lk0) (.inl (congrArg Value.bool (by first | rfl | exact decide_eq_false (by omega)))) rfl ?_
        refine WL_pass rfl rfl (lk2 rfl <| lk0) (.inl (congrArg Value.bool (by first | rfl | exact decide_eq_false (by omega)))) rfl ?_
        refine WL_pass rfl rfl (lk0) (.inr rfl) rfl ?_
        refine WL_pass rfl rfl (lk1 rfl <| lk0) (.inr rfl) rfl ?_
        refine WL_pass rfl rfl (lk4 rfl <| lk1 rfl <| lk0) (.inl (congrArg Value.bool (by first | rfl | exact decide_eq_false (by omega)))) rfl ?_
        refine WL_pass rfl rfl (lk4 rfl <| lk2 rfl <| lk0) (.inl (congrArg Value.bool (by first | rfl | exact decide_eq_false (by omega)))) rfl ?_
        refine WL_pass rfl rfl (lk0) (.inr rfl) rfl ?_
        refine WL_pass rfl rfl (lk1 rfl <| lk0) (.inr rfl) rfl ?_
        refine WL_pass rfl rfl (lk8 rfl <| lk1 rfl <| lk0) (.inl (congrArg Value.bool (by first | rfl | exact decide_eq_false (by omega)))) rfl ?_
        refine WL_q rfl (q_pick_false (lk8 rfl <| lk2 rfl <| lk0) (by first | rfl | exact decide_eq_false (by omega)) lk_const) ?_
        refine WL_q rfl (q_assign (lk0)) ?_
        refine WL_nil ?_
        refine then_n ?_
        have hch : chOk k s[k] = false := by unfold chOk letterB digitB; simp; omega
        refine WC_if_false (lk0) (by first | rfl | exact decide_eq_false (by omega)) ?_
        refine WC_seq ?_
        refine WC_reg fun ds => ?_
        refine WL_q rfl (q_assign lk_const) ?_
        refine WL_nil ?_
        refine then_n ?_
        refine WC_ret ?_
        refine block_r (block_r (then_r (block_r (then_r ?_))))
        refine post_ret rfl (.tmp (lk0) .nil) ?_
        show _ = _
        rw [nameOk_bad (i := k) hlt hch]; rfl
       ·
        refine WC_seq ?_
        refine WC_reg fun ds => ?_
        refine WL_q rfl (q_move (lk8 rfl <| lk0)) ?_
        refine WL_q rfl (q_gtr (lk0) lk_const) ?_
        refine WL_q rfl (q_move (lk0)) ?_
        refine WL_want rfl rfl (lk0) (by first | rfl | exact decide_eq_true (by omega)) ?_
        refine WL_q rfl (q_move (lk8 rfl <| lk2 rfl <| lk0)) ?_
        refine WL_want rfl rfl (lk1 rfl <| lk0) (by first | rfl | exact decide_eq_true (by omega)) ?_
        refine WL_q rfl (q_geq (lk0) lk_const) ?_
        refine WL_want rfl rfl (lk2 rfl <| lk0) (by first | rfl | exact decide_eq_true (by omega)) ?_
        refine WL_q rfl (q_move (lk0)) ?_
        by_cases hd1 : 48 ≤ (s[k].toNat : Int)
        ·
         refine WL_want rfl rfl (lk0) (by first | rfl | exact decide_eq_true (by omega)) ?_
         refine WL_q rfl (q_move (lk8 rfl <| lk4 rfl <| lk1 rfl <| lk0)) ?_
         refine WL_want rfl rfl (lk1 rfl <| lk0) (by first | rfl | exact decide_eq_true (by omega)) ?_
         refine WL_q rfl (q_leq (lk0) lk_const) ?_
         refine WL_want rfl rfl (lk4 rfl <| lk1 rfl <| lk0) (by first | rfl | exact decide_eq_true (by omega)) ?_
         refine WL_q rfl (q_pick_true (lk2 rfl <| lk0) (by first | rfl | exact decide_eq_true (by omega)) (lk0)) ?_
         refine WL_want rfl rfl (lk4 rfl <| lk2 rfl <| lk0) (by first | rfl | exact decide_eq_true (by omega)) ?_
         refine WL_q rfl (q_move (lk0)) ?_
         by_cases hd2 : (s[k].toNat : Int) ≤ 57
         ·
          refine WL_pass rfl rfl (lk0) (.inl (congrArg Value.bool (by first | rfl | exact decide_eq_true (by omega)))) rfl ?_
          refine WL_pass rfl rfl (lk1 rfl <| lk0) (.inl (congrArg Value.bool (by first | rfl | exact decide_eq_true (by omega)))) rfl ?_
          refine WL_want rfl rfl (lk8 rfl <| lk1 rfl <| lk0) (by first | rfl | exact decide_eq_true (by omega)) ?_
          refine WL_q rfl (q_pick_true (lk2 rfl <| lk0) (by first | rfl | exact decide_eq_true (by omega)) lk_const) ?_
          refine WL_q rfl (q_pick_true (lk8 rfl <| lk2 rfl <| lk0) (by first | rfl | exact decide_eq_true (by omega)) (lk0)) ?_
          refine WL_q rfl (q_assign (lk0)) ?_
          refine WL_nil ?_
          refine then_n ?_
          have hch : chOk k s[k] = true := by unfold chOk letterB digitB; simp; omega
          refine WC_if_true (lk0) (by first | rfl | exact decide_eq_true (by omega)) ?_
          refine WC_skip ?_
          refine block_n (block_n ?_)
          refine then_n ⟨_, m - 1, Off.eq (ou16 rfl <| ou8 rfl <| ou4 rfl <| off_over), by omega, ?_⟩
          refine ⟨k + 1, by omega, rfl, fun j hj hjk => ?_⟩
          rcases Nat.lt_succ_iff_lt_or_eq.1 hjk with hjk | rfl
          · exact hno j hj hjk
          · exact hch
         ·
          refine WL_want rfl rfl (lk0) (by first | rfl | exact decide_eq_false (by omega)) ?_
          refine WL_q rfl (q_move (lk16 rfl <| lk1 rfl <| lk0)) ?_
          refine WL_want rfl rfl (lk1 rfl <| lk0) (by first | rfl | exact decide_eq_false (by omega)) ?_
          refine WL_q rfl (q_eql (lk0) lk_const) ?_
          refine WL_want rfl rfl (lk8 rfl <| lk1 rfl <| lk0) (by first | rfl | exact decide_eq_true (by omega)) ?_
          refine WL_q rfl (q_pick_false (lk2 rfl <| lk0) (by first | rfl | exact decide_eq_false (by omega)) (lk0)) ?_
          refine WL_q rfl (q_pick_true (lk8 rfl <| lk2 rfl <| lk0) (by first | rfl | exact decide_eq_true (by omega)) (lk0)) ?_
          refine WL_q rfl (q_assign (lk0)) ?_
          refine WL_nil ?_
          refine then_n ?_
          by_cases hp : (s[k].toNat : Int) = 46
          ·
           have hch : chOk k s[k] = true := by unfold chOk letterB digitB; simp; omega
           refine WC_if_true (lk0) (by first | rfl | exact decide_eq_true (by omega)) ?_
           refine WC_skip ?_
           refine block_n (block_n ?_)
           refine then_n ⟨_, m - 1, Off.eq (ou16 rfl <| ou8 rfl <| ou4 rfl <| off_over), by omega, ?_⟩
           refine ⟨k + 1, by omega, rfl, fun j hj hjk => ?_⟩
           rcases Nat.lt_succ_iff_lt_or_eq.1 hjk with hjk | rfl
           · exact hno j hj hjk
           · exact hch
          ·
           have hch : chOk k s[k] = false := by unfold chOk letterB digitB; simp; omega
           refine WC_if_false (lk0) (by first | rfl | exact decide_eq_false (by omega)) ?_
           refine WC_seq ?_
           refine WC_reg fun ds => ?_
           refine WL_q rfl (q_assign lk_const) ?_
           refine WL_nil ?_
           refine then_n ?_
           refine WC_ret ?_
           refine block_r (block_r (then_r (block_r (then_r ?_))))
           refine post_ret rfl (.tmp (lk0) .nil) ?_
           show _ = _
           rw [nameOk_bad (i := k) hlt hch]; rfl
        ·
         refine WL_pass rfl rfl (lk0) (.inl (congrArg Value.bool (by first | rfl | exact decide_eq_false (by omega)))) rfl ?_
         refine WL_pass rfl rfl (lk1 rfl <| lk0) (.inl (congrArg Value.bool (by first | rfl | exact decide_eq_false (by omega)))) rfl ?_
         refine WL_want rfl rfl (lk4 rfl <| lk1 rfl <| lk0) (by first | rfl | exact decide_eq_true (by omega)) ?_
         refine WL_q rfl (q_pick_false (lk2 rfl <| lk0) (by first | rfl | exact decide_eq_false (by omega)) lk_const) ?_
         refine WL_want rfl rfl (lk4 rfl <| lk2 rfl <| lk0) (by first | rfl | exact decide_eq_true (by omega)) ?_
         refine WL_q rfl (q_move (lk0)) ?_
         refine WL_want rfl rfl (lk0) (by first | rfl | exact decide_eq_false (by omega)) ?_
         refine WL_q rfl (q_move (lk16 rfl <| lk1 rfl <| lk0)) ?_
         refine WL_want rfl rfl (lk1 rfl <| lk0) (by first | rfl | exact decide_eq_false (by omega)) ?_
         refine WL_q rfl (q_eql (lk0) lk_const) ?_
         refine WL_want rfl rfl (lk8 rfl <| lk1 rfl <| lk0) (by first | rfl | exact decide_eq_true (by omega)) ?_
         refine WL_q rfl (q_pick_false (lk2 rfl <| lk0) (by first | rfl | exact decide_eq_false (by omega)) (lk0)) ?_
         refine WL_q rfl (q_pick_true (lk8 rfl <| lk2 rfl <| lk0) (by first | rfl | exact decide_eq_true (by omega)) (lk0)) ?_
         refine WL_q rfl (q_assign (lk0)) ?_
         refine WL_nil ?_
         refine then_n ?_
         by_cases hp : (s[k].toNat : Int) = 46
         ·
          have hch : chOk k s[k] = true := by unfold chOk letterB digitB; simp; omega
          refine WC_if_true (lk0) (by first | rfl | exact decide_eq_true (by omega)) ?_
          refine WC_skip ?_
          refine block_n (block_n ?_)
          refine then_n ⟨_, m - 1, Off.eq (ou16 rfl <| ou8 rfl <| ou4 rfl <| off_over), by omega, ?_⟩
          refine ⟨k + 1, by omega, rfl, fun j hj hjk => ?_⟩
          rcases Nat.lt_succ_iff_lt_or_eq.1 hjk with hjk | rfl
          · exact hno j hj hjk
          · exact hch
         ·
          have hch : chOk k s[k] = false := by unfold chOk letterB digitB; simp; omega
          refine WC_if_false (lk0) (by first | rfl | exact decide_eq_false (by omega)) ?_
          refine WC_seq ?_
          refine WC_reg fun ds => ?_
          refine WL_q rfl (q_assign lk_const) ?_
          refine WL_nil ?_
          refine then_n ?_
          refine WC_ret ?_
          refine block_r (block_r (then_r (block_r (then_r ?_))))
          refine post_ret rfl (.tmp (lk0) .nil) ?_
          show _ = _
          rw [nameOk_bad (i := k) hlt hch]; rfl
     ·
      refine WC_skip ?_
      refine then_n ?_
      refine WC_block ?_
      refine WC_seq ?_
      refine WC_reg fun ds => ?_
      refine WL_q rfl (q_extract (lk1 rfl <| lk0) rfl) ?_
      refine WL_q rfl (q_extract (lk2 rfl <| lk0) rfl) ?_
      refine WL_q rfl (q_assign (lk1 rfl <| lk0)) ?_
      refine WL_q rfl (q_assign (lk1 rfl <| lk0)) ?_
      refine WL_nil ?_
      refine then_n ?_
      refine WC_block ?_
      refine WC_seq ?_
      refine WC_reg fun ds => ?_
      refine WL_q rfl (q_move (lk0)) ?_
      refine WL_q rfl (q_geq (lk0) lk_const) ?_
      refine WL_q rfl (q_move (lk0)) ?_
      refine WL_pass rfl rfl (lk0) (.inl (congrArg Value.bool (by first | rfl | exact decide_eq_false (by omega)))) rfl ?_
      refine WL_pass rfl rfl (lk1 rfl <| lk0) (.inl (congrArg Value.bool (by first | rfl | exact decide_eq_false (by omega)))) rfl ?_
      refine WL_q rfl (q_pick_false (lk2 rfl <| lk0) (by first | rfl | exact decide_eq_false (by omega)) lk_const) ?_
      refine WL_q rfl (q_assign (lk0)) ?_
      refine WL_nil ?_
      refine then_n ?_
      refine WC_if_false (lk0) (by first | rfl | exact decide_eq_false (by omega)) ?_
      by_cases hz : k = 0
      ·
       refine WC_seq ?_
       refine WC_reg fun ds => ?_
       refine WL_q rfl (q_move (lk8 rfl <| lk0)) ?_
       refine WL_q rfl (q_gtr (lk0) lk_const) ?_
       refine WL_q rfl (q_move (lk0)) ?_
       refine WL_pass rfl rfl (lk0) (.inl (congrArg Value.bool (by first | rfl | exact decide_eq_false (by omega)))) rfl ?_
       refine WL_pass rfl rfl (lk1 rfl <| lk0) (.inl (congrArg Value.bool (by first | rfl | exact decide_eq_false (by omega)))) rfl ?_
       refine WL_pass rfl rfl (lk2 rfl <| lk0) (.inl (congrArg Value.bool (by first | rfl | exact decide_eq_false (by omega)))) rfl ?_
       refine WL_pass rfl rfl (lk0) (.inr rfl) rfl ?_
       refine WL_pass rfl rfl (lk1 rfl <| lk0) (.inr rfl) rfl ?_
       refine WL_pass rfl rfl (lk4 rfl <| lk1 rfl <| lk0) (.inl (congrArg Value.bool (by first | rfl | exact decide_eq_false (by omega)))) rfl ?_
       refine WL_pass rfl rfl (lk4 rfl <| lk2 rfl <| lk0) (.inl (congrArg Value.bool (by first | rfl | exact decide_eq_false (by omega)))) rfl ?_
       refine WL_pass rfl rfl (lk0) (.inr rfl) rfl ?_
       refine WL_pass rfl rfl (lk1 rfl <| lk0) (.inr rfl) rfl ?_
       refine WL_pass rfl rfl (lk8 rfl <| lk1 rfl <| lk0) (.inl (congrArg Value.bool (by first | rfl | exact decide_eq_false (by omega)))) rfl ?_
       refine WL_q rfl (q_pick_false (lk8 rfl <| lk2 rfl <| lk0) (by first | rfl | exact decide_eq_false (by omega)) lk_const) ?_
       refine WL_q rfl (q_assign (lk0)) ?_
       refine WL_nil ?_
       refine then_n ?_
       have hch : chOk k s[k] = false := by unfold chOk letterB digitB; simp; omega
       refine WC_if_false (lk0) (by first | rfl | exact decide_eq_false (by omega)) ?_
       refine WC_seq ?_
       refine WC_reg fun ds => ?_
       refine WL_q rfl (q_assign lk_const) ?_
       refine WL_nil ?_
       refine then_n ?_
       refine WC_ret ?_
       refine block_r (block_r (then_r (block_r (then_r ?_))))
       refine post_ret rfl (.tmp (lk0) .nil) ?_
       show _ = _
       rw [nameOk_bad (i := k) hlt hch]; rfl
      ·
       refine WC_seq ?_
       refine WC_reg fun ds => ?_
       refine WL_q rfl (q_move (lk8 rfl <| lk0)) ?_
       refine WL_q rfl (q_gtr (lk0) lk_const) ?_
       refine WL_q rfl (q_move (lk0)) ?_
       refine WL_want rfl rfl (lk0) (by first | rfl | exact decide_eq_true (by omega)) ?_
       refine WL_q rfl (q_move (lk8 rfl <| lk2 rfl <| lk0)) ?_
       refine WL_want rfl rfl (lk1 rfl <| lk0) (by first | rfl | exact decide_eq_true (by omega)) ?_
       refine WL_q rfl (q_geq (lk0) lk_const) ?_
       refine WL_want rfl rfl (lk2 rfl <| lk0) (by first | rfl | exact decide_eq_true (by omega)) ?_
       refine WL_q rfl (q_move (lk0)) ?_
       by_cases hd1 : 48 ≤ (s[k].toNat : Int)
       ·
        refine WL_want rfl rfl (lk0) (by first | rfl | exact decide_eq_true (by omega)) ?_
        refine WL_q rfl (q_move (lk8 rfl <| lk4 rfl <| lk1 rfl <| lk0)) ?_
        refine WL_want rfl rfl (lk1 rfl <| lk0) (by first | rfl | exact decide_eq_true (by omega)) ?_
        refine WL_q rfl (q_leq (lk0) lk_const) ?_
        refine WL_want rfl rfl (lk4 rfl <| lk1 rfl <| lk0) (by first | rfl | exact decide_eq_true (by omega)) ?_
        refine WL_q rfl (q_pick_true (lk2 rfl <| lk0) (by first | rfl | exact decide_eq_true (by omega)) (lk0)) ?_
        refine WL_want rfl rfl (lk4 rfl <| lk2 rfl <| lk0) (by first | rfl | exact decide_eq_true (by omega)) ?_
        refine WL_q rfl (q_move (lk0)) ?_
        by_cases hd2 : (s[k].toNat : Int) ≤ 57
        ·
         refine WL_pass rfl rfl (lk0) (.inl (congrArg Value.bool (by first | rfl | exact decide_eq_true (by omega)))) rfl ?_
         refine WL_pass rfl rfl (lk1 rfl <| lk0) (.inl (congrArg Value.bool (by first | rfl | exact decide_eq_true (by omega)))) rfl ?_
         refine WL_want rfl rfl (lk8 rfl <| lk1 rfl <| lk0) (by first | rfl | exact decide_eq_true (by omega)) ?_
         refine WL_q rfl (q_pick_true (lk2 rfl <| lk0) (by first | rfl | exact decide_eq_true (by omega)) lk_const) ?_
         refine WL_q rfl (q_pick_true (lk8 rfl <| lk2 rfl <| lk0) (by first | rfl | exact decide_eq_true (by omega)) (lk0)) ?_
         refine WL_q rfl (q_assign (lk0)) ?_
         refine WL_nil ?_
         refine then_n ?_
         have hch : chOk k s[k] = true := by unfold chOk letterB digitB; simp; omega
         refine WC_if_true (lk0) (by first | rfl | exact decide_eq_true (by omega)) ?_
         refine WC_skip ?_
         refine block_n (block_n ?_)
         refine then_n ⟨_, m - 1, Off.eq (ou16 rfl <| ou8 rfl <| ou4 rfl <| off_over), by omega, ?_⟩
         refine ⟨k + 1, by omega, rfl, fun j hj hjk => ?_⟩
         rcases Nat.lt_succ_iff_lt_or_eq.1 hjk with hjk | rfl
         · exact hno j hj hjk
         · exact hch
        ·
         refine WL_want rfl rfl (lk0) (by first | rfl | exact decide_eq_false (by omega)) ?_
         refine WL_q rfl (q_move (lk16 rfl <| lk1 rfl <| lk0)) ?_
         refine WL_want rfl rfl (lk1 rfl <| lk0) (by first | rfl | exact decide_eq_false (by omega)) ?_
         refine WL_q rfl (q_eql (lk0) lk_const) ?_
         refine WL_want rfl rfl (lk8 rfl <| lk1 rfl <| lk0) (by first | rfl | exact decide_eq_true (by omega)) ?_
         refine WL_q rfl (q_pick_false (lk2 rfl <| lk0) (by first | rfl | exact decide_eq_false (by omega)) (lk0)) ?_
         refine WL_q rfl (q_pick_true (lk8 rfl <| lk2 rfl <| lk0) (by first | rfl | exact decide_eq_true (by omega)) (lk0)) ?_
         refine WL_q rfl (q_assign (lk0)) ?_
         refine WL_nil ?_
         refine then_n ?_
         by_cases hp : (s[k].toNat : Int) = 46
         ·
          have hch : chOk k s[k] = true := by unfold chOk letterB digitB; simp; omega
          refine WC_if_true (lk0) (by first | rfl | exact decide_eq_true (by omega)) ?_
          refine WC_skip ?_
          refine block_n (block_n ?_)
          refine then_n ⟨_, m - 1, Off.eq (ou16 rfl <| ou8 rfl <| ou4 rfl <| off_over), by omega, ?_⟩
          refine ⟨k + 1, by omega, rfl, fun j hj hjk => ?_⟩
          rcases Nat.lt_succ_iff_lt_or_eq.1 hjk with hjk | rfl
          · exact hno j hj hjk
          · exact hch
         ·
          have hch : chOk k s[k] = false := by unfold chOk letterB digitB; simp; omega
          refine WC_if_false (lk0) (by first | rfl | exact decide_eq_false (by omega)) ?_
          refine WC_seq ?_
          refine WC_reg fun ds => ?_
          refine WL_q rfl (q_assign lk_const) ?_
          refine WL_nil ?_
          refine then_n ?_
          refine WC_ret ?_
          refine block_r (block_r (then_r (block_r (then_r ?_))))
          refine post_ret rfl (.tmp (lk0) .nil) ?_
          show _ = _
          rw [nameOk_bad (i := k) hlt hch]; rfl
       ·
        refine WL_pass rfl rfl (lk0) (.inl (congrArg Value.bool (by first | rfl | exact decide_eq_false (by omega)))) rfl ?_
        refine WL_pass rfl rfl (lk1 rfl <| lk0) (.inl (congrArg Value.bool (by first | rfl | exact decide_eq_false (by omega)))) rfl ?_
        refine WL_want rfl rfl (lk4 rfl <| lk1 rfl <| lk0) (by first | rfl | exact decide_eq_true (by omega)) ?_
        refine WL_q rfl (q_pick_false (lk2 rfl <| lk0) (by first | rfl | exact decide_eq_false (by omega)) lk_const) ?_
        refine WL_want rfl rfl (lk4 rfl <| lk2 rfl <| lk0) (by first | rfl | exact decide_eq_true (by omega)) ?_
        refine WL_q rfl (q_move (lk0)) ?_
        refine WL_want rfl rfl (lk0) (by first | rfl | exact decide_eq_false (by omega)) ?_
        refine WL_q rfl (q_move (lk16 rfl <| lk1 rfl <| lk0)) ?_
        refine WL_want rfl rfl (lk1 rfl <| lk0) (by first | rfl | exact decide_eq_false (by omega)) ?_
        refine WL_q rfl (q_eql (lk0) lk_const) ?_
        refine WL_want rfl rfl (lk8 rfl <| lk1 rfl <| lk0) (by first | rfl | exact decide_eq_true (by omega)) ?_
        refine WL_q rfl (q_pick_false (lk2 rfl <| lk0) (by first | rfl | exact decide_eq_false (by omega)) (lk0)) ?_
        refine WL_q rfl (q_pick_true (lk8 rfl <| lk2 rfl <| lk0) (by first | rfl | exact decide_eq_true (by omega)) (lk0)) ?_
        refine WL_q rfl (q_assign (lk0)) ?_
        refine WL_nil ?_
        refine then_n ?_
        by_cases hp : (s[k].toNat : Int) = 46
        ·
         have hch : chOk k s[k] = true := by unfold chOk letterB digitB; simp; omega
         refine WC_if_true (lk0) (by first | rfl | exact decide_eq_true (by omega)) ?_
         refine WC_skip ?_
         refine block_n (block_n ?_)
         refine then_n ⟨_, m - 1, Off.eq (ou16 rfl <| ou8 rfl <| ou4 rfl <| off_over), by omega, ?_⟩
         refine ⟨k + 1, by omega, rfl, fun j hj hjk => ?_⟩
         rcases Nat.lt_succ_iff_lt_or_eq.1 hjk with hjk | rfl
         · exact hno j hj hjk
         · exact hch
        ·
         have hch : chOk k s[k] = false := by unfold chOk letterB digitB; simp; omega
         refine WC_if_false (lk0) (by first | rfl | exact decide_eq_false (by omega)) ?_
         refine WC_seq ?_
         refine WC_reg fun ds => ?_
         refine WL_q rfl (q_assign lk_const) ?_
         refine WL_nil ?_
         refine then_n ?_
         refine WC_ret ?_
         refine block_r (block_r (then_r (block_r (then_r ?_))))
         refine post_ret rfl (.tmp (lk0) .nil) ?_
         show _ = _
         rw [nameOk_bad (i := k) hlt hch]; rfl
    ·
     obtain ⟨rc, wd, hdec⟩ : ∃ rc wd, Utf8.decode s k = (rc, wd) := ⟨_, _, rfl⟩
     have hrc : 128 ≤ rc := by have := decode_high s k hlt (by omega); rw [hdec] at this; exact this
     refine WC_seq ?_
     refine WC_reg fun ds => ?_
     refine WL_x rfl (x_nextS (lk_off rfl <| lk0) (i := 0) rfl hlt hdec (.here) ?_)
     refine WL_q rfl (q_extract (lk0) rfl) ?_
     refine WL_nil ?_
     refine then_n ?_
     refine WC_seq ?_
     refine WC_if_true (lk0) rfl ?_
     refine WC_skip ?_
     refine then_n ?_
     refine WC_block ?_
     refine WC_seq ?_
     refine WC_reg fun ds => ?_
     refine WL_q rfl (q_extract (lk1 rfl <| lk0) rfl) ?_
     refine WL_q rfl (q_extract (lk2 rfl <| lk0) rfl) ?_
     refine WL_q rfl (q_assign (lk1 rfl <| lk0)) ?_
     refine WL_q rfl (q_assign (lk1 rfl <| lk0)) ?_
     refine WL_nil ?_
     refine then_n ?_
     refine WC_block ?_
     refine WC_seq ?_
     refine WC_reg fun ds => ?_
     refine WL_q rfl (q_move (lk0)) ?_
     refine WL_q rfl (q_geq (lk0) lk_const) ?_
     refine WL_q rfl (q_move (lk0)) ?_
     refine WL_want rfl rfl (lk0) (by first | rfl | exact decide_eq_true (by omega)) ?_
     refine WL_q rfl (q_move (lk2 rfl <| lk1 rfl <| lk0)) ?_
     refine WL_want rfl rfl (lk1 rfl <| lk0) (by first | rfl | exact decide_eq_true (by omega)) ?_
     refine WL_q rfl (q_leq (lk0) lk_const) ?_
     refine WL_q rfl (q_pick_true (lk2 rfl <| lk0) (by first | rfl | exact decide_eq_true (by omega)) (lk0)) ?_
     refine WL_q rfl (q_assign (lk0)) ?_
     refine WL_nil ?_
     refine then_n ?_
     refine WC_if_false (lk0) (by first | rfl | exact decide_eq_false (by omega)) ?_
     have hch : chOk k s[k] = false := by unfold chOk letterB digitB; simp; omega
     by_cases hz : k = 0
     ·
      refine WC_seq ?_
      refine WC_reg fun ds => ?_
      refine WL_q rfl (q_move (lk8 rfl <| lk0)) ?_
      refine WL_q rfl (q_gtr (lk0) lk_const) ?_
      refine WL_q rfl (q_move (lk0)) ?_
      refine WL_pass rfl rfl (lk0) (.inl (congrArg Value.bool (by first | rfl | exact decide_eq_false (by omega)))) rfl ?_
      refine WL_pass rfl rfl (lk1 rfl <| lk0) (.inl (congrArg Value.bool (by first | rfl | exact decide_eq_false (by omega)))) rfl ?_
      refine WL_pass rfl rfl (lk2 rfl <| lk0) (.inl (congrArg Value.bool (by first | rfl | exact decide_eq_false (by omega)))) rfl ?_
      refine WL_pass rfl rfl (lk0) (.inr rfl) rfl ?_
      refine WL_pass rfl rfl (lk1 rfl <| lk0) (.inr rfl) rfl ?_
      refine WL_pass rfl rfl (lk4 rfl <| lk1 rfl <| lk0) (.inl (congrArg Value.bool (by first | rfl | exact decide_eq_false (by omega)))) rfl ?_
      refine WL_pass rfl rfl (lk4 rfl <| lk2 rfl <| lk0) (.inl (congrArg Value.bool (by first | rfl | exact decide_eq_false (by omega)))) rfl ?_
      refine WL_pass rfl rfl (lk0) (.inr rfl) rfl ?_
      refine WL_pass rfl rfl (lk1 rfl <| lk0) (.inr rfl) rfl ?_
      refine WL_pass rfl rfl (lk8 rfl <| lk1 rfl <| lk0) (.inl (congrArg Value.bool (by first | rfl | exact decide_eq_false (by omega)))) rfl ?_
      refine WL_q rfl (q_pick_false (lk8 rfl <| lk2 rfl <| lk0) (by first | rfl | exact decide_eq_false (by omega)) lk_const) ?_
      refine WL_q rfl (q_assign (lk0)) ?_
      refine WL_nil ?_
      refine then_n ?_
      refine WC_if_false (lk0) (by first | rfl | exact decide_eq_false (by omega)) ?_
      refine WC_seq ?_
      refine WC_reg fun ds => ?_
      refine WL_q rfl (q_assign lk_const) ?_
      refine WL_nil ?_
      refine then_n ?_
      refine WC_ret ?_
      refine block_r (block_r (then_r (block_r (then_r ?_))))
      refine post_ret rfl (.tmp (lk0) .nil) ?_
      show _ = _
      rw [nameOk_bad (i := k) hlt hch]; rfl
     ·
      refine WC_seq ?_
      refine WC_reg fun ds => ?_
      refine WL_q rfl (q_move (lk8 rfl <| lk0)) ?_
      refine WL_q rfl (q_gtr (lk0) lk_const) ?_
      refine WL_q rfl (q_move (lk0)) ?_
      refine WL_want rfl rfl (lk0) (by first | rfl | exact decide_eq_true (by omega)) ?_
      refine WL_q rfl (q_move (lk8 rfl <| lk2 rfl <| lk0)) ?_
      refine WL_want rfl rfl (lk1 rfl <| lk0) (by first | rfl | exact decide_eq_true (by omega)) ?_
      refine WL_q rfl (q_geq (lk0) lk_const) ?_
      refine WL_want rfl rfl (lk2 rfl <| lk0) (by first | rfl | exact decide_eq_true (by omega)) ?_
      refine WL_q rfl (q_move (lk0)) ?_
      refine WL_want rfl rfl (lk0) (by first | rfl | exact decide_eq_true (by omega)) ?_
      refine WL_q rfl (q_move (lk8 rfl <| lk4 rfl <| lk1 rfl <| lk0)) ?_
      refine WL_want rfl rfl (lk1 rfl <| lk0) (by first | rfl | exact decide_eq_true (by omega)) ?_
      refine WL_q rfl (q_leq (lk0) lk_const) ?_
      refine WL_want rfl rfl (lk4 rfl <| lk1 rfl <| lk0) (by first | rfl | exact decide_eq_true (by omega)) ?_
      refine WL_q rfl (q_pick_true (lk2 rfl <| lk0) (by first | rfl | exact decide_eq_true (by omega)) (lk0)) ?_
      refine WL_want rfl rfl (lk4 rfl <| lk2 rfl <| lk0) (by first | rfl | exact decide_eq_true (by omega)) ?_
      refine WL_q rfl (q_move (lk0)) ?_
      refine WL_want rfl rfl (lk0) (by first | rfl | exact decide_eq_false (by omega)) ?_
      refine WL_q rfl (q_move (lk16 rfl <| lk1 rfl <| lk0)) ?_
      refine WL_want rfl rfl (lk1 rfl <| lk0) (by first | rfl | exact decide_eq_false (by omega)) ?_
      refine WL_q rfl (q_eql (lk0) lk_const) ?_
      refine WL_want rfl rfl (lk8 rfl <| lk1 rfl <| lk0) (by first | rfl | exact decide_eq_true (by omega)) ?_
      refine WL_q rfl (q_pick_false (lk2 rfl <| lk0) (by first | rfl | exact decide_eq_false (by omega)) (lk0)) ?_
      refine WL_q rfl (q_pick_true (lk8 rfl <| lk2 rfl <| lk0) (by first | rfl | exact decide_eq_true (by omega)) (lk0)) ?_
      refine WL_q rfl (q_assign (lk0)) ?_
      refine WL_nil ?_
      refine then_n ?_
      refine WC_if_false (lk0) (by first | rfl | exact decide_eq_false (by omega)) ?_
      refine WC_seq ?_
      refine WC_reg fun ds => ?_
      refine WL_q rfl (q_assign lk_const) ?_
      refine WL_nil ?_
      refine then_n ?_
      refine WC_ret ?_
      refine block_r (block_r (then_r (block_r (then_r ?_))))
      refine post_ret rfl (.tmp (lk0) .nil) ?_
      show _ = _
      rw [nameOk_bad (i := k) hlt hch]; rfl
   ·
    refine WC_seq ?_
    refine WC_reg fun ds => ?_
    refine WL_x rfl (x_nextE (lk_off rfl <| lk0) (i := 0) rfl hlt ?_)
    refine WL_q rfl (q_extract (lk0) rfl) ?_
    refine WL_nil ?_
    refine then_n ?_
    refine WC_seq ?_
    refine WC_if_false (lk0) rfl ?_
    by_cases h0 : s.size = 0
    ·
     refine WC_exit ?_
     refine then_x (then_x (exit_here ?_))
     refine then_n ?_
     refine WC_seq ?_
     refine WC_reg fun ds => ?_
     refine WL_q rfl (q_move (lk2 rfl <| lk_off rfl <| lk2 rfl <| lk1 rfl <| lk_entry rfl)) ?_
     refine WL_q rfl (q_nes (lk0) lk_const) ?_
     refine WL_q rfl (q_move (lk0)) ?_
     refine WL_pass rfl rfl (lk0) (.inl (congrArg Value.bool (by rw [emptyS]; simp [h0]))) rfl ?_
     refine WL_pass rfl rfl (lk1 rfl <| lk0) (.inl (congrArg Value.bool (by rw [emptyS]; simp [h0]))) rfl ?_
     refine WL_pass rfl rfl (lk2 rfl <| lk0) (.inl (congrArg Value.bool (by rw [emptyS]; simp [h0]))) rfl ?_
     refine WL_q rfl (q_pick_false (lk2 rfl <| lk1 rfl <| lk0) (by rw [emptyS]; simp [h0]) lk_const) ?_
     refine WL_q rfl (q_assign (lk0)) ?_
     refine WL_nil ?_
     refine then_n ?_
     refine WC_ret ?_
     refine post_ret rfl (.tmp (lk0) .nil) ?_
     show _ = _
     rw [nameOk_len (by omega)]; rfl
    ·
     refine WC_exit ?_
     refine then_x (then_x (exit_here ?_))
     refine then_n ?_
     refine WC_seq ?_
     refine WC_reg fun ds => ?_
     refine WL_q rfl (q_move (lk2 rfl <| lk_off rfl <| lk2 rfl <| lk1 rfl <| lk_entry rfl)) ?_
     refine WL_q rfl (q_nes (lk0) lk_const) ?_
     refine WL_q rfl (q_move (lk0)) ?_
     refine WL_want rfl rfl (lk0) (by rw [emptyS]; simp [h0]) ?_
     refine WL_q rfl (q_move (lk4 rfl <| lk1 rfl <| lk_off rfl <| lk2 rfl <| lk1 rfl <| lk_entry rfl)) ?_
     refine WL_want rfl rfl (lk1 rfl <| lk0) (by rw [emptyS]; simp [h0]) ?_
     refine WL_q rfl (q_lenS Try.underlying9 (lk0)) ?_
     refine WL_want rfl rfl (lk2 rfl <| lk0) (by rw [emptyS]; simp [h0]) ?_
     refine WL_q rfl (q_leq (lk0) lk_const) ?_
     refine WL_q rfl (q_pick_true (lk2 rfl <| lk1 rfl <| lk0) (by rw [emptyS]; simp [h0]) (lk0)) ?_
     refine WL_q rfl (q_assign (lk0)) ?_
     refine WL_nil ?_
     refine then_n ?_
     by_cases h16 : (s.size : Int) ≤ 16
     ·
      refine WC_ret ?_
      refine post_ret rfl (.tmp (lk0) .nil) ?_
      show _ = _
      rw [nameOk_true (by omega) (by omega) fun j hj => hno j hj (by omega)]; simp [outOf, h16]
     ·
      refine WC_ret ?_
      refine post_ret rfl (.tmp (lk0) .nil) ?_
      show _ = _
      rw [nameOk_len (by omega)]; simp [outOf, h16]
set_option maxRecDepth 100000 in
theorem place_ok {F : Heap} {v : Value} {xs : List ByteArray} (h : Sl F v 1 strE xs) (wd : ByteArray) : Ok Try.prog 101 [v, .string wd].toArray F fun r _ => r = .int .i64 (findI (fun x => sameS x wd) xs) := by
  refine Ok.intro Try.func101 rfl Try.ntmps101 rfl fun w0 => ?_
  have hlen := h.plain.lt
  refine WC_seq ?_
  refine WC_reg fun ds => ?_
  refine WL_q rfl (q_assign lk_const) ?_
  refine WL_nil ?_
  refine then_n ?_
  refine WC_seq ?_
  refine WC_reg fun ds => ?_
  refine WL_q rfl (q_move (lk1 rfl <| lk_entry rfl)) ?_
  refine WL_q rfl (q_lenP sl_136 (lk0) h.plain) ?_
  refine WL_q rfl (q_sub (lk0) lk_const rfl (by omega) (by omega)) ?_
  refine WL_q rfl (q_assign (lk0)) ?_
  refine WL_nil ?_
  refine then_n ?_
  refine WC_seq ?_
  refine WC_block ?_
  refine WC_loopN [5, 10, 11, 12, 13, 14, 15, 16, 17, 18, 19, 20, 21] (fun m e σ => ∃ z : Int, m = (z + 1).toNat ∧ -1 ≤ z ∧ z < xs.length ∧ e 5 = .int .i64 z ∧ σ = ⟨F, []⟩ ∧ ∀ j (hj : j < xs.length), z < j → sameS xs[j] wd = false) (xs.length) ?_ ?_
  · exact ⟨xs.length - 1, by omega, by omega, by omega, (lk0), rfl, fun j hj h => absurd h (by omega)⟩
  ·
   rintro m e _ ⟨z, hm, hz1, hz2, hs5, rfl, hno⟩
   by_cases hz : 0 ≤ z
   ·
    obtain ⟨k, rfl⟩ := Int.eq_ofNat_of_zero_le hz
    have hk : k < xs.length := by omega
    refine WC_seq ?_
    refine WC_seq ?_
    refine WC_reg fun ds => ?_
    refine WL_q rfl (q_move (lk_in rfl hs5)) ?_
    refine WL_q rfl (q_geq (lk0) lk_const) ?_
    refine WL_q rfl (q_move (lk0)) ?_
    refine WL_want rfl rfl (lk0) (by first | rfl | exact decide_eq_true (by omega)) ?_
    refine WL_q rfl (q_move (lk2 rfl <| lk1 rfl <| lk_off rfl <| lk4 rfl <| lk1 rfl <| lk_entry rfl)) ?_
    refine WL_want rfl rfl (lk1 rfl <| lk0) (by first | rfl | exact decide_eq_true (by omega)) ?_
    refine WL_q rfl (q_move (lk4 rfl <| lk_in rfl hs5)) ?_
    refine WL_want rfl rfl (lk2 rfl <| lk0) (by first | rfl | exact decide_eq_true (by omega)) ?_
    refine WL_q rfl (q_index  sl_136 (lk1 rfl <| lk0) h.plain (lk0) rfl (by omega)) ?_
    refine WL_want rfl rfl (lk2 rfl <| lk1 rfl <| lk0) (by first | rfl | exact decide_eq_true (by omega)) ?_
    refine WL_q rfl (q_load1 one_9 (lk0) (h.cell1 (by omega) rfl)) ?_
    refine WL_want rfl rfl (lk4 rfl <| lk0) (by first | rfl | exact decide_eq_true (by omega)) ?_
    refine WL_q rfl (q_move (lk4 rfl <| lk2 rfl <| lk1 rfl <| lk_off rfl <| lk4 rfl <| lk1 rfl <| lk_entry rfl)) ?_
    refine WL_want rfl rfl (lk4 rfl <| lk1 rfl <| lk0) (by first | rfl | exact decide_eq_true (by omega)) ?_
    refine WL_q rfl (q_nes (lk1 rfl <| lk0) (lk0)) ?_
    refine WL_q rfl (q_pick_true (lk4 rfl <| lk2 rfl <| lk0) (by first | rfl | exact decide_eq_true (by omega)) (lk0)) ?_
    refine WL_nil ?_
    refine then_n ?_
    by_cases hsm : sameS xs[k] wd = true
    ·
     refine WC_if_false (lk0) (by simpa [sameS] using hsm) ?_
     refine WC_exit ?_
     refine then_x (then_x (exit_here ?_))
     refine then_n ?_
     refine WC_seq ?_
     refine WC_seq ?_
     refine WC_reg fun ds => ?_
     refine WL_q rfl (q_assign lk_const) ?_
     refine WL_nil ?_
     refine then_n ?_
     refine WC_block ?_
     refine WC_loopN [4, 6, 22, 23, 24, 25, 26, 27, 28, 29, 30, 31, 32, 33] (fun m e σ => ∃ q : Nat, m + q = k ∧ e 6 = .int .i64 q ∧ σ = ⟨F, []⟩ ∧ ∀ j (hj : j < xs.length), j < q → sameS xs[j] wd = false) (k) ?_ ?_
     · exact ⟨0, by omega, (lk0), rfl, fun j hj h => absurd h (by omega)⟩
     ·
      rintro m2 e2 _ ⟨q, hm2, ht6, rfl, hno2⟩
      by_cases hq : q < k
      ·
       refine WC_seq ?_
       refine WC_seq ?_
       refine WC_reg fun ds => ?_
       refine WL_q rfl (q_move (lk_in rfl ht6)) ?_
       refine WL_q rfl (q_move (lk1 rfl <| lk_off rfl <| lk8 rfl <| lk2 rfl <| lk1 rfl <| lk_in rfl hs5)) ?_
       refine WL_q rfl (q_lss (lk1 rfl <| lk0) (lk0)) ?_
       refine WL_nil ?_
       refine then_n ?_
       refine WC_if_true (lk0) (by first | rfl | exact decide_eq_true (by omega)) ?_
       by_cases hsq : sameS xs[q] wd = true
       ·
        refine WC_skip ?_
        refine then_n ?_
        refine WC_seq ?_
        refine WC_block ?_
        refine WC_seq ?_
        refine WC_reg fun ds => ?_
        refine WL_q rfl (q_move (lk2 rfl <| lk1 rfl <| lk_off rfl <| lk8 rfl <| lk2 rfl <| lk1 rfl <| lk_off rfl <| lk4 rfl <| lk1 rfl <| lk_entry rfl)) ?_
        refine WL_q rfl (q_move (lk4 rfl <| lk_in rfl ht6)) ?_
        refine WL_q rfl (q_index  sl_136 (lk1 rfl <| lk0) h.plain (lk0) rfl (by omega)) ?_
        refine WL_q rfl (q_load1 one_9 (lk0) (h.cell1 (by omega) rfl)) ?_
        refine WL_q rfl (q_move (lk4 rfl <| lk2 rfl <| lk1 rfl <| lk_off rfl <| lk8 rfl <| lk2 rfl <| lk1 rfl <| lk_off rfl <| lk4 rfl <| lk1 rfl <| lk_entry rfl)) ?_
        refine WL_q rfl (q_eqs (lk1 rfl <| lk0) (lk0)) ?_
        refine WL_nil ?_
        refine then_n ?_
        refine WC_if_true (lk0) hsq ?_
        refine WC_seq ?_
        refine WC_reg fun ds => ?_
        refine WL_q rfl (q_move (lk8 rfl <| lk1 rfl <| lk_in rfl ht6)) ?_
        refine WL_q rfl (q_assign (lk0)) ?_
        refine WL_nil ?_
        refine then_n ?_
        refine WC_ret ?_
        refine block_r (then_r (then_r (block_r (then_r ?_))))
        refine post_ret rfl (.tmp (lk0) .nil) ?_
        show _ = _
        rw [findI_some (p := fun x => sameS x wd) (k := q) (by omega) hsq hno2]; rfl
       ·
        replace hsq : sameS xs[q] wd = false := by simpa using hsq
        refine WC_skip ?_
        refine then_n ?_
        refine WC_seq ?_
        refine WC_block ?_
        refine WC_seq ?_
        refine WC_reg fun ds => ?_
        refine WL_q rfl (q_move (lk2 rfl <| lk1 rfl <| lk_off rfl <| lk8 rfl <| lk2 rfl <| lk1 rfl <| lk_off rfl <| lk4 rfl <| lk1 rfl <| lk_entry rfl)) ?_
        refine WL_q rfl (q_move (lk4 rfl <| lk_in rfl ht6)) ?_
        refine WL_q rfl (q_index  sl_136 (lk1 rfl <| lk0) h.plain (lk0) rfl (by omega)) ?_
        refine WL_q rfl (q_load1 one_9 (lk0) (h.cell1 (by omega) rfl)) ?_
        refine WL_q rfl (q_move (lk4 rfl <| lk2 rfl <| lk1 rfl <| lk_off rfl <| lk8 rfl <| lk2 rfl <| lk1 rfl <| lk_off rfl <| lk4 rfl <| lk1 rfl <| lk_entry rfl)) ?_
        refine WL_q rfl (q_eqs (lk1 rfl <| lk0) (lk0)) ?_
        refine WL_nil ?_
        refine then_n ?_
        refine WC_if_false (lk0) hsq ?_
        refine WC_skip ?_
        refine block_n (then_n ?_)
        refine WC_reg fun ds => ?_
        refine WL_q rfl (q_move (lk8 rfl <| lk1 rfl <| lk_in rfl ht6)) ?_
        refine WL_q rfl (q_add (lk0) lk_const rfl (by omega) (by omega)) ?_
        refine WL_q rfl (q_assign (lk0)) ?_
        refine WL_nil ?_
        refine then_n ⟨_, m2 - 1, Off.eq (ou8 rfl <| ou4 rfl <| off_over), by omega, ?_⟩
        refine ⟨q + 1, by omega, (lk0), rfl, fun j hj hjk => ?_⟩
        rcases Nat.lt_succ_iff_lt_or_eq.1 hjk with hjk | rfl
        · exact hno2 j hj hjk
        · exact hsq
      ·
       refine WC_seq ?_
       refine WC_seq ?_
       refine WC_reg fun ds => ?_
       refine WL_q rfl (q_move (lk_in rfl ht6)) ?_
       refine WL_q rfl (q_move (lk1 rfl <| lk_off rfl <| lk8 rfl <| lk2 rfl <| lk1 rfl <| lk_in rfl hs5)) ?_
       refine WL_q rfl (q_lss (lk1 rfl <| lk0) (lk0)) ?_
       refine WL_nil ?_
       refine then_n ?_
       refine WC_if_false (lk0) (by first | rfl | exact decide_eq_false (by omega)) ?_
       refine WC_exit ?_
       refine then_x (then_x (exit_here ?_))
       refine then_n ?_
       refine WC_seq ?_
       refine WC_reg fun ds => ?_
       refine WL_q rfl (q_move (lk2 rfl <| lk1 rfl <| lk_off rfl <| lk8 rfl <| lk2 rfl <| lk1 rfl <| lk_in rfl hs5)) ?_
       refine WL_q rfl (q_assign (lk0)) ?_
       refine WL_nil ?_
       refine then_n ?_
       refine WC_ret ?_
       refine post_ret rfl (.tmp (lk0) .nil) ?_
       show _ = _
       rw [findI_some (p := fun x => sameS x wd) (k := k) hk hsm (fun j hj hjk => hno2 j hj (by omega))]; rfl
    ·
     replace hsm : sameS xs[k] wd = false := by simpa using hsm
     refine WC_if_true (lk0) (by simpa [sameS] using hsm) ?_
     refine WC_skip ?_
     refine then_n ?_
     refine WC_block ?_
     refine WC_reg fun ds => ?_
     refine WL_q rfl (q_move (lk8 rfl <| lk2 rfl <| lk_in rfl hs5)) ?_
     refine WL_q rfl (q_sub (lk0) lk_const rfl (by omega) (by omega)) ?_
     refine WL_q rfl (q_assign (lk0)) ?_
     refine WL_nil ?_
     refine block_n ?_
     refine then_n ⟨_, m - 1, Off.eq (ou8 rfl <| ou4 rfl <| ou1 rfl <| off_over), by omega, ?_⟩
     refine ⟨(k : Int) - 1, by omega, by omega, by omega, (lk0), rfl, fun j hj hjk => ?_⟩
     by_cases hjk2 : j = k
     · subst hjk2; exact hsm
     · exact hno j hj (by omega)
   ·
    refine WC_seq ?_
    refine WC_seq ?_
    refine WC_reg fun ds => ?_
    refine WL_q rfl (q_move (lk_in rfl hs5)) ?_
    refine WL_q rfl (q_geq (lk0) lk_const) ?_
    refine WL_q rfl (q_move (lk0)) ?_
    refine WL_pass rfl rfl (lk0) (.inl (congrArg Value.bool (by first | rfl | exact decide_eq_false (by omega)))) rfl ?_
    refine WL_pass rfl rfl (lk1 rfl <| lk0) (.inl (congrArg Value.bool (by first | rfl | exact decide_eq_false (by omega)))) rfl ?_
    refine WL_pass rfl rfl (lk2 rfl <| lk0) (.inl (congrArg Value.bool (by first | rfl | exact decide_eq_false (by omega)))) rfl ?_
    refine WL_pass rfl rfl (lk2 rfl <| lk1 rfl <| lk0) (.inl (congrArg Value.bool (by first | rfl | exact decide_eq_false (by omega)))) rfl ?_
    refine WL_pass rfl rfl (lk4 rfl <| lk0) (.inl (congrArg Value.bool (by first | rfl | exact decide_eq_false (by omega)))) rfl ?_
    refine WL_pass rfl rfl (lk4 rfl <| lk1 rfl <| lk0) (.inl (congrArg Value.bool (by first | rfl | exact decide_eq_false (by omega)))) rfl ?_
    refine WL_q rfl (q_pick_false (lk4 rfl <| lk2 rfl <| lk0) (by first | rfl | exact decide_eq_false (by omega)) lk_const) ?_
    refine WL_nil ?_
    refine then_n ?_
    refine WC_if_false (lk0) (by first | rfl | exact decide_eq_false (by omega)) ?_
    refine WC_exit ?_
    refine then_x (then_x (exit_here ?_))
    refine then_n ?_
    refine WC_seq ?_
    refine WC_seq ?_
    refine WC_reg fun ds => ?_
    refine WL_q rfl (q_assign lk_const) ?_
    refine WL_nil ?_
    refine then_n ?_
    refine WC_block ?_
    refine WC_loopN [4, 6, 22, 23, 24, 25, 26, 27, 28, 29, 30, 31, 32, 33] (fun m e σ => m = 0 ∧ e 6 = .int .i64 0 ∧ σ = ⟨F, []⟩) (0) ?_ ?_
    · exact ⟨rfl, (lk0), rfl⟩
    ·
     rintro m2 e2 _ ⟨hm2, ht6, rfl⟩
     refine WC_seq ?_
     refine WC_seq ?_
     refine WC_reg fun ds => ?_
     refine WL_q rfl (q_move (lk_in rfl ht6)) ?_
     refine WL_q rfl (q_move (lk1 rfl <| lk_off rfl <| lk8 rfl <| lk2 rfl <| lk1 rfl <| lk_in rfl hs5)) ?_
     refine WL_q rfl (q_lss (lk1 rfl <| lk0) (lk0)) ?_
     refine WL_nil ?_
     refine then_n ?_
     refine WC_if_false (lk0) (by first | rfl | exact decide_eq_false (by omega)) ?_
     refine WC_exit ?_
     refine then_x (then_x (exit_here ?_))
     refine then_n ?_
     refine WC_seq ?_
     refine WC_reg fun ds => ?_
     refine WL_q rfl (q_move (lk2 rfl <| lk1 rfl <| lk_off rfl <| lk8 rfl <| lk2 rfl <| lk1 rfl <| lk_in rfl hs5)) ?_
     refine WL_q rfl (q_assign (lk0)) ?_
     refine WL_nil ?_
     refine then_n ?_
     refine WC_ret ?_
     refine post_ret rfl (.tmp (lk0) .nil) ?_
     show _ = _
     obtain rfl : z = -1 := by omega
     rw [findI_none (p := fun x => sameS x wd) (fun j hj => hno j hj (by omega))]; rfl
set_option maxRecDepth 100000 in
theorem fresh_ok {F : Heap} {v : Value} {xs : List ByteArray} (h : Sl F v 1 strE xs) (wd : ByteArray) : Ok Try.prog 86 [.string wd, v].toArray F fun r _ => r = .int .i64 (freshE wd xs) := by
  refine Ok.intro Try.func86 rfl Try.ntmps86 rfl fun w0 => ?_
  by_cases hp : 0 ≤ findI (fun x => sameS x wd) xs
  ·
   refine WC_seq ?_
   refine WC_reg fun ds => ?_
   refine WL_q rfl (q_assign lk_const) ?_
   refine WL_nil ?_
   refine then_n ?_
   refine WC_seq ?_
   refine WC_reg fun ds => ?_
   refine WL_q rfl (q_assign lk_const) ?_
   refine WL_nil ?_
   refine then_n ?_
   refine WC_seq ?_
   refine WC_seq ?_
   refine WC_reg fun ds => ?_
   refine WL_q rfl (q_move (lk2 rfl <| lk_entry rfl)) ?_
   refine WL_q rfl (q_move (lk2 rfl <| lk1 rfl <| lk_entry rfl)) ?_
   refine WL_c rfl (q_call bd_101 lk_func (.cons (lk1 rfl <| lk0) (.cons (lk0) .nil)) (place_ok h wd) (fun _ _ h => h)) ?_
   refine WL_q rfl (q_geq (lk0) lk_const) ?_
   refine WL_nil ?_
   refine then_n ?_
   refine WC_if_true (lk0) (by first | rfl | exact decide_eq_true (by omega)) ?_
   by_cases hn : nameOk wd = true
   ·
    refine WC_reg fun ds => ?_
    refine WL_q rfl (q_assign lk_const) ?_
    refine WL_nil ?_
    refine then_n ?_
    refine WC_seq ?_
    refine WC_seq ?_
    refine WC_reg fun ds => ?_
    refine WL_q rfl (q_move (lk4 rfl <| lk2 rfl <| lk1 rfl <| lk_entry rfl)) ?_
    refine WL_c rfl (q_call bd_102 lk_func (.cons (lk0) .nil) (refName_ok wd) (fun _ _ h => h)) ?_
    refine WL_q rfl (q_not (lk0)) ?_
    refine WL_nil ?_
    refine then_n ?_
    refine WC_if_false (lk0) (by rw [hn]; rfl) ?_
    refine WC_skip ?_
    refine then_n ?_
    refine WC_seq ?_
    refine WC_reg fun ds => ?_
    refine WL_q rfl (q_move (lk2 rfl <| lk1 rfl <| lk0)) ?_
    refine WL_q rfl (q_assign (lk0)) ?_
    refine WL_nil ?_
    refine then_n ?_
    refine WC_ret ?_
    refine post_ret rfl (.tmp (lk0) .nil) ?_
    show _ = _
    simp [outOf, freshE, hn, ← findI_any, hp]
   ·
    refine WC_reg fun ds => ?_
    refine WL_q rfl (q_assign lk_const) ?_
    refine WL_nil ?_
    refine then_n ?_
    refine WC_seq ?_
    refine WC_seq ?_
    refine WC_reg fun ds => ?_
    refine WL_q rfl (q_move (lk4 rfl <| lk2 rfl <| lk1 rfl <| lk_entry rfl)) ?_
    refine WL_c rfl (q_call bd_102 lk_func (.cons (lk0) .nil) (refName_ok wd) (fun _ _ h => h)) ?_
    refine WL_q rfl (q_not (lk0)) ?_
    refine WL_nil ?_
    refine then_n ?_
    refine WC_if_true (lk0) (by simpa using hn) ?_
    refine WC_reg fun ds => ?_
    refine WL_q rfl (q_assign lk_const) ?_
    refine WL_nil ?_
    refine then_n ?_
    refine WC_seq ?_
    refine WC_reg fun ds => ?_
    refine WL_q rfl (q_move (lk0)) ?_
    refine WL_q rfl (q_assign (lk0)) ?_
    refine WL_nil ?_
    refine then_n ?_
    refine WC_ret ?_
    refine post_ret rfl (.tmp (lk0) .nil) ?_
    show _ = _
    simp [outOf, freshE, hn]
  ·
   refine WC_seq ?_
   refine WC_reg fun ds => ?_
   refine WL_q rfl (q_assign lk_const) ?_
   refine WL_nil ?_
   refine then_n ?_
   refine WC_seq ?_
   refine WC_reg fun ds => ?_
   refine WL_q rfl (q_assign lk_const) ?_
   refine WL_nil ?_
   refine then_n ?_
   refine WC_seq ?_
   refine WC_seq ?_
   refine WC_reg fun ds => ?_
   refine WL_q rfl (q_move (lk2 rfl <| lk_entry rfl)) ?_
   refine WL_q rfl (q_move (lk2 rfl <| lk1 rfl <| lk_entry rfl)) ?_
   refine WL_c rfl (q_call bd_101 lk_func (.cons (lk1 rfl <| lk0) (.cons (lk0) .nil)) (place_ok h wd) (fun _ _ h => h)) ?_
   refine WL_q rfl (q_geq (lk0) lk_const) ?_
   refine WL_nil ?_
   refine then_n ?_
   refine WC_if_false (lk0) (by first | rfl | exact decide_eq_false (by omega)) ?_
   by_cases hn : nameOk wd = true
   ·
    refine WC_skip ?_
    refine then_n ?_
    refine WC_seq ?_
    refine WC_seq ?_
    refine WC_reg fun ds => ?_
    refine WL_q rfl (q_move (lk4 rfl <| lk2 rfl <| lk_entry rfl)) ?_
    refine WL_c rfl (q_call bd_102 lk_func (.cons (lk0) .nil) (refName_ok wd) (fun _ _ h => h)) ?_
    refine WL_q rfl (q_not (lk0)) ?_
    refine WL_nil ?_
    refine then_n ?_
    refine WC_if_false (lk0) (by rw [hn]; rfl) ?_
    refine WC_skip ?_
    refine then_n ?_
    refine WC_seq ?_
    refine WC_reg fun ds => ?_
    refine WL_q rfl (q_move (lk4 rfl <| lk2 rfl <| lk1 rfl <| lk0)) ?_
    refine WL_q rfl (q_assign (lk0)) ?_
    refine WL_nil ?_
    refine then_n ?_
    refine WC_ret ?_
    refine post_ret rfl (.tmp (lk0) .nil) ?_
    show _ = _
    simp [outOf, freshE, hn, ← findI_any, hp]
   ·
    refine WC_skip ?_
    refine then_n ?_
    refine WC_seq ?_
    refine WC_seq ?_
    refine WC_reg fun ds => ?_
    refine WL_q rfl (q_move (lk4 rfl <| lk2 rfl <| lk_entry rfl)) ?_
    refine WL_c rfl (q_call bd_102 lk_func (.cons (lk0) .nil) (refName_ok wd) (fun _ _ h => h)) ?_
    refine WL_q rfl (q_not (lk0)) ?_
    refine WL_nil ?_
    refine then_n ?_
    refine WC_if_true (lk0) (by simpa using hn) ?_
    refine WC_reg fun ds => ?_
    refine WL_q rfl (q_assign lk_const) ?_
    refine WL_nil ?_
    refine then_n ?_
    refine WC_seq ?_
    refine WC_reg fun ds => ?_
    refine WL_q rfl (q_move (lk0)) ?_
    refine WL_q rfl (q_assign (lk0)) ?_
    refine WL_nil ?_
    refine then_n ?_
    refine WC_ret ?_
    refine post_ret rfl (.tmp (lk0) .nil) ?_
    show _ = _
    simp [outOf, freshE, hn]
set_option maxRecDepth 100000 in
theorem range_ok {F : Heap} (a b lo hi : Int) : Ok Try.prog 87 [.agg #[.int .i64 a, .int .i64 b], .int .i64 lo, .int .i64 hi].toArray F fun r _ => r = .int .i64 (rangeE a b lo hi) := by
  refine Ok.intro Try.func87 rfl Try.ntmps87 rfl fun w0 => ?_
  by_cases h1 : min a b < lo
  ·
   refine WC_seq ?_
   refine WC_reg fun ds => ?_
   refine WL_x rfl (x_box (lk_entry rfl) rfl fun b1 hb1 nb1 => ?_)
   refine WL_q rfl (q_assign lk_const) ?_
   refine WL_nil ?_
   refine then_n ?_
   refine WC_seq ?_
   refine WC_seq ?_
   refine WC_reg fun ds => ?_
   refine WL_q rfl (q_fieldAddrB fd_60_0 (lk1 rfl <| lk0)) ?_
   refine WL_q rfl (q_load1 one_3 (lk0) (Cell.own 0 rfl rfl)) ?_
   refine WL_q rfl (q_fieldAddrB fd_60_1 (lk2 rfl <| lk1 rfl <| lk0)) ?_
   refine WL_q rfl (q_load1 one_3 (lk0) (Cell.own 0 rfl rfl)) ?_
   refine WL_q rfl (q_min2 (lk2 rfl <| lk0) (lk0)) ?_
   refine WL_q rfl (q_move (lk4 rfl <| lk2 rfl <| lk1 rfl <| lk_entry rfl)) ?_
   refine WL_q rfl (q_lss (lk1 rfl <| lk0) (lk0)) ?_
   refine WL_q rfl (q_move (lk0)) ?_
   refine WL_pass rfl rfl (lk0) (.inl (congrArg Value.bool (by first | rfl | exact decide_eq_true (by omega)))) rfl ?_
   refine WL_pass rfl rfl (lk1 rfl <| lk0) (.inl (congrArg Value.bool (by first | rfl | exact decide_eq_true (by omega)))) rfl ?_
   refine WL_pass rfl rfl (lk2 rfl <| lk0) (.inl (congrArg Value.bool (by first | rfl | exact decide_eq_true (by omega)))) rfl ?_
   refine WL_pass rfl rfl (lk2 rfl <| lk1 rfl <| lk0) (.inl (congrArg Value.bool (by first | rfl | exact decide_eq_true (by omega)))) rfl ?_
   refine WL_pass rfl rfl (lk4 rfl <| lk0) (.inl (congrArg Value.bool (by first | rfl | exact decide_eq_true (by omega)))) rfl ?_
   refine WL_pass rfl rfl (lk4 rfl <| lk1 rfl <| lk0) (.inl (congrArg Value.bool (by first | rfl | exact decide_eq_true (by omega)))) rfl ?_
   refine WL_pass rfl rfl (lk4 rfl <| lk2 rfl <| lk0) (.inl (congrArg Value.bool (by first | rfl | exact decide_eq_true (by omega)))) rfl ?_
   refine WL_q rfl (q_pick_true (lk4 rfl <| lk2 rfl <| lk1 rfl <| lk0) (by first | rfl | exact decide_eq_true (by omega)) lk_const) ?_
   refine WL_nil ?_
   refine then_n ?_
   refine WC_if_true (lk0) (by first | rfl | exact decide_eq_true (by omega)) ?_
   refine WC_seq ?_
   refine WC_reg fun ds => ?_
   refine WL_q rfl (q_assign lk_const) ?_
   refine WL_nil ?_
   refine then_n ?_
   refine WC_ret ?_
   refine then_r ?_
   refine post_ret rfl (.tmp (lk0) .nil) ?_
   show _ = _
   unfold rangeE; simp only [outOf]; rw [if_pos (Or.inl h1)]
  ·
   refine WC_seq ?_
   refine WC_reg fun ds => ?_
   refine WL_x rfl (x_box (lk_entry rfl) rfl fun b2 hb2 nb2 => ?_)
   refine WL_q rfl (q_assign lk_const) ?_
   refine WL_nil ?_
   refine then_n ?_
   refine WC_seq ?_
   refine WC_seq ?_
   refine WC_reg fun ds => ?_
   refine WL_q rfl (q_fieldAddrB fd_60_0 (lk1 rfl <| lk0)) ?_
   refine WL_q rfl (q_load1 one_3 (lk0) (Cell.own 0 rfl rfl)) ?_
   refine WL_q rfl (q_fieldAddrB fd_60_1 (lk2 rfl <| lk1 rfl <| lk0)) ?_
   refine WL_q rfl (q_load1 one_3 (lk0) (Cell.own 0 rfl rfl)) ?_
   refine WL_q rfl (q_min2 (lk2 rfl <| lk0) (lk0)) ?_
   refine WL_q rfl (q_move (lk4 rfl <| lk2 rfl <| lk1 rfl <| lk_entry rfl)) ?_
   refine WL_q rfl (q_lss (lk1 rfl <| lk0) (lk0)) ?_
   refine WL_q rfl (q_move (lk0)) ?_
   refine WL_want rfl rfl (lk0) (by first | rfl | exact decide_eq_false (by omega)) ?_
   refine WL_q rfl (q_fieldAddrB fd_60_0 (lk8 rfl <| lk1 rfl <| lk0)) ?_
   refine WL_want rfl rfl (lk1 rfl <| lk0) (by first | rfl | exact decide_eq_false (by omega)) ?_
   refine WL_q rfl (q_load1 one_3 (lk0) (Cell.own 0 rfl rfl)) ?_
   refine WL_want rfl rfl (lk2 rfl <| lk0) (by first | rfl | exact decide_eq_false (by omega)) ?_
   refine WL_q rfl (q_fieldAddrB fd_60_1 (lk8 rfl <| lk2 rfl <| lk1 rfl <| lk0)) ?_
   refine WL_want rfl rfl (lk2 rfl <| lk1 rfl <| lk0) (by first | rfl | exact decide_eq_false (by omega)) ?_
   refine WL_q rfl (q_load1 one_3 (lk0) (Cell.own 0 rfl rfl)) ?_
   refine WL_want rfl rfl (lk4 rfl <| lk0) (by first | rfl | exact decide_eq_false (by omega)) ?_
   refine WL_q rfl (q_max2 (lk2 rfl <| lk0) (lk0)) ?_
   refine WL_want rfl rfl (lk4 rfl <| lk1 rfl <| lk0) (by first | rfl | exact decide_eq_false (by omega)) ?_
   refine WL_q rfl (q_move (lk8 rfl <| lk4 rfl <| lk2 rfl <| lk1 rfl <| lk_entry rfl)) ?_
   refine WL_want rfl rfl (lk4 rfl <| lk2 rfl <| lk0) (by first | rfl | exact decide_eq_false (by omega)) ?_
   refine WL_q rfl (q_gtr (lk1 rfl <| lk0) (lk0)) ?_
   refine WL_q rfl (q_pick_false (lk4 rfl <| lk2 rfl <| lk1 rfl <| lk0) (by first | rfl | exact decide_eq_false (by omega)) (lk0)) ?_
   refine WL_nil ?_
   refine then_n ?_
   by_cases h2 : hi < max a b
   ·
    refine WC_if_true (lk0) (by first | rfl | exact decide_eq_true (by omega)) ?_
    refine WC_seq ?_
    refine WC_reg fun ds => ?_
    refine WL_q rfl (q_assign lk_const) ?_
    refine WL_nil ?_
    refine then_n ?_
    refine WC_ret ?_
    refine then_r ?_
    refine post_ret rfl (.tmp (lk0) .nil) ?_
    show _ = _
    unfold rangeE; simp only [outOf]; rw [if_pos (Or.inr h2)]
   ·
    refine WC_if_false (lk0) (by first | rfl | exact decide_eq_false (by omega)) ?_
    by_cases h3 : b < a
    ·
     refine WC_skip ?_
     refine then_n ?_
     refine WC_seq ?_
     refine WC_seq ?_
     refine WC_reg fun ds => ?_
     refine WL_q rfl (q_fieldAddrB fd_60_1 (lk16 rfl <| lk1 rfl <| lk0)) ?_
     refine WL_q rfl (q_load1 one_3 (lk0) (Cell.own 0 rfl rfl)) ?_
     refine WL_q rfl (q_fieldAddrB fd_60_0 (lk16 rfl <| lk2 rfl <| lk1 rfl <| lk0)) ?_
     refine WL_q rfl (q_load1 one_3 (lk0) (Cell.own 0 rfl rfl)) ?_
     refine WL_q rfl (q_lss (lk2 rfl <| lk0) (lk0)) ?_
     refine WL_nil ?_
     refine then_n ?_
     refine WC_if_true (lk0) (by first | rfl | exact decide_eq_true (by omega)) ?_
     refine WC_seq ?_
     refine WC_reg fun ds => ?_
     refine WL_q rfl (q_assign lk_const) ?_
     refine WL_nil ?_
     refine then_n ?_
     refine WC_ret ?_
     refine then_r ?_
     refine post_ret rfl (.tmp (lk0) .nil) ?_
     show _ = _
     unfold rangeE; simp only [outOf]; rw [if_neg (by omega), if_pos h3]
    ·
     refine WC_skip ?_
     refine then_n ?_
     refine WC_seq ?_
     refine WC_seq ?_
     refine WC_reg fun ds => ?_
     refine WL_q rfl (q_fieldAddrB fd_60_1 (lk16 rfl <| lk1 rfl <| lk0)) ?_
     refine WL_q rfl (q_load1 one_3 (lk0) (Cell.own 0 rfl rfl)) ?_
     refine WL_q rfl (q_fieldAddrB fd_60_0 (lk16 rfl <| lk2 rfl <| lk1 rfl <| lk0)) ?_
     refine WL_q rfl (q_load1 one_3 (lk0) (Cell.own 0 rfl rfl)) ?_
     refine WL_q rfl (q_lss (lk2 rfl <| lk0) (lk0)) ?_
     refine WL_nil ?_
     refine then_n ?_
     refine WC_if_false (lk0) (by first | rfl | exact decide_eq_false (by omega)) ?_
     refine WC_skip ?_
     refine then_n ?_
     refine WC_seq ?_
     refine WC_reg fun ds => ?_
     refine WL_q rfl (q_assign lk_const) ?_
     refine WL_nil ?_
     refine then_n ?_
     refine WC_ret ?_
     refine post_ret rfl (.tmp (lk0) .nil) ?_
     show _ = _
     unfold rangeE; simp only [outOf]; rw [if_neg (by omega), if_neg h3]
set_option maxRecDepth 100000 in
theorem indexInt_ok {F : Heap} {v : Value} {xs : List Int} (h : Ints F v xs) (p : _ → Bool) {g : FuncId} {cs : List Value} (hg : Body Try.prog g) (hp : ∀ k (hk : k < xs.length), Ok Try.prog g ([Value.int .i64 xs[k]] ++ cs).toArray F fun r _ => r = .bool (p xs[k])) : Ok Try.prog 100 [v, .func (.func g) #[] cs.toArray].toArray F fun r _ => r = .int .i64 (findI p xs) := by
  refine Ok.intro Try.func100 rfl Try.ntmps100 rfl fun w0 => ?_
  have hlen := h.plain.lt
  refine WC_seq ?_
  refine WC_reg fun ds => ?_
  refine WL_q rfl (q_assign lk_const) ?_
  refine WL_nil ?_
  refine then_n ?_
  refine WC_seq ?_
  refine WC_seq ?_
  refine WC_reg fun ds => ?_
  refine WL_q rfl (q_move (lk1 rfl <| lk_entry rfl)) ?_
  refine WL_q rfl (q_lenP sl_29 (lk0) h.plain) ?_
  refine WL_q rfl (q_move lk_const) ?_
  refine WL_nil ?_
  refine then_n ?_
  refine WC_block ?_
  refine WC_loopN [4, 5, 8, 9, 10, 11, 12, 13, 14, 15, 16, 17, 18] (fun m e σ => ∃ k : Nat, m + k = xs.length ∧ e 8 = .int .i64 k ∧ σ = ⟨F, []⟩ ∧ ∀ j (hj : j < xs.length), j < k → p xs[j] = false) (xs.length) ?_ ?_
  · exact ⟨0, by omega, (lk0), rfl, fun j hj h => absurd h (by omega)⟩
  ·
   rintro m e _ ⟨k, hm, hs8, rfl, hno⟩
   by_cases hlt : k < xs.length
   ·
    refine WC_seq ?_
    refine WC_reg fun ds => ?_
    refine WL_q rfl (q_lss (lk_in rfl hs8) (lk_off rfl <| lk1 rfl <| lk0)) ?_
    refine WL_nil ?_
    refine then_n ?_
    refine WC_seq ?_
    refine WC_if_true (lk0) (by first | rfl | exact decide_eq_true (by omega)) ?_
    by_cases hpk : p xs[k] = true
    ·
     refine WC_skip ?_
     refine then_n ?_
     refine WC_seq ?_
     refine WC_block ?_
     refine WC_seq ?_
     refine WC_reg fun ds => ?_
     refine WL_q rfl (q_move (lk1 rfl <| lk_in rfl hs8)) ?_
     refine WL_q rfl (q_assign (lk0)) ?_
     refine WL_nil ?_
     refine then_n ?_
     refine WC_seq ?_
     refine WC_reg fun ds => ?_
     refine WL_q rfl (q_move (lk2 rfl <| lk1 rfl <| lk_off rfl <| lk4 rfl <| lk_entry rfl)) ?_
     refine WL_q rfl (q_move (lk4 rfl <| lk_off rfl <| lk4 rfl <| lk_entry rfl)) ?_
     refine WL_q rfl (q_move (lk2 rfl <| lk0)) ?_
     refine WL_q rfl (q_index  sl_29 (lk1 rfl <| lk0) h.plain (lk0) rfl (by omega)) ?_
     refine WL_q rfl (q_load1 one_3 (lk0) (h.cell1 (by omega) rfl)) ?_
     refine WL_c rfl (q_call hg (lk4 rfl <| lk0) (.cons (lk0) .nil) (hp k hlt) (fun _ _ h => h)) ?_
     refine WL_nil ?_
     refine then_n ?_
     refine WC_if_true (lk0) hpk ?_
     refine WC_seq ?_
     refine WC_reg fun ds => ?_
     refine WL_q rfl (q_move (lk4 rfl <| lk2 rfl <| lk0)) ?_
     refine WL_q rfl (q_assign (lk0)) ?_
     refine WL_nil ?_
     refine then_n ?_
     refine WC_ret ?_
     refine block_r (then_r (then_r (block_r (then_r ?_))))
     refine post_ret rfl (.tmp (lk0) .nil) ?_
     show _ = _
     rw [findI_some hlt hpk hno]; rfl
    ·
     replace hpk : p xs[k] = false := by simpa using hpk
     refine WC_skip ?_
     refine then_n ?_
     refine WC_seq ?_
     refine WC_block ?_
     refine WC_seq ?_
     refine WC_reg fun ds => ?_
     refine WL_q rfl (q_move (lk1 rfl <| lk_in rfl hs8)) ?_
     refine WL_q rfl (q_assign (lk0)) ?_
     refine WL_nil ?_
     refine then_n ?_
     refine WC_seq ?_
     refine WC_reg fun ds => ?_
     refine WL_q rfl (q_move (lk2 rfl <| lk1 rfl <| lk_off rfl <| lk4 rfl <| lk_entry rfl)) ?_
     refine WL_q rfl (q_move (lk4 rfl <| lk_off rfl <| lk4 rfl <| lk_entry rfl)) ?_
     refine WL_q rfl (q_move (lk2 rfl <| lk0)) ?_
     refine WL_q rfl (q_index  sl_29 (lk1 rfl <| lk0) h.plain (lk0) rfl (by omega)) ?_
     refine WL_q rfl (q_load1 one_3 (lk0) (h.cell1 (by omega) rfl)) ?_
     refine WL_c rfl (q_call hg (lk4 rfl <| lk0) (.cons (lk0) .nil) (hp k hlt) (fun _ _ h => h)) ?_
     refine WL_nil ?_
     refine then_n ?_
     refine WC_if_false (lk0) hpk ?_
     refine WC_skip ?_
     refine block_n (then_n ?_)
     refine WC_reg fun ds => ?_
     refine WL_q rfl (q_add (lk8 rfl <| lk1 rfl <| lk_in rfl hs8) lk_const rfl (by omega) (by omega)) ?_
     refine WL_q rfl (q_move (lk0)) ?_
     refine WL_nil ?_
     refine then_n ⟨_, m - 1, Off.eq (ou8 rfl <| ou2 rfl <| ou1 rfl <| off_over), by omega, ?_⟩
     refine ⟨k + 1, by omega, (lk0), rfl, fun j hj hjk => ?_⟩
     rcases Nat.lt_succ_iff_lt_or_eq.1 hjk with hjk | rfl
     · exact hno j hj hjk
     · exact hpk
   ·
    refine WC_seq ?_
    refine WC_reg fun ds => ?_
    refine WL_q rfl (q_lss (lk_in rfl hs8) (lk_off rfl <| lk1 rfl <| lk0)) ?_
    refine WL_nil ?_
    refine then_n ?_
    refine WC_seq ?_
    refine WC_if_false (lk0) (by first | rfl | exact decide_eq_false (by omega)) ?_
    refine WC_exit ?_
    refine then_x (then_x (exit_here ?_))
    refine then_n ?_
    refine WC_seq ?_
    refine WC_reg fun ds => ?_
    refine WL_q rfl (q_assign lk_const) ?_
    refine WL_nil ?_
    refine then_n ?_
    refine WC_ret ?_
    refine post_ret rfl (.tmp (lk0) .nil) ?_
    show _ = _
    rw [findI_none fun j hj => hno j hj (by omega)]; rfl
set_option maxRecDepth 100000 in
theorem containsInt_ok {F : Heap} {v : Value} {xs : List Int} (h : Ints F v xs) (p : _ → Bool) {g : FuncId} {cs : List Value} (hg : Body Try.prog g) (hp : ∀ k (hk : k < xs.length), Ok Try.prog g ([Value.int .i64 xs[k]] ++ cs).toArray F fun r _ => r = .bool (p xs[k])) : Ok Try.prog 83 [v, .func (.func g) #[] cs.toArray].toArray F fun r _ => r = .bool (xs.any p) := by
  refine Ok.intro Try.func83 rfl Try.ntmps83 rfl fun w0 => ?_
  refine WC_seq ?_
  refine WC_reg fun ds => ?_
  refine WL_q rfl (q_assign lk_const) ?_
  refine WL_nil ?_
  refine then_n ?_
  refine WC_seq ?_
  refine WC_reg fun ds => ?_
  refine WL_q rfl (q_move (lk1 rfl <| lk_entry rfl)) ?_
  refine WL_q rfl (q_move (lk2 rfl <| lk_entry rfl)) ?_
  refine WL_c rfl (q_call bd_100 lk_func (.cons (lk1 rfl <| lk0) (.cons (lk0) .nil)) (indexInt_ok h p hg hp) (fun _ _ h => h)) ?_
  refine WL_q rfl (q_geq (lk0) lk_const) ?_
  refine WL_q rfl (q_assign (lk0)) ?_
  refine WL_nil ?_
  refine then_n ?_
  refine WC_ret ?_
  refine post_ret rfl (.tmp (lk0) .nil) ?_
  show _ = _
  rw [← findI_any]; rfl
set_option maxRecDepth 100000 in
theorem outside1_ok {F : Heap} {b1 b2 T1 T2 : Nat} {lo hi : Int} (h1 : F b1 = some (bx T1 [.int .i64 lo])) (h2 : F b2 = some (bx T2 [.int .i64 hi])) (z : Int) : Ok Try.prog 84 [.int .i64 z, .pointer (some ⟨b1, 0, none⟩), .pointer (some ⟨b2, 0, none⟩)].toArray F fun r _ => r = .bool (!(inB lo hi z)) := by
  refine Ok.intro Try.func84 rfl Try.ntmps84 rfl fun w0 => ?_
  by_cases hz : z < lo
  ·
   refine WC_seq ?_
   refine WC_reg fun ds => ?_
   refine WL_q rfl (q_assign lk_const) ?_
   refine WL_nil ?_
   refine then_n ?_
   refine WC_seq ?_
   refine WC_reg fun ds => ?_
   refine WL_q rfl (q_move (lk1 rfl <| lk_entry rfl)) ?_
   refine WL_q rfl (q_load1 one_3 (lk2 rfl <| lk_entry rfl) (CellF.own h1 rfl).cell) ?_
   refine WL_q rfl (q_lss (lk1 rfl <| lk0) (lk0)) ?_
   refine WL_q rfl (q_move (lk0)) ?_
   refine WL_pass rfl rfl (lk0) (.inl (congrArg Value.bool (by first | rfl | exact decide_eq_true (by omega)))) rfl ?_
   refine WL_pass rfl rfl (lk1 rfl <| lk0) (.inl (congrArg Value.bool (by first | rfl | exact decide_eq_true (by omega)))) rfl ?_
   refine WL_pass rfl rfl (lk2 rfl <| lk0) (.inl (congrArg Value.bool (by first | rfl | exact decide_eq_true (by omega)))) rfl ?_
   refine WL_q rfl (q_pick_true (lk2 rfl <| lk1 rfl <| lk0) (by first | rfl | exact decide_eq_true (by omega)) lk_const) ?_
   refine WL_q rfl (q_assign (lk0)) ?_
   refine WL_nil ?_
   refine then_n ?_
   refine WC_ret ?_
   refine post_ret rfl (.tmp (lk0) .nil) ?_
   show _ = _
   have : ¬ lo ≤ z := by omega
   simp [outOf, inB, hz, this]
  ·
   refine WC_seq ?_
   refine WC_reg fun ds => ?_
   refine WL_q rfl (q_assign lk_const) ?_
   refine WL_nil ?_
   refine then_n ?_
   refine WC_seq ?_
   refine WC_reg fun ds => ?_
   refine WL_q rfl (q_move (lk1 rfl <| lk_entry rfl)) ?_
   refine WL_q rfl (q_load1 one_3 (lk2 rfl <| lk_entry rfl) (CellF.own h1 rfl).cell) ?_
   refine WL_q rfl (q_lss (lk1 rfl <| lk0) (lk0)) ?_
   refine WL_q rfl (q_move (lk0)) ?_
   refine WL_want rfl rfl (lk0) (by first | rfl | exact decide_eq_false (by omega)) ?_
   refine WL_q rfl (q_move (lk4 rfl <| lk1 rfl <| lk_entry rfl)) ?_
   refine WL_want rfl rfl (lk1 rfl <| lk0) (by first | rfl | exact decide_eq_false (by omega)) ?_
   refine WL_q rfl (q_load1 one_3 (lk4 rfl <| lk2 rfl <| lk_entry rfl) (CellF.own h2 rfl).cell) ?_
   refine WL_want rfl rfl (lk2 rfl <| lk0) (by first | rfl | exact decide_eq_false (by omega)) ?_
   refine WL_q rfl (q_gtr (lk1 rfl <| lk0) (lk0)) ?_
   refine WL_q rfl (q_pick_false (lk2 rfl <| lk1 rfl <| lk0) (by first | rfl | exact decide_eq_false (by omega)) (lk0)) ?_
   refine WL_q rfl (q_assign (lk0)) ?_
   refine WL_nil ?_
   refine then_n ?_
   by_cases hz2 : hi < z
   ·
    refine WC_ret ?_
    refine post_ret rfl (.tmp (lk0) .nil) ?_
    show _ = _
    have : ¬ z ≤ hi := by omega
    simp [outOf, inB, hz2, this]
   ·
    refine WC_ret ?_
    refine post_ret rfl (.tmp (lk0) .nil) ?_
    show _ = _
    have e1 : lo ≤ z := by omega
    have e2 : z ≤ hi := by omega
    simp [outOf, inB, hz2, e1, e2]
set_option maxRecDepth 100000 in
theorem outside_ok {F : Heap} {v : Value} {xs : List Int} (lo hi : Int) (h : Ints F v xs) : Ok Try.prog 51 [.int .i64 lo, .int .i64 hi, v].toArray F fun r _ => r = .bool (xs.any fun z => !(inB lo hi z)) := by
  refine Ok.intro Try.func51 rfl Try.ntmps51 rfl fun w0 => ?_
  refine WC_seq ?_
  refine WC_reg fun ds => ?_
  refine WL_x rfl (x_box (lk_entry rfl) rfl fun b1 hb1 nb1 => ?_)
  refine WL_x rfl (x_box (lk1 rfl <| lk_entry rfl) rfl fun b2 hb2 nb2 => ?_)
  refine WL_q rfl (q_assign lk_const) ?_
  refine WL_nil ?_
  refine then_n ?_
  refine WC_freeze (i := 1) rfl hb1 (.next <| .here) fun F3 hF4 hz1 => ?_
  replace h := h.mono hF4
  refine WC_freeze (i := 0) rfl hb2 (.here) fun F5 hF6 hz2 => ?_
  replace h := h.mono hF6
  replace hz1 := hF6 _ _ hz1
  refine WC_seq ?_
  refine WC_reg fun ds => ?_
  refine WL_q rfl (q_move (lk2 rfl <| lk1 rfl <| lk_entry rfl)) ?_
  refine WL_q rfl (q_makeFunc (.cons (lk2 rfl <| lk1 rfl <| lk0) (.cons (lk2 rfl <| lk0) .nil))) ?_
  refine WL_c rfl (q_call bd_83 lk_func (.cons (lk1 rfl <| lk0) (.cons (lk0) .nil)) (containsInt_ok h (fun z => !(inB lo hi z)) bd_84 fun k hk => outside1_ok hz1 hz2 _) (fun _ _ h => h)) ?_
  refine WL_q rfl (q_assign (lk0)) ?_
  refine WL_nil ?_
  refine then_n ?_
  refine WC_ret ?_
  refine post_ret rfl (.tmp (lk0) .nil) ?_
  rfl
end Go.Proofs.Ytbcjfkcpfjccdaa
