/-
  A part of a proof: ReaderKnown returns true. No conditions.
-/
import Derived.Test.YtbcjfkcpfjccdaaPaa
import Derived.Test.YtbcjfkcpfjccdaaRows
import Derived.WalkKit
import Derived.OpenShut
import Derived.ShutString
import Derived.ChangeOld
import Derived.Below
import Derived.Test.YtbcjfkcpfjccdaaProg
import Derived.KernelRfl
namespace Go.Proofs.Ytbcjfkcpfjccdaa
structure Book where
  name : ByteArray
  cls : Int
  lo : Int
  hi : Int
  large : Bool
structure Rdr where
  name : ByteArray
  permit : Int
structure Seat where
  light : Int
  small : Bool
structure Req where
  reader : Int
  book : Int
  hours : Int
  worth : Int
structure Room where
  books : List Book
  readers : List Rdr
  seats : List Seat
  reqs : List Req
def Book.enc (b : Book) : List Value := [.string b.name, .int .i64 b.cls, .int .i64 b.lo, .int .i64 b.hi, .bool b.large]
def Rdr.enc (b : Rdr) : List Value := [.string b.name, .int .i64 b.permit]
def Seat.enc (b : Seat) : List Value := [.int .i64 b.light, .bool b.small]
def Req.enc (b : Req) : List Value := [.int .i64 b.reader, .int .i64 b.book, .int .i64 b.hours, .int .i64 b.worth]
theorem Book.enc_one {b : Book} : ∀ u ∈ b.enc, u.oneCell' = true := by simp [Book.enc, Value.oneCell']
theorem Rdr.enc_one {b : Rdr} : ∀ u ∈ b.enc, u.oneCell' = true := by simp [Rdr.enc, Value.oneCell']
theorem Seat.enc_one {b : Seat} : ∀ u ∈ b.enc, u.oneCell' = true := by simp [Seat.enc, Value.oneCell']
theorem Req.enc_one {b : Req} : ∀ u ∈ b.enc, u.oneCell' = true := by simp [Req.enc, Value.oneCell']
structure RoomR (F : Heap) (vb vr vs vq : Value) (r : Room) : Prop where
  books : Sl F vb 5 Book.enc r.books
  readers : Sl F vr 2 Rdr.enc r.readers
  seats : Sl F vs 2 Seat.enc r.seats
  reqs : Sl F vq 4 Req.enc r.reqs
theorem RoomR.mono {F F' : Heap} {vb vr vs vq : Value} {r : Room} (h : RoomR F vb vr vs vq r) (hF : F.le F') : RoomR F' vb vr vs vq r :=
  ⟨h.books.mono hF, h.readers.mono hF, h.seats.mono hF, h.reqs.mono hF⟩
def bookErr (bs : List Book) (i : Nat) : Int := match bs[i]? with
  | none => 0
  | some b => if nameOk b.name = false then 6 else if (bs.take i).any (fun x => sameS x.name b.name) = true then 5
    else if (inB 0 5 b.cls && (inB 0 1000 b.lo && inB 0 1000 b.hi)) = false then 7 else if b.hi < b.lo then 2 else 0
def rdrErr (bs : List Rdr) (i : Nat) : Int := match bs[i]? with
  | none => 0
  | some b => if nameOk b.name = false then 6 else if (bs.take i).any (fun x => sameS x.name b.name) = true then 5
    else if inB 0 5 b.permit = false then 7 else 0
def seatErr (ss : List Seat) (i : Nat) : Int := match ss[i]? with
  | none => 0
  | some s => if inB 0 100 s.light = false then 7 else 0
def reqErr (r : Room) (i : Nat) : Int := match r.reqs[i]? with
  | none => 0
  | some q => if (inB 0 (r.readers.length - 1) q.reader && inB 0 (r.books.length - 1) q.book) = false then 4
    else if (inB 1 12 q.hours && inB 0 100 q.worth) = false then 7 else 0
def checkBooks (bs : List Book) : Option (Int × Int) := if 8 < bs.length then some (0, 3) else (firstBad bs.length (bookErr bs)).map fun (i : Nat) => ((i : Int), bookErr bs i)
def checkRdrs (bs : List Rdr) : Option (Int × Int) := if 8 < bs.length then some (0, 3) else (firstBad bs.length (rdrErr bs)).map fun (i : Nat) => ((i : Int), rdrErr bs i)
def checkSeats (ss : List Seat) : Option (Int × Int) := if 6 < ss.length then some (0, 3) else (firstBad ss.length (seatErr ss)).map fun (i : Nat) => ((i : Int), seatErr ss i)
def checkReqs (r : Room) : Option (Int × Int) := if 8 < r.reqs.length then some (0, 3) else (firstBad r.reqs.length (reqErr r)).map fun (i : Nat) => ((i : Int), reqErr r i)
/-- P10.1. -/
def check (r : Room) : Int × Int × Int :=
  match checkBooks r.books with
  | some (i, e) => (1, i, e)
  | none => match checkRdrs r.readers with
    | some (i, e) => (2, i, e)
    | none => match checkSeats r.seats with
      | some (i, e) => (3, i, e)
      | none => match checkReqs r with
        | some (i, e) => (4, i, e)
        | none => (0, 0, 0)
/-- The three results of 'Check'. -/
def checkV (r : Room) : Value := .tuple #[.int .i64 (check r).1, .int .i64 (check r).2.1, .int .i64 (check r).2.2]
theorem bookErr_at {bs : List Book} {k : Nat} (hk : k < bs.length) : bookErr bs k = if nameOk bs[k].name = false then 6 else if (bs.take k).any (fun x => sameS x.name bs[k].name) = true then 5
    else if (inB 0 5 bs[k].cls && (inB 0 1000 bs[k].lo && inB 0 1000 bs[k].hi)) = false then 7 else if bs[k].hi < bs[k].lo then 2 else 0 := by
  unfold bookErr; rw [List.getElem?_eq_getElem hk]
theorem rdrErr_at {bs : List Rdr} {k : Nat} (hk : k < bs.length) : rdrErr bs k = if nameOk bs[k].name = false then 6 else if (bs.take k).any (fun x => sameS x.name bs[k].name) = true then 5
    else if inB 0 5 bs[k].permit = false then 7 else 0 := by
  unfold rdrErr; rw [List.getElem?_eq_getElem hk]
theorem seatErr_at {bs : List Seat} {k : Nat} (hk : k < bs.length) : seatErr bs k = if inB 0 100 bs[k].light = false then 7 else 0 := by
  unfold seatErr; rw [List.getElem?_eq_getElem hk]
theorem reqErr_at {r : Room} {k : Nat} (hk : k < r.reqs.length) : reqErr r k = if (inB 0 (r.readers.length - 1) r.reqs[k].reader && inB 0 (r.books.length - 1) r.reqs[k].book) = false then 4
    else if (inB 1 12 r.reqs[k].hours && inB 0 100 r.reqs[k].worth) = false then 7 else 0 := by
  unfold reqErr; rw [List.getElem?_eq_getElem hk]
theorem checkBooks_long {bs : List Book} (h : 8 < bs.length) : checkBooks bs = some (0, 3) := if_pos h
theorem checkBooks_bad {bs : List Book} {k : Nat} {e : Int} (h : ¬ 8 < bs.length) (hk : k < bs.length) (hb : ∀ j, j < k → bookErr bs j = 0) (he : bookErr bs k = e) (hne : e ≠ 0) : checkBooks bs = some ((k : Int), e) := by
  unfold checkBooks; rw [if_neg h, firstBad_some hk (by rw [he]; exact hne) hb]; simp [he]
theorem checkBooks_ok {bs : List Book} (h : ¬ 8 < bs.length) (hb : ∀ j, j < bs.length → bookErr bs j = 0) : checkBooks bs = none := by
  unfold checkBooks; rw [if_neg h, firstBad_none hb]; rfl
theorem checkRdrs_long {bs : List Rdr} (h : 8 < bs.length) : checkRdrs bs = some (0, 3) := if_pos h
theorem checkRdrs_bad {bs : List Rdr} {k : Nat} {e : Int} (h : ¬ 8 < bs.length) (hk : k < bs.length) (hb : ∀ j, j < k → rdrErr bs j = 0) (he : rdrErr bs k = e) (hne : e ≠ 0) : checkRdrs bs = some ((k : Int), e) := by
  unfold checkRdrs; rw [if_neg h, firstBad_some hk (by rw [he]; exact hne) hb]; simp [he]
theorem checkRdrs_ok {bs : List Rdr} (h : ¬ 8 < bs.length) (hb : ∀ j, j < bs.length → rdrErr bs j = 0) : checkRdrs bs = none := by
  unfold checkRdrs; rw [if_neg h, firstBad_none hb]; rfl
theorem checkSeats_long {bs : List Seat} (h : 6 < bs.length) : checkSeats bs = some (0, 3) := if_pos h
theorem checkSeats_bad {bs : List Seat} {k : Nat} {e : Int} (h : ¬ 6 < bs.length) (hk : k < bs.length) (hb : ∀ j, j < k → seatErr bs j = 0) (he : seatErr bs k = e) (hne : e ≠ 0) : checkSeats bs = some ((k : Int), e) := by
  unfold checkSeats; rw [if_neg h, firstBad_some hk (by rw [he]; exact hne) hb]; simp [he]
theorem checkSeats_ok {bs : List Seat} (h : ¬ 6 < bs.length) (hb : ∀ j, j < bs.length → seatErr bs j = 0) : checkSeats bs = none := by
  unfold checkSeats; rw [if_neg h, firstBad_none hb]; rfl
theorem checkReqs_long {r : Room} (h : 8 < r.reqs.length) : checkReqs r = some (0, 3) := if_pos h
theorem checkReqs_bad {r : Room} {k : Nat} {e : Int} (h : ¬ 8 < r.reqs.length) (hk : k < r.reqs.length) (hb : ∀ j, j < k → reqErr r j = 0) (he : reqErr r k = e) (hne : e ≠ 0) : checkReqs r = some ((k : Int), e) := by
  unfold checkReqs; rw [if_neg h, firstBad_some hk (by rw [he]; exact hne) hb]; simp [he]
theorem checkReqs_ok {r : Room} (h : ¬ 8 < r.reqs.length) (hb : ∀ j, j < r.reqs.length → reqErr r j = 0) : checkReqs r = none := by
  unfold checkReqs; rw [if_neg h, firstBad_none hb]; rfl
theorem checkV1 {r : Room} {i e : Int} (h : checkBooks r.books = some (i, e)) : checkV r = .tuple #[.int .i64 1, .int .i64 i, .int .i64 e] := by unfold checkV check; rw [h]
theorem checkV2 {r : Room} {i e : Int} (h1 : checkBooks r.books = none) (h : checkRdrs r.readers = some (i, e)) : checkV r = .tuple #[.int .i64 2, .int .i64 i, .int .i64 e] := by unfold checkV check; rw [h1, h]
theorem checkV3 {r : Room} {i e : Int} (h1 : checkBooks r.books = none) (h2 : checkRdrs r.readers = none) (h : checkSeats r.seats = some (i, e)) : checkV r = .tuple #[.int .i64 3, .int .i64 i, .int .i64 e] := by unfold checkV check; rw [h1, h2, h]
theorem checkV4 {r : Room} {i e : Int} (h1 : checkBooks r.books = none) (h2 : checkRdrs r.readers = none) (h3 : checkSeats r.seats = none) (h : checkReqs r = some (i, e)) : checkV r = .tuple #[.int .i64 4, .int .i64 i, .int .i64 e] := by unfold checkV check; rw [h1, h2, h3, h]
theorem checkV0 {r : Room} (h1 : checkBooks r.books = none) (h2 : checkRdrs r.readers = none) (h3 : checkSeats r.seats = none) (h : checkReqs r = none) : checkV r = .tuple #[.int .i64 0, .int .i64 0, .int .i64 0] := by unfold checkV check; rw [h1, h2, h3, h]
def Room.req (r : Room) (i : Nat) : Req := r.reqs[i]?.getD ⟨0, 0, 0, 0⟩
def Room.bk (r : Room) (i : Nat) : Book := r.books[i]?.getD ⟨ByteArray.empty, 0, 0, 0, false⟩
def Room.rd (r : Room) (i : Nat) : Rdr := r.readers[i]?.getD ⟨ByteArray.empty, 0⟩
def Room.seat (r : Room) (i : Nat) : Seat := r.seats[i]?.getD ⟨0, false⟩
theorem req_at {r : Room} {i : Nat} (h : i < r.reqs.length) : r.reqs[i] = r.req i := by simp [Room.req, h]
theorem bk_at {r : Room} {i : Nat} (h : i < r.books.length) : r.books[i] = r.bk i := by simp [Room.bk, h]
theorem rd_at {r : Room} {i : Nat} (h : i < r.readers.length) : r.readers[i] = r.rd i := by simp [Room.rd, h]
theorem seat_at {r : Room} {i : Nat} (h : i < r.seats.length) : r.seats[i] = r.seat i := by simp [Room.seat, h]
def Room.reader (r : Room) (i : Nat) : Nat := (r.req i).reader.toNat
def Room.book (r : Room) (i : Nat) : Nat := (r.req i).book.toNat
structure Valid (r : Room) : Prop where
  nb : r.books.length ≤ 8
  nr : r.readers.length ≤ 8
  ns : r.seats.length ≤ 6
  nq : r.reqs.length ≤ 8
  rq : ∀ i, i < r.reqs.length → 0 ≤ (r.req i).reader ∧ (r.req i).reader < r.readers.length ∧ 0 ≤ (r.req i).book ∧ (r.req i).book < r.books.length ∧ 1 ≤ (r.req i).hours ∧ (r.req i).hours ≤ 12 ∧ 0 ≤ (r.req i).worth ∧ (r.req i).worth ≤ 100
  st : ∀ i, i < r.seats.length → 0 ≤ (r.seat i).light ∧ (r.seat i).light ≤ 100
  bo : ∀ i, i < r.books.length → 0 ≤ (r.bk i).lo ∧ (r.bk i).lo ≤ (r.bk i).hi ∧ (r.bk i).hi ≤ 1000 ∧ 0 ≤ (r.bk i).cls ∧ (r.bk i).cls ≤ 5
  rd : ∀ i, i < r.readers.length → 0 ≤ (r.rd i).permit ∧ (r.rd i).permit ≤ 5
theorem firstBad_none_iff {n : Nat} {f : Nat → Int} (h : firstBad n f = none) : ∀ j, j < n → f j = 0 := by
  unfold firstBad at h
  rw [List.find?_range_eq_none] at h
  intro j hj
  simpa using h j hj
theorem checkE_books {bs : List Book} {i e : Int} (h : checkBooks bs = some (i, e)) : e ≠ 0 := by
  unfold checkBooks at h
  split at h
  · simp at h; omega
  · cases hf : firstBad bs.length (bookErr bs) with
    | none => rw [hf] at h; simp at h
    | some k =>
      rw [hf] at h; simp at h
      have := List.find?_some hf
      rw [← h.2]; simpa using this
theorem checkE_rdrs {bs : List Rdr} {i e : Int} (h : checkRdrs bs = some (i, e)) : e ≠ 0 := by
  unfold checkRdrs at h
  split at h
  · simp at h; omega
  · cases hf : firstBad bs.length (rdrErr bs) with
    | none => rw [hf] at h; simp at h
    | some k =>
      rw [hf] at h; simp at h
      have := List.find?_some hf
      rw [← h.2]; simpa using this
theorem checkE_seats {bs : List Seat} {i e : Int} (h : checkSeats bs = some (i, e)) : e ≠ 0 := by
  unfold checkSeats at h
  split at h
  · simp at h; omega
  · cases hf : firstBad bs.length (seatErr bs) with
    | none => rw [hf] at h; simp at h
    | some k =>
      rw [hf] at h; simp at h
      have := List.find?_some hf
      rw [← h.2]; simpa using this
theorem checkE_reqs {r : Room} {i e : Int} (h : checkReqs r = some (i, e)) : e ≠ 0 := by
  unfold checkReqs at h
  split at h
  · simp at h; omega
  · cases hf : firstBad r.reqs.length (reqErr r) with
    | none => rw [hf] at h; simp at h
    | some k =>
      rw [hf] at h; simp at h
      have := List.find?_some hf
      rw [← h.2]; simpa using this
theorem check_none {r : Room} (h : (check r).2.2 = 0) : checkBooks r.books = none ∧ checkRdrs r.readers = none ∧ checkSeats r.seats = none ∧ checkReqs r = none := by
  unfold check at h
  cases hb : checkBooks r.books with
  | some p => obtain ⟨i, e⟩ := p; rw [hb] at h; exact absurd h (checkE_books hb)
  | none =>
    cases hr : checkRdrs r.readers with
    | some p => obtain ⟨i, e⟩ := p; rw [hb, hr] at h; exact absurd h (checkE_rdrs hr)
    | none =>
      cases hs : checkSeats r.seats with
      | some p => obtain ⟨i, e⟩ := p; rw [hb, hr, hs] at h; exact absurd h (checkE_seats hs)
      | none =>
        cases hq : checkReqs r with
        | some p => obtain ⟨i, e⟩ := p; rw [hb, hr, hs, hq] at h; exact absurd h (checkE_reqs hq)
        | none => exact ⟨rfl, rfl, rfl, rfl⟩
theorem valid_of {r : Room} (h : (check r).2.2 = 0) : Valid r := by
  obtain ⟨hb, hr, hs, hq⟩ := check_none h
  unfold checkBooks at hb
  unfold checkRdrs at hr
  unfold checkSeats at hs
  unfold checkReqs at hq
  split at hb
  · cases hb
  · rename_i nb
    split at hr
    · cases hr
    · rename_i nr
      split at hs
      · cases hs
      · rename_i ns
        split at hq
        · cases hq
        · rename_i nq
          simp only [Option.map_eq_none_iff] at hb hr hs hq
          replace hb := firstBad_none_iff hb
          replace hr := firstBad_none_iff hr
          replace hs := firstBad_none_iff hs
          replace hq := firstBad_none_iff hq
          refine ⟨by omega, by omega, by omega, by omega, fun i hi => ?_, fun i hi => ?_, fun i hi => ?_, fun i hi => ?_⟩
          · have := hq i hi
            rw [reqErr_at hi, req_at hi] at this
            split at this
            · cases this
            · split at this
              · cases this
              · rename_i h1 h2
                simp [inB] at h1 h2
                omega
          · have := hs i hi
            rw [seatErr_at hi, seat_at hi] at this
            split at this
            · cases this
            · rename_i h1; simp [inB] at h1; omega
          · have := hb i hi
            rw [bookErr_at hi, bk_at hi] at this
            split at this
            · cases this
            · split at this
              · cases this
              · split at this
                · cases this
                · split at this
                  · cases this
                  · rename_i h1 h2 h3 h4; simp [inB] at h3; omega
          · have := hr i hi
            rw [rdrErr_at hi, rd_at hi] at this
            split at this
            · cases this
            · split at this
              · cases this
              · split at this
                · cases this
                · rename_i h1 h2 h3; simp [inB] at h3; omega
def light (r : Room) (i s : Nat) : Int := (r.req i).hours * (r.seat s).light
/-- Why request 'i' cannot be granted at seat 's'. -/
def reason (r : Room) (i s : Nat) : Int :=
  if (r.rd (r.reader i)).permit < (r.bk (r.book i)).cls then 1
  else if (r.bk (r.book i)).large = true ∧ (r.seat s).small = true then 2
  else if (r.bk (r.book i)).lo < light r i s then 3 else 0
theorem light_bound {r : Room} (hv : Valid r) {i s : Nat} (hi : i < r.reqs.length) (hs : s < r.seats.length) : 0 ≤ light r i s ∧ light r i s ≤ 1200 := by
  have h1 := hv.rq i hi
  have h2 := hv.st s hs
  unfold light
  constructor
  · exact Int.mul_nonneg (by omega) h2.1
  · have : (r.req i).hours * (r.seat s).light ≤ 12 * 100 := Int.mul_le_mul h1.2.2.2.2.2.1 h2.2 h2.1 (by omega)
    omega
def natE (n : Nat) : List Value := [.int .i64 (n : Int)]
/-- A slice of indices. -/
abbrev Nats (F : Heap) (v : Value) (l : List Nat) : Prop := Sl F v 1 natE l
theorem Ints.nats {F : Heap} {v : Value} {xs : List Int} (h : Ints F v xs) (h0 : ∀ x ∈ xs, 0 ≤ x) : Nats F v (xs.map Int.toNat) := by
  refine ⟨by simpa using h.plain, fun i hi j u hu => ?_⟩
  have hi' : i < xs.length := by simpa using hi
  refine h.cells i hi' j u ?_
  simp only [List.getElem_map, natE, intE] at hu ⊢
  rwa [Int.toNat_of_nonneg (h0 _ (List.getElem_mem hi'))] at hu
theorem Nats.ints {F : Heap} {v : Value} {l : List Nat} (h : Nats F v l) : Ints F v (l.map fun (n : Nat) => (n : Int)) := by
  refine ⟨by simpa using h.plain, fun i hi j u hu => ?_⟩
  have hi' : i < l.length := by simpa using hi
  refine h.cells i hi' j u ?_
  simpa [natE, intE] using hu
/-- Some number is not above the one before it. -/
def notAsc (xs : List Int) : Bool := (List.range xs.length).any fun i => decide (0 < i ∧ xs[i]?.getD 0 ≤ xs[i - 1]?.getD 0)
theorem notAsc_at {xs : List Int} {i : Nat} (h0 : 0 < i) (h : i < xs.length) (hle : xs[i] ≤ xs[i - 1]) : notAsc xs = true := by
  unfold notAsc
  rw [List.any_eq_true]
  refine ⟨i, by simpa using h, ?_⟩
  have : i - 1 < xs.length := by omega
  simp [h, this, h0, hle]
theorem asc_of {xs : List Int} (h : ∀ i (hi : i < xs.length), 0 < i → ¬ xs[i] ≤ xs[i - 1]) : notAsc xs = false := by
  unfold notAsc
  rw [List.any_eq_false]
  intro i hi
  simp only [List.mem_range] at hi
  by_cases h0 : 0 < i
  · have := h i hi h0
    have h1 : i - 1 < xs.length := by omega
    simp [hi, h1, h0]; omega
  · simp [h0]
/-- The error of requests. -/
def someErr (r : Room) (xs : List Int) : Int :=
  if (check r).2.2 ≠ 0 then (check r).2.2
  else if (xs.any fun z => !(inB 0 (r.reqs.length - 1) z)) = true then 4
  else if notAsc xs = true then 2 else 0
end Go.Proofs.Ytbcjfkcpfjccdaa
namespace Go.Proofs.Ytbcjfkcpfjccdaa
theorem Valid.book {r : Room} (hv : Valid r) {i : Nat} (hi : i < r.reqs.length) : r.reqs[i].book = (r.book i : Int) ∧ r.book i < r.books.length := by
  have := hv.rq i hi
  rw [req_at hi]
  unfold Room.book
  omega
theorem Valid.reader {r : Room} (hv : Valid r) {i : Nat} (hi : i < r.reqs.length) : r.reqs[i].reader = (r.reader i : Int) ∧ r.reader i < r.readers.length := by
  have := hv.rq i hi
  rw [req_at hi]
  unfold Room.reader
  omega
theorem someErr_chk {r : Room} {xs : List Int} (h : (check r).2.2 ≠ 0) : someErr r xs = (check r).2.2 := if_pos h
theorem someErr_any {r : Room} {xs : List Int} (h0 : (check r).2.2 = 0) (h : (xs.any fun z => !(inB 0 (r.reqs.length - 1) z)) = true) : someErr r xs = 4 := by
  unfold someErr; rw [if_neg (by simpa using h0), if_pos h]
theorem someErr_asc {r : Room} {xs : List Int} {i : Nat} (h0 : (check r).2.2 = 0) (ha : (xs.any fun z => !(inB 0 (r.reqs.length - 1) z)) = false) (hp : 0 < i) (hi : i < xs.length) (hle : xs[i] ≤ xs[i - 1]) : someErr r xs = 2 := by
  unfold someErr; rw [if_neg (by simpa using h0), if_neg (by rw [ha]; simp), if_pos (notAsc_at hp hi hle)]
theorem someErr_ok {r : Room} {xs : List Int} (h0 : (check r).2.2 = 0) (ha : (xs.any fun z => !(inB 0 (r.reqs.length - 1) z)) = false) (h : ∀ i (hi : i < xs.length), 0 < i → ¬ xs[i] ≤ xs[i - 1]) : someErr r xs = 0 := by
  unfold someErr; rw [if_neg (by simpa using h0), if_neg (by rw [ha]; simp), if_neg (by rw [asc_of h]; simp)]
theorem someErr_nil {r : Room} : someErr r [] = (check r).2.2 := by
  unfold someErr
  split
  · rfl
  · rename_i h
    have : notAsc [] = false := rfl
    rw [this]
    simp at h ⊢
    exact h.symm
/-- P10.2: 'Why'. -/
def whyE (r : Room) (i s : Int) : Int × Int :=
  if (check r).2.2 ≠ 0 then (0, (check r).2.2) else if (inB 0 (r.reqs.length - 1) i && inB 0 (r.seats.length - 1) s) = false then (0, 4) else (reason r i.toNat s.toNat, 0)
def pairV (p : Int × Int) : Go.Value := .tuple #[.int .i64 p.1, .int .i64 p.2]
theorem inB_nat {n : Nat} {i : Int} (h : inB 0 (n - 1) i = true) : ∃ k : Nat, i = k ∧ k < n := by
  simp [inB] at h
  obtain ⟨k, rfl⟩ := Int.eq_ofNat_of_zero_le h.1
  exact ⟨k, rfl, by omega⟩
end Go.Proofs.Ytbcjfkcpfjccdaa
namespace Go.Proofs.Ytbcjfkcpfjccdaa
/-- No two have the same reader, or the same book. -/
def Two (r : Room) (a b : Nat) : Prop := r.reader a ≠ r.reader b ∧ r.book a ≠ r.book b
instance {r : Room} : DecidableRel (Two r) := fun _ _ => inferInstanceAs (Decidable (_ ∧ _))
def Apart (r : Room) (l : List Nat) : Prop := l.Pairwise (Two r)
instance {r : Room} {l : List Nat} : Decidable (Apart r l) := inferInstanceAs (Decidable (List.Pairwise _ _))
theorem Two.symm {r : Room} {a b : Nat} (h : Two r a b) : Two r b a := ⟨fun e => h.1 e.symm, fun e => h.2 e.symm⟩
theorem apart_iff {r : Room} {l : List Nat} : Apart r l ↔ ∀ i k (hi : i < l.length) (hk : k < i), Two r l[i] (l[k]'(by omega)) := by
  unfold Apart
  rw [List.pairwise_iff_getElem]
  exact ⟨fun h i k hi hk => (h k i (by omega) hi hk).symm, fun h i j hi hj hij => (h j i hj hij).symm⟩
/-- One more seat tried for the first request. -/
def step (r : Room) (q : Nat) (taken : List Nat) (sub : List Nat → Option (List Nat × Int)) (best : Option (List Nat × Int)) (s : Nat) : Option (List Nat × Int) :=
  if s ∈ taken ∨ reason r q s ≠ 0 then best
  else match sub (taken ++ [s]) with
    | none => best
    | some (l, n) => match best with
      | none => some (s :: l, n + light r q s)
      | some (_, m) => if n + light r q s < m then some (s :: l, n + light r q s) else best
/-- The first seats with the least light, but for those that are taken. -/
def giveR (r : Room) : List Nat → List Nat → Option (List Nat × Int)
  | [], _ => some ([], 0)
  | q :: rest, taken => (List.range r.seats.length).foldl (step r q taken (giveR r rest)) none
def allR (r : Room) (l : List Nat) : Option (List Nat × Int) := if Apart r l then giveR r l [] else none
/-- Indices that are valid. -/
theorem idx_of {r : Room} {xs : List Int} (h : someErr r xs = 0) : ∃ l : List Nat, xs = l.map (fun (n : Nat) => (n : Int)) ∧ (∀ i ∈ l, i < r.reqs.length) ∧ l.Pairwise (· < ·) := by
  unfold someErr at h
  split at h
  · rename_i h0; exact absurd h h0
  · split at h
    · cases h
    · rename_i h1
      split at h
      · cases h
      · rename_i h2
        have hin : ∀ x ∈ xs, 0 ≤ x ∧ x < r.reqs.length := by
          intro x hx
          have : ¬ (!(inB 0 (r.reqs.length - 1) x)) = true := fun hb => h1 (List.any_eq_true.2 ⟨x, hx, hb⟩)
          simp [inB] at this
          omega
        refine ⟨xs.map Int.toNat, ?_, ?_, ?_⟩
        · rw [List.map_map]
          symm
          conv => rhs; rw [← List.map_id xs]
          apply List.map_congr_left
          intro x hx
          have := hin x hx
          simp only [Function.comp, id]
          omega
        · intro i hi
          obtain ⟨x, hx, rfl⟩ := List.mem_map.1 hi
          have := hin x hx
          omega
        · have hstep : ∀ i (hi : i < xs.length), 0 < i → xs[i - 1] < xs[i] := by
            intro i hi h0
            by_cases hle : xs[i] ≤ xs[i - 1]
            · exact absurd (notAsc_at h0 hi hle) h2
            · omega
          rw [List.pairwise_iff_getElem]
          have key : ∀ d i (hi : i + d + 1 < xs.length), xs[i]'(by omega) < xs[i + d + 1] := by
            intro d
            induction d with
            | zero => intro i hi; have := hstep (i + 1) hi (by omega); simpa using this
            | succ d ih =>
              intro i hi
              have h1 := ih i (by omega)
              have h2 := hstep (i + (d + 1) + 1) hi (by omega)
              simp only [Nat.add_sub_cancel] at h2
              have e : i + (d + 1) = i + d + 1 := by omega
              simp only [e] at h2 ⊢
              omega
          intro i j hi hj hij
          simp only [List.length_map] at hi hj
          simp only [List.getElem_map]
          obtain ⟨d, rfl⟩ : ∃ d, j = i + d + 1 := ⟨j - i - 1, by omega⟩
          have := key d i hj
          have h0 := hin _ (List.getElem_mem hi)
          omega
theorem someErr_valid {r : Room} {xs : List Int} (h : someErr r xs = 0) : Valid r := by
  unfold someErr at h
  split at h
  · rename_i h0; exact absurd h h0
  · rename_i h0; exact valid_of (by simpa using h0)
theorem fold_succ {α : Type} {f : α → Nat → α} {b : α} {k : Nat} : (List.range (k + 1)).foldl f b = f ((List.range k).foldl f b) k := by
  rw [List.range_succ, List.foldl_append]; rfl
/-- What seats that are given are, at least. -/
def GoodGive (r : Room) (l : List Nat) (o : Option (List Nat × Int)) : Prop := ∀ s n, o = some (s, n) → s.length = l.length ∧ 0 ≤ n ∧ n ≤ 1200 * l.length ∧ ∀ x ∈ s, x < r.seats.length
theorem good_step {r : Room} (hv : Valid r) {q k : Nat} {rest taken : List Nat} (hq : q < r.reqs.length) (hk : k < r.seats.length) {sub : List Nat → Option (List Nat × Int)} (hs : ∀ t, GoodGive r rest (sub t)) {best : Option (List Nat × Int)} (hb : GoodGive r (q :: rest) best) : GoodGive r (q :: rest) (step r q taken sub best k) := by
  unfold step
  split
  · exact hb
  · have hl := light_bound hv hq hk
    cases h1 : sub (taken ++ [k]) with
    | none => exact hb
    | some p =>
      obtain ⟨l, n⟩ := p
      obtain ⟨a1, a2, a3, a4⟩ := hs _ l n h1
      have hnew : GoodGive r (q :: rest) (some (k :: l, n + light r q k)) := by
        intro s m hsm
        simp only [Option.some.injEq, Prod.mk.injEq] at hsm
        obtain ⟨rfl, rfl⟩ := hsm
        refine ⟨by simp [a1], by omega, by simp only [List.length_cons]; omega, fun x hx => ?_⟩
        rcases List.mem_cons.1 hx with rfl | hx
        · exact hk
        · exact a4 x hx
      cases best with
      | none => exact hnew
      | some b =>
        obtain ⟨lb, m⟩ := b
        simp only
        split
        · exact hnew
        · exact hb
theorem good_fold {r : Room} (hv : Valid r) {q : Nat} {rest taken : List Nat} (hq : q < r.reqs.length) {sub : List Nat → Option (List Nat × Int)} (hs : ∀ t, GoodGive r rest (sub t)) : ∀ k, k ≤ r.seats.length → GoodGive r (q :: rest) ((List.range k).foldl (step r q taken sub) none)
  | 0, _ => fun s n h => nomatch h
  | k + 1, hk => by rw [fold_succ]; exact good_step hv hq (by omega) hs (good_fold hv hq hs k (by omega))
theorem good_give {r : Room} (hv : Valid r) : ∀ (l : List Nat), (∀ i ∈ l, i < r.reqs.length) → ∀ taken, GoodGive r l (giveR r l taken)
  | [], _ => fun _ s n h => by
    simp only [giveR, Option.some.injEq, Prod.mk.injEq] at h
    obtain ⟨rfl, rfl⟩ := h
    exact ⟨rfl, by omega, by simp, by simp⟩
  | q :: rest, hl => fun taken => good_fold hv (hl q (by simp)) (good_give hv rest fun i hi => hl i (List.mem_cons_of_mem _ hi)) _ (Nat.le_refl _)
end Go.Proofs.Ytbcjfkcpfjccdaa
namespace Go.Proofs.Ytbcjfkcpfjccdaa
def cutoff (best : Option (List Nat × Int)) (sum : Int) : Bool := match best with | some (_, L) => decide (L ≤ sum) | none => false
def tryS (r : Room) (q : Nat) (pre : List Nat) (sum : Int) (sub : List Nat → Int → Option (List Nat × Int) → Option (List Nat × Int)) (best : Option (List Nat × Int)) (s : Nat) : Option (List Nat × Int) :=
  if s ∈ pre ∨ reason r q s ≠ 0 then best else sub (pre ++ [s]) (sum + light r q s) best
def search (r : Room) : List Nat → List Nat → Int → Option (List Nat × Int) → Option (List Nat × Int)
  | [], pre, sum, best => if cutoff best sum = true then best else some (pre, sum)
  | q :: rest, pre, sum, best => if cutoff best sum = true then best else (List.range r.seats.length).foldl (tryS r q pre sum (search r rest)) best
def better (best o : Option (List Nat × Int)) (pre : List Nat) (sum : Int) : Option (List Nat × Int) := match o with
  | none => best
  | some (l, n) => match best with
    | none => some (pre ++ l, sum + n)
    | some (lb, L) => if sum + n < L then some (pre ++ l, sum + n) else some (lb, L)
theorem search_eq {r : Room} (hv : Valid r) : ∀ (rem : List Nat), (∀ i ∈ rem, i < r.reqs.length) → ∀ pre sum best, search r rem pre sum best = better best (giveR r rem pre) pre sum
  | [], _ => fun pre sum best => by
    unfold search giveR better cutoff
    cases best with
    | none => simp
    | some p =>
      obtain ⟨lb, L⟩ := p
      simp only [List.append_nil, Int.add_zero, decide_eq_true_eq]
      by_cases h : L ≤ sum
      · rw [if_pos h, if_neg (by omega)]
      · rw [if_neg h, if_pos (by omega)]
  | q :: rest, hl => fun pre sum best => by
    have hq := hl q (by simp)
    have hrest : ∀ i ∈ rest, i < r.reqs.length := fun i hi => hl i (List.mem_cons_of_mem _ hi)
    have IH := search_eq hv rest hrest
    have hgood := good_give hv (q :: rest) hl pre
    unfold search
    by_cases hc : cutoff best sum = true
    · rw [if_pos hc]
      cases best with
      | none => simp [cutoff] at hc
      | some p =>
        obtain ⟨lb, L⟩ := p
        simp only [cutoff, decide_eq_true_eq] at hc
        unfold better
        cases ho : giveR r (q :: rest) pre with
        | none => rfl
        | some o =>
          obtain ⟨l, n⟩ := o
          have := (hgood l n ho).2.1
          simp only
          rw [if_neg (by omega)]
    · rw [if_neg hc]
      show _ = better best ((List.range r.seats.length).foldl (step r q pre (giveR r rest)) none) pre sum
      have key : ∀ k, k ≤ r.seats.length → (List.range k).foldl (tryS r q pre sum (search r rest)) best = better best ((List.range k).foldl (step r q pre (giveR r rest)) none) pre sum := by
        intro k
        induction k with
        | zero => intro _; rfl
        | succ k ih =>
          intro hk
          rw [fold_succ, fold_succ, ih (by omega)]
          generalize (List.range k).foldl (step r q pre (giveR r rest)) none = o
          unfold tryS step
          by_cases hs : k ∈ pre ∨ reason r q k ≠ 0
          · rw [if_pos hs, if_pos hs]
          · rw [if_neg hs, if_neg hs, IH]
            cases hg : giveR r rest (pre ++ [k]) with
            | none => rfl
            | some p =>
              obtain ⟨l, n⟩ := p
              have e1 : pre ++ [k] ++ l = pre ++ k :: l := by simp
              have e2 : sum + light r q k + n = sum + (n + light r q k) := by omega
              cases o with
              | none =>
                simp only [better]
                cases best with
                | none => simp only [e1, e2]
                | some b => obtain ⟨lb, L⟩ := b; simp only [e1, e2]
              | some o =>
                obtain ⟨lo, m⟩ := o
                cases best with
                | none =>
                  simp only [better]
                  by_cases h1 : n + light r q k < m
                  · rw [if_pos h1, if_pos (by omega)]; simp only [e1, e2]
                  · rw [if_neg h1, if_neg (by omega)]
                | some b =>
                  obtain ⟨lb, L⟩ := b
                  simp only [better]
                  by_cases h0 : sum + m < L
                  · rw [if_pos h0]
                    by_cases h1 : n + light r q k < m
                    · rw [if_pos h1]; simp only; rw [if_pos (by omega), if_pos (by omega)]; simp only [e1, e2]
                    · rw [if_neg h1]; simp only; rw [if_neg (by omega), if_pos h0]
                  · rw [if_neg h0]
                    by_cases h1 : n + light r q k < m
                    · rw [if_pos h1]; simp only
                      by_cases h2 : sum + light r q k + n < L
                      · rw [if_pos h2, if_pos (by omega)]; simp only [e1, e2]
                      · rw [if_neg h2, if_neg (by omega)]
                    · rw [if_neg h1]; simp only; rw [if_neg (by omega), if_neg h0]
      exact key _ (Nat.le_refl _)
theorem search_give {r : Room} (hv : Valid r) {l : List Nat} (hl : ∀ i ∈ l, i < r.reqs.length) : search r l [] 0 none = giveR r l [] := by
  rw [search_eq hv l hl]
  unfold better
  cases giveR r l [] with
  | none => rfl
  | some p => obtain ⟨a, b⟩ := p; simp
end Go.Proofs.Ytbcjfkcpfjccdaa
namespace Go.Proofs.Ytbcjfkcpfjccdaa
open Go.RowKit
theorem light_out1 {r : Room} {i s : Nat} (h : r.reqs.length ≤ i) : light r i s = 0 := by
  simp [light, Room.req, List.getElem?_eq_none h]
theorem light_out2 {r : Room} {i s : Nat} (h : r.seats.length ≤ s) : light r i s = 0 := by
  simp [light, Room.seat, List.getElem?_eq_none h]
def lightsAt (r : Room) (i k : Nat) : List Value := (List.range 48).map fun n => .int .i64 (if n / 6 < i ∨ n / 6 = i ∧ n % 6 < k then light r (n / 6) (n % 6) else 0)
def lights (r : Room) : List Value := (List.range 48).map fun n => .int .i64 (light r (n / 6) (n % 6))
theorem lightsAt_length {r : Room} {i k : Nat} : (lightsAt r i k).length = 48 := by simp [lightsAt]
theorem lights_length {r : Room} : (lights r).length = 48 := by simp [lights]
theorem lightsAt_zero {r : Room} : lightsAt r 0 0 = List.replicate 48 (.int .i64 0) := by
  unfold lightsAt
  apply List.ext_getElem
  · simp
  · intro n h1 h2
    rw [List.getElem_replicate]
    simp only [List.getElem_map]
    rw [if_neg (by omega)]
theorem lightsAt_row {r : Room} {i k : Nat} (h : r.seats.length ≤ k) : lightsAt r i k = lightsAt r (i + 1) 0 := by
  unfold lightsAt
  apply List.map_congr_left
  intro n _
  by_cases h1 : n / 6 < i
  · rw [if_pos (.inl h1), if_pos (.inl (by omega))]
  · by_cases h2 : n / 6 = i
    · rw [if_pos (show n / 6 < i + 1 ∨ n / 6 = i + 1 ∧ n % 6 < 0 from .inl (by omega))]
      by_cases h3 : n % 6 < k
      · rw [if_pos (.inr ⟨h2, h3⟩)]
      · rw [if_neg (by omega), light_out2 (by omega)]
    · rw [if_neg (by omega), if_neg (by omega)]
theorem lightsAt_all {r : Room} {i : Nat} (h : r.reqs.length ≤ i) : lightsAt r i 0 = lights r := by
  unfold lightsAt lights
  apply List.map_congr_left
  intro n _
  by_cases h1 : n / 6 < i
  · rw [if_pos (.inl h1)]
  · rw [if_neg (by omega), light_out1 (by omega)]
theorem lightsAt_set {r : Room} {i k : Nat} (_hi : i < 8) (hk : k < 6) : (lightsAt r i k).set (i * 6 + k) (.int .i64 (light r i k)) = lightsAt r i (k + 1) := by
  unfold lightsAt
  apply List.ext_getElem
  · simp
  · intro n h1 h2
    rw [List.getElem_set]
    simp only [List.getElem_map, List.getElem_range]
    by_cases hn : i * 6 + k = n
    · subst hn
      rw [if_pos rfl]
      have e1 : (i * 6 + k) / 6 = i := by omega
      have e2 : (i * 6 + k) % 6 = k := by omega
      rw [e1, e2, if_pos (.inr ⟨rfl, by omega⟩)]
    · rw [if_neg hn]
      congr 1
      by_cases h3 : n / 6 < i ∨ n / 6 = i ∧ n % 6 < k
      · rw [if_pos h3, if_pos (by omega)]
      · rw [if_neg h3, if_neg (by omega)]
theorem lights_get {r : Room} {i s : Nat} (hi : i < 8) (hs : s < 6) : (lights r)[i * 6 + s]? = some (.int .i64 (light r i s)) := by
  unfold lights
  rw [List.getElem?_map, List.getElem?_range (by omega)]
  have e1 : (i * 6 + s) / 6 = i := by omega
  have e2 : (i * 6 + s) % 6 = s := by omega
  simp [e1, e2]
def roomCells (vb vr vs vq : Value) (ls : List Value) (vl : Value) : List Value := vb :: vr :: vs :: vq :: (ls ++ [vl])
theorem roomCells_length {vb vr vs vq vl : Value} {ls : List Value} (h : ls.length = 48) : (roomCells vb vr vs vq ls vl).length = 53 := by simp [roomCells, h]
theorem roomCells_set {vb vr vs vq vl : Value} {r : Room} {i k : Nat} (hi : i < 8) (hk : k < 6) : (roomCells vb vr vs vq (lightsAt r i k) vl).set (0 + 4 + i * 6 + k * 1) (.int .i64 (light r i k)) = roomCells vb vr vs vq (lightsAt r i (k + 1)) vl := by
  have : 0 + 4 + i * 6 + k * 1 = (i * 6 + k) + 1 + 1 + 1 + 1 := by omega
  unfold roomCells
  rw [this]
  simp only [List.set_cons_succ]
  rw [List.set_append_left (i * 6 + k) _ (by rw [lightsAt_length]; omega), lightsAt_set hi hk]
theorem roomCells_end {vb vr vs vq vl u : Value} {r : Room} : (roomCells vb vr vs vq (lights r) vl).set (0 + 52) u = roomCells vb vr vs vq (lights r) u := by
  unfold roomCells
  rw [show 0 + 52 = 48 + 1 + 1 + 1 + 1 from rfl]
  simp only [List.set_cons_succ]
  rw [List.set_append_right _ _ (by rw [lights_length]; omega), lights_length]
  rfl
/-- A rule: why, and the function that tells whether it is so. -/
def ruleE (p : Int × Value) : List Value := [.int .i64 p.1, p.2]
theorem ruleE_one {p : Int × Value} (h : p.2.oneCell' = true) : ∀ u ∈ ruleE p, u.oneCell' = true := by
  intro u hu
  simp only [ruleE, List.mem_cons, List.not_mem_nil, or_false] at hu
  rcases hu with rfl | rfl
  · rfl
  · exact h
abbrev ptr (b : Nat) : Value := .pointer (some ⟨b, 0, none⟩)
/-- The types and functions that a room that is looked at names, by their numbers in the program. -/
structure Num where
  room : Nat
  rdroom : Nat
  rule : Nat
  fbook : Nat
  proom : Nat
  l1 : Nat
  l2 : Nat
  l3 : Nat
  l4 : Nat
def bookFn (N : Num) (c1 : Nat) : Value := .func (.func N.l1) #[] #[ptr c1]
def ruleFns (N : Num) (c1 c8 c3 : Nat) : List (Int × Value) := [(1, .func (.func N.l2) #[] #[ptr c8, ptr c1]), (2, .func (.func N.l3) #[] #[ptr c8, ptr c1]), (3, .func (.func N.l4) #[] #[ptr c3, ptr c8])]
structure RoomX (N : Num) (F : Heap) (b c1 c8 c3 : Nat) (vb vr vs vq vl : Value) (r : Room) : Prop where
  room : RoomR F vb vr vs vq r
  blk : F b = some (bx N.room (roomCells vb vr vs vq (lights r) vl))
  box : F c1 = some (bx N.rdroom [vb, vr, vs, vq])
  bk : F c8 = some (bx N.fbook [bookFn N c1])
  me : F c3 = some (bx N.proom [ptr b])
  rules : Sl F vl 2 ruleE (ruleFns N c1 c8 c3)
theorem RoomX.mono {N : Num} {F F' : Heap} {b c1 c8 c3 : Nat} {vb vr vs vq vl : Value} {r : Room} (h : RoomX N F b c1 c8 c3 vb vr vs vq vl r) (hF : F.le F') : RoomX N F' b c1 c8 c3 vb vr vs vq vl r :=
  ⟨h.room.mono hF, hF _ _ h.blk, hF _ _ h.box, hF _ _ h.bk, hF _ _ h.me, h.rules.mono hF⟩
theorem RoomX.rule_cell {N : Num} {F : Heap} {b c1 c8 c3 : Nat} {vb vr vs vq vl : Value} {r : Room} (h : RoomX N F b c1 c8 c3 vb vr vs vq vl r) : CellF F ⟨b, 52, none⟩ vl :=
  CellF.own h.blk (by
    unfold roomCells
    simp only [List.getElem?_cons_succ]
    rw [List.getElem?_append_right (by rw [lights_length]; omega), lights_length]; rfl)
theorem RoomX.light_cell {N : Num} {F : Heap} {b c1 c8 c3 : Nat} {vb vr vs vq vl : Value} {r : Room} (h : RoomX N F b c1 c8 c3 vb vr vs vq vl r) {i s : Nat} (hi : i < 8) (hs : s < 6) : CellF F ⟨b, 0 + 4 + i * 6 + s * 1, none⟩ (.int .i64 (light r i s)) :=
  CellF.own h.blk (by
    have : 0 + 4 + i * 6 + s * 1 = (i * 6 + s) + 1 + 1 + 1 + 1 := by omega
    rw [this]
    unfold roomCells
    simp only [List.getElem?_cons_succ]
    rw [List.getElem?_append_left (by rw [lights_length]; omega)]
    exact lights_get hi hs)
def Looked (N : Num) (F : Heap) (p : Value) (r : Room) : Prop := ∃ b c1 c8 c3 vb vr vs vq vl, p = ptr b ∧ RoomX N F b c1 c8 c3 vb vr vs vq vl r
theorem Looked.mono {N : Num} {F F' : Heap} {p : Value} {r : Room} (h : Looked N F p r) (hF : F.le F') : Looked N F' p r := by
  obtain ⟨b, c1, c8, c3, vb, vr, vs, vq, vl, hp, hX⟩ := h
  exact ⟨b, c1, c8, c3, vb, vr, vs, vq, vl, hp, hX.mono hF⟩
theorem rules_box {N : Num} {F : Heap} {b T c1 c8 c3 : Nat} (h : F b = some (bx T [.int .i64 1, .func (.func N.l2) #[] #[ptr c8, ptr c1], .int .i64 2, .func (.func N.l3) #[] #[ptr c8, ptr c1], .int .i64 3, .func (.func N.l4) #[] #[ptr c3, ptr c8]])) :
    Sl F (.slice (some ⟨b, 0, none⟩) 3 3) 2 ruleE (ruleFns N c1 c8 c3) :=
  Sl.box h rfl (by omega) (by omega) fun i hi j u hu => by
    match i, hi, j, hu with
    | 0, _, 0, hu => exact hu
    | 0, _, 1, hu => exact hu
    | 1, _, 0, hu => exact hu
    | 1, _, 1, hu => exact hu
    | 2, _, 0, hu => exact hu
    | 2, _, 1, hu => exact hu
    | 0, _, j + 2, hu => simp [ruleE] at hu
    | 1, _, j + 2, hu => simp [ruleE] at hu
    | 2, _, j + 2, hu => simp [ruleE] at hu
end Go.Proofs.Ytbcjfkcpfjccdaa
namespace Go.Proofs.Ytbcjfkcpfjccdaa
open Go.RowKit
theorem natE_one : ∀ (x : Nat), ∀ u ∈ natE x, u.oneCell' = true := by simp [natE, Value.oneCell']
structure GivenC (G : Heap) (o : Option (List Nat × Int)) (is : Bool) (vs : Value) (n : Int) : Prop where
  is_ : is = o.isSome
  no : o = none → vs = .slice none 0 0 ∧ n = 0
  so : ∀ l m, o = some (l, m) → n = m ∧ Nats G vs l
theorem GivenC.mono {G G' : Heap} {o : Option (List Nat × Int)} {is : Bool} {vs : Value} {n : Int} (h : GivenC G o is vs n) (hG : G.le G') : GivenC G' o is vs n :=
  ⟨h.is_, h.no, fun l m e => ⟨(h.so l m e).1, (h.so l m e).2.mono hG⟩⟩
theorem GivenC.one {G : Heap} {o : Option (List Nat × Int)} {is : Bool} {vs : Value} {n : Int} (h : GivenC G o is vs n) : vs.oneCell' = true := by
  cases o with
  | none => obtain ⟨rfl, -⟩ := h.no rfl; rfl
  | some p => exact (h.so p.1 p.2 rfl).2.plain.one
theorem GivenC.ones {G : Heap} {o : Option (List Nat × Int)} {is : Bool} {vs : Value} {n : Int} (h : GivenC G o is vs n) : ∀ u ∈ [Value.bool is, vs, .int .i64 n], u.oneCell' = true := by
  intro u hu
  simp only [List.mem_cons, List.not_mem_nil, or_false] at hu
  rcases hu with rfl | rfl | rfl
  · rfl
  · exact h.one
  · rfl
theorem GivenC.none {G : Heap} : GivenC G none false (.slice none 0 0) 0 := ⟨rfl, fun _ => ⟨rfl, rfl⟩, (fun _ _ h => nomatch h)⟩
theorem GivenC.some {G : Heap} {l : List Nat} {vs : Value} {n : Int} (h : Nats G vs l) : GivenC G (some (l, n)) true vs n := ⟨rfl, (fun h => nomatch h), fun l' m e => by cases e; exact ⟨rfl, h⟩⟩
end Go.Proofs.Ytbcjfkcpfjccdaa
namespace Go.Proofs.Ytbcjfkcpfjccdaa
open Go.RowKit
structure BestC (F : Heap) (best : Option (List Nat × Int)) (vb : Value) (L : Int) : Prop where
  no : best = none → L = -1 ∧ vb = .slice none 0 0
  so : ∀ l m, best = some (l, m) → L = m ∧ Nats F vb l ∧ 0 ≤ m
theorem BestC.mono {F F' : Heap} {best : Option (List Nat × Int)} {vb : Value} {L : Int} (h : BestC F best vb L) (hF : F.le F') : BestC F' best vb L :=
  ⟨h.no, fun l m e => ⟨(h.so l m e).1, (h.so l m e).2.1.mono hF, (h.so l m e).2.2⟩⟩
theorem BestC.cut {F : Heap} {best : Option (List Nat × Int)} {vb : Value} {L sum : Int} (h : BestC F best vb L) : cutoff best sum = true ↔ 0 ≤ L ∧ L ≤ sum := by
  unfold cutoff
  cases best with
  | none => obtain ⟨rfl, -⟩ := h.no rfl; simp
  | some p => obtain ⟨l, m⟩ := p; obtain ⟨rfl, -, h0⟩ := h.so l m rfl; simp [h0]
theorem BestC.one {F : Heap} {best : Option (List Nat × Int)} {vb : Value} {L : Int} (h : BestC F best vb L) : vb.oneCell' = true := by
  cases best with
  | none => obtain ⟨-, rfl⟩ := h.no rfl; rfl
  | some p => exact (h.so p.1 p.2 rfl).2.1.plain.one
structure NextX (N : Num) (TS TN fn : Nat) (F : Heap) (b c1 c8 c3 : Nat) (vb vr vs vq vl : Value) (r : Room) (v : Value) (l : List Nat) (bl bb bo co d2 d3 d7 n : Nat) : Prop where
  room : RoomX N F b c1 c8 c3 vb vr vs vq vl r
  idx : Nats F v l
  own : F co = some (bx TS [.slice (some ⟨bo, 0, none⟩) n n])
  rm : F d2 = some (bx N.proom [ptr b])
  rq : F d3 = some (bx TS [v])
  nx : F d7 = some (bx TN [.func (.func fn) #[] #[ptr bl, ptr co, ptr bb, ptr d2, ptr d3, ptr d7]])
  len : l.length = n
theorem NextX.mono {N : Num} {TS TN fn : Nat} {F F' : Heap} {b c1 c8 c3 : Nat} {vb vr vs vq vl : Value} {r : Room} {v : Value} {l : List Nat} {bl bb bo co d2 d3 d7 n : Nat} (h : NextX N TS TN fn F b c1 c8 c3 vb vr vs vq vl r v l bl bb bo co d2 d3 d7 n) (hF : F.le F') : NextX N TS TN fn F' b c1 c8 c3 vb vr vs vq vl r v l bl bb bo co d2 d3 d7 n :=
  ⟨h.room.mono hF, h.idx.mono hF, hF _ _ h.own, hF _ _ h.rm, hF _ _ h.rq, hF _ _ h.nx, h.len⟩
theorem shr_nat {m k : Nat} : (m : Int) / 2 ^ k = ((m / 2 ^ k : Nat) : Int) := by simp
theorem bit_eq {m k : Nat} : decide ((((m / 2 ^ k) &&& 1 : Nat) : Int) = 1) = m.testBit k := by
  rw [Nat.testBit_eq_decide_div_mod_eq, Nat.and_one_is_mod]
  congr 1
  rw [eq_iff_iff]
  omega
theorem mask_or {mask k : Nat} {pre : List Nat} (h : ∀ s, mask.testBit s = decide (s ∈ pre)) : ∀ s, (mask ||| 2 ^ k).testBit s = decide (s ∈ pre ++ [k]) := fun s => by
  rw [Nat.testBit_or, Nat.testBit_two_pow, h]
  by_cases hk : k = s
  · subst hk; simp
  · have : ¬ s = k := fun e => hk e.symm
    simp [hk, this]
theorem mask_lt {mask k : Nat} (h : mask < 64) (hk : k < 6) : mask ||| 2 ^ k < 64 := by
  have h1 : (2 : Nat) ^ k < 2 ^ 6 := Nat.pow_lt_pow_right (by omega) hk
  exact Nat.or_lt_two_pow (n := 6) h h1
theorem pow_lt {k : Nat} (hk : k < 6) : (2 : Nat) ^ k < 64 := Nat.pow_lt_pow_right (n := 6) (by omega) hk
theorem take_set {own : List Value} {i k : Nat} {pre : List Nat} (hi : i < own.length) (hp : pre.length = i) (h : own.take i = pre.flatMap natE) : (own.set i (.int .i64 k)).take (i + 1) = (pre ++ [k]).flatMap natE := by
  rw [List.take_succ_eq_append_getElem (by simpa using hi), List.take_set_of_le (Nat.le_refl _), h]
  simp [natE]
theorem natsE_length : ∀ {l : List Nat}, (l.flatMap natE).length = l.length := by
  intro l
  induction l with
  | nil => rfl
  | cons a l ih => simp [List.flatMap_cons, natE] at ih ⊢; omega
theorem take_pre {own : List Value} {i k : Nat} {pre : List Nat} (hp : pre.length = i) (h : own.take (i + 1) = (pre ++ [k]).flatMap natE) : own.take i = pre.flatMap natE := by
  have h2 := congrArg (List.take i) h
  rw [List.take_take, Nat.min_eq_left (by omega), List.flatMap_append] at h2
  rw [h2, List.take_append_of_le_length (by rw [natsE_length]; omega), List.take_of_length_le (by rw [natsE_length]; omega)]
theorem nats_box {F : Heap} {b T n : Nat} {l : List Nat} (h : F b = some (bx T (l.flatMap natE))) (hn : l.length = n) (hl : n < 281474976710656) : Nats F (.slice (some ⟨b, 0, none⟩) n n) l := by
  subst hn
  have hlen := natsE_length (l := l)
  refine Own.sl (E := T) (R := [(b, bx T (l.flatMap natE))]) ?_ (fun _ => rfl) (fun p hp => by simp at hp; subst hp; exact h) hl
  exact own_box (by rw [hlen]; omega)
theorem natsE_one {l : List Nat} : ∀ u ∈ l.flatMap natE, u.oneCell' = true := fun u hu => by
  obtain ⟨x, -, hx⟩ := List.mem_flatMap.1 hu
  exact natE_one x u hx
theorem plain_row {b n c : Nat} (h : n ≤ c) (hn : n < 281474976710656) : Plain (.slice (some ⟨b, 0, none⟩) n c) n := ⟨_, _, rfl, fun _ x hx => by cases hx; rfl, by simp, h, hn⟩
theorem search_cut {r : Room} {rem pre : List Nat} {sum : Int} {best : Option (List Nat × Int)} (h : cutoff best sum = true) : search r rem pre sum best = best := by
  cases rem <;> (unfold search; rw [if_pos h])
theorem search_nil {r : Room} {pre : List Nat} {sum : Int} {best : Option (List Nat × Int)} (h : ¬ cutoff best sum = true) : search r [] pre sum best = some (pre, sum) := by
  unfold search; rw [if_neg h]
theorem search_cons {r : Room} {q : Nat} {rest pre : List Nat} {sum : Int} {best : Option (List Nat × Int)} (h : ¬ cutoff best sum = true) : search r (q :: rest) pre sum best = (List.range r.seats.length).foldl (tryS r q pre sum (search r rest)) best := by
  conv => lhs; unfold search
  rw [if_neg h]
theorem tryS_skip {r : Room} {q s : Nat} {pre : List Nat} {sum : Int} {sub : List Nat → Int → Option (List Nat × Int) → Option (List Nat × Int)} {best : Option (List Nat × Int)} (h : s ∈ pre ∨ reason r q s ≠ 0) : tryS r q pre sum sub best s = best := if_pos h
theorem tryS_do {r : Room} {q s : Nat} {pre : List Nat} {sum : Int} {sub : List Nat → Int → Option (List Nat × Int) → Option (List Nat × Int)} {best : Option (List Nat × Int)} (h1 : s ∉ pre) (h2 : ¬ reason r q s ≠ 0) : tryS r q pre sum sub best s = sub (pre ++ [s]) (sum + light r q s) best := if_neg fun h => h.elim h1 h2
theorem BestC.mk' {F : Heap} {l : List Nat} {ub : Value} {L : Int} (h : Nats F ub l) (h0 : 0 ≤ L) : BestC F (some (l, L)) ub L := ⟨(fun h => nomatch h), fun l' m e => by cases e; exact ⟨rfl, h, h0⟩⟩
end Go.Proofs.Ytbcjfkcpfjccdaa
namespace Go.Proofs.Ytbcjfkcpfjccdaa
open Go.RowKit
theorem BestC.is {F : Heap} {best : Option (List Nat × Int)} {vb : Value} {L : Int} (h : BestC F best vb L) : decide (0 ≤ L) = best.isSome := by
  cases best with
  | none => obtain ⟨rfl, -⟩ := h.no rfl; rfl
  | some p => obtain ⟨rfl, -, h0⟩ := h.so p.1 p.2 rfl; simpa using h0
theorem asc_len : ∀ (l : List Nat) (a n : Nat), l.Pairwise (· < ·) → (∀ i ∈ l, a ≤ i ∧ i < n) → a ≤ n → l.length + a ≤ n
  | [], a, n, _, _, h => by simpa using h
  | x :: l, a, n, hp, hl, h => by
    have hx := hl x (by simp)
    rw [List.pairwise_cons] at hp
    have := asc_len l (x + 1) n hp.2 (fun i hi => ⟨hp.1 i hi, (hl i (List.mem_cons_of_mem _ hi)).2⟩) (by omega)
    simp only [List.length_cons]
    omega
theorem asc_length {r : Room} (hv : Valid r) {l : List Nat} (hl : ∀ i ∈ l, i < r.reqs.length) (hp : l.Pairwise (· < ·)) : l.length ≤ 8 := by
  have := asc_len l 0 r.reqs.length hp (fun i hi => ⟨by omega, hl i hi⟩) (by omega)
  have := hv.nq
  omega
theorem idx_map {l : List Nat} : (l.map fun (n : Nat) => (n : Int)).map Int.toNat = l := by
  rw [List.map_map, show (Int.toNat ∘ fun (n : Nat) => (n : Int)) = id from rfl, List.map_id]
def canV (r : Room) (xs : List Int) : Value := if someErr r xs = 0 then .tuple #[.bool (allR r (xs.map Int.toNat)).isSome, .int .i64 0] else .tuple #[.bool false, .int .i64 (someErr r xs)]
theorem canV_bad {r : Room} {xs : List Int} (h : ¬ someErr r xs = 0) : canV r xs = .tuple #[.bool false, .int .i64 (someErr r xs)] := if_neg h
theorem canV_ok {r : Room} {l : List Nat} (h : someErr r (l.map fun (n : Nat) => (n : Int)) = 0) : canV r (l.map fun (n : Nat) => (n : Int)) = .tuple #[.bool (allR r l).isSome, .int .i64 0] := by
  unfold canV; rw [if_pos h, idx_map]
def seatsE (r : Room) (xs : List Int) : List Nat × Int × Int := if someErr r xs = 0 then (match allR r (xs.map Int.toNat) with | none => ([], 0, 9) | some (l, n) => (l, n, 0)) else ([], 0, someErr r xs)
theorem seatsE_bad {r : Room} {xs : List Int} (h : ¬ someErr r xs = 0) : seatsE r xs = ([], 0, someErr r xs) := if_neg h
theorem seatsE_none {r : Room} {l : List Nat} (h : someErr r (l.map fun (n : Nat) => (n : Int)) = 0) (ha : allR r l = none) : seatsE r (l.map fun (n : Nat) => (n : Int)) = ([], 0, 9) := by
  unfold seatsE; rw [if_pos h, idx_map, ha]
theorem seatsE_some {r : Room} {l s : List Nat} {n : Int} (h : someErr r (l.map fun (n : Nat) => (n : Int)) = 0) (ha : allR r l = some (s, n)) : seatsE r (l.map fun (n : Nat) => (n : Int)) = (s, n, 0) := by
  unfold seatsE; rw [if_pos h, idx_map, ha]
end Go.Proofs.Ytbcjfkcpfjccdaa
namespace Go.Proofs.Ytbcjfkcpfjccdaa
open Go.RowKit
/-- The error of requests at seats. -/
def badSeat (r : Room) (l : List Nat) (ss : List Int) (i : Nat) : Bool := decide (reason r (l[i]?.getD 0) (ss[i]?.getD 0).toNat ≠ 0)
def sitsE (r : Room) (l : List Nat) (ss : List Int) : Int :=
  if ss.length ≠ l.length then 3
  else if (ss.any fun z => !(inB 0 (r.seats.length - 1) z)) = true then 4
  else if ¬ ss.Nodup then 5
  else if ¬ Apart r l then 9
  else if (List.range ss.length).any (badSeat r l ss) = true then 9 else 0
theorem sits_len {r : Room} {l : List Nat} {ss : List Int} (h : ss.length ≠ l.length) : sitsE r l ss = 3 := if_pos h
theorem sits_rng {r : Room} {l : List Nat} {ss : List Int} (h1 : ss.length = l.length) (h : (ss.any fun z => !(inB 0 (r.seats.length - 1) z)) = true) : sitsE r l ss = 4 := by
  unfold sitsE; rw [if_neg (by simpa using h1), if_pos h]
theorem sits_twice {r : Room} {l : List Nat} {ss : List Int} (h1 : ss.length = l.length) (h2 : (ss.any fun z => !(inB 0 (r.seats.length - 1) z)) = false) (h : ¬ ss.Nodup) : sitsE r l ss = 5 := by
  unfold sitsE; rw [if_neg (by simpa using h1), if_neg (by rw [h2]; simp), if_pos h]
theorem sits_apart {r : Room} {l : List Nat} {ss : List Int} (h1 : ss.length = l.length) (h2 : (ss.any fun z => !(inB 0 (r.seats.length - 1) z)) = false) (h3 : ss.Nodup) (h : ¬ Apart r l) : sitsE r l ss = 9 := by
  unfold sitsE; rw [if_neg (by simpa using h1), if_neg (by rw [h2]; simp), if_neg (by simpa using h3), if_pos h]
theorem sits_bad {r : Room} {l : List Nat} {ss : List Int} {i : Nat} (h1 : ss.length = l.length) (h2 : (ss.any fun z => !(inB 0 (r.seats.length - 1) z)) = false) (h3 : ss.Nodup) (h4 : Apart r l) (hi : i < ss.length) (h : badSeat r l ss i = true) : sitsE r l ss = 9 := by
  unfold sitsE; rw [if_neg (by simpa using h1), if_neg (by rw [h2]; simp), if_neg (by simpa using h3), if_neg (by simpa using h4), if_pos (List.any_eq_true.2 ⟨i, by simpa using hi, h⟩)]
theorem sits_ok {r : Room} {l : List Nat} {ss : List Int} (h1 : ss.length = l.length) (h2 : (ss.any fun z => !(inB 0 (r.seats.length - 1) z)) = false) (h3 : ss.Nodup) (h4 : Apart r l) (h : ∀ i, i < ss.length → badSeat r l ss i = false) : sitsE r l ss = 0 := by
  unfold sitsE; rw [if_neg (by simpa using h1), if_neg (by rw [h2]; simp), if_neg (by simpa using h3), if_neg (by simpa using h4), if_neg]
  rw [Bool.not_eq_true, List.any_eq_false]
  intro i hi
  simp [h i (by simpa using hi)]
theorem badSeat_at {r : Room} {l : List Nat} {ss : List Int} {i s : Nat} (hi : i < l.length) (hs : i < ss.length) (he : ss[i] = (s : Int)) : badSeat r l ss i = decide (reason r l[i] s ≠ 0) := by
  unfold badSeat
  rw [List.getElem?_eq_getElem hi, List.getElem?_eq_getElem hs, Option.getD_some, Option.getD_some, he]
  simp
theorem in_of_any {xs : List Int} {lo hi : Int} (h : (xs.any fun z => !(inB lo hi z)) = false) {k : Nat} (hk : k < xs.length) : inB lo hi xs[k] = true := by
  rw [List.any_eq_false] at h
  simpa using h _ (List.getElem_mem hk)
theorem nodup_take {α : Type} {xs : List α} (h : ∀ k (hk : k < xs.length), xs[k] ∉ xs.take k) : xs.Nodup := by
  rw [List.nodup_iff_pairwise_ne, List.pairwise_iff_getElem]
  intro i j hi hj hij he
  exact h j hj (by rw [← he]; exact List.mem_take_iff_getElem.2 ⟨i, by omega, rfl⟩)
theorem twice_take {α : Type} {xs : List α} {k : Nat} (hk : k < xs.length) (h : xs[k] ∈ xs.take k) : ¬ xs.Nodup := fun hn => by
  rw [List.nodup_iff_pairwise_ne, List.pairwise_iff_getElem] at hn
  obtain ⟨i, hi, he⟩ := List.mem_take_iff_getElem.1 h
  exact hn i k (by omega) hk (by omega) he
end Go.Proofs.Ytbcjfkcpfjccdaa
namespace Go.Proofs.Ytbcjfkcpfjccdaa
open Go.RowKit
def cmpZ (a b : Int) : Int := if a < b then -1 else if b < a then 1 else 0
/-- Lists in their order: as words in a dictionary. -/
def cmpL : List Nat → List Nat → Int
  | [], [] => 0
  | [], _ :: _ => -1
  | _ :: _, [] => 1
  | a :: as1, b :: bs => if a < b then -1 else if b < a then 1 else cmpL as1 bs
theorem cmpL_same {a : Nat} {as1 bs : List Nat} : cmpL (a :: as1) (a :: bs) = cmpL as1 bs := by
  simp [cmpL]
theorem cmpL_drop : ∀ (k : Nat) {xs ys : List Nat}, k ≤ xs.length → k ≤ ys.length → xs.take k = ys.take k → cmpL xs ys = cmpL (xs.drop k) (ys.drop k)
  | 0, _, _, _, _, _ => rfl
  | k + 1, [], _, h, _, _ => by simp at h
  | k + 1, _ :: _, [], _, h, _ => by simp at h
  | k + 1, x :: xs, y :: ys, h1, h2, h => by
    simp only [List.take_succ_cons, List.cons.injEq] at h
    obtain ⟨rfl, h⟩ := h
    rw [cmpL_same, cmpL_drop k (by simpa using h1) (by simpa using h2) h]
    rfl
theorem cmpL_end1 {k : Nat} {xs ys : List Nat} (h1 : k < xs.length) (h2 : ys.length = k) (h : xs.take k = ys.take k) : cmpL xs ys = 1 := by
  rw [cmpL_drop k (by omega) (by omega) h, List.drop_eq_getElem_cons h1, show ys.drop k = [] from List.drop_of_length_le (by omega)]
  rfl
theorem cmpL_end0 {xs ys : List Nat} (h1 : xs.length ≤ ys.length) (h : xs.take xs.length = ys.take xs.length) : cmpL xs ys = if xs.length < ys.length then -1 else 0 := by
  rw [cmpL_drop xs.length (by omega) h1 h, List.drop_of_length_le (Nat.le_refl _)]
  by_cases h2 : xs.length < ys.length
  · rw [if_pos h2, List.drop_eq_getElem_cons h2]; rfl
  · rw [if_neg h2, List.drop_of_length_le (by omega)]; rfl
theorem cmpL_at {k : Nat} {xs ys : List Nat} (h1 : k < xs.length) (h2 : k < ys.length) (h : xs.take k = ys.take k) (hne : cmpZ xs[k] ys[k] ≠ 0) : cmpL xs ys = cmpZ xs[k] ys[k] := by
  rw [cmpL_drop k (by omega) (by omega) h, List.drop_eq_getElem_cons h1, List.drop_eq_getElem_cons h2]
  show (if xs[k] < ys[k] then (-1 : Int) else if ys[k] < xs[k] then 1 else _) = _
  unfold cmpZ at hne ⊢
  by_cases ha : xs[k] < ys[k]
  · rw [if_pos ha, if_pos (by omega)]
  · rw [if_neg ha]
    rw [if_neg (show ¬ (xs[k] : Int) < ys[k] by omega)] at hne ⊢
    by_cases hb : ys[k] < xs[k]
    · rw [if_pos hb, if_pos (by omega)]
    · rw [if_neg (show ¬ (ys[k] : Int) < xs[k] by omega)] at hne; exact absurd rfl hne
theorem cmpZ_zero {a b : Int} (h : cmpZ a b = 0) : a = b := by
  unfold cmpZ at h
  split at h
  · cases h
  · split at h
    · cases h
    · omega
theorem take_succ_eq {α : Type} {k : Nat} {xs ys : List α} (h1 : k < xs.length) (h2 : k < ys.length) (h : xs.take k = ys.take k) (he : xs[k] = ys[k]) : xs.take (k + 1) = ys.take (k + 1) := by
  rw [List.take_succ_eq_append_getElem h1, List.take_succ_eq_append_getElem h2, h, he]
theorem eq_of_take {α : Type} {xs ys : List α} (hl : xs.length = ys.length) (h : xs.take xs.length = ys.take xs.length) : xs = ys := by
  rw [List.take_length] at h
  rw [h, hl, List.take_length]
theorem ne_at {α : Type} {k : Nat} {xs ys : List α} (h1 : k < xs.length) (h2 : k < ys.length) (he : xs[k] ≠ ys[k]) : xs ≠ ys := by
  rintro rfl; exact he rfl
/-- What requests are worth. -/
def worthL (r : Room) (l : List Nat) : Int := (l.map fun i => (r.req i).worth).sum
theorem worthL_take {r : Room} {l : List Nat} {k : Nat} (hk : k < l.length) : worthL r (l.take (k + 1)) = worthL r (l.take k) + (r.req l[k]).worth := by
  unfold worthL
  rw [List.take_succ_eq_append_getElem hk, List.map_append, List.sum_append]
  simp
theorem worth_bound {r : Room} (hv : Valid r) {i : Nat} (hi : i < r.reqs.length) : 0 ≤ (r.req i).worth ∧ (r.req i).worth ≤ 100 := by
  have := hv.rq i hi
  omega
theorem worthL_bound {r : Room} (hv : Valid r) : ∀ {l : List Nat}, (∀ i ∈ l, i < r.reqs.length) → 0 ≤ worthL r l ∧ worthL r l ≤ 100 * l.length
  | [], _ => by simp [worthL]
  | i :: l, h => by
    have h1 := worth_bound hv (h i (by simp))
    have h2 := worthL_bound hv (l := l) (fun j hj => h j (List.mem_cons_of_mem _ hj))
    unfold worthL at h2 ⊢
    simp only [List.map_cons, List.sum_cons, List.length_cons]
    omega
/-- The numbers of a set that is told by bits. -/
def bitsL (set : Nat) : List Nat := (List.range 8).filter fun i => set.testBit i
def bitsTo (set k : Nat) : List Nat := (List.range k).filter fun i => set.testBit i
theorem bitsTo_succ {set k : Nat} : bitsTo set (k + 1) = if set.testBit k = true then bitsTo set k ++ [k] else bitsTo set k := by
  unfold bitsTo
  rw [List.range_succ, List.filter_append]
  by_cases h : set.testBit k = true
  · rw [if_pos h]; simp [h]
  · rw [if_neg h]; simp [h]
theorem bitsTo_length {set k : Nat} : (bitsTo set k).length ≤ k := by
  unfold bitsTo
  have := List.length_filter_le (fun i => set.testBit i) (List.range k)
  simpa using this
theorem bitsTo_all {set k : Nat} (hk : k ≤ 8) (h : set < 2 ^ k) : bitsTo set k = bitsL set := by
  have key : ∀ j, k ≤ j → bitsTo set j = bitsTo set k := by
    intro j hj
    induction j with
    | zero => have : k = 0 := by omega
              rw [this]
    | succ j ih =>
      by_cases hjk : k = j + 1
      · rw [hjk]
      · rw [bitsTo_succ, if_neg, ih (by omega)]
        have : set < 2 ^ j := Nat.lt_of_lt_of_le h (Nat.pow_le_pow_right (by omega) (by omega))
        simp [Nat.testBit_lt_two_pow this]
  exact (key 8 hk).symm
end Go.Proofs.Ytbcjfkcpfjccdaa
namespace Go.Proofs.Ytbcjfkcpfjccdaa
open Go.RowKit
def okSet (r : Room) (of : Int) (w set : Nat) : Bool := decide (butNot set of = 0) && decide (set &&& w = w) && (allR r (bitsL set)).isSome
def setsTo (r : Room) (of : Int) (w k : Nat) : List (List Nat) := ((List.range k).filter (okSet r of w)).map bitsL
def setsR (r : Room) (of : Int) (w : Nat) : List (List Nat) := setsTo r of w (2 ^ r.reqs.length)
theorem setsTo_succ {r : Room} {of : Int} {w k : Nat} : setsTo r of w (k + 1) = if okSet r of w k = true then setsTo r of w k ++ [bitsL k] else setsTo r of w k := by
  unfold setsTo
  rw [List.range_succ, List.filter_append]
  by_cases h : okSet r of w k = true
  · rw [if_pos h]; simp [h]
  · rw [if_neg h]; simp [h]
theorem sets_split {r : Room} {of : Int} {w k n : Nat} (hk : k < n) (h : okSet r of w k = true) : ∃ rest, setsTo r of w n = setsTo r of w k ++ bitsL k :: rest := by
  obtain ⟨d, rfl⟩ : ∃ d, n = (k + 1) + d := ⟨n - (k + 1), by omega⟩
  have h1 := setsTo_succ (r := r) (of := of) (w := w) (k := k)
  rw [if_pos h] at h1
  have h2 : setsTo r of w (k + 1 + d) = setsTo r of w (k + 1) ++ (((List.range d).map (k + 1 + ·)).filter (okSet r of w)).map bitsL := by
    unfold setsTo
    rw [List.range_add, List.filter_append, List.map_append]
  rw [h2, h1]
  exact ⟨(((List.range d).map (k + 1 + ·)).filter (okSet r of w)).map bitsL, by simp⟩
theorem bitsL_len {set : Nat} : (bitsL set).length ≤ 8 := by
  unfold bitsL
  have := List.length_filter_le (fun i => set.testBit i) (List.range 8)
  simpa using this
theorem mem_bitsL {set i : Nat} : i ∈ bitsL set ↔ i < 8 ∧ set.testBit i = true := by
  unfold bitsL; simp
theorem bitsL_lt {set n : Nat} (h : set < 2 ^ n) : ∀ i ∈ bitsL set, i < n := fun i hi => by
  obtain ⟨-, h2⟩ := mem_bitsL.1 hi
  rcases Nat.lt_or_ge i n with h3 | h3
  · exact h3
  · rw [Nat.testBit_lt_two_pow (Nat.lt_of_lt_of_le h (Nat.pow_le_pow_right (by omega) h3))] at h2; cases h2
theorem pow_le8 {n : Nat} (h : n ≤ 8) : 2 ^ n ≤ 256 := Nat.pow_le_pow_right (n := 2) (by omega) h
theorem mem_setsR {r : Room} {of : Int} {w : Nat} {l : List Nat} (h : l ∈ setsR r of w) : ∃ set, set < 2 ^ r.reqs.length ∧ l = bitsL set ∧ okSet r of w set = true := by
  unfold setsR setsTo at h
  obtain ⟨set, h1, rfl⟩ := List.mem_map.1 h
  obtain ⟨h1, h2⟩ := List.mem_filter.1 h1
  exact ⟨set, by simpa using h1, rfl, h2⟩
/-- The list with the greatest number, the first one of several. -/
def mostStep (num : List Nat → Int) (cmp : List Nat → List Nat → Int) (b : List Nat × Int) (l : List Nat) : List Nat × Int := if b.2 < num l ∨ (num l = b.2 ∧ cmp l b.1 < 0) then (l, num l) else b
def mostR (num : List Nat → Int) (cmp : List Nat → List Nat → Int) (xs : List (List Nat)) : List Nat × Int := xs.foldl (mostStep num cmp) ([], -1)
theorem mostR_snoc {num : List Nat → Int} {cmp : List Nat → List Nat → Int} {xs : List (List Nat)} {x : List Nat} : mostR num cmp (xs ++ [x]) = mostStep num cmp (mostR num cmp xs) x := by
  unfold mostR; rw [List.foldl_append]; rfl
theorem mostStep_yes {num : List Nat → Int} {cmp : List Nat → List Nat → Int} {b : List Nat × Int} {l : List Nat} (h : b.2 < num l ∨ (num l = b.2 ∧ cmp l b.1 < 0)) : mostStep num cmp b l = (l, num l) := if_pos h
theorem mostStep_no {num : List Nat → Int} {cmp : List Nat → List Nat → Int} {b : List Nat × Int} {l : List Nat} (h : ¬ (b.2 < num l ∨ (num l = b.2 ∧ cmp l b.1 < 0))) : mostStep num cmp b l = b := if_neg h
end Go.Proofs.Ytbcjfkcpfjccdaa
namespace Go.Proofs.Ytbcjfkcpfjccdaa
open Go.RowKit
def bestP (r : Room) : List Nat × Int := mostR (worthL r) cmpL (setsR r (-1) 0)
def bestE (r : Room) : List Nat × Int × Int := if (check r).2.2 = 0 then ((bestP r).1, (bestP r).2, 0) else ([], 0, (check r).2.2)
theorem bestE_ok {r : Room} (h : (check r).2.2 = 0) : bestE r = ((bestP r).1, (bestP r).2, 0) := if_pos h
theorem bestE_bad {r : Room} (h : ¬ (check r).2.2 = 0) : bestE r = ([], 0, (check r).2.2) := if_neg h
def turnStep (r : Room) (out : List Nat) (i : Nat) : List Nat := if (allR r (out ++ [i])).isSome = true then out ++ [i] else out
def turnTo (r : Room) (k : Nat) : List Nat := (List.range k).foldl (turnStep r) []
theorem turnTo_succ {r : Room} {k : Nat} : turnTo r (k + 1) = turnStep r (turnTo r k) k := fold_succ
theorem turnTo_yes {r : Room} {k : Nat} (h : (allR r (turnTo r k ++ [k])).isSome = true) : turnTo r (k + 1) = turnTo r k ++ [k] := by rw [turnTo_succ]; exact if_pos h
theorem turnTo_no {r : Room} {k : Nat} (h : ¬ (allR r (turnTo r k ++ [k])).isSome = true) : turnTo r (k + 1) = turnTo r k := by rw [turnTo_succ]; exact if_neg h
theorem turnTo_lt {r : Room} : ∀ k, ∀ i ∈ turnTo r k, i < k
  | 0, i, h => nomatch h
  | k + 1, i, h => by
    by_cases hk : (allR r (turnTo r k ++ [k])).isSome = true
    · rw [turnTo_yes hk] at h
      rcases List.mem_append.1 h with h | h
      · have := turnTo_lt k i h; omega
      · simp at h; omega
    · rw [turnTo_no hk] at h
      have := turnTo_lt k i h; omega
theorem turnTo_len {r : Room} : ∀ k, (turnTo r k).length ≤ k
  | 0 => Nat.le_refl _
  | k + 1 => by
    have := turnTo_len (r := r) k
    by_cases hk : (allR r (turnTo r k ++ [k])).isSome = true
    · rw [turnTo_yes hk]; simp; omega
    · rw [turnTo_no hk]; omega
def turnR (r : Room) : List Nat := turnTo r r.reqs.length
def turnE (r : Room) : List Nat × Int := if (check r).2.2 = 0 then (turnR r, 0) else ([], (check r).2.2)
theorem turnE_ok {r : Room} (h : (check r).2.2 = 0) : turnE r = (turnR r, 0) := if_pos h
theorem turnE_bad {r : Room} (h : ¬ (check r).2.2 = 0) : turnE r = ([], (check r).2.2) := if_neg h
end Go.Proofs.Ytbcjfkcpfjccdaa
namespace Go.Proofs.Ytbcjfkcpfjccdaa
open Go.RowKit
/-- What the first 'n' of some requests at seats use of the light of a book. -/
def useAt (r : Room) (l : List Nat) (ss : List Int) (b i : Nat) : Int := if r.book (l[i]?.getD 0) = b then light r (l[i]?.getD 0) (ss[i]?.getD 0).toNat else 0
def used (r : Room) (l : List Nat) (ss : List Int) (b : Nat) : Nat → Int
  | 0 => 0
  | n + 1 => used r l ss b n + useAt r l ss b n
theorem useAt_yes {r : Room} {l : List Nat} {ss : List Int} {b i s : Nat} (h1 : i < l.length) (h2 : i < ss.length) (hs : ss[i] = (s : Int)) (hb : r.book l[i] = b) : useAt r l ss b i = light r l[i] s := by
  unfold useAt
  rw [List.getElem?_eq_getElem h1, List.getElem?_eq_getElem h2]
  simp [hb, hs]
theorem useAt_no {r : Room} {l : List Nat} {ss : List Int} {b i : Nat} (h1 : i < l.length) (hb : ¬ r.book l[i] = b) : useAt r l ss b i = 0 := by
  unfold useAt
  rw [List.getElem?_eq_getElem h1]
  simp [hb]
theorem used_bound {r : Room} (hv : Valid r) {l : List Nat} {ss : List Int} {b : Nat} (hl : ∀ i ∈ l, i < r.reqs.length) (hs : (ss.any fun z => !(inB 0 (r.seats.length - 1) z)) = false) : ∀ n, n ≤ l.length → n ≤ ss.length → 0 ≤ used r l ss b n ∧ used r l ss b n ≤ 1200 * n
  | 0, _, _ => by simp [used]
  | n + 1, h1, h2 => by
    have ih := used_bound hv (b := b) hl hs n (by omega) (by omega)
    obtain ⟨s, hse, hsn⟩ := inB_nat (in_of_any hs (k := n) (by omega))
    have hlb := light_bound hv (hl _ (List.getElem_mem (show n < l.length by omega))) hsn
    unfold used
    by_cases hb : r.book (l[n]'(by omega)) = b
    · rw [useAt_yes (by omega) (by omega) hse hb]; omega
    · rw [useAt_no (by omega) hb]; omega
def leftAt (r : Room) (l : List Nat) (ss : List Int) (n b : Nat) : Int × Int := ((r.bk b).lo - used r l ss b n, (r.bk b).hi - used r l ss b n)
def leftL (r : Room) (l : List Nat) (ss : List Int) (n k : Nat) : List (Int × Int) := (List.range k).map (leftAt r l ss n)
theorem leftL_succ {r : Room} {l : List Nat} {ss : List Int} {n k : Nat} : leftL r l ss n (k + 1) = leftL r l ss n k ++ [leftAt r l ss n k] := by
  unfold leftL; rw [List.range_succ, List.map_append]; rfl
theorem leftL_length {r : Room} {l : List Nat} {ss : List Int} {n k : Nat} : (leftL r l ss n k).length = k := by simp [leftL]
theorem leftAt_zero {r : Room} {l : List Nat} {ss : List Int} {b : Nat} : leftAt r l ss 0 b = ((r.bk b).lo, (r.bk b).hi) := by simp [leftAt, used]
theorem leftL_set {r : Room} {l : List Nat} {ss : List Int} {n k : Nat} (h1 : n < l.length) : (leftL r l ss n k).set (r.book l[n]) (leftAt r l ss (n + 1) (r.book l[n])) = leftL r l ss (n + 1) k := by
  unfold leftL
  apply List.ext_getElem
  · simp
  · intro i h2 h3
    rw [List.getElem_set]
    simp only [List.getElem_map, List.getElem_range]
    by_cases hb : r.book l[n] = i
    · rw [if_pos hb, hb]
    · rw [if_neg hb]
      unfold leftAt
      rw [show used r l ss i (n + 1) = used r l ss i n + useAt r l ss i n from rfl, useAt_no h1 hb]
      simp
theorem leftL_get {r : Room} {l : List Nat} {ss : List Int} {n k b : Nat} (h : b < k) : (leftL r l ss n k)[b]'(by rw [leftL_length]; exact h) = leftAt r l ss n b := by
  simp [leftL]
def leftE (r : Room) (xs ss : List Int) : List (Int × Int) × Int :=
  if someErr r xs = 0 then (if sitsE r (xs.map Int.toNat) ss = 0 then (leftL r (xs.map Int.toNat) ss xs.length r.books.length, 0) else ([], sitsE r (xs.map Int.toNat) ss)) else ([], someErr r xs)
theorem leftE_bad {r : Room} {xs ss : List Int} (h : ¬ someErr r xs = 0) : leftE r xs ss = ([], someErr r xs) := if_neg h
theorem leftE_sit {r : Room} {l : List Nat} {ss : List Int} {e : Int} (h : someErr r (l.map fun (n : Nat) => (n : Int)) = 0) (hs : sitsE r l ss = e) (he : e ≠ 0) : leftE r (l.map fun (n : Nat) => (n : Int)) ss = ([], e) := by
  unfold leftE; rw [if_pos h, idx_map, hs, if_neg he]
theorem leftE_ok {r : Room} {l : List Nat} {ss : List Int} (h : someErr r (l.map fun (n : Nat) => (n : Int)) = 0) (hs : sitsE r l ss = 0) : leftE r (l.map fun (n : Nat) => (n : Int)) ss = (leftL r l ss l.length r.books.length, 0) := by
  unfold leftE; rw [if_pos h, idx_map, hs, if_pos rfl, List.length_map]
theorem leftAt_next {r : Room} {l : List Nat} {ss : List Int} {i s : Nat} (h1 : i < l.length) (h2 : i < ss.length) (hs : ss[i] = (s : Int)) :
    leftAt r l ss (i + 1) (r.book l[i]) = ((leftAt r l ss i (r.book l[i])).1 - light r l[i] s, (leftAt r l ss i (r.book l[i])).2 - light r l[i] s) := by
  unfold leftAt
  rw [show used r l ss (r.book l[i]) (i + 1) = used r l ss (r.book l[i]) i + useAt r l ss (r.book l[i]) i from rfl, useAt_yes h1 h2 hs rfl]
  ext <;> simp <;> omega
theorem leftAt_bound {r : Room} (hv : Valid r) {l : List Nat} {ss : List Int} {b : Nat} (hl : ∀ i ∈ l, i < r.reqs.length) (hs : (ss.any fun z => !(inB 0 (r.seats.length - 1) z)) = false) {n : Nat} (h1 : n ≤ l.length) (h2 : n ≤ ss.length) (h8 : l.length ≤ 8) (hb : b < r.books.length) :
    -20000 ≤ (leftAt r l ss n b).1 ∧ (leftAt r l ss n b).1 ≤ 1000 ∧ -20000 ≤ (leftAt r l ss n b).2 ∧ (leftAt r l ss n b).2 ≤ 1000 := by
  have hu := used_bound hv (b := b) hl hs n h1 h2
  have hb := hv.bo b hb
  unfold leftAt
  simp only
  omega
def spanE (p : Int × Int) : List Value := [.int .i64 p.1, .int .i64 p.2]
theorem flat_set2 {a c : Int} : ∀ {xs : List (Int × Int)} {b : Nat}, b < xs.length → (((xs.flatMap spanE).set (b * 2 + 0) (.int .i64 a)).set (b * 2 + 1) (.int .i64 c)) = (xs.set b (a, c)).flatMap spanE := by
  intro xs
  induction xs with
  | nil => intro b h; simp at h
  | cons x xs ih =>
    intro b h
    cases b with
    | zero => simp [spanE]
    | succ b =>
      have := ih (b := b) (by simpa using h)
      simp only [List.flatMap_cons, List.set_cons_succ]
      rw [← this, show (b + 1) * 2 + 0 = (b * 2 + 0) + 1 + 1 by omega, show (b + 1) * 2 + 1 = (b * 2 + 1) + 1 + 1 by omega]
      simp [spanE]
theorem flat_left {r : Room} {l : List Nat} {ss : List Int} {n k b j : Nat} {u : Value} (h : b < k) (hu : (spanE (leftAt r l ss n b))[j]? = some u) : ((leftL r l ss n k).flatMap spanE)[b * 2 + j]? = some u :=
  flat_at (enc := spanE) (s := 2) (fun _ => rfl) (leftL r l ss n k) b (by rw [leftL_length]; exact h) (by rw [leftL_get h]; exact hu)
theorem flat_left_len {r : Room} {l : List Nat} {ss : List Int} {n k : Nat} : ((leftL r l ss n k).flatMap spanE).length = k * 2 := by
  rw [flat_len (enc := spanE) (s := 2) (fun _ => rfl), leftL_length]
theorem mask_orI {mask s : Nat} {xs : List Int} (h : ∀ t : Nat, mask.testBit t = decide ((t : Int) ∈ xs)) : ∀ t : Nat, (mask ||| 2 ^ s).testBit t = decide ((t : Int) ∈ xs ++ [(s : Int)]) := fun t => by
  rw [Nat.testBit_or, Nat.testBit_two_pow, h]
  by_cases hk : s = t
  · subst hk; simp
  · have : ¬ (t : Int) = (s : Int) := fun e => hk (by omega)
    simp [hk, this]
end Go.Proofs.Ytbcjfkcpfjccdaa
namespace Go.Proofs.Ytbcjfkcpfjccdaa
open Go.RowKit
def wfI (z : Int) : Prop := (Lit.int .i64 z).wf = true
def Book.wf (b : Book) : Prop := wfI b.cls ∧ wfI b.lo ∧ wfI b.hi
def Rdr.wf (b : Rdr) : Prop := wfI b.permit
def Seat.wf (b : Seat) : Prop := wfI b.light
def Req.wf (b : Req) : Prop := wfI b.reader ∧ wfI b.book ∧ wfI b.hours ∧ wfI b.worth
structure Room.wf (r : Room) : Prop where
  books : ∀ b ∈ r.books, b.wf
  readers : ∀ b ∈ r.readers, b.wf
  seats : ∀ b ∈ r.seats, b.wf
  reqs : ∀ b ∈ r.reqs, b.wf
theorem two {α : Type} {l : List α} (h : l.length = 2) : ∃ a b, l = [a, b] := by
  match l, h with
  | [a, b], _ => exact ⟨a, b, rfl⟩
section
variable {H : Type} {enc : TypeId × Value → H} {W : World}
end
end Go.Proofs.Ytbcjfkcpfjccdaa
namespace Go.Proofs.Ytbcjfkcpfjccdaa
open Go.ChangeShapes Go.WideShapes Go.ChangeAt Go.RowKit
theorem ownKnob0 : ownKnob Try.prog.godebug = none := by kernel_rfl
end Go.Proofs.Ytbcjfkcpfjccdaa
namespace Go.Proofs.Ytbcjfkcpfjccdaa
open Go.RowKit
theorem bd_100 : Body Try.prog 100 := body_of (by kernel_rfl)
theorem bd_83 : Body Try.prog 83 := body_of (by kernel_rfl)
theorem bd_84 : Body Try.prog 84 := body_of (by kernel_rfl)
theorem fd_60_0 : FieldT Try.prog 60 0 0 := fieldT_of (by kernel_rfl)
theorem fd_60_1 : FieldT Try.prog 60 1 1 := fieldT_of (by kernel_rfl)
theorem one_3 : OneT Try.prog 3 := oneT_of (by kernel_rfl)
theorem one_9 : OneT Try.prog 9 := oneT_of (by kernel_rfl)
theorem sl_29 : SliceT Try.prog 29 3 1 := sliceT_of (by kernel_rfl)
set_option maxRecDepth 100000 in
theorem quireName_ok {F : Heap} (s : ByteArray) : Ok Try.prog 48 [.string s].toArray F fun r _ => r = .bool (nameOk s) := by
  refine Ok.intro Try.func48 rfl Try.ntmps48 rfl fun w0 => ?_
  refine WC_seq ?_
  refine WC_reg fun ds => ?_
  refine WL_q rfl (q_assign lk_const) ?_
  refine WL_nil ?_
  refine then_n ?_
  refine WC_seq ?_
  refine WC_seq ?_
  refine WC_reg fun ds => ?_
  refine WL_q rfl (q_move (lk1 rfl <| lk_entry rfl)) ?_
  refine WL_x rfl (x_rangeS Try.underlying9 (lk0) fun b1 hb1 nb1 => ?_)
  refine WL_nil ?_
  refine then_n ?_
  refine WC_block ?_
  refine WC_loopN [2, 3, 4, 7, 8, 9, 10, 11, 12, 13, 14, 15, 16, 17, 18, 19, 20, 21, 22, 23, 24, 25, 26, 27, 28, 29, 30, 31, 32] (fun m e σ => ∃ k : Nat, m + k = s.size ∧ σ = ⟨F, [(b1, .stringIter s k)]⟩ ∧ ∀ j (hj : j < s.size), j < k → chOk j s[j] = true) (s.size) ?_ ?_
  · exact ⟨0, by omega, rfl, fun j hj h => absurd h (by omega)⟩
  ·
   rintro m e _ ⟨k, hm, rfl, hno⟩
   by_cases hlt : k < s.size
   ·
    by_cases ha : s[k].toNat < 128
    ·
     have hdec := decode_ascii s k hlt ha
     refine WC_seq ?_
     refine WC_reg fun ds => ?_
     refine WL_x rfl (x_nextS (lk_off rfl <| lk0) (i := 0) rfl hlt hdec (.here) ?_)
     refine WL_q rfl (q_extract (lk0) rfl) ?_
     refine WL_nil ?_
     refine then_n ?_
     refine WC_seq ?_
     refine WC_if_true (lk0) rfl ?_
     by_cases hl1 : 97 ≤ (s[k].toNat : Int)
     ·
      refine WC_skip ?_
      refine then_n ?_
      refine WC_block ?_
      refine WC_seq ?_
      refine WC_reg fun ds => ?_
      refine WL_q rfl (q_extract (lk1 rfl <| lk0) rfl) ?_
      refine WL_q rfl (q_extract (lk2 rfl <| lk0) rfl) ?_
      refine WL_q rfl (q_assign (lk1 rfl <| lk0)) ?_
      refine WL_q rfl (q_assign (lk1 rfl <| lk0)) ?_
      refine WL_nil ?_
      refine then_n ?_
      refine WC_block ?_
      refine WC_seq ?_
      refine WC_reg fun ds => ?_
      refine WL_q rfl (q_move (lk0)) ?_
      refine WL_q rfl (q_geq (lk0) lk_const) ?_
      refine WL_q rfl (q_move (lk0)) ?_
      refine WL_want rfl rfl (lk0) (by first | rfl | exact decide_eq_true (by omega)) ?_
      refine WL_q rfl (q_move (lk2 rfl <| lk1 rfl <| lk0)) ?_
      refine WL_want rfl rfl (lk1 rfl <| lk0) (by first | rfl | exact decide_eq_true (by omega)) ?_
      refine WL_q rfl (q_leq (lk0) lk_const) ?_
      refine WL_q rfl (q_pick_true (lk2 rfl <| lk0) (by first | rfl | exact decide_eq_true (by omega)) (lk0)) ?_
      refine WL_q rfl (q_assign (lk0)) ?_
      refine WL_nil ?_
      refine then_n ?_
      by_cases hl2 : (s[k].toNat : Int) ≤ 122
      ·
       have hch : chOk k s[k] = true := by unfold chOk letterB digitB; simp; omega
       refine WC_if_true (lk0) (by first | rfl | exact decide_eq_true (by omega)) ?_
       refine WC_skip ?_
       refine block_n (block_n ?_)
       refine then_n ⟨_, m - 1, Off.eq (ou8 rfl <| ou4 rfl <| ou1 rfl <| off_over), by omega, ?_⟩
       refine ⟨k + 1, by omega, rfl, fun j hj hjk => ?_⟩
       rcases Nat.lt_succ_iff_lt_or_eq.1 hjk with hjk | rfl
       · exact hno j hj hjk
       · exact hch
      ·
       refine WC_if_false (lk0) (by first | rfl | exact decide_eq_false (by omega)) ?_
       by_cases hz : k = 0
       ·
        refine WC_seq ?_
        refine WC_reg fun ds => ?_
        refine WL_q rfl (q_move (lk8 rfl <| lk0)) ?_
        refine WL_q rfl (q_gtr (lk0) lk_const) ?_
        refine WL_q rfl (q_move (lk0)) ?_
        refine WL_pass rfl rfl (lk0) (.inl (congrArg Value.bool (by first | rfl | exact decide_eq_false (by omega)))) rfl ?_
        refine WL_pass rfl rfl (lk1 rfl <| lk0) (.inl (congrArg Value.bool (by first | rfl | exact decide_eq_false (by omega)))) rfl ?_
        refine WL_pass rfl rfl (lk2 rfl <| lk0) (.inl (congrArg Value.bool (by first | rfl | exact decide_eq_false (by omega)))) rfl ?_
        refine WL_pass rfl rfl (lk0) (.inr rfl) rfl ?_
        refine WL_pass rfl rfl (lk1 rfl <| lk0) (.inr rfl) rfl ?_
        refine WL_pass rfl rfl (lk4 rfl <| lk1 rfl <| lk0) (.inl (congrArg Value.bool (by first | rfl | exact decide_eq_false (by omega)))) rfl ?_
        refine WL_pass rfl rfl (lk4 rfl <| lk2 rfl <| lk0) (.inl (congrArg Value.bool (by first | rfl | exact decide_eq_false (by omega)))) rfl ?_
        refine WL_pass rfl rfl (lk0) (.inr rfl) rfl ?_
        refine WL_pass rfl rfl (lk1 rfl <| lk0) (.inr rfl) rfl ?_
        refine WL_pass rfl rfl (lk8 rfl <| lk1 rfl <| lk0) (.inl (congrArg Value.bool (by first | rfl | exact decide_eq_false (by omega)))) rfl ?_
        refine WL_q rfl (q_pick_false (lk8 rfl <| lk2 rfl <| lk0) (by first | rfl | exact decide_eq_false (by omega)) lk_const) ?_
        refine WL_q rfl (q_assign (lk0)) ?_
        refine WL_nil ?_
        refine then_n ?_
        have hch : chOk k s[k] = false := by unfold chOk letterB digitB; simp; omega
        refine WC_if_false (lk0) (by first | rfl | exact decide_eq_false (by omega)) ?_
        refine WC_seq ?_
        refine WC_reg fun ds => ?_
        refine WL_q rfl (q_assign lk_const) ?_
        refine WL_nil ?_
        refine then_n ?_
        refine WC_ret ?_
        refine block_r (block_r (then_r (block_r (then_r ?_))))
        refine post_ret rfl (.tmp (lk0) .nil) ?_
        show _ = _
        rw [nameOk_bad (i := k) hlt hch]; rfl
       ·
        refine WC_seq ?_
        refine WC_reg fun ds => ?_
        refine WL_q rfl (q_move (lk8 rfl <| lk0)) ?_
        refine WL_q rfl (q_gtr (lk0) lk_const) ?_
        refine WL_q rfl (q_move (lk0)) ?_
        refine WL_want rfl rfl (lk0) (by first | rfl | exact decide_eq_true (by omega)) ?_
        refine WL_q rfl (q_move (lk8 rfl <| lk2 rfl <| lk0)) ?_
        refine WL_want rfl rfl (lk1 rfl <| lk0) (by first | rfl | exact decide_eq_true (by omega)) ?_
        refine WL_q rfl (q_geq (lk0) lk_const) ?_
        refine WL_want rfl rfl (lk2 rfl <| lk0) (by first | rfl | exact decide_eq_true (by omega)) ?_
        refine WL_q rfl (q_move (lk0)) ?_
        by_cases hd1 : 48 ≤ (s[k].toNat : Int)
        ·
         refine WL_want rfl rfl (lk0) (by first | rfl | exact decide_eq_true (by omega)) ?_
         refine WL_q rfl (q_move (lk8 rfl <| lk4 rfl <| lk1 rfl <| lk0)) ?_
         refine WL_want rfl rfl (lk1 rfl <| lk0) (by first | rfl | exact decide_eq_true (by omega)) ?_
         refine WL_q rfl (q_leq (lk0) lk_const) ?_
         refine WL_want rfl rfl (lk4 rfl <| lk1 rfl <| lk0) (by first | rfl | exact decide_eq_true (by omega)) ?_
         refine WL_q rfl (q_pick_true (lk2 rfl <| lk0) (by first | rfl | exact decide_eq_true (by omega)) (lk0)) ?_
         refine WL_want rfl rfl (lk4 rfl <| lk2 rfl <| lk0) (by first | rfl | exact decide_eq_true (by omega)) ?_
         refine WL_q rfl (q_move (lk0)) ?_
         by_cases hd2 : (s[k].toNat : Int) ≤ 57
         ·
          refine WL_pass rfl rfl (lk0) (.inl (congrArg Value.bool (by first | rfl | exact decide_eq_true (by omega)))) rfl ?_
          refine WL_pass rfl rfl (lk1 rfl <| lk0) (.inl (congrArg Value.bool (by first | rfl | exact decide_eq_true (by omega)))) rfl ?_
          refine WL_want rfl rfl (lk8 rfl <| lk1 rfl <| lk0) (by first | rfl | exact decide_eq_true (by omega)) ?_
          refine WL_q rfl (q_pick_true (lk2 rfl <| lk0) (by first | rfl | exact decide_eq_true (by omega)) lk_const) ?_
          refine WL_q rfl (q_pick_true (lk8 rfl <| lk2 rfl <| lk0) (by first | rfl | exact decide_eq_true (by omega)) (lk0)) ?_
          refine WL_q rfl (q_assign (lk0)) ?_
          refine WL_nil ?_
          refine then_n ?_
          have hch : chOk k s[k] = true := by unfold chOk letterB digitB; simp; omega
          refine WC_if_true (lk0) (by first | rfl | exact decide_eq_true (by omega)) ?_
          refine WC_skip ?_
          refine block_n (block_n ?_)
          refine then_n ⟨_, m - 1, Off.eq (ou16 rfl <| ou8 rfl <| ou4 rfl <| off_over), by omega, ?_⟩
          refine ⟨k + 1, by omega, rfl, fun j hj hjk => ?_⟩
          rcases Nat.lt_succ_iff_lt_or_eq.1 hjk with hjk | rfl
          · exact hno j hj hjk
          · exact hch
         ·
          refine WL_want rfl rfl (lk0) (by first | rfl | exact decide_eq_false (by omega)) ?_
          refine WL_q rfl (q_move (lk16 rfl <| lk1 rfl <| lk0)) ?_
          refine WL_want rfl rfl (lk1 rfl <| lk0) (by first | rfl | exact decide_eq_false (by omega)) ?_
          refine WL_q rfl (q_eql (lk0) lk_const) ?_
          refine WL_want rfl rfl (lk8 rfl <| lk1 rfl <| lk0) (by first | rfl | exact decide_eq_true (by omega)) ?_
          refine WL_q rfl (q_pick_false (lk2 rfl <| lk0) (by first | rfl | exact decide_eq_false (by omega)) (lk0)) ?_
          refine WL_q rfl (q_pick_true (lk8 rfl <| lk2 rfl <| lk0) (by first | rfl | exact decide_eq_true (by omega)) (lk0)) ?_
          refine WL_q rfl (q_assign (lk0)) ?_
          refine WL_nil ?_
          refine then_n ?_
          by_cases hp : (s[k].toNat : Int) = 46
          ·
           have hch : chOk k s[k] = true := by unfold chOk letterB digitB; simp; omega
           refine WC_if_true (lk0) (by first | rfl | exact decide_eq_true (by omega)) ?_
           refine WC_skip ?_
           refine block_n (block_n ?_)
           refine then_n ⟨_, m - 1, Off.eq (ou16 rfl <| ou8 rfl <| ou4 rfl <| off_over), by omega, ?_⟩
           refine ⟨k + 1, by omega, rfl, fun j hj hjk => ?_⟩
           rcases Nat.lt_succ_iff_lt_or_eq.1 hjk with hjk | rfl
           · exact hno j hj hjk
           · exact hch
          ·
           have hch : chOk k s[k] = false := by unfold chOk letterB digitB; simp; omega
           refine WC_if_false (lk0) (by first | rfl | exact decide_eq_false (by omega)) ?_
           refine WC_seq ?_
           refine WC_reg fun ds => ?_
           refine WL_q rfl (q_assign lk_const) ?_
           refine WL_nil ?_
           refine then_n ?_
           refine WC_ret ?_
           refine block_r (block_r (then_r (block_r (then_r ?_))))
           refine post_ret rfl (.tmp (lk0) .nil) ?_
           show _ = _
           rw [nameOk_bad (i := k) hlt hch]; rfl
        ·
         refine WL_pass rfl rfl (lk0) (.inl (congrArg Value.bool (by first | rfl | exact decide_eq_false (by omega)))) rfl ?_
         refine WL_pass rfl rfl (lk1 rfl <| lk0) (.inl (congrArg Value.bool (by first | rfl | exact decide_eq_false (by omega)))) rfl ?_
         refine WL_want rfl rfl (lk4 rfl <| lk1 rfl <| lk0) (by first | rfl | exact decide_eq_true (by omega)) ?_
         refine WL_q rfl (q_pick_false (lk2 rfl <| lk0) (by first | rfl | exact decide_eq_false (by omega)) lk_const) ?_
         refine WL_want rfl rfl (lk4 rfl <| lk2 rfl <| lk0) (by first | rfl | exact decide_eq_true (by omega)) ?_
         refine WL_q rfl (q_move (lk0)) ?_
         refine WL_want rfl rfl (lk0) (by first | rfl | exact decide_eq_false (by omega)) ?_
         refine WL_q rfl (q_move (lk16 rfl <| lk1 rfl <| lk0)) ?_
         refine WL_want rfl rfl (lk1 rfl <| lk0) (by first | rfl | exact decide_eq_false (by omega)) ?_
         refine WL_q rfl (q_eql (lk0) lk_const) ?_
         refine WL_want rfl rfl (lk8 rfl <| lk1 rfl <| lk0) (by first | rfl | exact decide_eq_true (by omega)) ?_
         refine WL_q rfl (q_pick_false (lk2 rfl <| lk0) (by first | rfl | exact decide_eq_false (by omega)) (lk0)) ?_
         refine WL_q rfl (q_pick_true (lk8 rfl <| lk2 rfl <| lk0) (by first | rfl | exact decide_eq_true (by omega)) (lk0)) ?_
         refine WL_q rfl (q_assign (lk0)) ?_
         refine WL_nil ?_
         refine then_n ?_
         by_cases hp : (s[k].toNat : Int) = 46
         ·
          have hch : chOk k s[k] = true := by unfold chOk letterB digitB; simp; omega
          refine WC_if_true (lk0) (by first | rfl | exact decide_eq_true (by omega)) ?_
          refine WC_skip ?_
          refine block_n (block_n ?_)
          refine then_n ⟨_, m - 1, Off.eq (ou16 rfl <| ou8 rfl <| ou4 rfl <| off_over), by omega, ?_⟩
          refine ⟨k + 1, by omega, rfl, fun j hj hjk => ?_⟩
          rcases Nat.lt_succ_iff_lt_or_eq.1 hjk with hjk | rfl
          · exact hno j hj hjk
          · exact hch
         ·
          have hch : chOk k s[k] = false := by unfold chOk letterB digitB; simp; omega
          refine WC_if_false (lk0) (by first | rfl | exact decide_eq_false (by omega)) ?_
          refine WC_seq ?_
          refine WC_reg fun ds => ?_
          refine WL_q rfl (q_assign lk_const) ?_
          refine WL_nil ?_
          refine then_n ?_
          refine WC_ret ?_
          refine block_r (block_r (then_r (block_r (then_r ?_))))
          refine post_ret rfl (.tmp (lk0) .nil) ?_
          show _ = _
          rw [nameOk_bad (i := k) hlt hch]; rfl
     ·
      refine WC_skip ?_
      refine then_n ?_
      refine WC_block ?_
      refine WC_seq ?_
      refine WC_reg fun ds => ?_
      refine WL_q rfl (q_extract (lk1 rfl <| lk0) rfl) ?_
      refine WL_q rfl (q_extract (lk2 rfl <| lk0) rfl) ?_
      refine WL_q rfl (q_assign (lk1 rfl <| lk0)) ?_
      refine WL_q rfl (q_assign (lk1 rfl <| lk0)) ?_
      refine WL_nil ?_
      refine then_n ?_
      refine WC_block ?_
      refine WC_seq ?_
      refine WC_reg fun ds => ?_
      refine WL_q rfl (q_move (lk0)) ?_
      refine WL_q rfl (q_geq (lk0) lk_const) ?_
      refine WL_q rfl (q_move (lk0)) ?_
      refine WL_pass rfl rfl (lk0) (.inl (congrArg Value.bool (by first | rfl | exact decide_eq_false (by omega)))) rfl ?_
      refine WL_pass rfl rfl (lk1 rfl <| lk0) (.inl (congrArg Value.bool (by first | rfl | exact decide_eq_false (by omega)))) rfl ?_
      refine WL_q rfl (q_pick_false (lk2 rfl <| lk0) (by first | rfl | exact decide_eq_false (by omega)) lk_const) ?_
      refine WL_q rfl (q_assign (lk0)) ?_
      refine WL_nil ?_
      refine then_n ?_
      refine WC_if_false (lk0) (by first | rfl | exact decide_eq_false (by omega)) ?_
      by_cases hz : k = 0
      ·
       refine WC_seq ?_
       refine WC_reg fun ds => ?_
       refine WL_q rfl (q_move (lk8 rfl <| lk0)) ?_
       refine WL_q rfl (q_gtr (lk0) lk_const) ?_
       refine WL_q rfl (q_move (lk0)) ?_
       refine WL_pass rfl rfl (lk0) (.inl (congrArg Value.bool (by first | rfl | exact decide_eq_false (by omega)))) rfl ?_
       refine WL_pass rfl rfl (lk1 rfl <| lk0) (.inl (congrArg Value.bool (by first | rfl | exact decide_eq_false (by omega)))) rfl ?_
       refine WL_pass rfl rfl (lk2 rfl <| lk0) (.inl (congrArg Value.bool (by first | rfl | exact decide_eq_false (by omega)))) rfl ?_
       refine WL_pass rfl rfl (lk0) (.inr rfl) rfl ?_
       refine WL_pass rfl rfl (lk1 rfl <| lk0) (.inr rfl) rfl ?_
       refine WL_pass rfl rfl (lk4 rfl <| lk1 rfl <| lk0) (.inl (congrArg Value.bool (by first | rfl | exact decide_eq_false (by omega)))) rfl ?_
       refine WL_pass rfl rfl (lk4 rfl <| lk2 rfl <| lk0) (.inl (congrArg Value.bool (by first | rfl | exact decide_eq_false (by omega)))) rfl ?_
       refine WL_pass rfl rfl (lk0) (.inr rfl) rfl ?_
       refine WL_pass rfl rfl (lk1 rfl <| lk0) (.inr rfl) rfl ?_
       refine WL_pass rfl rfl (lk8 rfl <| lk1 rfl <| lk0) (.inl (congrArg Value.bool (by first | rfl | exact decide_eq_false (by omega)))) rfl ?_
       refine WL_q rfl (q_pick_false (lk8 rfl <| lk2 rfl <| lk0) (by first | rfl | exact decide_eq_false (by omega)) lk_const) ?_
       refine WL_q rfl (q_assign (lk0)) ?_
       refine WL_nil ?_
       refine then_n ?_
       have hch : chOk k s[k] = false := by unfold chOk letterB digitB; simp; omega
       refine WC_if_false (lk0) (by first | rfl | exact decide_eq_false (by omega)) ?_
       refine WC_seq ?_
       refine WC_reg fun ds => ?_
       refine WL_q rfl (q_assign lk_const) ?_
       refine WL_nil ?_
       refine then_n ?_
       refine WC_ret ?_
       refine block_r (block_r (then_r (block_r (then_r ?_))))
       refine post_ret rfl (.tmp (lk0) .nil) ?_
       show _ = _
       rw [nameOk_bad (i := k) hlt hch]; rfl
      ·
       refine WC_seq ?_
       refine WC_reg fun ds => ?_
       refine WL_q rfl (q_move (lk8 rfl <| lk0)) ?_
       refine WL_q rfl (q_gtr (lk0) lk_const) ?_
       refine WL_q rfl (q_move (lk0)) ?_
       refine WL_want rfl rfl (lk0) (by first | rfl | exact decide_eq_true (by omega)) ?_
       refine WL_q rfl (q_move (lk8 rfl <| lk2 rfl <| lk0)) ?_
       refine WL_want rfl rfl (lk1 rfl <| lk0) (by first | rfl | exact decide_eq_true (by omega)) ?_
       refine WL_q rfl (q_geq (lk0) lk_const) ?_
       refine WL_want rfl rfl (lk2 rfl <| lk0) (by first | rfl | exact decide_eq_true (by omega)) ?_
       refine WL_q rfl (q_move (lk0)) ?_
       by_cases hd1 : 48 ≤ (s[k].toNat : Int)
       ·
        refine WL_want rfl rfl (lk0) (by first | rfl | exact decide_eq_true (by omega)) ?_
        refine WL_q rfl (q_move (lk8 rfl <| lk4 rfl <| lk1 rfl <| lk0)) ?_
        refine WL_want rfl rfl (lk1 rfl <| lk0) (by first | rfl | exact decide_eq_true (by omega)) ?_
        refine WL_q rfl (q_leq (lk0) lk_const) ?_
        refine WL_want rfl rfl (lk4 rfl <| lk1 rfl <| lk0) (by first | rfl | exact decide_eq_true (by omega)) ?_
        refine WL_q rfl (q_pick_true (lk2 rfl <| lk0) (by first | rfl | exact decide_eq_true (by omega)) (lk0)) ?_
        refine WL_want rfl rfl (lk4 rfl <| lk2 rfl <| lk0) (by first | rfl | exact decide_eq_true (by omega)) ?_
        refine WL_q rfl (q_move (lk0)) ?_
        by_cases hd2 : (s[k].toNat : Int) ≤ 57
        ·
         refine WL_pass rfl rfl (lk0) (.inl (congrArg Value.bool (by first | rfl | exact decide_eq_true (by omega)))) rfl ?_
         refine WL_pass rfl rfl (lk1 rfl <| lk0) (.inl (congrArg Value.bool (by first | rfl | exact decide_eq_true (by omega)))) rfl ?_
         refine WL_want rfl rfl (lk8 rfl <| lk1 rfl <| lk0) (by first | rfl | exact decide_eq_true (by omega)) ?_
         refine WL_q rfl (q_pick_true (lk2 rfl <| lk0) (by first | rfl | exact decide_eq_true (by omega)) lk_const) ?_
         refine WL_q rfl (q_pick_true (lk8 rfl <| lk2 rfl <| lk0) (by first | rfl | exact decide_eq_true (by omega)) (lk0)) ?_
         refine WL_q rfl (q_assign (lk0)) ?_
         refine WL_nil ?_
         refine then_n ?_
         have hch : chOk k s[k] = true := by unfold chOk letterB digitB; simp; omega
         refine WC_if_true (lk0) (by first | rfl | exact decide_eq_true (by omega)) ?_
         refine WC_skip ?_
         refine block_n (block_n ?_)
         refine then_n ⟨_, m - 1, Off.eq (ou16 rfl <| ou8 rfl <| ou4 rfl <| off_over), by omega, ?_⟩
         refine ⟨k + 1, by omega, rfl, fun j hj hjk => ?_⟩
         rcases Nat.lt_succ_iff_lt_or_eq.1 hjk with hjk | rfl
         · exact hno j hj hjk
         · exact hch
        ·
         refine WL_want rfl rfl (lk0) (by first | rfl | exact decide_eq_false (by omega)) ?_
         refine WL_q rfl (q_move (lk16 rfl <| lk1 rfl <| lk0)) ?_
         refine WL_want rfl rfl (lk1 rfl <| lk0) (by first | rfl | exact decide_eq_false (by omega)) ?_
         refine WL_q rfl (q_eql (lk0) lk_const) ?_
         refine WL_want rfl rfl (lk8 rfl <| lk1 rfl <| lk0) (by first | rfl | exact decide_eq_true (by omega)) ?_
         refine WL_q rfl (q_pick_false (lk2 rfl <| lk0) (by first | rfl | exact decide_eq_false (by omega)) (lk0)) ?_
         refine WL_q rfl (q_pick_true (lk8 rfl <| lk2 rfl <| lk0) (by first | rfl | exact decide_eq_true (by omega)) (lk0)) ?_
         refine WL_q rfl (q_assign (lk0)) ?_
         refine WL_nil ?_
         refine then_n ?_
         by_cases hp : (s[k].toNat : Int) = 46
         ·
          have hch : chOk k s[k] = true := by unfold chOk letterB digitB; simp; omega
          refine WC_if_true (lk0) (by first | rfl | exact decide_eq_true (by omega)) ?_
          refine WC_skip ?_
          refine block_n (block_n ?_)
          refine then_n ⟨_, m - 1, Off.eq (ou16 rfl <| ou8 rfl <| ou4 rfl <| off_over), by omega, ?_⟩
          refine ⟨k + 1, by omega, rfl, fun j hj hjk => ?_⟩
          rcases Nat.lt_succ_iff_lt_or_eq.1 hjk with hjk | rfl
          · exact hno j hj hjk
          · exact hch
         ·
          have hch : chOk k s[k] = false := by unfold chOk letterB digitB; simp; omega
          refine WC_if_false (lk0) (by first | rfl | exact decide_eq_false (by omega)) ?_
          refine WC_seq ?_
          refine WC_reg fun ds => ?_
          refine WL_q rfl (q_assign lk_const) ?_
          refine WL_nil ?_
          refine then_n ?_
          refine WC_ret ?_
          refine block_r (block_r (then_r (block_r (then_r ?_))))
          refine post_ret rfl (.tmp (lk0) .nil) ?_
          show _ = _
          rw [nameOk_bad (i := k) hlt hch]; rfl
       ·
        refine WL_pass rfl rfl (lk0) (.inl (congrArg Value.bool (by first | rfl | exact decide_eq_false (by omega)))) rfl ?_
        refine WL_pass rfl rfl (lk1 rfl <| lk0) (.inl (congrArg Value.bool (by first | rfl | exact decide_eq_false (by omega)))) rfl ?_
        refine WL_want rfl rfl (lk4 rfl <| lk1 rfl <| lk0) (by first | rfl | exact decide_eq_true (by omega)) ?_
        refine WL_q rfl (q_pick_false (lk2 rfl <| lk0) (by first | rfl | exact decide_eq_false (by omega)) lk_const) ?_
        refine WL_want rfl rfl (lk4 rfl <| lk2 rfl <| lk0) (by first | rfl | exact decide_eq_true (by omega)) ?_
        refine WL_q rfl (q_move (lk0)) ?_
        refine WL_want rfl rfl (lk0) (by first | rfl | exact decide_eq_false (by omega)) ?_
        refine WL_q rfl (q_move (lk16 rfl <| lk1 rfl <| lk0)) ?_
        refine WL_want rfl rfl (lk1 rfl <| lk0) (by first | rfl | exact decide_eq_false (by omega)) ?_
        refine WL_q rfl (q_eql (lk0) lk_const) ?_
        refine WL_want rfl rfl (lk8 rfl <| lk1 rfl <| lk0) (by first | rfl | exact decide_eq_true (by omega)) ?_
        refine WL_q rfl (q_pick_false (lk2 rfl <| lk0) (by first | rfl | exact decide_eq_false (by omega)) (lk0)) ?_
        refine WL_q rfl (q_pick_true (lk8 rfl <| lk2 rfl <| lk0) (by first | rfl | exact decide_eq_true (by omega)) (lk0)) ?_
        refine WL_q rfl (q_assign (lk0)) ?_
        refine WL_nil ?_
        refine then_n ?_
        by_cases hp : (s[k].toNat : Int) = 46
        ·
         have hch : chOk k s[k] = true := by unfold chOk letterB digitB; simp; omega
         refine WC_if_true (lk0) (by first | rfl | exact decide_eq_true (by omega)) ?_
         refine WC_skip ?_
         refine block_n (block_n ?_)
         refine then_n ⟨_, m - 1, Off.eq (ou16 rfl <| ou8 rfl <| ou4 rfl <| off_over), by omega, ?_⟩
         refine ⟨k + 1, by omega, rfl, fun j hj hjk => ?_⟩
         rcases Nat.lt_succ_iff_lt_or_eq.1 hjk with hjk | rfl
         · exact hno j hj hjk
         · exact hch
        ·
         have hch : chOk k s[k] = false := by unfold chOk letterB digitB; simp; omega
         refine WC_if_false (lk0) (by first | rfl | exact decide_eq_false (by omega)) ?_
         refine WC_seq ?_
         refine WC_reg fun ds => ?_
         refine WL_q rfl (q_assign lk_const) ?_
         refine WL_nil ?_
         refine then_n ?_
         refine WC_ret ?_
         refine block_r (block_r (then_r (block_r (then_r ?_))))
         refine post_ret rfl (.tmp (lk0) .nil) ?_
         show _ = _
         rw [nameOk_bad (i := k) hlt hch]; rfl
    ·
     obtain ⟨rc, wd, hdec⟩ : ∃ rc wd, Utf8.decode s k = (rc, wd) := ⟨_, _, rfl⟩
     have hrc : 128 ≤ rc := by have := decode_high s k hlt (by omega); rw [hdec] at this; exact this
     refine WC_seq ?_
     refine WC_reg fun ds => ?_
     refine WL_x rfl (x_nextS (lk_off rfl <| lk0) (i := 0) rfl hlt hdec (.here) ?_)
     refine WL_q rfl (q_extract (lk0) rfl) ?_
     refine WL_nil ?_
     refine then_n ?_
     refine WC_seq ?_
     refine WC_if_true (lk0) rfl ?_
     refine WC_skip ?_
     refine then_n ?_
     refine WC_block ?_
     refine WC_seq ?_
     refine WC_reg fun ds => ?_
     refine WL_q rfl (q_extract (lk1 rfl <| lk0) rfl) ?_
     refine WL_q rfl (q_extract (lk2 rfl <| lk0) rfl) ?_
     refine WL_q rfl (q_assign (lk1 rfl <| lk0)) ?_
     refine WL_q rfl (q_assign (lk1 rfl <| lk0)) ?_
     refine WL_nil ?_
     refine then_n ?_
     refine WC_block ?_
     refine WC_seq ?_
     refine WC_reg fun ds => ?_
     refine WL_q rfl (q_move (lk0)) ?_
     refine WL_q rfl (q_geq (lk0) lk_const) ?_
     refine WL_q rfl (q_move (lk0)) ?_
     refine WL_want rfl rfl (lk0) (by first | rfl | exact decide_eq_true (by omega)) ?_
     refine WL_q rfl (q_move (lk2 rfl <| lk1 rfl <| lk0)) ?_
     refine WL_want rfl rfl (lk1 rfl <| lk0) (by first | rfl | exact decide_eq_true (by omega)) ?_
     refine WL_q rfl (q_leq (lk0) lk_const) ?_
     refine WL_q rfl (q_pick_true (lk2 rfl <| lk0) (by first | rfl | exact decide_eq_true (by omega)) (lk0)) ?_
     refine WL_q rfl (q_assign (lk0)) ?_
     refine WL_nil ?_
     refine then_n ?_
     refine WC_if_false (lk0) (by first | rfl | exact decide_eq_false (by omega)) ?_
     have hch : chOk k s[k] = false := by unfold chOk letterB digitB; simp; omega
     by_cases hz : k = 0
     ·
      refine WC_seq ?_
      refine WC_reg fun ds => ?_
      refine WL_q rfl (q_move (lk8 rfl <| lk0)) ?_
      refine WL_q rfl (q_gtr (lk0) lk_const) ?_
      refine WL_q rfl (q_move (lk0)) ?_
      refine WL_pass rfl rfl (lk0) (.inl (congrArg Value.bool (by first | rfl | exact decide_eq_false (by omega)))) rfl ?_
      refine WL_pass rfl rfl (lk1 rfl <| lk0) (.inl (congrArg Value.bool (by first | rfl | exact decide_eq_false (by omega)))) rfl ?_
      refine WL_pass rfl rfl (lk2 rfl <| lk0) (.inl (congrArg Value.bool (by first | rfl | exact decide_eq_false (by omega)))) rfl ?_
      refine WL_pass rfl rfl (lk0) (.inr rfl) rfl ?_
      refine WL_pass rfl rfl (lk1 rfl <| lk0) (.inr rfl) rfl ?_
      refine WL_pass rfl rfl (lk4 rfl <| lk1 rfl <| lk0) (.inl (congrArg Value.bool (by first | rfl | exact decide_eq_false (by omega)))) rfl ?_
      refine WL_pass rfl rfl (lk4 rfl <| lk2 rfl <| lk0) (.inl (congrArg Value.bool (by first | rfl | exact decide_eq_false (by omega)))) rfl ?_
      refine WL_pass rfl rfl (lk0) (.inr rfl) rfl ?_
      refine WL_pass rfl rfl (lk1 rfl <| lk0) (.inr rfl) rfl ?_
      refine WL_pass rfl rfl (lk8 rfl <| lk1 rfl <| lk0) (.inl (congrArg Value.bool (by first | rfl | exact decide_eq_false (by omega)))) rfl ?_
      refine WL_q rfl (q_pick_false (lk8 rfl <| lk2 rfl <| lk0) (by first | rfl | exact decide_eq_false (by omega)) lk_const) ?_
      refine WL_q rfl (q_assign (lk0)) ?_
      refine WL_nil ?_
      refine then_n ?_
      refine WC_if_false (lk0) (by first | rfl | exact decide_eq_false (by omega)) ?_
      refine WC_seq ?_
      refine WC_reg fun ds => ?_
      refine WL_q rfl (q_assign lk_const) ?_
      refine WL_nil ?_
      refine then_n ?_
      refine WC_ret ?_
      refine block_r (block_r (then_r (block_r (then_r ?_))))
      refine post_ret rfl (.tmp (lk0) .nil) ?_
      show _ = _
      rw [nameOk_bad (i := k) hlt hch]; rfl
     ·
      refine WC_seq ?_
      refine WC_reg fun ds => ?_
      refine WL_q rfl (q_move (lk8 rfl <| lk0)) ?_
      refine WL_q rfl (q_gtr (lk0) lk_const) ?_
      refine WL_q rfl (q_move (lk0)) ?_
      refine WL_want rfl rfl (lk0) (by first | rfl | exact decide_eq_true (by omega)) ?_
      refine WL_q rfl (q_move (lk8 rfl <| lk2 rfl <| lk0)) ?_
      refine WL_want rfl rfl (lk1 rfl <| lk0) (by first | rfl | exact decide_eq_true (by omega)) ?_
      refine WL_q rfl (q_geq (lk0) lk_const) ?_
      refine WL_want rfl rfl (lk2 rfl <| lk0) (by first | rfl | exact decide_eq_true (by omega)) ?_
      refine WL_q rfl (q_move (lk0)) ?_
      refine WL_want rfl rfl (lk0) (by first | rfl | exact decide_eq_true (by omega)) ?_
      refine WL_q rfl (q_move (lk8 rfl <| lk4 rfl <| lk1 rfl <| lk0)) ?_
      refine WL_want rfl rfl (lk1 rfl <| lk0) (by first | rfl | exact decide_eq_true (by omega)) ?_
      refine WL_q rfl (q_leq (lk0) lk_const) ?_
      refine WL_want rfl rfl (lk4 rfl <| lk1 rfl <| lk0) (by first | rfl | exact decide_eq_true (by omega)) ?_
      refine WL_q rfl (q_pick_true (lk2 rfl <| lk0) (by first | rfl | exact decide_eq_true (by omega)) (lk0)) ?_
      refine WL_want rfl rfl (lk4 rfl <| lk2 rfl <| lk0) (by first | rfl | exact decide_eq_true (by omega)) ?_
      refine WL_q rfl (q_move (lk0)) ?_
      refine WL_want rfl rfl (lk0) (by first | rfl | exact decide_eq_false (by omega)) ?_
      refine WL_q rfl (q_move (lk16 rfl <| lk1 rfl <| lk0)) ?_
      refine WL_want rfl rfl (lk1 rfl <| lk0) (by first | rfl | exact decide_eq_false (by omega)) ?_
      refine WL_q rfl (q_eql (lk0) lk_const) ?_
      refine WL_want rfl rfl (lk8 rfl <| lk1 rfl <| lk0) (by first | rfl | exact decide_eq_true (by omega)) ?_
      refine WL_q rfl (q_pick_false (lk2 rfl <| lk0) (by first | rfl | exact decide_eq_false (by omega)) (lk0)) ?_
      refine WL_q rfl (q_pick_true (lk8 rfl <| lk2 rfl <| lk0) (by first | rfl | exact decide_eq_true (by omega)) (lk0)) ?_
      refine WL_q rfl (q_assign (lk0)) ?_
      refine WL_nil ?_
      refine then_n ?_
      refine WC_if_false (lk0) (by first | rfl | exact decide_eq_false (by omega)) ?_
      refine WC_seq ?_
      refine WC_reg fun ds => ?_
      refine WL_q rfl (q_assign lk_const) ?_
      refine WL_nil ?_
      refine then_n ?_
      refine WC_ret ?_
      refine block_r (block_r (then_r (block_r (then_r ?_))))
      refine post_ret rfl (.tmp (lk0) .nil) ?_
      show _ = _
      rw [nameOk_bad (i := k) hlt hch]; rfl
   ·
    refine WC_seq ?_
    refine WC_reg fun ds => ?_
    refine WL_x rfl (x_nextE (lk_off rfl <| lk0) (i := 0) rfl hlt ?_)
    refine WL_q rfl (q_extract (lk0) rfl) ?_
    refine WL_nil ?_
    refine then_n ?_
    refine WC_seq ?_
    refine WC_if_false (lk0) rfl ?_
    by_cases h0 : s.size = 0
    ·
     refine WC_exit ?_
     refine then_x (then_x (exit_here ?_))
     refine then_n ?_
     refine WC_seq ?_
     refine WC_reg fun ds => ?_
     refine WL_q rfl (q_move (lk2 rfl <| lk_off rfl <| lk2 rfl <| lk1 rfl <| lk_entry rfl)) ?_
     refine WL_q rfl (q_nes (lk0) lk_const) ?_
     refine WL_q rfl (q_move (lk0)) ?_
     refine WL_pass rfl rfl (lk0) (.inl (congrArg Value.bool (by rw [emptyS]; simp [h0]))) rfl ?_
     refine WL_pass rfl rfl (lk1 rfl <| lk0) (.inl (congrArg Value.bool (by rw [emptyS]; simp [h0]))) rfl ?_
     refine WL_pass rfl rfl (lk2 rfl <| lk0) (.inl (congrArg Value.bool (by rw [emptyS]; simp [h0]))) rfl ?_
     refine WL_q rfl (q_pick_false (lk2 rfl <| lk1 rfl <| lk0) (by rw [emptyS]; simp [h0]) lk_const) ?_
     refine WL_q rfl (q_assign (lk0)) ?_
     refine WL_nil ?_
     refine then_n ?_
     refine WC_ret ?_
     refine post_ret rfl (.tmp (lk0) .nil) ?_
     show _ = _
     rw [nameOk_len (by omega)]; rfl
    ·
     refine WC_exit ?_
     refine then_x (then_x (exit_here ?_))
     refine then_n ?_
     refine WC_seq ?_
     refine WC_reg fun ds => ?_
     refine WL_q rfl (q_move (lk2 rfl <| lk_off rfl <| lk2 rfl <| lk1 rfl <| lk_entry rfl)) ?_
     refine WL_q rfl (q_nes (lk0) lk_const) ?_
     refine WL_q rfl (q_move (lk0)) ?_
     refine WL_want rfl rfl (lk0) (by rw [emptyS]; simp [h0]) ?_
     refine WL_q rfl (q_move (lk4 rfl <| lk1 rfl <| lk_off rfl <| lk2 rfl <| lk1 rfl <| lk_entry rfl)) ?_
     refine WL_want rfl rfl (lk1 rfl <| lk0) (by rw [emptyS]; simp [h0]) ?_
     refine WL_q rfl (q_lenS Try.underlying9 (lk0)) ?_
     refine WL_want rfl rfl (lk2 rfl <| lk0) (by rw [emptyS]; simp [h0]) ?_
     refine WL_q rfl (q_leq (lk0) lk_const) ?_
     refine WL_q rfl (q_pick_true (lk2 rfl <| lk1 rfl <| lk0) (by rw [emptyS]; simp [h0]) (lk0)) ?_
     refine WL_q rfl (q_assign (lk0)) ?_
     refine WL_nil ?_
     refine then_n ?_
     by_cases h16 : (s.size : Int) ≤ 16
     ·
      refine WC_ret ?_
      refine post_ret rfl (.tmp (lk0) .nil) ?_
      show _ = _
      rw [nameOk_true (by omega) (by omega) fun j hj => hno j hj (by omega)]; simp [outOf, h16]
     ·
      refine WC_ret ?_
      refine post_ret rfl (.tmp (lk0) .nil) ?_
      show _ = _
      rw [nameOk_len (by omega)]; simp [outOf, h16]
set_option maxRecDepth 100000 in
theorem indexInt_ok {F : Heap} {v : Value} {xs : List Int} (h : Ints F v xs) (p : _ → Bool) {g : FuncId} {cs : List Value} (hg : Body Try.prog g) (hp : ∀ k (hk : k < xs.length), Ok Try.prog g ([Value.int .i64 xs[k]] ++ cs).toArray F fun r _ => r = .bool (p xs[k])) : Ok Try.prog 100 [v, .func (.func g) #[] cs.toArray].toArray F fun r _ => r = .int .i64 (findI p xs) := by
  refine Ok.intro Try.func100 rfl Try.ntmps100 rfl fun w0 => ?_
  have hlen := h.plain.lt
  refine WC_seq ?_
  refine WC_reg fun ds => ?_
  refine WL_q rfl (q_assign lk_const) ?_
  refine WL_nil ?_
  refine then_n ?_
  refine WC_seq ?_
  refine WC_seq ?_
  refine WC_reg fun ds => ?_
  refine WL_q rfl (q_move (lk1 rfl <| lk_entry rfl)) ?_
  refine WL_q rfl (q_lenP sl_29 (lk0) h.plain) ?_
  refine WL_q rfl (q_move lk_const) ?_
  refine WL_nil ?_
  refine then_n ?_
  refine WC_block ?_
  refine WC_loopN [4, 5, 8, 9, 10, 11, 12, 13, 14, 15, 16, 17, 18] (fun m e σ => ∃ k : Nat, m + k = xs.length ∧ e 8 = .int .i64 k ∧ σ = ⟨F, []⟩ ∧ ∀ j (hj : j < xs.length), j < k → p xs[j] = false) (xs.length) ?_ ?_
  · exact ⟨0, by omega, (lk0), rfl, fun j hj h => absurd h (by omega)⟩
  ·
   rintro m e _ ⟨k, hm, hs8, rfl, hno⟩
   by_cases hlt : k < xs.length
   ·
    refine WC_seq ?_
    refine WC_reg fun ds => ?_
    refine WL_q rfl (q_lss (lk_in rfl hs8) (lk_off rfl <| lk1 rfl <| lk0)) ?_
    refine WL_nil ?_
    refine then_n ?_
    refine WC_seq ?_
    refine WC_if_true (lk0) (by first | rfl | exact decide_eq_true (by omega)) ?_
    by_cases hpk : p xs[k] = true
    ·
     refine WC_skip ?_
     refine then_n ?_
     refine WC_seq ?_
     refine WC_block ?_
     refine WC_seq ?_
     refine WC_reg fun ds => ?_
     refine WL_q rfl (q_move (lk1 rfl <| lk_in rfl hs8)) ?_
     refine WL_q rfl (q_assign (lk0)) ?_
     refine WL_nil ?_
     refine then_n ?_
     refine WC_seq ?_
     refine WC_reg fun ds => ?_
     refine WL_q rfl (q_move (lk2 rfl <| lk1 rfl <| lk_off rfl <| lk4 rfl <| lk_entry rfl)) ?_
     refine WL_q rfl (q_move (lk4 rfl <| lk_off rfl <| lk4 rfl <| lk_entry rfl)) ?_
     refine WL_q rfl (q_move (lk2 rfl <| lk0)) ?_
     refine WL_q rfl (q_index  sl_29 (lk1 rfl <| lk0) h.plain (lk0) rfl (by omega)) ?_
     refine WL_q rfl (q_load1 one_3 (lk0) (h.cell1 (by omega) rfl)) ?_
     refine WL_c rfl (q_call hg (lk4 rfl <| lk0) (.cons (lk0) .nil) (hp k hlt) (fun _ _ h => h)) ?_
     refine WL_nil ?_
     refine then_n ?_
     refine WC_if_true (lk0) hpk ?_
     refine WC_seq ?_
     refine WC_reg fun ds => ?_
     refine WL_q rfl (q_move (lk4 rfl <| lk2 rfl <| lk0)) ?_
     refine WL_q rfl (q_assign (lk0)) ?_
     refine WL_nil ?_
     refine then_n ?_
     refine WC_ret ?_
     refine block_r (then_r (then_r (block_r (then_r ?_))))
     refine post_ret rfl (.tmp (lk0) .nil) ?_
     show _ = _
     rw [findI_some hlt hpk hno]; rfl
    ·
     replace hpk : p xs[k] = false := by simpa using hpk
     refine WC_skip ?_
     refine then_n ?_
     refine WC_seq ?_
     refine WC_block ?_
     refine WC_seq ?_
     refine WC_reg fun ds => ?_
     refine WL_q rfl (q_move (lk1 rfl <| lk_in rfl hs8)) ?_
     refine WL_q rfl (q_assign (lk0)) ?_
     refine WL_nil ?_
     refine then_n ?_
     refine WC_seq ?_
     refine WC_reg fun ds => ?_
     refine WL_q rfl (q_move (lk2 rfl <| lk1 rfl <| lk_off rfl <| lk4 rfl <| lk_entry rfl)) ?_
     refine WL_q rfl (q_move (lk4 rfl <| lk_off rfl <| lk4 rfl <| lk_entry rfl)) ?_
     refine WL_q rfl (q_move (lk2 rfl <| lk0)) ?_
     refine WL_q rfl (q_index  sl_29 (lk1 rfl <| lk0) h.plain (lk0) rfl (by omega)) ?_
     refine WL_q rfl (q_load1 one_3 (lk0) (h.cell1 (by omega) rfl)) ?_
     refine WL_c rfl (q_call hg (lk4 rfl <| lk0) (.cons (lk0) .nil) (hp k hlt) (fun _ _ h => h)) ?_
     refine WL_nil ?_
     refine then_n ?_
     refine WC_if_false (lk0) hpk ?_
     refine WC_skip ?_
     refine block_n (then_n ?_)
     refine WC_reg fun ds => ?_
     refine WL_q rfl (q_add (lk8 rfl <| lk1 rfl <| lk_in rfl hs8) lk_const rfl (by omega) (by omega)) ?_
     refine WL_q rfl (q_move (lk0)) ?_
     refine WL_nil ?_
     refine then_n ⟨_, m - 1, Off.eq (ou8 rfl <| ou2 rfl <| ou1 rfl <| off_over), by omega, ?_⟩
     refine ⟨k + 1, by omega, (lk0), rfl, fun j hj hjk => ?_⟩
     rcases Nat.lt_succ_iff_lt_or_eq.1 hjk with hjk | rfl
     · exact hno j hj hjk
     · exact hpk
   ·
    refine WC_seq ?_
    refine WC_reg fun ds => ?_
    refine WL_q rfl (q_lss (lk_in rfl hs8) (lk_off rfl <| lk1 rfl <| lk0)) ?_
    refine WL_nil ?_
    refine then_n ?_
    refine WC_seq ?_
    refine WC_if_false (lk0) (by first | rfl | exact decide_eq_false (by omega)) ?_
    refine WC_exit ?_
    refine then_x (then_x (exit_here ?_))
    refine then_n ?_
    refine WC_seq ?_
    refine WC_reg fun ds => ?_
    refine WL_q rfl (q_assign lk_const) ?_
    refine WL_nil ?_
    refine then_n ?_
    refine WC_ret ?_
    refine post_ret rfl (.tmp (lk0) .nil) ?_
    show _ = _
    rw [findI_none fun j hj => hno j hj (by omega)]; rfl
set_option maxRecDepth 100000 in
theorem containsInt_ok {F : Heap} {v : Value} {xs : List Int} (h : Ints F v xs) (p : _ → Bool) {g : FuncId} {cs : List Value} (hg : Body Try.prog g) (hp : ∀ k (hk : k < xs.length), Ok Try.prog g ([Value.int .i64 xs[k]] ++ cs).toArray F fun r _ => r = .bool (p xs[k])) : Ok Try.prog 83 [v, .func (.func g) #[] cs.toArray].toArray F fun r _ => r = .bool (xs.any p) := by
  refine Ok.intro Try.func83 rfl Try.ntmps83 rfl fun w0 => ?_
  refine WC_seq ?_
  refine WC_reg fun ds => ?_
  refine WL_q rfl (q_assign lk_const) ?_
  refine WL_nil ?_
  refine then_n ?_
  refine WC_seq ?_
  refine WC_reg fun ds => ?_
  refine WL_q rfl (q_move (lk1 rfl <| lk_entry rfl)) ?_
  refine WL_q rfl (q_move (lk2 rfl <| lk_entry rfl)) ?_
  refine WL_c rfl (q_call bd_100 lk_func (.cons (lk1 rfl <| lk0) (.cons (lk0) .nil)) (indexInt_ok h p hg hp) (fun _ _ h => h)) ?_
  refine WL_q rfl (q_geq (lk0) lk_const) ?_
  refine WL_q rfl (q_assign (lk0)) ?_
  refine WL_nil ?_
  refine then_n ?_
  refine WC_ret ?_
  refine post_ret rfl (.tmp (lk0) .nil) ?_
  show _ = _
  rw [← findI_any]; rfl
set_option maxRecDepth 100000 in
theorem outside1_ok {F : Heap} {b1 b2 T1 T2 : Nat} {lo hi : Int} (h1 : F b1 = some (bx T1 [.int .i64 lo])) (h2 : F b2 = some (bx T2 [.int .i64 hi])) (z : Int) : Ok Try.prog 84 [.int .i64 z, .pointer (some ⟨b1, 0, none⟩), .pointer (some ⟨b2, 0, none⟩)].toArray F fun r _ => r = .bool (!(inB lo hi z)) := by
  refine Ok.intro Try.func84 rfl Try.ntmps84 rfl fun w0 => ?_
  by_cases hz : z < lo
  ·
   refine WC_seq ?_
   refine WC_reg fun ds => ?_
   refine WL_q rfl (q_assign lk_const) ?_
   refine WL_nil ?_
   refine then_n ?_
   refine WC_seq ?_
   refine WC_reg fun ds => ?_
   refine WL_q rfl (q_move (lk1 rfl <| lk_entry rfl)) ?_
   refine WL_q rfl (q_load1 one_3 (lk2 rfl <| lk_entry rfl) (CellF.own h1 rfl).cell) ?_
   refine WL_q rfl (q_lss (lk1 rfl <| lk0) (lk0)) ?_
   refine WL_q rfl (q_move (lk0)) ?_
   refine WL_pass rfl rfl (lk0) (.inl (congrArg Value.bool (by first | rfl | exact decide_eq_true (by omega)))) rfl ?_
   refine WL_pass rfl rfl (lk1 rfl <| lk0) (.inl (congrArg Value.bool (by first | rfl | exact decide_eq_true (by omega)))) rfl ?_
   refine WL_pass rfl rfl (lk2 rfl <| lk0) (.inl (congrArg Value.bool (by first | rfl | exact decide_eq_true (by omega)))) rfl ?_
   refine WL_q rfl (q_pick_true (lk2 rfl <| lk1 rfl <| lk0) (by first | rfl | exact decide_eq_true (by omega)) lk_const) ?_
   refine WL_q rfl (q_assign (lk0)) ?_
   refine WL_nil ?_
   refine then_n ?_
   refine WC_ret ?_
   refine post_ret rfl (.tmp (lk0) .nil) ?_
   show _ = _
   have : ¬ lo ≤ z := by omega
   simp [outOf, inB, hz, this]
  ·
   refine WC_seq ?_
   refine WC_reg fun ds => ?_
   refine WL_q rfl (q_assign lk_const) ?_
   refine WL_nil ?_
   refine then_n ?_
   refine WC_seq ?_
   refine WC_reg fun ds => ?_
   refine WL_q rfl (q_move (lk1 rfl <| lk_entry rfl)) ?_
   refine WL_q rfl (q_load1 one_3 (lk2 rfl <| lk_entry rfl) (CellF.own h1 rfl).cell) ?_
   refine WL_q rfl (q_lss (lk1 rfl <| lk0) (lk0)) ?_
   refine WL_q rfl (q_move (lk0)) ?_
   refine WL_want rfl rfl (lk0) (by first | rfl | exact decide_eq_false (by omega)) ?_
   refine WL_q rfl (q_move (lk4 rfl <| lk1 rfl <| lk_entry rfl)) ?_
   refine WL_want rfl rfl (lk1 rfl <| lk0) (by first | rfl | exact decide_eq_false (by omega)) ?_
   refine WL_q rfl (q_load1 one_3 (lk4 rfl <| lk2 rfl <| lk_entry rfl) (CellF.own h2 rfl).cell) ?_
   refine WL_want rfl rfl (lk2 rfl <| lk0) (by first | rfl | exact decide_eq_false (by omega)) ?_
   refine WL_q rfl (q_gtr (lk1 rfl <| lk0) (lk0)) ?_
   refine WL_q rfl (q_pick_false (lk2 rfl <| lk1 rfl <| lk0) (by first | rfl | exact decide_eq_false (by omega)) (lk0)) ?_
   refine WL_q rfl (q_assign (lk0)) ?_
   refine WL_nil ?_
   refine then_n ?_
   by_cases hz2 : hi < z
   ·
    refine WC_ret ?_
    refine post_ret rfl (.tmp (lk0) .nil) ?_
    show _ = _
    have : ¬ z ≤ hi := by omega
    simp [outOf, inB, hz2, this]
   ·
    refine WC_ret ?_
    refine post_ret rfl (.tmp (lk0) .nil) ?_
    show _ = _
    have e1 : lo ≤ z := by omega
    have e2 : z ≤ hi := by omega
    simp [outOf, inB, hz2, e1, e2]
set_option maxRecDepth 100000 in
theorem outside_ok {F : Heap} {v : Value} {xs : List Int} (lo hi : Int) (h : Ints F v xs) : Ok Try.prog 51 [.int .i64 lo, .int .i64 hi, v].toArray F fun r _ => r = .bool (xs.any fun z => !(inB lo hi z)) := by
  refine Ok.intro Try.func51 rfl Try.ntmps51 rfl fun w0 => ?_
  refine WC_seq ?_
  refine WC_reg fun ds => ?_
  refine WL_x rfl (x_box (lk_entry rfl) rfl fun b1 hb1 nb1 => ?_)
  refine WL_x rfl (x_box (lk1 rfl <| lk_entry rfl) rfl fun b2 hb2 nb2 => ?_)
  refine WL_q rfl (q_assign lk_const) ?_
  refine WL_nil ?_
  refine then_n ?_
  refine WC_freeze (i := 1) rfl hb1 (.next <| .here) fun F3 hF4 hz1 => ?_
  replace h := h.mono hF4
  refine WC_freeze (i := 0) rfl hb2 (.here) fun F5 hF6 hz2 => ?_
  replace h := h.mono hF6
  replace hz1 := hF6 _ _ hz1
  refine WC_seq ?_
  refine WC_reg fun ds => ?_
  refine WL_q rfl (q_move (lk2 rfl <| lk1 rfl <| lk_entry rfl)) ?_
  refine WL_q rfl (q_makeFunc (.cons (lk2 rfl <| lk1 rfl <| lk0) (.cons (lk2 rfl <| lk0) .nil))) ?_
  refine WL_c rfl (q_call bd_83 lk_func (.cons (lk1 rfl <| lk0) (.cons (lk0) .nil)) (containsInt_ok h (fun z => !(inB lo hi z)) bd_84 fun k hk => outside1_ok hz1 hz2 _) (fun _ _ h => h)) ?_
  refine WL_q rfl (q_assign (lk0)) ?_
  refine WL_nil ?_
  refine then_n ?_
  refine WC_ret ?_
  refine post_ret rfl (.tmp (lk0) .nil) ?_
  rfl
end Go.Proofs.Ytbcjfkcpfjccdaa
namespace Go.Proofs.Ytbcjfkcpfjccdaa
open Go.RowKit
theorem agg_58 : AggT Try.prog 58 4 := aggT_of (by kernel_rfl)
theorem agg_62 : AggT Try.prog 62 5 := aggT_of (by kernel_rfl)
theorem agg_64 : AggT Try.prog 64 2 := aggT_of (by kernel_rfl)
theorem agg_66 : AggT Try.prog 66 2 := aggT_of (by kernel_rfl)
theorem bd_48 : Body Try.prog 48 := body_of (by kernel_rfl)
theorem bd_49 : Body Try.prog 49 := body_of (by kernel_rfl)
theorem bd_50 : Body Try.prog 50 := body_of (by kernel_rfl)
theorem bd_51 : Body Try.prog 51 := body_of (by kernel_rfl)
theorem bd_52 : Body Try.prog 52 := body_of (by kernel_rfl)
theorem bd_53 : Body Try.prog 53 := body_of (by kernel_rfl)
theorem bd_82 : Body Try.prog 82 := body_of (by kernel_rfl)
theorem bd_85 : Body Try.prog 85 := body_of (by kernel_rfl)
theorem fd_27_0 : FieldT Try.prog 27 0 0 := fieldT_of (by kernel_rfl)
theorem fd_27_1 : FieldT Try.prog 27 1 1 := fieldT_of (by kernel_rfl)
theorem fd_27_2 : FieldT Try.prog 27 2 2 := fieldT_of (by kernel_rfl)
theorem fd_27_3 : FieldT Try.prog 27 3 3 := fieldT_of (by kernel_rfl)
theorem fd_58_0 : FieldT Try.prog 58 0 0 := fieldT_of (by kernel_rfl)
theorem fd_58_1 : FieldT Try.prog 58 1 1 := fieldT_of (by kernel_rfl)
theorem fd_58_2 : FieldT Try.prog 58 2 2 := fieldT_of (by kernel_rfl)
theorem fd_58_3 : FieldT Try.prog 58 3 3 := fieldT_of (by kernel_rfl)
theorem fd_62_0 : FieldT Try.prog 62 0 0 := fieldT_of (by kernel_rfl)
theorem fd_62_1 : FieldT Try.prog 62 1 1 := fieldT_of (by kernel_rfl)
theorem fd_62_2 : FieldT Try.prog 62 2 2 := fieldT_of (by kernel_rfl)
theorem fd_64_0 : FieldT Try.prog 64 0 0 := fieldT_of (by kernel_rfl)
theorem fd_64_1 : FieldT Try.prog 64 1 1 := fieldT_of (by kernel_rfl)
theorem fd_66_0 : FieldT Try.prog 66 0 0 := fieldT_of (by kernel_rfl)
theorem one_22 : OneT Try.prog 22 := oneT_of (by kernel_rfl)
theorem one_23 : OneT Try.prog 23 := oneT_of (by kernel_rfl)
theorem one_24 : OneT Try.prog 24 := oneT_of (by kernel_rfl)
theorem one_25 : OneT Try.prog 25 := oneT_of (by kernel_rfl)
theorem sl_22 : SliceT Try.prog 22 62 5 := sliceT_of (by kernel_rfl)
theorem sl_23 : SliceT Try.prog 23 64 2 := sliceT_of (by kernel_rfl)
theorem sl_24 : SliceT Try.prog 24 66 2 := sliceT_of (by kernel_rfl)
theorem sl_25 : SliceT Try.prog 25 58 4 := sliceT_of (by kernel_rfl)
theorem sz_58 : SizeT Try.prog 58 4 := sizeT_of (by kernel_rfl)
theorem sz_62 : SizeT Try.prog 62 5 := sizeT_of (by kernel_rfl)
theorem sz_64 : SizeT Try.prog 64 2 := sizeT_of (by kernel_rfl)
theorem sz_66 : SizeT Try.prog 66 2 := sizeT_of (by kernel_rfl)
theorem zr_3 : ZeroT Try.prog 3 (.int .i64 0) := zeroT_of (by kernel_rfl)
theorem zr_58 : ZeroT Try.prog 58 (.agg #[.int .i64 0, .int .i64 0, .int .i64 0, .int .i64 0]) := zeroT_of (by kernel_rfl)
theorem zr_62 : ZeroT Try.prog 62 (.agg #[.string ⟨#[]⟩, .int .i64 0, .int .i64 0, .int .i64 0, .bool false]) := zeroT_of (by kernel_rfl)
theorem zr_64 : ZeroT Try.prog 64 (.agg #[.string ⟨#[]⟩, .int .i64 0]) := zeroT_of (by kernel_rfl)
theorem zr_66 : ZeroT Try.prog 66 (.agg #[.int .i64 0, .bool false]) := zeroT_of (by kernel_rfl)
set_option maxRecDepth 100000 in
theorem indexBook_ok {F : Heap} {v : Value} {xs : List Book} (h : Sl F v 5 Book.enc xs) (p : _ → Bool) {g : FuncId} {cs : List Value} (hg : Body Try.prog g) (hp : ∀ k (hk : k < xs.length), Ok Try.prog g ([Value.agg (Book.enc xs[k]).toArray] ++ cs).toArray F fun r _ => r = .bool (p xs[k])) : Ok Try.prog 82 [v, .func (.func g) #[] cs.toArray].toArray F fun r _ => r = .int .i64 (findI p xs) := by
  refine Ok.intro Try.func82 rfl Try.ntmps82 rfl fun w0 => ?_
  have hlen := h.plain.lt
  refine WC_seq ?_
  refine WC_reg fun ds => ?_
  refine WL_q rfl (q_assign lk_const) ?_
  refine WL_nil ?_
  refine then_n ?_
  refine WC_seq ?_
  refine WC_seq ?_
  refine WC_reg fun ds => ?_
  refine WL_q rfl (q_move (lk1 rfl <| lk_entry rfl)) ?_
  refine WL_q rfl (q_lenP sl_22 (lk0) h.plain) ?_
  refine WL_q rfl (q_move lk_const) ?_
  refine WL_nil ?_
  refine then_n ?_
  refine WC_block ?_
  refine WC_loopN [4, 5, 8, 9, 10, 11, 12, 13, 14, 15, 16, 17, 18] (fun m e σ => ∃ k : Nat, m + k = xs.length ∧ e 8 = .int .i64 k ∧ σ = ⟨F, []⟩ ∧ ∀ j (hj : j < xs.length), j < k → p xs[j] = false) (xs.length) ?_ ?_
  · exact ⟨0, by omega, (lk0), rfl, fun j hj h => absurd h (by omega)⟩
  ·
   rintro m e _ ⟨k, hm, hs8, rfl, hno⟩
   by_cases hlt : k < xs.length
   ·
    refine WC_seq ?_
    refine WC_reg fun ds => ?_
    refine WL_q rfl (q_lss (lk_in rfl hs8) (lk_off rfl <| lk1 rfl <| lk0)) ?_
    refine WL_nil ?_
    refine then_n ?_
    refine WC_seq ?_
    refine WC_if_true (lk0) (by first | rfl | exact decide_eq_true (by omega)) ?_
    by_cases hpk : p xs[k] = true
    ·
     refine WC_skip ?_
     refine then_n ?_
     refine WC_seq ?_
     refine WC_block ?_
     refine WC_seq ?_
     refine WC_reg fun ds => ?_
     refine WL_q rfl (q_move (lk1 rfl <| lk_in rfl hs8)) ?_
     refine WL_q rfl (q_assign (lk0)) ?_
     refine WL_nil ?_
     refine then_n ?_
     refine WC_seq ?_
     refine WC_reg fun ds => ?_
     refine WL_q rfl (q_move (lk2 rfl <| lk1 rfl <| lk_off rfl <| lk4 rfl <| lk_entry rfl)) ?_
     refine WL_q rfl (q_move (lk4 rfl <| lk_off rfl <| lk4 rfl <| lk_entry rfl)) ?_
     refine WL_q rfl (q_move (lk2 rfl <| lk0)) ?_
     refine WL_q rfl (q_index  sl_22 (lk1 rfl <| lk0) h.plain (lk0) rfl (by omega)) ?_
     refine WL_q rfl (q_loadN agg_62 (lk0) rfl rfl (h.whole (by omega))) ?_
     refine WL_c rfl (q_call hg (lk4 rfl <| lk0) (.cons (lk0) .nil) (hp k hlt) (fun _ _ h => h)) ?_
     refine WL_nil ?_
     refine then_n ?_
     refine WC_if_true (lk0) hpk ?_
     refine WC_seq ?_
     refine WC_reg fun ds => ?_
     refine WL_q rfl (q_move (lk4 rfl <| lk2 rfl <| lk0)) ?_
     refine WL_q rfl (q_assign (lk0)) ?_
     refine WL_nil ?_
     refine then_n ?_
     refine WC_ret ?_
     refine block_r (then_r (then_r (block_r (then_r ?_))))
     refine post_ret rfl (.tmp (lk0) .nil) ?_
     show _ = _
     rw [findI_some hlt hpk hno]; rfl
    ·
     replace hpk : p xs[k] = false := by simpa using hpk
     refine WC_skip ?_
     refine then_n ?_
     refine WC_seq ?_
     refine WC_block ?_
     refine WC_seq ?_
     refine WC_reg fun ds => ?_
     refine WL_q rfl (q_move (lk1 rfl <| lk_in rfl hs8)) ?_
     refine WL_q rfl (q_assign (lk0)) ?_
     refine WL_nil ?_
     refine then_n ?_
     refine WC_seq ?_
     refine WC_reg fun ds => ?_
     refine WL_q rfl (q_move (lk2 rfl <| lk1 rfl <| lk_off rfl <| lk4 rfl <| lk_entry rfl)) ?_
     refine WL_q rfl (q_move (lk4 rfl <| lk_off rfl <| lk4 rfl <| lk_entry rfl)) ?_
     refine WL_q rfl (q_move (lk2 rfl <| lk0)) ?_
     refine WL_q rfl (q_index  sl_22 (lk1 rfl <| lk0) h.plain (lk0) rfl (by omega)) ?_
     refine WL_q rfl (q_loadN agg_62 (lk0) rfl rfl (h.whole (by omega))) ?_
     refine WL_c rfl (q_call hg (lk4 rfl <| lk0) (.cons (lk0) .nil) (hp k hlt) (fun _ _ h => h)) ?_
     refine WL_nil ?_
     refine then_n ?_
     refine WC_if_false (lk0) hpk ?_
     refine WC_skip ?_
     refine block_n (then_n ?_)
     refine WC_reg fun ds => ?_
     refine WL_q rfl (q_add (lk8 rfl <| lk1 rfl <| lk_in rfl hs8) lk_const rfl (by omega) (by omega)) ?_
     refine WL_q rfl (q_move (lk0)) ?_
     refine WL_nil ?_
     refine then_n ⟨_, m - 1, Off.eq (ou8 rfl <| ou2 rfl <| ou1 rfl <| off_over), by omega, ?_⟩
     refine ⟨k + 1, by omega, (lk0), rfl, fun j hj hjk => ?_⟩
     rcases Nat.lt_succ_iff_lt_or_eq.1 hjk with hjk | rfl
     · exact hno j hj hjk
     · exact hpk
   ·
    refine WC_seq ?_
    refine WC_reg fun ds => ?_
    refine WL_q rfl (q_lss (lk_in rfl hs8) (lk_off rfl <| lk1 rfl <| lk0)) ?_
    refine WL_nil ?_
    refine then_n ?_
    refine WC_seq ?_
    refine WC_if_false (lk0) (by first | rfl | exact decide_eq_false (by omega)) ?_
    refine WC_exit ?_
    refine then_x (then_x (exit_here ?_))
    refine then_n ?_
    refine WC_seq ?_
    refine WC_reg fun ds => ?_
    refine WL_q rfl (q_assign lk_const) ?_
    refine WL_nil ?_
    refine then_n ?_
    refine WC_ret ?_
    refine post_ret rfl (.tmp (lk0) .nil) ?_
    show _ = _
    rw [findI_none fun j hj => hno j hj (by omega)]; rfl
set_option maxRecDepth 100000 in
theorem containsBook_ok {F : Heap} {v : Value} {xs : List Book} (h : Sl F v 5 Book.enc xs) (p : _ → Bool) {g : FuncId} {cs : List Value} (hg : Body Try.prog g) (hp : ∀ k (hk : k < xs.length), Ok Try.prog g ([Value.agg (Book.enc xs[k]).toArray] ++ cs).toArray F fun r _ => r = .bool (p xs[k])) : Ok Try.prog 49 [v, .func (.func g) #[] cs.toArray].toArray F fun r _ => r = .bool (xs.any p) := by
  refine Ok.intro Try.func49 rfl Try.ntmps49 rfl fun w0 => ?_
  refine WC_seq ?_
  refine WC_reg fun ds => ?_
  refine WL_q rfl (q_assign lk_const) ?_
  refine WL_nil ?_
  refine then_n ?_
  refine WC_seq ?_
  refine WC_reg fun ds => ?_
  refine WL_q rfl (q_move (lk1 rfl <| lk_entry rfl)) ?_
  refine WL_q rfl (q_move (lk2 rfl <| lk_entry rfl)) ?_
  refine WL_c rfl (q_call bd_82 lk_func (.cons (lk1 rfl <| lk0) (.cons (lk0) .nil)) (indexBook_ok h p hg hp) (fun _ _ h => h)) ?_
  refine WL_q rfl (q_geq (lk0) lk_const) ?_
  refine WL_q rfl (q_assign (lk0)) ?_
  refine WL_nil ?_
  refine then_n ?_
  refine WC_ret ?_
  refine post_ret rfl (.tmp (lk0) .nil) ?_
  show _ = _
  rw [← findI_any]; rfl
set_option maxRecDepth 100000 in
theorem check1_ok {F : Heap} {c TB : Nat} {b : Book} (hb : F c = some (bx TB b.enc)) (x : Book) : Ok Try.prog 50 [.agg x.enc.toArray, .pointer (some ⟨c, 0, none⟩)].toArray F fun r _ => r = .bool (sameS x.name b.name) := by
  refine Ok.intro Try.func50 rfl Try.ntmps50 rfl fun w0 => ?_
  refine WC_seq ?_
  refine WC_reg fun ds => ?_
  refine WL_x rfl (x_box (lk_entry rfl) rfl fun b1 hb1 nb1 => ?_)
  refine WL_q rfl (q_assign lk_const) ?_
  refine WL_nil ?_
  refine then_n ?_
  refine WC_seq ?_
  refine WC_reg fun ds => ?_
  refine WL_q rfl (q_fieldAddrB fd_62_0 (lk1 rfl <| lk0)) ?_
  refine WL_q rfl (q_load1 one_9 (lk0) (Cell.own 0 rfl rfl)) ?_
  refine WL_q rfl (q_fieldAddrB fd_62_0 (lk4 rfl <| lk_entry rfl)) ?_
  refine WL_q rfl (q_load1 one_9 (lk0) (CellF.own hb rfl).cell) ?_
  refine WL_q rfl (q_eqs (lk2 rfl <| lk0) (lk0)) ?_
  refine WL_q rfl (q_assign (lk0)) ?_
  refine WL_nil ?_
  refine then_n ?_
  refine WC_ret ?_
  refine post_ret rfl (.tmp (lk0) .nil) ?_
  rfl
set_option maxRecDepth 100000 in
theorem indexRdr_ok {F : Heap} {v : Value} {xs : List Rdr} (h : Sl F v 2 Rdr.enc xs) (p : _ → Bool) {g : FuncId} {cs : List Value} (hg : Body Try.prog g) (hp : ∀ k (hk : k < xs.length), Ok Try.prog g ([Value.agg (Rdr.enc xs[k]).toArray] ++ cs).toArray F fun r _ => r = .bool (p xs[k])) : Ok Try.prog 85 [v, .func (.func g) #[] cs.toArray].toArray F fun r _ => r = .int .i64 (findI p xs) := by
  refine Ok.intro Try.func85 rfl Try.ntmps85 rfl fun w0 => ?_
  have hlen := h.plain.lt
  refine WC_seq ?_
  refine WC_reg fun ds => ?_
  refine WL_q rfl (q_assign lk_const) ?_
  refine WL_nil ?_
  refine then_n ?_
  refine WC_seq ?_
  refine WC_seq ?_
  refine WC_reg fun ds => ?_
  refine WL_q rfl (q_move (lk1 rfl <| lk_entry rfl)) ?_
  refine WL_q rfl (q_lenP sl_23 (lk0) h.plain) ?_
  refine WL_q rfl (q_move lk_const) ?_
  refine WL_nil ?_
  refine then_n ?_
  refine WC_block ?_
  refine WC_loopN [4, 5, 8, 9, 10, 11, 12, 13, 14, 15, 16, 17, 18] (fun m e σ => ∃ k : Nat, m + k = xs.length ∧ e 8 = .int .i64 k ∧ σ = ⟨F, []⟩ ∧ ∀ j (hj : j < xs.length), j < k → p xs[j] = false) (xs.length) ?_ ?_
  · exact ⟨0, by omega, (lk0), rfl, fun j hj h => absurd h (by omega)⟩
  ·
   rintro m e _ ⟨k, hm, hs8, rfl, hno⟩
   by_cases hlt : k < xs.length
   ·
    refine WC_seq ?_
    refine WC_reg fun ds => ?_
    refine WL_q rfl (q_lss (lk_in rfl hs8) (lk_off rfl <| lk1 rfl <| lk0)) ?_
    refine WL_nil ?_
    refine then_n ?_
    refine WC_seq ?_
    refine WC_if_true (lk0) (by first | rfl | exact decide_eq_true (by omega)) ?_
    by_cases hpk : p xs[k] = true
    ·
     refine WC_skip ?_
     refine then_n ?_
     refine WC_seq ?_
     refine WC_block ?_
     refine WC_seq ?_
     refine WC_reg fun ds => ?_
     refine WL_q rfl (q_move (lk1 rfl <| lk_in rfl hs8)) ?_
     refine WL_q rfl (q_assign (lk0)) ?_
     refine WL_nil ?_
     refine then_n ?_
     refine WC_seq ?_
     refine WC_reg fun ds => ?_
     refine WL_q rfl (q_move (lk2 rfl <| lk1 rfl <| lk_off rfl <| lk4 rfl <| lk_entry rfl)) ?_
     refine WL_q rfl (q_move (lk4 rfl <| lk_off rfl <| lk4 rfl <| lk_entry rfl)) ?_
     refine WL_q rfl (q_move (lk2 rfl <| lk0)) ?_
     refine WL_q rfl (q_index  sl_23 (lk1 rfl <| lk0) h.plain (lk0) rfl (by omega)) ?_
     refine WL_q rfl (q_loadN agg_64 (lk0) rfl rfl (h.whole (by omega))) ?_
     refine WL_c rfl (q_call hg (lk4 rfl <| lk0) (.cons (lk0) .nil) (hp k hlt) (fun _ _ h => h)) ?_
     refine WL_nil ?_
     refine then_n ?_
     refine WC_if_true (lk0) hpk ?_
     refine WC_seq ?_
     refine WC_reg fun ds => ?_
     refine WL_q rfl (q_move (lk4 rfl <| lk2 rfl <| lk0)) ?_
     refine WL_q rfl (q_assign (lk0)) ?_
     refine WL_nil ?_
     refine then_n ?_
     refine WC_ret ?_
     refine block_r (then_r (then_r (block_r (then_r ?_))))
     refine post_ret rfl (.tmp (lk0) .nil) ?_
     show _ = _
     rw [findI_some hlt hpk hno]; rfl
    ·
     replace hpk : p xs[k] = false := by simpa using hpk
     refine WC_skip ?_
     refine then_n ?_
     refine WC_seq ?_
     refine WC_block ?_
     refine WC_seq ?_
     refine WC_reg fun ds => ?_
     refine WL_q rfl (q_move (lk1 rfl <| lk_in rfl hs8)) ?_
     refine WL_q rfl (q_assign (lk0)) ?_
     refine WL_nil ?_
     refine then_n ?_
     refine WC_seq ?_
     refine WC_reg fun ds => ?_
     refine WL_q rfl (q_move (lk2 rfl <| lk1 rfl <| lk_off rfl <| lk4 rfl <| lk_entry rfl)) ?_
     refine WL_q rfl (q_move (lk4 rfl <| lk_off rfl <| lk4 rfl <| lk_entry rfl)) ?_
     refine WL_q rfl (q_move (lk2 rfl <| lk0)) ?_
     refine WL_q rfl (q_index  sl_23 (lk1 rfl <| lk0) h.plain (lk0) rfl (by omega)) ?_
     refine WL_q rfl (q_loadN agg_64 (lk0) rfl rfl (h.whole (by omega))) ?_
     refine WL_c rfl (q_call hg (lk4 rfl <| lk0) (.cons (lk0) .nil) (hp k hlt) (fun _ _ h => h)) ?_
     refine WL_nil ?_
     refine then_n ?_
     refine WC_if_false (lk0) hpk ?_
     refine WC_skip ?_
     refine block_n (then_n ?_)
     refine WC_reg fun ds => ?_
     refine WL_q rfl (q_add (lk8 rfl <| lk1 rfl <| lk_in rfl hs8) lk_const rfl (by omega) (by omega)) ?_
     refine WL_q rfl (q_move (lk0)) ?_
     refine WL_nil ?_
     refine then_n ⟨_, m - 1, Off.eq (ou8 rfl <| ou2 rfl <| ou1 rfl <| off_over), by omega, ?_⟩
     refine ⟨k + 1, by omega, (lk0), rfl, fun j hj hjk => ?_⟩
     rcases Nat.lt_succ_iff_lt_or_eq.1 hjk with hjk | rfl
     · exact hno j hj hjk
     · exact hpk
   ·
    refine WC_seq ?_
    refine WC_reg fun ds => ?_
    refine WL_q rfl (q_lss (lk_in rfl hs8) (lk_off rfl <| lk1 rfl <| lk0)) ?_
    refine WL_nil ?_
    refine then_n ?_
    refine WC_seq ?_
    refine WC_if_false (lk0) (by first | rfl | exact decide_eq_false (by omega)) ?_
    refine WC_exit ?_
    refine then_x (then_x (exit_here ?_))
    refine then_n ?_
    refine WC_seq ?_
    refine WC_reg fun ds => ?_
    refine WL_q rfl (q_assign lk_const) ?_
    refine WL_nil ?_
    refine then_n ?_
    refine WC_ret ?_
    refine post_ret rfl (.tmp (lk0) .nil) ?_
    show _ = _
    rw [findI_none fun j hj => hno j hj (by omega)]; rfl
set_option maxRecDepth 100000 in
theorem containsRdr_ok {F : Heap} {v : Value} {xs : List Rdr} (h : Sl F v 2 Rdr.enc xs) (p : _ → Bool) {g : FuncId} {cs : List Value} (hg : Body Try.prog g) (hp : ∀ k (hk : k < xs.length), Ok Try.prog g ([Value.agg (Rdr.enc xs[k]).toArray] ++ cs).toArray F fun r _ => r = .bool (p xs[k])) : Ok Try.prog 52 [v, .func (.func g) #[] cs.toArray].toArray F fun r _ => r = .bool (xs.any p) := by
  refine Ok.intro Try.func52 rfl Try.ntmps52 rfl fun w0 => ?_
  refine WC_seq ?_
  refine WC_reg fun ds => ?_
  refine WL_q rfl (q_assign lk_const) ?_
  refine WL_nil ?_
  refine then_n ?_
  refine WC_seq ?_
  refine WC_reg fun ds => ?_
  refine WL_q rfl (q_move (lk1 rfl <| lk_entry rfl)) ?_
  refine WL_q rfl (q_move (lk2 rfl <| lk_entry rfl)) ?_
  refine WL_c rfl (q_call bd_85 lk_func (.cons (lk1 rfl <| lk0) (.cons (lk0) .nil)) (indexRdr_ok h p hg hp) (fun _ _ h => h)) ?_
  refine WL_q rfl (q_geq (lk0) lk_const) ?_
  refine WL_q rfl (q_assign (lk0)) ?_
  refine WL_nil ?_
  refine then_n ?_
  refine WC_ret ?_
  refine post_ret rfl (.tmp (lk0) .nil) ?_
  show _ = _
  rw [← findI_any]; rfl
set_option maxRecDepth 100000 in
theorem check2_ok {F : Heap} {c TB : Nat} {b : Rdr} (hb : F c = some (bx TB b.enc)) (x : Rdr) : Ok Try.prog 53 [.agg x.enc.toArray, .pointer (some ⟨c, 0, none⟩)].toArray F fun r _ => r = .bool (sameS x.name b.name) := by
  refine Ok.intro Try.func53 rfl Try.ntmps53 rfl fun w0 => ?_
  refine WC_seq ?_
  refine WC_reg fun ds => ?_
  refine WL_x rfl (x_box (lk_entry rfl) rfl fun b1 hb1 nb1 => ?_)
  refine WL_q rfl (q_assign lk_const) ?_
  refine WL_nil ?_
  refine then_n ?_
  refine WC_seq ?_
  refine WC_reg fun ds => ?_
  refine WL_q rfl (q_fieldAddrB fd_64_0 (lk1 rfl <| lk0)) ?_
  refine WL_q rfl (q_load1 one_9 (lk0) (Cell.own 0 rfl rfl)) ?_
  refine WL_q rfl (q_fieldAddrB fd_64_0 (lk4 rfl <| lk_entry rfl)) ?_
  refine WL_q rfl (q_load1 one_9 (lk0) (CellF.own hb rfl).cell) ?_
  refine WL_q rfl (q_eqs (lk2 rfl <| lk0) (lk0)) ?_
  refine WL_q rfl (q_assign (lk0)) ?_
  refine WL_nil ?_
  refine then_n ?_
  refine WC_ret ?_
  refine post_ret rfl (.tmp (lk0) .nil) ?_
  rfl
set_option maxRecDepth 100000 in
theorem check_ok {F : Heap} {vb vr vs vq : Value} {r : Room} (hr : RoomR F vb vr vs vq r) : Ok Try.prog 15 [.agg #[vb, vr, vs, vq]].toArray F fun v _ => v = checkV r := by
  refine Ok.intro Try.func15 rfl Try.ntmps15 rfl fun w0 => ?_
  by_cases h1 : 8 < r.books.length
  ·
   refine WC_seq ?_
   refine WC_reg fun ds => ?_
   refine WL_x rfl (x_box (lk_entry rfl) rfl fun b1 hb1 nb1 => ?_)
   refine WL_q rfl (q_assign lk_const) ?_
   refine WL_q rfl (q_assign lk_const) ?_
   refine WL_q rfl (q_assign lk_const) ?_
   refine WL_nil ?_
   refine then_n ?_
   refine WC_seq ?_
   refine WC_seq ?_
   refine WC_reg fun ds => ?_
   refine WL_q rfl (q_fieldAddrB fd_27_0 (lk2 rfl <| lk1 rfl <| lk0)) ?_
   refine WL_q rfl (q_load1 one_22 (lk0) (Cell.own 0 rfl rfl)) ?_
   refine WL_q rfl (q_lenP sl_22 (lk0) hr.books.plain) ?_
   refine WL_q rfl (q_gtr (lk0) lk_const) ?_
   refine WL_nil ?_
   refine then_n ?_
   refine WC_if_true (lk0) (by first | rfl | exact decide_eq_true (by omega)) ?_
   refine WC_seq ?_
   refine WC_reg fun ds => ?_
   refine WL_q rfl (q_assign lk_const) ?_
   refine WL_q rfl (q_assign lk_const) ?_
   refine WL_q rfl (q_assign lk_const) ?_
   refine WL_nil ?_
   refine then_n ?_
   refine WC_ret ?_
   refine then_r ?_
   refine post_ret rfl (.tmp (lk2 rfl <| lk0) (.tmp (lk1 rfl <| lk0) (.tmp (lk0) .nil))) ?_
   show _ = _
   exact (checkV1 (checkBooks_long h1)).symm
  ·
   refine WC_seq ?_
   refine WC_reg fun ds => ?_
   refine WL_x rfl (x_box (lk_entry rfl) rfl fun b2 hb2 nb2 => ?_)
   refine WL_q rfl (q_assign lk_const) ?_
   refine WL_q rfl (q_assign lk_const) ?_
   refine WL_q rfl (q_assign lk_const) ?_
   refine WL_nil ?_
   refine then_n ?_
   refine WC_seq ?_
   refine WC_seq ?_
   refine WC_reg fun ds => ?_
   refine WL_q rfl (q_fieldAddrB fd_27_0 (lk2 rfl <| lk1 rfl <| lk0)) ?_
   refine WL_q rfl (q_load1 one_22 (lk0) (Cell.own 0 rfl rfl)) ?_
   refine WL_q rfl (q_lenP sl_22 (lk0) hr.books.plain) ?_
   refine WL_q rfl (q_gtr (lk0) lk_const) ?_
   refine WL_nil ?_
   refine then_n ?_
   refine WC_if_false (lk0) (by first | rfl | exact decide_eq_false (by omega)) ?_
   refine WC_skip ?_
   refine then_n ?_
   refine WC_seq ?_
   refine WC_seq ?_
   refine WC_reg fun ds => ?_
   refine WL_q rfl (q_fieldAddrB fd_27_0 (lk4 rfl <| lk2 rfl <| lk1 rfl <| lk0)) ?_
   refine WL_q rfl (q_load1 one_22 (lk0) (Cell.own 0 rfl rfl)) ?_
   refine WL_q rfl (q_lenP sl_22 (lk0) hr.books.plain) ?_
   refine WL_q rfl (q_move lk_const) ?_
   refine WL_nil ?_
   refine then_n ?_
   refine WC_block ?_
   refine WC_loopN [2, 3, 4, 5, 6, 20, 21, 22, 23, 24, 25, 26, 27, 28, 29, 30, 31, 32, 33, 34, 35, 36, 37, 38, 39, 40, 41, 42, 43, 44, 45, 46, 47, 48, 49, 50, 51, 52, 53, 54, 55, 56, 57, 58, 59, 60, 61, 62, 63, 64] (fun m e σ => ∃ G, RoomR G vb vr vs vq r ∧ ∃ k : Nat, m + k = r.books.length ∧ e 20 = .int .i64 k ∧ σ = ⟨G, [(b2, bx 27 [vb, vr, vs, vq])]⟩ ∧ ∀ j, j < k → bookErr r.books j = 0) (r.books.length) ?_ ?_
   · exact ⟨F, hr, 0, by omega, (lk0), rfl, fun j h => absurd h (by omega)⟩
   ·
    rintro m e _ ⟨G, hr, k, hm, hs20, rfl, hno⟩
    by_cases hlt : k < r.books.length
    ·
     refine WC_seq ?_
     refine WC_reg fun ds => ?_
     refine WL_q rfl (q_lss (lk_in rfl hs20) (lk_off rfl <| lk1 rfl <| lk0)) ?_
     refine WL_nil ?_
     refine then_n ?_
     refine WC_seq ?_
     refine WC_if_true (lk0) (by first | rfl | exact decide_eq_true (by omega)) ?_
     by_cases hn : nameOk r.books[k].name = true
     ·
      refine WC_skip ?_
      refine then_n ?_
      refine WC_seq ?_
      refine WC_block ?_
      refine WC_seq ?_
      refine WC_reg fun ds => ?_
      refine WL_q rfl (q_move (lk1 rfl <| lk_in rfl hs20)) ?_
      refine WL_q rfl (q_index  sl_22 (lk2 rfl <| lk_off rfl <| lk2 rfl <| lk0) hr.books.plain (lk2 rfl <| lk_in rfl hs20) rfl (by omega)) ?_
      refine WL_q rfl (q_loadN agg_62 (lk0) rfl rfl (hr.books.whole (by omega))) ?_
      refine WL_x rfl (x_alloc zr_62 rfl fun b4 hb4 nb4 => ?_)
      refine WL_q rfl (q_assign (lk2 rfl <| lk1 rfl <| lk0)) ?_
      refine WL_x0 (x_storeA sz_62 (lk1 rfl <| lk0) (lk2 rfl <| lk0) (i := 0) rfl rfl rfl rfl Book.enc_one (.here) ?_)
      refine WL_nil ?_
      refine then_n ?_
      refine WC_block ?_
      refine WC_seq ?_
      refine WC_reg fun ds => ?_
      refine WL_q rfl (q_fieldAddrB fd_62_0 (lk1 rfl <| lk0)) ?_
      refine WL_q rfl (q_load1 one_9 (lk0) (Cell.own 0 rfl rfl)) ?_
      refine WL_c rfl (q_call bd_48 lk_func (.cons (lk0) .nil) (quireName_ok _) (fun _ _ h => h)) ?_
      refine WL_q rfl (q_not (lk0)) ?_
      refine WL_q rfl (q_assign (lk0)) ?_
      refine WL_nil ?_
      refine then_n ?_
      refine WC_if_false (lk0) (by first | exact hn | (simp [hn]; done)) ?_
      refine WC_freeze (i := 0) rfl hb4 (.here) fun F5 hF6 hq => ?_
      replace hr := hr.mono hF6
      by_cases ht : (r.books.take k).any (fun y => sameS y.name r.books[k].name) = true
      ·
       refine WC_seq ?_
       refine WC_reg fun ds => ?_
       refine WL_q rfl (q_fieldAddrB fd_27_0 (lk8 rfl <| lk2 rfl <| lk1 rfl <| lk_off rfl <| lk8 rfl <| lk2 rfl <| lk1 rfl <| lk0)) ?_
       refine WL_q rfl (q_load1 one_22 (lk0) (Cell.own 0 rfl rfl)) ?_
       refine WL_q rfl (q_move (lk4 rfl <| lk2 rfl <| lk1 rfl <| lk0)) ?_
       refine WL_q rfl (q_sliceTo sl_22 (lk1 rfl <| lk0) hr.books.plain (lk0) rfl (Nat.le_of_lt hlt)) ?_
       refine WL_q rfl (q_makeFunc (.cons (lk8 rfl <| lk2 rfl <| lk0) .nil)) ?_
       refine WL_c rfl (q_call bd_49 lk_func (.cons (lk1 rfl <| lk0) (.cons (lk0) .nil)) (containsBook_ok (hr.books.to (Nat.le_of_lt hlt)) (fun y => sameS y.name r.books[k].name) bd_50 fun i hi => check1_ok hq _) (fun _ _ h => h)) ?_
       refine WL_q rfl (q_assign (lk0)) ?_
       refine WL_nil ?_
       refine then_n ?_
       refine WC_if_true (lk0) (by first | exact ht | (simp [ht]; done)) ?_
       refine WC_seq ?_
       refine WC_reg fun ds => ?_
       refine WL_q rfl (q_move (lk8 rfl <| lk4 rfl <| lk0)) ?_
       refine WL_q rfl (q_assign lk_const) ?_
       refine WL_q rfl (q_assign (lk1 rfl <| lk0)) ?_
       refine WL_q rfl (q_assign lk_const) ?_
       refine WL_nil ?_
       refine then_n ?_
       refine WC_ret ?_
       refine block_r (block_r (then_r (then_r (block_r (then_r ?_)))))
       refine post_ret rfl (.tmp (lk2 rfl <| lk0) (.tmp (lk1 rfl <| lk0) (.tmp (lk0) .nil))) ?_
       show _ = _
       exact (checkV1 (checkBooks_bad h1 hlt hno (by rw [bookErr_at hlt]; simp [hn, ht]) (by decide))).symm
      ·
       replace ht : (r.books.take k).any (fun y => sameS y.name r.books[k].name) = false := by simpa using ht
       refine WC_seq ?_
       refine WC_reg fun ds => ?_
       refine WL_q rfl (q_fieldAddrB fd_27_0 (lk8 rfl <| lk2 rfl <| lk1 rfl <| lk_off rfl <| lk8 rfl <| lk2 rfl <| lk1 rfl <| lk0)) ?_
       refine WL_q rfl (q_load1 one_22 (lk0) (Cell.own 0 rfl rfl)) ?_
       refine WL_q rfl (q_move (lk4 rfl <| lk2 rfl <| lk1 rfl <| lk0)) ?_
       refine WL_q rfl (q_sliceTo sl_22 (lk1 rfl <| lk0) hr.books.plain (lk0) rfl (Nat.le_of_lt hlt)) ?_
       refine WL_q rfl (q_makeFunc (.cons (lk8 rfl <| lk2 rfl <| lk0) .nil)) ?_
       refine WL_c rfl (q_call bd_49 lk_func (.cons (lk1 rfl <| lk0) (.cons (lk0) .nil)) (containsBook_ok (hr.books.to (Nat.le_of_lt hlt)) (fun y => sameS y.name r.books[k].name) bd_50 fun i hi => check1_ok hq _) (fun _ _ h => h)) ?_
       refine WL_q rfl (q_assign (lk0)) ?_
       refine WL_nil ?_
       refine then_n ?_
       refine WC_if_false (lk0) (by first | exact ht | (simp [ht]; done)) ?_
       by_cases h1c : inB 0 5 r.books[k].cls = true
       ·
        refine WC_seq ?_
        refine WC_reg fun ds => ?_
        refine WL_q rfl (q_fieldAddrB fd_62_1 (lk8 rfl <| lk4 rfl <| lk1 rfl <| lk0)) ?_
        refine WL_q rfl (q_load1 one_3 (lk0) (CellF.own hq rfl).cell) ?_
        refine WL_x rfl (x_build sl_29 zr_3 rfl (.cons (lk0) .nil) rfl rfl (by decide) (by simp [Value.oneCell']) fun b7 hb7 nb7 => ?_)
        refine WL_freeze (i := 0) rfl hb7 .here fun F8 hF9 hz10 => ?_
        replace hr := hr.mono hF9
        replace hq := hF9 _ _ hq
        have hsl11 := ints_box1 hz10
        refine WL_c rfl (q_call bd_51 lk_func (.cons lk_const (.cons lk_const (.cons (lk0) .nil))) (outside_ok _ _ hsl11) (fun _ _ h => h)) ?_
        refine WL_q rfl (q_move (lk0)) ?_
        refine WL_want rfl rfl (lk0) (by first | exact h1c | (simp [h1c]; done)) ?_
        refine WL_q rfl (q_fieldAddrB fd_62_2 (lk16 rfl <| lk2 rfl <| lk0)) ?_
        refine WL_want rfl rfl (lk1 rfl <| lk0) (by first | exact h1c | (simp [h1c]; done)) ?_
        refine WL_q rfl (q_fieldAddrB fd_60_0 (lk0)) ?_
        refine WL_want rfl rfl (lk2 rfl <| lk0) (by first | exact h1c | (simp [h1c]; done)) ?_
        refine WL_q rfl (q_load1 one_3 (lk0) (CellF.own hq rfl).cell) ?_
        refine WL_want rfl rfl (lk2 rfl <| lk1 rfl <| lk0) (by first | exact h1c | (simp [h1c]; done)) ?_
        refine WL_q rfl (q_fieldAddrB fd_62_2 (lk16 rfl <| lk4 rfl <| lk1 rfl <| lk0)) ?_
        refine WL_want rfl rfl (lk4 rfl <| lk0) (by first | exact h1c | (simp [h1c]; done)) ?_
        refine WL_q rfl (q_fieldAddrB fd_60_1 (lk0)) ?_
        refine WL_want rfl rfl (lk4 rfl <| lk1 rfl <| lk0) (by first | exact h1c | (simp [h1c]; done)) ?_
        refine WL_q rfl (q_load1 one_3 (lk0) (CellF.own hq rfl).cell) ?_
        refine WL_want rfl rfl (lk4 rfl <| lk2 rfl <| lk0) (by first | exact h1c | (simp [h1c]; done)) ?_
        refine WL_x rfl (x_build sl_29 zr_3 rfl (.cons (lk2 rfl <| lk1 rfl <| lk0) (.cons (lk0) .nil)) rfl rfl (by decide) (by simp [Value.oneCell']) fun b12 hb12 nb12 => ?_)
        refine WL_freeze (i := 0) rfl hb12 .here fun F13 hF14 hz15 => ?_
        replace hr := hr.mono hF14
        replace hsl11 := hsl11.mono hF14
        replace hq := hF14 _ _ hq
        have hsl16 := ints_box2 hz15
        refine WL_want rfl rfl (lk4 rfl <| lk2 rfl <| lk1 rfl <| lk0) (by first | exact h1c | (simp [h1c]; done)) ?_
        refine WL_c rfl (q_call bd_51 lk_func (.cons lk_const (.cons lk_const (.cons (lk0) .nil))) (outside_ok _ _ hsl16) (fun _ _ h => h)) ?_
        refine WL_q rfl (q_pick_false (lk8 rfl <| lk0) (by first | exact h1c | (simp [h1c]; done)) (lk0)) ?_
        refine WL_q rfl (q_assign (lk0)) ?_
        refine WL_nil ?_
        refine then_n ?_
        by_cases h1l : (inB 0 1000 r.books[k].lo && inB 0 1000 r.books[k].hi) = true
        ·
         refine WC_if_false (lk0) (by simpa using h1l) ?_
         by_cases hw : r.books[k].hi < r.books[k].lo
         ·
          refine WC_seq ?_
          refine WC_reg fun ds => ?_
          refine WL_q rfl (q_fieldAddrB fd_62_2 (lk16 rfl <| lk8 rfl <| lk4 rfl <| lk0)) ?_
          refine WL_q rfl (q_fieldAddrB fd_60_0 (lk0)) ?_
          refine WL_q rfl (q_load1 one_3 (lk0) (CellF.own hq rfl).cell) ?_
          refine WL_q rfl (q_fieldAddrB fd_62_2 (lk16 rfl <| lk8 rfl <| lk4 rfl <| lk2 rfl <| lk1 rfl <| lk0)) ?_
          refine WL_q rfl (q_fieldAddrB fd_60_1 (lk0)) ?_
          refine WL_q rfl (q_load1 one_3 (lk0) (CellF.own hq rfl).cell) ?_
          refine WL_q rfl (q_gtr (lk2 rfl <| lk1 rfl <| lk0) (lk0)) ?_
          refine WL_q rfl (q_assign (lk0)) ?_
          refine WL_nil ?_
          refine then_n ?_
          refine WC_if_true (lk0) (by first | rfl | exact decide_eq_true (by omega)) ?_
          refine WC_seq ?_
          refine WC_reg fun ds => ?_
          refine WL_q rfl (q_move (lk32 rfl <| lk2 rfl <| lk1 rfl <| lk0)) ?_
          refine WL_q rfl (q_assign lk_const) ?_
          refine WL_q rfl (q_assign (lk1 rfl <| lk0)) ?_
          refine WL_q rfl (q_assign lk_const) ?_
          refine WL_nil ?_
          refine then_n ?_
          refine WC_ret ?_
          refine block_r (block_r (then_r (then_r (block_r (then_r ?_)))))
          refine post_ret rfl (.tmp (lk2 rfl <| lk0) (.tmp (lk1 rfl <| lk0) (.tmp (lk0) .nil))) ?_
          show _ = _
          exact (checkV1 (checkBooks_bad h1 hlt hno (by rw [bookErr_at hlt]; simp [hn, ht, h1c, h1l, hw]) (by decide))).symm
         ·
          refine WC_seq ?_
          refine WC_reg fun ds => ?_
          refine WL_q rfl (q_fieldAddrB fd_62_2 (lk16 rfl <| lk8 rfl <| lk4 rfl <| lk0)) ?_
          refine WL_q rfl (q_fieldAddrB fd_60_0 (lk0)) ?_
          refine WL_q rfl (q_load1 one_3 (lk0) (CellF.own hq rfl).cell) ?_
          refine WL_q rfl (q_fieldAddrB fd_62_2 (lk16 rfl <| lk8 rfl <| lk4 rfl <| lk2 rfl <| lk1 rfl <| lk0)) ?_
          refine WL_q rfl (q_fieldAddrB fd_60_1 (lk0)) ?_
          refine WL_q rfl (q_load1 one_3 (lk0) (CellF.own hq rfl).cell) ?_
          refine WL_q rfl (q_gtr (lk2 rfl <| lk1 rfl <| lk0) (lk0)) ?_
          refine WL_q rfl (q_assign (lk0)) ?_
          refine WL_nil ?_
          refine then_n ?_
          refine WC_if_false (lk0) (by first | rfl | exact decide_eq_false (by omega)) ?_
          refine WC_skip ?_
          refine block_n (block_n (then_n ?_))
          refine WC_reg fun ds => ?_
          refine WL_q rfl (q_add (lk32 rfl <| lk8 rfl <| lk1 rfl <| lk_in rfl hs20) lk_const rfl (by omega) (by omega)) ?_
          refine WL_q rfl (q_move (lk0)) ?_
          refine WL_nil ?_
          refine then_n ⟨_, m - 1, Off.eq (ou32 rfl <| ou8 rfl <| ou2 rfl <| ou1 rfl <| off_over), by omega, ?_⟩
          refine ⟨_, hr, k + 1, by omega, (lk0), rfl, fun j hjk => ?_⟩
          rcases Nat.lt_succ_iff_lt_or_eq.1 hjk with hjk | rfl
          · exact hno j hjk
          · rw [bookErr_at hlt]; simp [hn, ht, h1c, h1l, hw]
        ·
         replace h1l : (inB 0 1000 r.books[k].lo && inB 0 1000 r.books[k].hi) = false := by simpa using h1l
         refine WC_if_true (lk0) (by rcases Bool.and_eq_false_iff.1 h1l with h | h <;> simp [h]) ?_
         refine WC_seq ?_
         refine WC_reg fun ds => ?_
         refine WL_q rfl (q_move (lk16 rfl <| lk8 rfl <| lk2 rfl <| lk1 rfl <| lk0)) ?_
         refine WL_q rfl (q_assign lk_const) ?_
         refine WL_q rfl (q_assign (lk1 rfl <| lk0)) ?_
         refine WL_q rfl (q_assign lk_const) ?_
         refine WL_nil ?_
         refine then_n ?_
         refine WC_ret ?_
         refine block_r (block_r (then_r (then_r (block_r (then_r ?_)))))
         refine post_ret rfl (.tmp (lk2 rfl <| lk0) (.tmp (lk1 rfl <| lk0) (.tmp (lk0) .nil))) ?_
         show _ = _
         exact (checkV1 (checkBooks_bad h1 hlt hno (by rw [bookErr_at hlt]; simp [hn, ht, h1c, h1l]) (by decide))).symm
       ·
        replace h1c : inB 0 5 r.books[k].cls = false := by simpa using h1c
        refine WC_seq ?_
        refine WC_reg fun ds => ?_
        refine WL_q rfl (q_fieldAddrB fd_62_1 (lk8 rfl <| lk4 rfl <| lk1 rfl <| lk0)) ?_
        refine WL_q rfl (q_load1 one_3 (lk0) (CellF.own hq rfl).cell) ?_
        refine WL_x rfl (x_build sl_29 zr_3 rfl (.cons (lk0) .nil) rfl rfl (by decide) (by simp [Value.oneCell']) fun b17 hb17 nb17 => ?_)
        refine WL_freeze (i := 0) rfl hb17 .here fun F18 hF19 hz20 => ?_
        replace hr := hr.mono hF19
        replace hq := hF19 _ _ hq
        have hsl21 := ints_box1 hz20
        refine WL_c rfl (q_call bd_51 lk_func (.cons lk_const (.cons lk_const (.cons (lk0) .nil))) (outside_ok _ _ hsl21) (fun _ _ h => h)) ?_
        refine WL_q rfl (q_move (lk0)) ?_
        refine WL_pass rfl rfl (lk0) (.inl (congrArg Value.bool (by simp [h1c]))) rfl ?_
        refine WL_pass rfl rfl (lk1 rfl <| lk0) (.inl (congrArg Value.bool (by simp [h1c]))) rfl ?_
        refine WL_pass rfl rfl (lk2 rfl <| lk0) (.inl (congrArg Value.bool (by simp [h1c]))) rfl ?_
        refine WL_pass rfl rfl (lk2 rfl <| lk1 rfl <| lk0) (.inl (congrArg Value.bool (by simp [h1c]))) rfl ?_
        refine WL_pass rfl rfl (lk4 rfl <| lk0) (.inl (congrArg Value.bool (by simp [h1c]))) rfl ?_
        refine WL_pass rfl rfl (lk4 rfl <| lk1 rfl <| lk0) (.inl (congrArg Value.bool (by simp [h1c]))) rfl ?_
        refine WL_pass rfl rfl (lk4 rfl <| lk2 rfl <| lk0) (.inl (congrArg Value.bool (by simp [h1c]))) rfl ?_
        refine WL_pass rfl rfl (lk4 rfl <| lk2 rfl <| lk1 rfl <| lk0) (.inl (congrArg Value.bool (by simp [h1c]))) rfl ?_
        refine WL_q rfl (q_pick_true (lk8 rfl <| lk0) (by simp [h1c]) lk_const) ?_
        refine WL_q rfl (q_assign (lk0)) ?_
        refine WL_nil ?_
        refine then_n ?_
        refine WC_if_true (lk0) (by first | rfl | simp [h1c]) ?_
        refine WC_seq ?_
        refine WC_reg fun ds => ?_
        refine WL_q rfl (q_move (lk16 rfl <| lk8 rfl <| lk2 rfl <| lk1 rfl <| lk0)) ?_
        refine WL_q rfl (q_assign lk_const) ?_
        refine WL_q rfl (q_assign (lk1 rfl <| lk0)) ?_
        refine WL_q rfl (q_assign lk_const) ?_
        refine WL_nil ?_
        refine then_n ?_
        refine WC_ret ?_
        refine block_r (block_r (then_r (then_r (block_r (then_r ?_)))))
        refine post_ret rfl (.tmp (lk2 rfl <| lk0) (.tmp (lk1 rfl <| lk0) (.tmp (lk0) .nil))) ?_
        show _ = _
        exact (checkV1 (checkBooks_bad h1 hlt hno (by rw [bookErr_at hlt]; simp [hn, ht, h1c]) (by decide))).symm
     ·
      replace hn : nameOk r.books[k].name = false := by simpa using hn
      refine WC_skip ?_
      refine then_n ?_
      refine WC_seq ?_
      refine WC_block ?_
      refine WC_seq ?_
      refine WC_reg fun ds => ?_
      refine WL_q rfl (q_move (lk1 rfl <| lk_in rfl hs20)) ?_
      refine WL_q rfl (q_index  sl_22 (lk2 rfl <| lk_off rfl <| lk2 rfl <| lk0) hr.books.plain (lk2 rfl <| lk_in rfl hs20) rfl (by omega)) ?_
      refine WL_q rfl (q_loadN agg_62 (lk0) rfl rfl (hr.books.whole (by omega))) ?_
      refine WL_x rfl (x_alloc zr_62 rfl fun b22 hb22 nb22 => ?_)
      refine WL_q rfl (q_assign (lk2 rfl <| lk1 rfl <| lk0)) ?_
      refine WL_x0 (x_storeA sz_62 (lk1 rfl <| lk0) (lk2 rfl <| lk0) (i := 0) rfl rfl rfl rfl Book.enc_one (.here) ?_)
      refine WL_nil ?_
      refine then_n ?_
      refine WC_block ?_
      refine WC_seq ?_
      refine WC_reg fun ds => ?_
      refine WL_q rfl (q_fieldAddrB fd_62_0 (lk1 rfl <| lk0)) ?_
      refine WL_q rfl (q_load1 one_9 (lk0) (Cell.own 0 rfl rfl)) ?_
      refine WL_c rfl (q_call bd_48 lk_func (.cons (lk0) .nil) (quireName_ok _) (fun _ _ h => h)) ?_
      refine WL_q rfl (q_not (lk0)) ?_
      refine WL_q rfl (q_assign (lk0)) ?_
      refine WL_nil ?_
      refine then_n ?_
      refine WC_if_true (lk0) (by first | exact hn | (simp [hn]; done)) ?_
      refine WC_seq ?_
      refine WC_reg fun ds => ?_
      refine WL_q rfl (q_move (lk4 rfl <| lk1 rfl <| lk0)) ?_
      refine WL_q rfl (q_assign lk_const) ?_
      refine WL_q rfl (q_assign (lk1 rfl <| lk0)) ?_
      refine WL_q rfl (q_assign lk_const) ?_
      refine WL_nil ?_
      refine then_n ?_
      refine WC_ret ?_
      refine block_r (block_r (then_r (then_r (block_r (then_r ?_)))))
      refine post_ret rfl (.tmp (lk2 rfl <| lk0) (.tmp (lk1 rfl <| lk0) (.tmp (lk0) .nil))) ?_
      show _ = _
      exact (checkV1 (checkBooks_bad h1 hlt hno (by rw [bookErr_at hlt]; simp [hn]) (by decide))).symm
    ·
     refine WC_seq ?_
     refine WC_reg fun ds => ?_
     refine WL_q rfl (q_lss (lk_in rfl hs20) (lk_off rfl <| lk1 rfl <| lk0)) ?_
     refine WL_nil ?_
     refine then_n ?_
     refine WC_seq ?_
     refine WC_if_false (lk0) (by first | rfl | exact decide_eq_false (by omega)) ?_
     have hB := checkBooks_ok h1 fun j hj => hno j (by omega)
     by_cases h2 : 8 < r.readers.length
     ·
      refine WC_exit ?_
      refine then_x (then_x (exit_here ?_))
      refine then_n ?_
      refine WC_seq ?_
      refine WC_seq ?_
      refine WC_reg fun ds => ?_
      refine WL_q rfl (q_fieldAddrB fd_27_1 (lk1 rfl <| lk_off rfl <| lk8 rfl <| lk2 rfl <| lk1 rfl <| lk0)) ?_
      refine WL_q rfl (q_load1 one_23 (lk0) (Cell.own 0 rfl rfl)) ?_
      refine WL_q rfl (q_lenP sl_23 (lk0) hr.readers.plain) ?_
      refine WL_q rfl (q_gtr (lk0) lk_const) ?_
      refine WL_nil ?_
      refine then_n ?_
      refine WC_if_true (lk0) (by first | rfl | exact decide_eq_true (by omega)) ?_
      refine WC_seq ?_
      refine WC_reg fun ds => ?_
      refine WL_q rfl (q_assign lk_const) ?_
      refine WL_q rfl (q_assign lk_const) ?_
      refine WL_q rfl (q_assign lk_const) ?_
      refine WL_nil ?_
      refine then_n ?_
      refine WC_ret ?_
      refine then_r ?_
      refine post_ret rfl (.tmp (lk2 rfl <| lk0) (.tmp (lk1 rfl <| lk0) (.tmp (lk0) .nil))) ?_
      show _ = _
      exact (checkV2 hB (checkRdrs_long h2)).symm
     ·
      refine WC_exit ?_
      refine then_x (then_x (exit_here ?_))
      refine then_n ?_
      refine WC_seq ?_
      refine WC_seq ?_
      refine WC_reg fun ds => ?_
      refine WL_q rfl (q_fieldAddrB fd_27_1 (lk1 rfl <| lk_off rfl <| lk8 rfl <| lk2 rfl <| lk1 rfl <| lk0)) ?_
      refine WL_q rfl (q_load1 one_23 (lk0) (Cell.own 0 rfl rfl)) ?_
      refine WL_q rfl (q_lenP sl_23 (lk0) hr.readers.plain) ?_
      refine WL_q rfl (q_gtr (lk0) lk_const) ?_
      refine WL_nil ?_
      refine then_n ?_
      refine WC_if_false (lk0) (by first | rfl | exact decide_eq_false (by omega)) ?_
      refine WC_skip ?_
      refine then_n ?_
      refine WC_seq ?_
      refine WC_seq ?_
      refine WC_reg fun ds => ?_
      refine WL_q rfl (q_fieldAddrB fd_27_1 (lk4 rfl <| lk1 rfl <| lk_off rfl <| lk8 rfl <| lk2 rfl <| lk1 rfl <| lk0)) ?_
      refine WL_q rfl (q_load1 one_23 (lk0) (Cell.own 0 rfl rfl)) ?_
      refine WL_q rfl (q_lenP sl_23 (lk0) hr.readers.plain) ?_
      refine WL_q rfl (q_move lk_const) ?_
      refine WL_nil ?_
      refine then_n ?_
      refine WC_block ?_
      refine WC_loopN [2, 3, 4, 7, 8, 72, 73, 74, 75, 76, 77, 78, 79, 80, 81, 82, 83, 84, 85, 86, 87, 88, 89, 90, 91, 92, 93, 94, 95, 96, 97] (fun m e σ => ∃ G, RoomR G vb vr vs vq r ∧ ∃ k : Nat, m + k = r.readers.length ∧ e 72 = .int .i64 k ∧ σ = ⟨G, [(b2, bx 27 [vb, vr, vs, vq])]⟩ ∧ ∀ j, j < k → rdrErr r.readers j = 0) (r.readers.length) ?_ ?_
      · exact ⟨G, hr, 0, by omega, (lk0), rfl, fun j h => absurd h (by omega)⟩
      ·
       rintro m e _ ⟨G, hr, k, hm, hs72, rfl, hno⟩
       by_cases hlt : k < r.readers.length
       ·
        refine WC_seq ?_
        refine WC_reg fun ds => ?_
        refine WL_q rfl (q_lss (lk_in rfl hs72) (lk_off rfl <| lk1 rfl <| lk0)) ?_
        refine WL_nil ?_
        refine then_n ?_
        refine WC_seq ?_
        refine WC_if_true (lk0) (by first | rfl | exact decide_eq_true (by omega)) ?_
        by_cases hn : nameOk r.readers[k].name = true
        ·
         refine WC_skip ?_
         refine then_n ?_
         refine WC_seq ?_
         refine WC_block ?_
         refine WC_seq ?_
         refine WC_reg fun ds => ?_
         refine WL_q rfl (q_move (lk1 rfl <| lk_in rfl hs72)) ?_
         refine WL_q rfl (q_index  sl_23 (lk2 rfl <| lk_off rfl <| lk2 rfl <| lk0) hr.readers.plain (lk2 rfl <| lk_in rfl hs72) rfl (by omega)) ?_
         refine WL_q rfl (q_loadN agg_64 (lk0) rfl rfl (hr.readers.whole (by omega))) ?_
         refine WL_x rfl (x_alloc zr_64 rfl fun b24 hb24 nb24 => ?_)
         refine WL_q rfl (q_assign (lk2 rfl <| lk1 rfl <| lk0)) ?_
         refine WL_x0 (x_storeA sz_64 (lk1 rfl <| lk0) (lk2 rfl <| lk0) (i := 0) rfl rfl rfl rfl Rdr.enc_one (.here) ?_)
         refine WL_nil ?_
         refine then_n ?_
         refine WC_block ?_
         refine WC_seq ?_
         refine WC_reg fun ds => ?_
         refine WL_q rfl (q_fieldAddrB fd_64_0 (lk1 rfl <| lk0)) ?_
         refine WL_q rfl (q_load1 one_9 (lk0) (Cell.own 0 rfl rfl)) ?_
         refine WL_c rfl (q_call bd_48 lk_func (.cons (lk0) .nil) (quireName_ok _) (fun _ _ h => h)) ?_
         refine WL_q rfl (q_not (lk0)) ?_
         refine WL_q rfl (q_assign (lk0)) ?_
         refine WL_nil ?_
         refine then_n ?_
         refine WC_if_false (lk0) (by first | exact hn | (simp [hn]; done)) ?_
         refine WC_freeze (i := 0) rfl hb24 (.here) fun F25 hF26 hq => ?_
         replace hr := hr.mono hF26
         by_cases ht : (r.readers.take k).any (fun y => sameS y.name r.readers[k].name) = true
         ·
          refine WC_seq ?_
          refine WC_reg fun ds => ?_
          refine WL_q rfl (q_fieldAddrB fd_27_1 (lk8 rfl <| lk2 rfl <| lk1 rfl <| lk_off rfl <| lk8 rfl <| lk1 rfl <| lk_off rfl <| lk8 rfl <| lk2 rfl <| lk1 rfl <| lk0)) ?_
          refine WL_q rfl (q_load1 one_23 (lk0) (Cell.own 0 rfl rfl)) ?_
          refine WL_q rfl (q_move (lk4 rfl <| lk2 rfl <| lk1 rfl <| lk0)) ?_
          refine WL_q rfl (q_sliceTo sl_23 (lk1 rfl <| lk0) hr.readers.plain (lk0) rfl (Nat.le_of_lt hlt)) ?_
          refine WL_q rfl (q_makeFunc (.cons (lk8 rfl <| lk2 rfl <| lk0) .nil)) ?_
          refine WL_c rfl (q_call bd_52 lk_func (.cons (lk1 rfl <| lk0) (.cons (lk0) .nil)) (containsRdr_ok (hr.readers.to (Nat.le_of_lt hlt)) (fun y => sameS y.name r.readers[k].name) bd_53 fun i hi => check2_ok hq _) (fun _ _ h => h)) ?_
          refine WL_q rfl (q_assign (lk0)) ?_
          refine WL_nil ?_
          refine then_n ?_
          refine WC_if_true (lk0) (by first | exact ht | (simp [ht]; done)) ?_
          refine WC_seq ?_
          refine WC_reg fun ds => ?_
          refine WL_q rfl (q_move (lk8 rfl <| lk4 rfl <| lk0)) ?_
          refine WL_q rfl (q_assign lk_const) ?_
          refine WL_q rfl (q_assign (lk1 rfl <| lk0)) ?_
          refine WL_q rfl (q_assign lk_const) ?_
          refine WL_nil ?_
          refine then_n ?_
          refine WC_ret ?_
          refine block_r (block_r (then_r (then_r (block_r (then_r ?_)))))
          refine post_ret rfl (.tmp (lk2 rfl <| lk0) (.tmp (lk1 rfl <| lk0) (.tmp (lk0) .nil))) ?_
          show _ = _
          exact (checkV2 hB (checkRdrs_bad h2 hlt hno (by rw [rdrErr_at hlt]; simp [hn, ht]) (by decide))).symm
         ·
          replace ht : (r.readers.take k).any (fun y => sameS y.name r.readers[k].name) = false := by simpa using ht
          refine WC_seq ?_
          refine WC_reg fun ds => ?_
          refine WL_q rfl (q_fieldAddrB fd_27_1 (lk8 rfl <| lk2 rfl <| lk1 rfl <| lk_off rfl <| lk8 rfl <| lk1 rfl <| lk_off rfl <| lk8 rfl <| lk2 rfl <| lk1 rfl <| lk0)) ?_
          refine WL_q rfl (q_load1 one_23 (lk0) (Cell.own 0 rfl rfl)) ?_
          refine WL_q rfl (q_move (lk4 rfl <| lk2 rfl <| lk1 rfl <| lk0)) ?_
          refine WL_q rfl (q_sliceTo sl_23 (lk1 rfl <| lk0) hr.readers.plain (lk0) rfl (Nat.le_of_lt hlt)) ?_
          refine WL_q rfl (q_makeFunc (.cons (lk8 rfl <| lk2 rfl <| lk0) .nil)) ?_
          refine WL_c rfl (q_call bd_52 lk_func (.cons (lk1 rfl <| lk0) (.cons (lk0) .nil)) (containsRdr_ok (hr.readers.to (Nat.le_of_lt hlt)) (fun y => sameS y.name r.readers[k].name) bd_53 fun i hi => check2_ok hq _) (fun _ _ h => h)) ?_
          refine WL_q rfl (q_assign (lk0)) ?_
          refine WL_nil ?_
          refine then_n ?_
          refine WC_if_false (lk0) (by first | exact ht | (simp [ht]; done)) ?_
          by_cases h1c : inB 0 5 r.readers[k].permit = true
          ·
           refine WC_seq ?_
           refine WC_reg fun ds => ?_
           refine WL_q rfl (q_fieldAddrB fd_64_1 (lk8 rfl <| lk4 rfl <| lk1 rfl <| lk0)) ?_
           refine WL_q rfl (q_load1 one_3 (lk0) (CellF.own hq rfl).cell) ?_
           refine WL_x rfl (x_build sl_29 zr_3 rfl (.cons (lk0) .nil) rfl rfl (by decide) (by simp [Value.oneCell']) fun b27 hb27 nb27 => ?_)
           refine WL_freeze (i := 0) rfl hb27 .here fun F28 hF29 hz30 => ?_
           replace hr := hr.mono hF29
           replace hq := hF29 _ _ hq
           have hsl31 := ints_box1 hz30
           refine WL_c rfl (q_call bd_51 lk_func (.cons lk_const (.cons lk_const (.cons (lk0) .nil))) (outside_ok _ _ hsl31) (fun _ _ h => h)) ?_
           refine WL_q rfl (q_assign (lk0)) ?_
           refine WL_nil ?_
           refine then_n ?_
           refine WC_if_false (lk0) (by simp [h1c]) ?_
           refine WC_skip ?_
           refine block_n (block_n (then_n ?_))
           refine WC_reg fun ds => ?_
           refine WL_q rfl (q_add (lk16 rfl <| lk4 rfl <| lk2 rfl <| lk1 rfl <| lk_in rfl hs72) lk_const rfl (by omega) (by omega)) ?_
           refine WL_q rfl (q_move (lk0)) ?_
           refine WL_nil ?_
           refine then_n ⟨_, m - 1, Off.eq (ou16 rfl <| ou8 rfl <| ou1 rfl <| off_over), by omega, ?_⟩
           refine ⟨_, hr, k + 1, by omega, (lk0), rfl, fun j hjk => ?_⟩
           rcases Nat.lt_succ_iff_lt_or_eq.1 hjk with hjk | rfl
           · exact hno j hjk
           · rw [rdrErr_at hlt]; simp [hn, ht, h1c]
          ·
           replace h1c : inB 0 5 r.readers[k].permit = false := by simpa using h1c
           refine WC_seq ?_
           refine WC_reg fun ds => ?_
           refine WL_q rfl (q_fieldAddrB fd_64_1 (lk8 rfl <| lk4 rfl <| lk1 rfl <| lk0)) ?_
           refine WL_q rfl (q_load1 one_3 (lk0) (CellF.own hq rfl).cell) ?_
           refine WL_x rfl (x_build sl_29 zr_3 rfl (.cons (lk0) .nil) rfl rfl (by decide) (by simp [Value.oneCell']) fun b32 hb32 nb32 => ?_)
           refine WL_freeze (i := 0) rfl hb32 .here fun F33 hF34 hz35 => ?_
           replace hr := hr.mono hF34
           replace hq := hF34 _ _ hq
           have hsl36 := ints_box1 hz35
           refine WL_c rfl (q_call bd_51 lk_func (.cons lk_const (.cons lk_const (.cons (lk0) .nil))) (outside_ok _ _ hsl36) (fun _ _ h => h)) ?_
           refine WL_q rfl (q_assign (lk0)) ?_
           refine WL_nil ?_
           refine then_n ?_
           refine WC_if_true (lk0) (by simp [h1c]) ?_
           refine WC_seq ?_
           refine WC_reg fun ds => ?_
           refine WL_q rfl (q_move (lk16 rfl <| lk1 rfl <| lk0)) ?_
           refine WL_q rfl (q_assign lk_const) ?_
           refine WL_q rfl (q_assign (lk1 rfl <| lk0)) ?_
           refine WL_q rfl (q_assign lk_const) ?_
           refine WL_nil ?_
           refine then_n ?_
           refine WC_ret ?_
           refine block_r (block_r (then_r (then_r (block_r (then_r ?_)))))
           refine post_ret rfl (.tmp (lk2 rfl <| lk0) (.tmp (lk1 rfl <| lk0) (.tmp (lk0) .nil))) ?_
           show _ = _
           exact (checkV2 hB (checkRdrs_bad h2 hlt hno (by rw [rdrErr_at hlt]; simp [hn, ht, h1c]) (by decide))).symm
        ·
         replace hn : nameOk r.readers[k].name = false := by simpa using hn
         refine WC_skip ?_
         refine then_n ?_
         refine WC_seq ?_
         refine WC_block ?_
         refine WC_seq ?_
         refine WC_reg fun ds => ?_
         refine WL_q rfl (q_move (lk1 rfl <| lk_in rfl hs72)) ?_
         refine WL_q rfl (q_index  sl_23 (lk2 rfl <| lk_off rfl <| lk2 rfl <| lk0) hr.readers.plain (lk2 rfl <| lk_in rfl hs72) rfl (by omega)) ?_
         refine WL_q rfl (q_loadN agg_64 (lk0) rfl rfl (hr.readers.whole (by omega))) ?_
         refine WL_x rfl (x_alloc zr_64 rfl fun b37 hb37 nb37 => ?_)
         refine WL_q rfl (q_assign (lk2 rfl <| lk1 rfl <| lk0)) ?_
         refine WL_x0 (x_storeA sz_64 (lk1 rfl <| lk0) (lk2 rfl <| lk0) (i := 0) rfl rfl rfl rfl Rdr.enc_one (.here) ?_)
         refine WL_nil ?_
         refine then_n ?_
         refine WC_block ?_
         refine WC_seq ?_
         refine WC_reg fun ds => ?_
         refine WL_q rfl (q_fieldAddrB fd_64_0 (lk1 rfl <| lk0)) ?_
         refine WL_q rfl (q_load1 one_9 (lk0) (Cell.own 0 rfl rfl)) ?_
         refine WL_c rfl (q_call bd_48 lk_func (.cons (lk0) .nil) (quireName_ok _) (fun _ _ h => h)) ?_
         refine WL_q rfl (q_not (lk0)) ?_
         refine WL_q rfl (q_assign (lk0)) ?_
         refine WL_nil ?_
         refine then_n ?_
         refine WC_if_true (lk0) (by first | exact hn | (simp [hn]; done)) ?_
         refine WC_seq ?_
         refine WC_reg fun ds => ?_
         refine WL_q rfl (q_move (lk4 rfl <| lk1 rfl <| lk0)) ?_
         refine WL_q rfl (q_assign lk_const) ?_
         refine WL_q rfl (q_assign (lk1 rfl <| lk0)) ?_
         refine WL_q rfl (q_assign lk_const) ?_
         refine WL_nil ?_
         refine then_n ?_
         refine WC_ret ?_
         refine block_r (block_r (then_r (then_r (block_r (then_r ?_)))))
         refine post_ret rfl (.tmp (lk2 rfl <| lk0) (.tmp (lk1 rfl <| lk0) (.tmp (lk0) .nil))) ?_
         show _ = _
         exact (checkV2 hB (checkRdrs_bad h2 hlt hno (by rw [rdrErr_at hlt]; simp [hn]) (by decide))).symm
       ·
        refine WC_seq ?_
        refine WC_reg fun ds => ?_
        refine WL_q rfl (q_lss (lk_in rfl hs72) (lk_off rfl <| lk1 rfl <| lk0)) ?_
        refine WL_nil ?_
        refine then_n ?_
        refine WC_seq ?_
        refine WC_if_false (lk0) (by first | rfl | exact decide_eq_false (by omega)) ?_
        have hR := checkRdrs_ok h2 fun j hj => hno j (by omega)
        by_cases h3 : 6 < r.seats.length
        ·
         refine WC_exit ?_
         refine then_x (then_x (exit_here ?_))
         refine then_n ?_
         refine WC_seq ?_
         refine WC_seq ?_
         refine WC_reg fun ds => ?_
         refine WL_q rfl (q_fieldAddrB fd_27_2 (lk1 rfl <| lk_off rfl <| lk8 rfl <| lk1 rfl <| lk_off rfl <| lk8 rfl <| lk2 rfl <| lk1 rfl <| lk0)) ?_
         refine WL_q rfl (q_load1 one_24 (lk0) (Cell.own 0 rfl rfl)) ?_
         refine WL_q rfl (q_lenP sl_24 (lk0) hr.seats.plain) ?_
         refine WL_q rfl (q_gtr (lk0) lk_const) ?_
         refine WL_nil ?_
         refine then_n ?_
         refine WC_if_true (lk0) (by first | rfl | exact decide_eq_true (by omega)) ?_
         refine WC_seq ?_
         refine WC_reg fun ds => ?_
         refine WL_q rfl (q_assign lk_const) ?_
         refine WL_q rfl (q_assign lk_const) ?_
         refine WL_q rfl (q_assign lk_const) ?_
         refine WL_nil ?_
         refine then_n ?_
         refine WC_ret ?_
         refine then_r ?_
         refine post_ret rfl (.tmp (lk2 rfl <| lk0) (.tmp (lk1 rfl <| lk0) (.tmp (lk0) .nil))) ?_
         show _ = _
         exact (checkV3 hB hR (checkSeats_long h3)).symm
        ·
         refine WC_exit ?_
         refine then_x (then_x (exit_here ?_))
         refine then_n ?_
         refine WC_seq ?_
         refine WC_seq ?_
         refine WC_reg fun ds => ?_
         refine WL_q rfl (q_fieldAddrB fd_27_2 (lk1 rfl <| lk_off rfl <| lk8 rfl <| lk1 rfl <| lk_off rfl <| lk8 rfl <| lk2 rfl <| lk1 rfl <| lk0)) ?_
         refine WL_q rfl (q_load1 one_24 (lk0) (Cell.own 0 rfl rfl)) ?_
         refine WL_q rfl (q_lenP sl_24 (lk0) hr.seats.plain) ?_
         refine WL_q rfl (q_gtr (lk0) lk_const) ?_
         refine WL_nil ?_
         refine then_n ?_
         refine WC_if_false (lk0) (by first | rfl | exact decide_eq_false (by omega)) ?_
         refine WC_skip ?_
         refine then_n ?_
         refine WC_seq ?_
         refine WC_seq ?_
         refine WC_reg fun ds => ?_
         refine WL_q rfl (q_fieldAddrB fd_27_2 (lk4 rfl <| lk1 rfl <| lk_off rfl <| lk8 rfl <| lk1 rfl <| lk_off rfl <| lk8 rfl <| lk2 rfl <| lk1 rfl <| lk0)) ?_
         refine WL_q rfl (q_load1 one_24 (lk0) (Cell.own 0 rfl rfl)) ?_
         refine WL_q rfl (q_lenP sl_24 (lk0) hr.seats.plain) ?_
         refine WL_q rfl (q_move lk_const) ?_
         refine WL_nil ?_
         refine then_n ?_
         refine WC_block ?_
         refine WC_loopN [2, 3, 4, 9, 10, 105, 106, 107, 108, 109, 110, 111, 112, 113, 114, 115] (fun m e σ => ∃ G, RoomR G vb vr vs vq r ∧ ∃ k : Nat, m + k = r.seats.length ∧ e 105 = .int .i64 k ∧ σ = ⟨G, [(b2, bx 27 [vb, vr, vs, vq])]⟩ ∧ ∀ j, j < k → seatErr r.seats j = 0) (r.seats.length) ?_ ?_
         · exact ⟨G, hr, 0, by omega, (lk0), rfl, fun j h => absurd h (by omega)⟩
         ·
          rintro m e _ ⟨G, hr, k, hm, hs105, rfl, hno⟩
          by_cases hlt : k < r.seats.length
          ·
           refine WC_seq ?_
           refine WC_reg fun ds => ?_
           refine WL_q rfl (q_lss (lk_in rfl hs105) (lk_off rfl <| lk1 rfl <| lk0)) ?_
           refine WL_nil ?_
           refine then_n ?_
           refine WC_seq ?_
           refine WC_if_true (lk0) (by first | rfl | exact decide_eq_true (by omega)) ?_
           by_cases h1c : inB 0 100 r.seats[k].light = true
           ·
            refine WC_skip ?_
            refine then_n ?_
            refine WC_seq ?_
            refine WC_block ?_
            refine WC_seq ?_
            refine WC_reg fun ds => ?_
            refine WL_q rfl (q_move (lk1 rfl <| lk_in rfl hs105)) ?_
            refine WL_q rfl (q_index  sl_24 (lk2 rfl <| lk_off rfl <| lk2 rfl <| lk0) hr.seats.plain (lk2 rfl <| lk_in rfl hs105) rfl (by omega)) ?_
            refine WL_q rfl (q_loadN agg_66 (lk0) rfl rfl (hr.seats.whole (by omega))) ?_
            refine WL_x rfl (x_alloc zr_66 rfl fun b39 hb39 nb39 => ?_)
            refine WL_q rfl (q_assign (lk2 rfl <| lk1 rfl <| lk0)) ?_
            refine WL_x0 (x_storeA sz_66 (lk1 rfl <| lk0) (lk2 rfl <| lk0) (i := 0) rfl rfl rfl rfl Seat.enc_one (.here) ?_)
            refine WL_nil ?_
            refine then_n ?_
            refine WC_seq ?_
            refine WC_reg fun ds => ?_
            refine WL_q rfl (q_fieldAddrB fd_66_0 (lk1 rfl <| lk0)) ?_
            refine WL_q rfl (q_load1 one_3 (lk0) (Cell.own 0 rfl rfl)) ?_
            refine WL_x rfl (x_build sl_29 zr_3 rfl (.cons (lk0) .nil) rfl rfl (by decide) (by simp [Value.oneCell']) fun b40 hb40 nb40 => ?_)
            refine WL_freeze (i := 0) rfl hb40 .here fun F41 hF42 hz43 => ?_
            replace hr := hr.mono hF42
            have hsl44 := ints_box1 hz43
            refine WL_c rfl (q_call bd_51 lk_func (.cons lk_const (.cons lk_const (.cons (lk0) .nil))) (outside_ok _ _ hsl44) (fun _ _ h => h)) ?_
            refine WL_nil ?_
            refine then_n ?_
            refine WC_if_false (lk0) (by simp [h1c]) ?_
            refine WC_skip ?_
            refine block_n (then_n ?_)
            refine WC_imp (fun _ _ h => h.drop (.cons _ <| .cons_cons _ <| .refl _)) ?_
            refine WC_reg fun ds => ?_
            refine WL_q rfl (q_add (lk8 rfl <| lk2 rfl <| lk_in rfl hs105) lk_const rfl (by omega) (by omega)) ?_
            refine WL_q rfl (q_move (lk0)) ?_
            refine WL_nil ?_
            refine then_n ⟨_, m - 1, Off.eq (ou8 rfl <| ou4 rfl <| off_over), by omega, ?_⟩
            refine ⟨_, hr, k + 1, by omega, (lk0), rfl, fun j hjk => ?_⟩
            rcases Nat.lt_succ_iff_lt_or_eq.1 hjk with hjk | rfl
            · exact hno j hjk
            · rw [seatErr_at hlt]; simp [h1c]
           ·
            replace h1c : inB 0 100 r.seats[k].light = false := by simpa using h1c
            refine WC_skip ?_
            refine then_n ?_
            refine WC_seq ?_
            refine WC_block ?_
            refine WC_seq ?_
            refine WC_reg fun ds => ?_
            refine WL_q rfl (q_move (lk1 rfl <| lk_in rfl hs105)) ?_
            refine WL_q rfl (q_index  sl_24 (lk2 rfl <| lk_off rfl <| lk2 rfl <| lk0) hr.seats.plain (lk2 rfl <| lk_in rfl hs105) rfl (by omega)) ?_
            refine WL_q rfl (q_loadN agg_66 (lk0) rfl rfl (hr.seats.whole (by omega))) ?_
            refine WL_x rfl (x_alloc zr_66 rfl fun b45 hb45 nb45 => ?_)
            refine WL_q rfl (q_assign (lk2 rfl <| lk1 rfl <| lk0)) ?_
            refine WL_x0 (x_storeA sz_66 (lk1 rfl <| lk0) (lk2 rfl <| lk0) (i := 0) rfl rfl rfl rfl Seat.enc_one (.here) ?_)
            refine WL_nil ?_
            refine then_n ?_
            refine WC_seq ?_
            refine WC_reg fun ds => ?_
            refine WL_q rfl (q_fieldAddrB fd_66_0 (lk1 rfl <| lk0)) ?_
            refine WL_q rfl (q_load1 one_3 (lk0) (Cell.own 0 rfl rfl)) ?_
            refine WL_x rfl (x_build sl_29 zr_3 rfl (.cons (lk0) .nil) rfl rfl (by decide) (by simp [Value.oneCell']) fun b46 hb46 nb46 => ?_)
            refine WL_freeze (i := 0) rfl hb46 .here fun F47 hF48 hz49 => ?_
            replace hr := hr.mono hF48
            have hsl50 := ints_box1 hz49
            refine WL_c rfl (q_call bd_51 lk_func (.cons lk_const (.cons lk_const (.cons (lk0) .nil))) (outside_ok _ _ hsl50) (fun _ _ h => h)) ?_
            refine WL_nil ?_
            refine then_n ?_
            refine WC_if_true (lk0) (by simp [h1c]) ?_
            refine WC_seq ?_
            refine WC_reg fun ds => ?_
            refine WL_q rfl (q_move (lk4 rfl <| lk0)) ?_
            refine WL_q rfl (q_assign lk_const) ?_
            refine WL_q rfl (q_assign (lk1 rfl <| lk0)) ?_
            refine WL_q rfl (q_assign lk_const) ?_
            refine WL_nil ?_
            refine then_n ?_
            refine WC_ret ?_
            refine block_r (then_r (then_r (block_r (then_r ?_))))
            refine post_ret rfl (.tmp (lk2 rfl <| lk0) (.tmp (lk1 rfl <| lk0) (.tmp (lk0) .nil))) ?_
            show _ = _
            exact (checkV3 hB hR (checkSeats_bad h3 hlt hno (by rw [seatErr_at hlt]; simp [h1c]) (by decide))).symm
          ·
           refine WC_seq ?_
           refine WC_reg fun ds => ?_
           refine WL_q rfl (q_lss (lk_in rfl hs105) (lk_off rfl <| lk1 rfl <| lk0)) ?_
           refine WL_nil ?_
           refine then_n ?_
           refine WC_seq ?_
           refine WC_if_false (lk0) (by first | rfl | exact decide_eq_false (by omega)) ?_
           have hS := checkSeats_ok h3 fun j hj => hno j (by omega)
           by_cases h4 : 8 < r.reqs.length
           ·
            refine WC_exit ?_
            refine then_x (then_x (exit_here ?_))
            refine then_n ?_
            refine WC_seq ?_
            refine WC_seq ?_
            refine WC_reg fun ds => ?_
            refine WL_q rfl (q_fieldAddrB fd_27_3 (lk1 rfl <| lk_off rfl <| lk8 rfl <| lk1 rfl <| lk_off rfl <| lk8 rfl <| lk1 rfl <| lk_off rfl <| lk8 rfl <| lk2 rfl <| lk1 rfl <| lk0)) ?_
            refine WL_q rfl (q_load1 one_25 (lk0) (Cell.own 0 rfl rfl)) ?_
            refine WL_q rfl (q_lenP sl_25 (lk0) hr.reqs.plain) ?_
            refine WL_q rfl (q_gtr (lk0) lk_const) ?_
            refine WL_nil ?_
            refine then_n ?_
            refine WC_if_true (lk0) (by first | rfl | exact decide_eq_true (by omega)) ?_
            refine WC_seq ?_
            refine WC_reg fun ds => ?_
            refine WL_q rfl (q_assign lk_const) ?_
            refine WL_q rfl (q_assign lk_const) ?_
            refine WL_q rfl (q_assign lk_const) ?_
            refine WL_nil ?_
            refine then_n ?_
            refine WC_ret ?_
            refine then_r ?_
            refine post_ret rfl (.tmp (lk2 rfl <| lk0) (.tmp (lk1 rfl <| lk0) (.tmp (lk0) .nil))) ?_
            show _ = _
            exact (checkV4 hB hR hS (checkReqs_long h4)).symm
           ·
            refine WC_exit ?_
            refine then_x (then_x (exit_here ?_))
            refine then_n ?_
            refine WC_seq ?_
            refine WC_seq ?_
            refine WC_reg fun ds => ?_
            refine WL_q rfl (q_fieldAddrB fd_27_3 (lk1 rfl <| lk_off rfl <| lk8 rfl <| lk1 rfl <| lk_off rfl <| lk8 rfl <| lk1 rfl <| lk_off rfl <| lk8 rfl <| lk2 rfl <| lk1 rfl <| lk0)) ?_
            refine WL_q rfl (q_load1 one_25 (lk0) (Cell.own 0 rfl rfl)) ?_
            refine WL_q rfl (q_lenP sl_25 (lk0) hr.reqs.plain) ?_
            refine WL_q rfl (q_gtr (lk0) lk_const) ?_
            refine WL_nil ?_
            refine then_n ?_
            refine WC_if_false (lk0) (by first | rfl | exact decide_eq_false (by omega)) ?_
            refine WC_skip ?_
            refine then_n ?_
            refine WC_seq ?_
            refine WC_seq ?_
            refine WC_reg fun ds => ?_
            refine WL_q rfl (q_fieldAddrB fd_27_3 (lk4 rfl <| lk1 rfl <| lk_off rfl <| lk8 rfl <| lk1 rfl <| lk_off rfl <| lk8 rfl <| lk1 rfl <| lk_off rfl <| lk8 rfl <| lk2 rfl <| lk1 rfl <| lk0)) ?_
            refine WL_q rfl (q_load1 one_25 (lk0) (Cell.own 0 rfl rfl)) ?_
            refine WL_q rfl (q_lenP sl_25 (lk0) hr.reqs.plain) ?_
            refine WL_q rfl (q_move lk_const) ?_
            refine WL_nil ?_
            refine then_n ?_
            refine WC_block ?_
            refine WC_loopN [2, 3, 4, 11, 12, 123, 124, 125, 126, 127, 128, 129, 130, 131, 132, 133, 134, 135, 136, 137, 138, 139, 140, 141, 142, 143, 144, 145, 146, 147, 148, 149, 150, 151, 152, 153, 154, 155, 156, 157, 158, 159, 160] (fun m e σ => ∃ G, RoomR G vb vr vs vq r ∧ ∃ k : Nat, m + k = r.reqs.length ∧ e 123 = .int .i64 k ∧ σ = ⟨G, [(b2, bx 27 [vb, vr, vs, vq])]⟩ ∧ ∀ j, j < k → reqErr r j = 0) (r.reqs.length) ?_ ?_
            · exact ⟨G, hr, 0, by omega, (lk0), rfl, fun j h => absurd h (by omega)⟩
            ·
             rintro m e _ ⟨G, hr, k, hm, hs123, rfl, hno⟩
             by_cases hlt : k < r.reqs.length
             ·
              have hL1 := hr.readers.plain.lt
              have hL2 := hr.books.plain.lt
              refine WC_seq ?_
              refine WC_reg fun ds => ?_
              refine WL_q rfl (q_lss (lk_in rfl hs123) (lk_off rfl <| lk1 rfl <| lk0)) ?_
              refine WL_nil ?_
              refine then_n ?_
              refine WC_seq ?_
              refine WC_if_true (lk0) (by first | rfl | exact decide_eq_true (by omega)) ?_
              by_cases h1 : inB 0 (r.readers.length - 1) r.reqs[k].reader = true
              ·
               refine WC_skip ?_
               refine then_n ?_
               refine WC_seq ?_
               refine WC_block ?_
               refine WC_seq ?_
               refine WC_reg fun ds => ?_
               refine WL_q rfl (q_move (lk1 rfl <| lk_in rfl hs123)) ?_
               refine WL_q rfl (q_index  sl_25 (lk2 rfl <| lk_off rfl <| lk2 rfl <| lk0) hr.reqs.plain (lk2 rfl <| lk_in rfl hs123) rfl (by omega)) ?_
               refine WL_q rfl (q_loadN agg_58 (lk0) rfl rfl (hr.reqs.whole (by omega))) ?_
               refine WL_x rfl (x_alloc zr_58 rfl fun b52 hb52 nb52 => ?_)
               refine WL_q rfl (q_assign (lk2 rfl <| lk1 rfl <| lk0)) ?_
               refine WL_x0 (x_storeA sz_58 (lk1 rfl <| lk0) (lk2 rfl <| lk0) (i := 0) rfl rfl rfl rfl Req.enc_one (.here) ?_)
               refine WL_nil ?_
               refine then_n ?_
               refine WC_block ?_
               refine WC_seq ?_
               refine WC_reg fun ds => ?_
               refine WL_q rfl (q_fieldAddrB fd_27_1 (lk4 rfl <| lk2 rfl <| lk_off rfl <| lk8 rfl <| lk1 rfl <| lk_off rfl <| lk8 rfl <| lk1 rfl <| lk_off rfl <| lk8 rfl <| lk1 rfl <| lk_off rfl <| lk8 rfl <| lk2 rfl <| lk1 rfl <| lk0)) ?_
               refine WL_q rfl (q_load1 one_23 (lk0) (Cell.own 1 rfl rfl)) ?_
               refine WL_q rfl (q_lenP sl_23 (lk0) hr.readers.plain) ?_
               refine WL_q rfl (q_sub (lk0) lk_const rfl (by omega) (by omega)) ?_
               refine WL_q rfl (q_fieldAddrB fd_58_0 (lk4 rfl <| lk1 rfl <| lk0)) ?_
               refine WL_q rfl (q_load1 one_3 (lk0) (Cell.own 0 rfl rfl)) ?_
               refine WL_x rfl (x_build sl_29 zr_3 rfl (.cons (lk0) .nil) rfl rfl (by decide) (by simp [Value.oneCell']) fun b53 hb53 nb53 => ?_)
               refine WL_freeze (i := 0) rfl hb53 .here fun F54 hF55 hz56 => ?_
               replace hr := hr.mono hF55
               have hsl57 := ints_box1 hz56
               refine WL_c rfl (q_call bd_51 lk_func (.cons lk_const (.cons (lk2 rfl <| lk1 rfl <| lk0) (.cons (lk0) .nil))) (outside_ok _ _ hsl57) (fun _ _ h => h)) ?_
               refine WL_q rfl (q_move (lk0)) ?_
               refine WL_want rfl rfl (lk0) (by simp [h1]) ?_
               refine WL_q rfl (q_fieldAddrB fd_27_0 (lk8 rfl <| lk4 rfl <| lk2 rfl <| lk1 rfl <| lk_off rfl <| lk8 rfl <| lk1 rfl <| lk_off rfl <| lk8 rfl <| lk1 rfl <| lk_off rfl <| lk8 rfl <| lk1 rfl <| lk_off rfl <| lk8 rfl <| lk2 rfl <| lk1 rfl <| lk0)) ?_
               refine WL_want rfl rfl (lk1 rfl <| lk0) (by simp [h1]) ?_
               refine WL_q rfl (q_load1 one_22 (lk0) (Cell.own 1 rfl rfl)) ?_
               refine WL_want rfl rfl (lk2 rfl <| lk0) (by simp [h1]) ?_
               refine WL_q rfl (q_lenP sl_22 (lk0) hr.books.plain) ?_
               refine WL_want rfl rfl (lk2 rfl <| lk1 rfl <| lk0) (by simp [h1]) ?_
               refine WL_q rfl (q_sub (lk0) lk_const rfl (by omega) (by omega)) ?_
               refine WL_want rfl rfl (lk4 rfl <| lk0) (by simp [h1]) ?_
               refine WL_q rfl (q_fieldAddrB fd_58_1 (lk8 rfl <| lk4 rfl <| lk2 rfl <| lk0)) ?_
               refine WL_want rfl rfl (lk4 rfl <| lk1 rfl <| lk0) (by simp [h1]) ?_
               refine WL_q rfl (q_load1 one_3 (lk0) (Cell.own 0 rfl rfl)) ?_
               refine WL_want rfl rfl (lk4 rfl <| lk2 rfl <| lk0) (by simp [h1]) ?_
               refine WL_x rfl (x_build sl_29 zr_3 rfl (.cons (lk0) .nil) rfl rfl (by decide) (by simp [Value.oneCell']) fun b58 hb58 nb58 => ?_)
               refine WL_freeze (i := 0) rfl hb58 .here fun F59 hF60 hz61 => ?_
               replace hr := hr.mono hF60
               replace hsl57 := hsl57.mono hF60
               have hsl62 := ints_box1 hz61
               refine WL_want rfl rfl (lk4 rfl <| lk2 rfl <| lk1 rfl <| lk0) (by simp [h1]) ?_
               refine WL_c rfl (q_call bd_51 lk_func (.cons lk_const (.cons (lk2 rfl <| lk1 rfl <| lk0) (.cons (lk0) .nil))) (outside_ok _ _ hsl62) (fun _ _ h => h)) ?_
               refine WL_q rfl (q_pick_false (lk8 rfl <| lk0) (by simp [h1]) (lk0)) ?_
               refine WL_q rfl (q_assign (lk0)) ?_
               refine WL_nil ?_
               refine then_n ?_
               by_cases h2 : inB 0 (r.books.length - 1) r.reqs[k].book = true
               ·
                refine WC_if_false (lk0) (by first | rfl | simp [h2]) ?_
                by_cases h3 : inB 1 12 r.reqs[k].hours = true
                ·
                 refine WC_seq ?_
                 refine WC_reg fun ds => ?_
                 refine WL_q rfl (q_fieldAddrB fd_58_2 (lk16 rfl <| lk4 rfl <| lk0)) ?_
                 refine WL_q rfl (q_load1 one_3 (lk0) (Cell.own 0 rfl rfl)) ?_
                 refine WL_x rfl (x_build sl_29 zr_3 rfl (.cons (lk0) .nil) rfl rfl (by decide) (by simp [Value.oneCell']) fun b63 hb63 nb63 => ?_)
                 refine WL_freeze (i := 0) rfl hb63 .here fun F64 hF65 hz66 => ?_
                 replace hr := hr.mono hF65
                 replace hsl57 := hsl57.mono hF65
                 replace hsl62 := hsl62.mono hF65
                 have hsl67 := ints_box1 hz66
                 refine WL_c rfl (q_call bd_51 lk_func (.cons lk_const (.cons lk_const (.cons (lk0) .nil))) (outside_ok _ _ hsl67) (fun _ _ h => h)) ?_
                 refine WL_q rfl (q_move (lk0)) ?_
                 refine WL_want rfl rfl (lk0) (by simp [h3]) ?_
                 refine WL_q rfl (q_fieldAddrB fd_58_3 (lk16 rfl <| lk8 rfl <| lk1 rfl <| lk0)) ?_
                 refine WL_want rfl rfl (lk1 rfl <| lk0) (by simp [h3]) ?_
                 refine WL_q rfl (q_load1 one_3 (lk0) (Cell.own 0 rfl rfl)) ?_
                 refine WL_want rfl rfl (lk2 rfl <| lk0) (by simp [h3]) ?_
                 refine WL_x rfl (x_build sl_29 zr_3 rfl (.cons (lk0) .nil) rfl rfl (by decide) (by simp [Value.oneCell']) fun b68 hb68 nb68 => ?_)
                 refine WL_freeze (i := 0) rfl hb68 .here fun F69 hF70 hz71 => ?_
                 replace hr := hr.mono hF70
                 replace hsl57 := hsl57.mono hF70
                 replace hsl62 := hsl62.mono hF70
                 replace hsl67 := hsl67.mono hF70
                 have hsl72 := ints_box1 hz71
                 refine WL_want rfl rfl (lk2 rfl <| lk1 rfl <| lk0) (by simp [h3]) ?_
                 refine WL_c rfl (q_call bd_51 lk_func (.cons lk_const (.cons lk_const (.cons (lk0) .nil))) (outside_ok _ _ hsl72) (fun _ _ h => h)) ?_
                 refine WL_q rfl (q_pick_false (lk4 rfl <| lk0) (by simp [h3]) (lk0)) ?_
                 refine WL_q rfl (q_assign (lk0)) ?_
                 refine WL_nil ?_
                 refine then_n ?_
                 by_cases h5 : inB 0 100 r.reqs[k].worth = true
                 ·
                  refine WC_if_false (lk0) (by first | rfl | simp [h5]) ?_
                  refine WC_skip ?_
                  refine block_n (block_n (then_n ?_))
                  refine WC_imp (fun _ _ h => h.drop (.cons _ <| .cons_cons _ <| .refl _)) ?_
                  refine WC_reg fun ds => ?_
                  refine WL_q rfl (q_add (lk32 rfl <| lk4 rfl <| lk_in rfl hs123) lk_const rfl (by omega) (by omega)) ?_
                  refine WL_q rfl (q_move (lk0)) ?_
                  refine WL_nil ?_
                  refine then_n ⟨_, m - 1, Off.eq (ou32 rfl <| ou4 rfl <| ou2 rfl <| off_over), by omega, ?_⟩
                  refine ⟨_, hr, k + 1, by omega, (lk0), rfl, fun j hjk => ?_⟩
                  rcases Nat.lt_succ_iff_lt_or_eq.1 hjk with hjk | rfl
                  · exact hno j hjk
                  · rw [reqErr_at hlt]; simp [h1, h2, h3, h5]
                 ·
                  replace h5 : inB 0 100 r.reqs[k].worth = false := by simpa using h5
                  refine WC_if_true (lk0) (by first | rfl | simp [h5]) ?_
                  refine WC_seq ?_
                  refine WC_reg fun ds => ?_
                  refine WL_q rfl (q_move (lk16 rfl <| lk8 rfl <| lk4 rfl <| lk2 rfl <| lk0)) ?_
                  refine WL_q rfl (q_assign lk_const) ?_
                  refine WL_q rfl (q_assign (lk1 rfl <| lk0)) ?_
                  refine WL_q rfl (q_assign lk_const) ?_
                  refine WL_nil ?_
                  refine then_n ?_
                  refine WC_ret ?_
                  refine block_r (block_r (then_r (then_r (block_r (then_r ?_)))))
                  refine post_ret rfl (.tmp (lk2 rfl <| lk0) (.tmp (lk1 rfl <| lk0) (.tmp (lk0) .nil))) ?_
                  show _ = _
                  exact (checkV4 hB hR hS (checkReqs_bad h4 hlt hno (by rw [reqErr_at hlt]; simp [h1, h2, h3, h5]) (by decide))).symm
                ·
                 replace h3 : inB 1 12 r.reqs[k].hours = false := by simpa using h3
                 refine WC_seq ?_
                 refine WC_reg fun ds => ?_
                 refine WL_q rfl (q_fieldAddrB fd_58_2 (lk16 rfl <| lk4 rfl <| lk0)) ?_
                 refine WL_q rfl (q_load1 one_3 (lk0) (Cell.own 0 rfl rfl)) ?_
                 refine WL_x rfl (x_build sl_29 zr_3 rfl (.cons (lk0) .nil) rfl rfl (by decide) (by simp [Value.oneCell']) fun b73 hb73 nb73 => ?_)
                 refine WL_freeze (i := 0) rfl hb73 .here fun F74 hF75 hz76 => ?_
                 replace hr := hr.mono hF75
                 replace hsl57 := hsl57.mono hF75
                 replace hsl62 := hsl62.mono hF75
                 have hsl77 := ints_box1 hz76
                 refine WL_c rfl (q_call bd_51 lk_func (.cons lk_const (.cons lk_const (.cons (lk0) .nil))) (outside_ok _ _ hsl77) (fun _ _ h => h)) ?_
                 refine WL_q rfl (q_move (lk0)) ?_
                 refine WL_pass rfl rfl (lk0) (.inl (congrArg Value.bool (by simp [h3]))) rfl ?_
                 refine WL_pass rfl rfl (lk1 rfl <| lk0) (.inl (congrArg Value.bool (by simp [h3]))) rfl ?_
                 refine WL_pass rfl rfl (lk2 rfl <| lk0) (.inl (congrArg Value.bool (by simp [h3]))) rfl ?_
                 refine WL_pass rfl rfl (lk2 rfl <| lk1 rfl <| lk0) (.inl (congrArg Value.bool (by simp [h3]))) rfl ?_
                 refine WL_q rfl (q_pick_true (lk4 rfl <| lk0) (by simp [h3]) lk_const) ?_
                 refine WL_q rfl (q_assign (lk0)) ?_
                 refine WL_nil ?_
                 refine then_n ?_
                 refine WC_if_true (lk0) (by first | rfl | simp [h3]) ?_
                 refine WC_seq ?_
                 refine WC_reg fun ds => ?_
                 refine WL_q rfl (q_move (lk16 rfl <| lk8 rfl <| lk4 rfl <| lk2 rfl <| lk0)) ?_
                 refine WL_q rfl (q_assign lk_const) ?_
                 refine WL_q rfl (q_assign (lk1 rfl <| lk0)) ?_
                 refine WL_q rfl (q_assign lk_const) ?_
                 refine WL_nil ?_
                 refine then_n ?_
                 refine WC_ret ?_
                 refine block_r (block_r (then_r (then_r (block_r (then_r ?_)))))
                 refine post_ret rfl (.tmp (lk2 rfl <| lk0) (.tmp (lk1 rfl <| lk0) (.tmp (lk0) .nil))) ?_
                 show _ = _
                 exact (checkV4 hB hR hS (checkReqs_bad h4 hlt hno (by rw [reqErr_at hlt]; simp [h1, h2, h3]) (by decide))).symm
               ·
                replace h2 : inB 0 (r.books.length - 1) r.reqs[k].book = false := by simpa using h2
                refine WC_if_true (lk0) (by first | rfl | simp [h2]) ?_
                refine WC_seq ?_
                refine WC_reg fun ds => ?_
                refine WL_q rfl (q_move (lk16 rfl <| lk2 rfl <| lk1 rfl <| lk0)) ?_
                refine WL_q rfl (q_assign lk_const) ?_
                refine WL_q rfl (q_assign (lk1 rfl <| lk0)) ?_
                refine WL_q rfl (q_assign lk_const) ?_
                refine WL_nil ?_
                refine then_n ?_
                refine WC_ret ?_
                refine block_r (block_r (then_r (then_r (block_r (then_r ?_)))))
                refine post_ret rfl (.tmp (lk2 rfl <| lk0) (.tmp (lk1 rfl <| lk0) (.tmp (lk0) .nil))) ?_
                show _ = _
                exact (checkV4 hB hR hS (checkReqs_bad h4 hlt hno (by rw [reqErr_at hlt]; simp [h1, h2]) (by decide))).symm
              ·
               replace h1 : inB 0 (r.readers.length - 1) r.reqs[k].reader = false := by simpa using h1
               refine WC_skip ?_
               refine then_n ?_
               refine WC_seq ?_
               refine WC_block ?_
               refine WC_seq ?_
               refine WC_reg fun ds => ?_
               refine WL_q rfl (q_move (lk1 rfl <| lk_in rfl hs123)) ?_
               refine WL_q rfl (q_index  sl_25 (lk2 rfl <| lk_off rfl <| lk2 rfl <| lk0) hr.reqs.plain (lk2 rfl <| lk_in rfl hs123) rfl (by omega)) ?_
               refine WL_q rfl (q_loadN agg_58 (lk0) rfl rfl (hr.reqs.whole (by omega))) ?_
               refine WL_x rfl (x_alloc zr_58 rfl fun b78 hb78 nb78 => ?_)
               refine WL_q rfl (q_assign (lk2 rfl <| lk1 rfl <| lk0)) ?_
               refine WL_x0 (x_storeA sz_58 (lk1 rfl <| lk0) (lk2 rfl <| lk0) (i := 0) rfl rfl rfl rfl Req.enc_one (.here) ?_)
               refine WL_nil ?_
               refine then_n ?_
               refine WC_block ?_
               refine WC_seq ?_
               refine WC_reg fun ds => ?_
               refine WL_q rfl (q_fieldAddrB fd_27_1 (lk4 rfl <| lk2 rfl <| lk_off rfl <| lk8 rfl <| lk1 rfl <| lk_off rfl <| lk8 rfl <| lk1 rfl <| lk_off rfl <| lk8 rfl <| lk1 rfl <| lk_off rfl <| lk8 rfl <| lk2 rfl <| lk1 rfl <| lk0)) ?_
               refine WL_q rfl (q_load1 one_23 (lk0) (Cell.own 1 rfl rfl)) ?_
               refine WL_q rfl (q_lenP sl_23 (lk0) hr.readers.plain) ?_
               refine WL_q rfl (q_sub (lk0) lk_const rfl (by omega) (by omega)) ?_
               refine WL_q rfl (q_fieldAddrB fd_58_0 (lk4 rfl <| lk1 rfl <| lk0)) ?_
               refine WL_q rfl (q_load1 one_3 (lk0) (Cell.own 0 rfl rfl)) ?_
               refine WL_x rfl (x_build sl_29 zr_3 rfl (.cons (lk0) .nil) rfl rfl (by decide) (by simp [Value.oneCell']) fun b79 hb79 nb79 => ?_)
               refine WL_freeze (i := 0) rfl hb79 .here fun F80 hF81 hz82 => ?_
               replace hr := hr.mono hF81
               have hsl83 := ints_box1 hz82
               refine WL_c rfl (q_call bd_51 lk_func (.cons lk_const (.cons (lk2 rfl <| lk1 rfl <| lk0) (.cons (lk0) .nil))) (outside_ok _ _ hsl83) (fun _ _ h => h)) ?_
               refine WL_q rfl (q_move (lk0)) ?_
               refine WL_pass rfl rfl (lk0) (.inl (congrArg Value.bool (by simp [h1]))) rfl ?_
               refine WL_pass rfl rfl (lk1 rfl <| lk0) (.inl (congrArg Value.bool (by simp [h1]))) rfl ?_
               refine WL_pass rfl rfl (lk2 rfl <| lk0) (.inl (congrArg Value.bool (by simp [h1]))) rfl ?_
               refine WL_pass rfl rfl (lk2 rfl <| lk1 rfl <| lk0) (.inl (congrArg Value.bool (by simp [h1]))) rfl ?_
               refine WL_pass rfl rfl (lk4 rfl <| lk0) (.inl (congrArg Value.bool (by simp [h1]))) rfl ?_
               refine WL_pass rfl rfl (lk4 rfl <| lk1 rfl <| lk0) (.inl (congrArg Value.bool (by simp [h1]))) rfl ?_
               refine WL_pass rfl rfl (lk4 rfl <| lk2 rfl <| lk0) (.inl (congrArg Value.bool (by simp [h1]))) rfl ?_
               refine WL_pass rfl rfl (lk4 rfl <| lk2 rfl <| lk1 rfl <| lk0) (.inl (congrArg Value.bool (by simp [h1]))) rfl ?_
               refine WL_q rfl (q_pick_true (lk8 rfl <| lk0) (by simp [h1]) lk_const) ?_
               refine WL_q rfl (q_assign (lk0)) ?_
               refine WL_nil ?_
               refine then_n ?_
               refine WC_if_true (lk0) (by first | rfl | simp [h1]) ?_
               refine WC_seq ?_
               refine WC_reg fun ds => ?_
               refine WL_q rfl (q_move (lk16 rfl <| lk2 rfl <| lk1 rfl <| lk0)) ?_
               refine WL_q rfl (q_assign lk_const) ?_
               refine WL_q rfl (q_assign (lk1 rfl <| lk0)) ?_
               refine WL_q rfl (q_assign lk_const) ?_
               refine WL_nil ?_
               refine then_n ?_
               refine WC_ret ?_
               refine block_r (block_r (then_r (then_r (block_r (then_r ?_)))))
               refine post_ret rfl (.tmp (lk2 rfl <| lk0) (.tmp (lk1 rfl <| lk0) (.tmp (lk0) .nil))) ?_
               show _ = _
               exact (checkV4 hB hR hS (checkReqs_bad h4 hlt hno (by rw [reqErr_at hlt]; simp [h1]) (by decide))).symm
             ·
              refine WC_seq ?_
              refine WC_reg fun ds => ?_
              refine WL_q rfl (q_lss (lk_in rfl hs123) (lk_off rfl <| lk1 rfl <| lk0)) ?_
              refine WL_nil ?_
              refine then_n ?_
              refine WC_seq ?_
              refine WC_if_false (lk0) (by first | rfl | exact decide_eq_false (by omega)) ?_
              refine WC_exit ?_
              refine then_x (then_x (exit_here ?_))
              refine then_n ?_
              refine WC_seq ?_
              refine WC_reg fun ds => ?_
              refine WL_q rfl (q_assign lk_const) ?_
              refine WL_q rfl (q_assign lk_const) ?_
              refine WL_q rfl (q_assign lk_const) ?_
              refine WL_nil ?_
              refine then_n ?_
              refine WC_ret ?_
              refine post_ret rfl (.tmp (lk2 rfl <| lk0) (.tmp (lk1 rfl <| lk0) (.tmp (lk0) .nil))) ?_
              show _ = _
              exact (checkV0 hB hR hS (checkReqs_ok h4 fun j hj => hno j (by omega))).symm
end Go.Proofs.Ytbcjfkcpfjccdaa
namespace Go.Proofs.Ytbcjfkcpfjccdaa
open Go.RowKit
theorem agg_60 : AggT Try.prog 60 2 := aggT_of (by kernel_rfl)
end Go.Proofs.Ytbcjfkcpfjccdaa
namespace Go.Proofs.Ytbcjfkcpfjccdaa
open Go.RowKit
theorem agg_27 : AggT Try.prog 27 4 := aggT_of (by kernel_rfl)
theorem fd_66_1 : FieldT Try.prog 66 1 1 := fieldT_of (by kernel_rfl)
theorem one_4 : OneT Try.prog 4 := oneT_of (by kernel_rfl)
end Go.Proofs.Ytbcjfkcpfjccdaa
namespace Go.Proofs.Ytbcjfkcpfjccdaa
open Go.RowKit
theorem agg_141 : AggT Try.prog 141 2 := aggT_of (by kernel_rfl)
theorem ar_110 : ArrT Try.prog 110 6 3 1 := arrT_of (by kernel_rfl)
theorem ar_111 : ArrT Try.prog 111 8 110 6 := arrT_of (by kernel_rfl)
theorem bd_96 : Body Try.prog 96 := body_of (by kernel_rfl)
theorem bd_97 : Body Try.prog 97 := body_of (by kernel_rfl)
theorem bd_98 : Body Try.prog 98 := body_of (by kernel_rfl)
theorem bd_99 : Body Try.prog 99 := body_of (by kernel_rfl)
theorem fd_114_1 : FieldT Try.prog 114 1 4 := fieldT_of (by kernel_rfl)
theorem fd_114_2 : FieldT Try.prog 114 2 52 := fieldT_of (by kernel_rfl)
theorem fd_141_0 : FieldT Try.prog 141 0 0 := fieldT_of (by kernel_rfl)
theorem fd_141_1 : FieldT Try.prog 141 1 1 := fieldT_of (by kernel_rfl)
theorem one_112 : OneT Try.prog 112 := oneT_of (by kernel_rfl)
theorem one_139 : OneT Try.prog 139 := oneT_of (by kernel_rfl)
theorem one_150 : OneT Try.prog 150 := oneT_of (by kernel_rfl)
theorem one_98 : OneT Try.prog 98 := oneT_of (by kernel_rfl)
theorem pt_60_0 : PartT Try.prog 60 0 0 3 := partT_of (by kernel_rfl)
theorem pt_62_1 : PartT Try.prog 62 1 1 3 := partT_of (by kernel_rfl)
theorem pt_62_2 : PartT Try.prog 62 2 2 60 := partT_of (by kernel_rfl)
theorem pt_62_3 : PartT Try.prog 62 3 4 4 := partT_of (by kernel_rfl)
theorem sl_112 : SliceT Try.prog 112 141 2 := sliceT_of (by kernel_rfl)
theorem sz_141 : SizeT Try.prog 141 2 := sizeT_of (by kernel_rfl)
theorem zr_141 : ZeroT Try.prog 141 (.agg #[.int .i64 0, .nilFunc]) := zeroT_of (by kernel_rfl)
def num : Num := ⟨114, 27, 141, 150, 98, 96, 97, 98, 99⟩
set_option maxRecDepth 100000 in
theorem look1_ok {F : Heap} {b c1 c8 c3 : Nat} {vb vr vs vq vl : Value} {r : Room} (hX : RoomX num F b c1 c8 c3 vb vr vs vq vl r) (hv : Valid r) {i : Nat} (hi : i < r.reqs.length) : Ok Try.prog 96 [.int .i64 i, .pointer (some ⟨c1, 0, none⟩)].toArray F fun v _ => v = .agg (Book.enc (r.bk (r.book i))).toArray := by
  refine Ok.intro Try.func96 rfl Try.ntmps96 rfl fun w0 => ?_
  obtain ⟨eB, lB⟩ := hv.book hi
  refine WC_seq ?_
  refine WC_reg fun ds => ?_
  refine WL_x rfl (x_alloc zr_62 rfl fun b1 hb1 nb1 => ?_)
  refine WL_nil ?_
  refine then_n ?_
  refine WC_seq ?_
  refine WC_drawS (.inl rfl) (fun _ _ h => h) (.cons_cons _ <| .refl _) [10] (by kernel_rfl) fun ds => ?_
  refine WX_take 0 rfl (by kernel_rfl) (by kernel_rfl) (by kernel_rfl) (by kernel_rfl) rfl rfl (fun _ h => h.drop (.cons_cons _ <| .refl _)) (fun _ _ _ h => h) (q_fieldAddrB fd_27_0 (lk1 rfl <| lk_entry rfl)) ?_
  refine WX_take 1 rfl (by kernel_rfl) (by kernel_rfl) (by kernel_rfl) (by kernel_rfl) rfl rfl (fun _ h => h.drop (.cons_cons _ <| .refl _)) (fun _ _ _ h => h) (q_load1 one_22 (lk0) (CellF.own hX.box rfl).cell) ?_
  refine WX_take 2 rfl (by kernel_rfl) (by kernel_rfl) (by kernel_rfl) (by kernel_rfl) rfl rfl (fun _ h => h.drop (.cons_cons _ <| .refl _)) (fun _ _ _ h => h) (q_fieldAddrB fd_27_3 (lk2 rfl <| lk1 rfl <| lk_entry rfl)) ?_
  refine WX_take 3 rfl (by kernel_rfl) (by kernel_rfl) (by kernel_rfl) (by kernel_rfl) rfl rfl (fun _ h => h.drop (.cons_cons _ <| .refl _)) (fun _ _ _ h => h) (q_load1 one_25 (lk0) (CellF.own hX.box rfl).cell) ?_
  refine WX_take 4 rfl (by kernel_rfl) (by kernel_rfl) (by kernel_rfl) (by kernel_rfl) rfl rfl (fun _ h => h.drop (.cons_cons _ <| .refl _)) (fun _ _ _ h => h) (q_move (lk4 rfl <| lk1 rfl <| lk_entry rfl)) ?_
  refine WX_take 5 rfl (by kernel_rfl) (by kernel_rfl) (by kernel_rfl) (by kernel_rfl) rfl rfl (fun _ h => h.drop (.cons_cons _ <| .refl _)) (fun _ _ _ h => h) (q_index  sl_25 (lk1 rfl <| lk0) hX.room.reqs.plain (lk0) rfl hi) ?_
  refine WX_take 6 rfl (by kernel_rfl) (by kernel_rfl) (by kernel_rfl) (by kernel_rfl) rfl rfl (fun _ h => h.drop (.cons_cons _ <| .refl _)) (fun _ _ _ h => h) (q_fieldAddr fd_58_1 (lk0)) ?_
  refine WX_take 7 rfl (by kernel_rfl) (by kernel_rfl) (by kernel_rfl) (by kernel_rfl) rfl rfl (fun _ h => h.drop (.cons_cons _ <| .refl _)) (fun _ _ _ h => h) (q_load1 one_3 (lk0) (hX.room.reqs.cell hi rfl)) ?_
  refine WX_take 8 rfl (by kernel_rfl) (by kernel_rfl) (by kernel_rfl) (by kernel_rfl) rfl rfl (fun _ h => h.drop (.cons_cons _ <| .refl _)) (fun _ _ _ h => h) (q_index  sl_22 (lk4 rfl <| lk2 rfl <| lk0) hX.room.books.plain (lk0) eB lB) ?_
  refine WX_take 9 rfl (by kernel_rfl) (by kernel_rfl) (by kernel_rfl) (by kernel_rfl) rfl rfl (fun _ h => h.drop (.cons_cons _ <| .refl _)) (fun _ _ _ h => h) (q_loadN agg_62 (lk0) rfl rfl (hX.room.books.whole lB)) ?_
  refine WX_x0 10 rfl (by kernel_rfl) (x_storeA sz_62 (lk8 rfl <| lk2 rfl <| lk0) (lk0) (i := 0) rfl rfl rfl rfl Book.enc_one .here ⟨(fun h => nomatch h), ?_⟩)
  refine WX_done (by kernel_rfl) ?_ _
  refine then_n ?_
  refine WC_ret ?_
  refine post_ret rfl (.agg agg_62 (lk8 rfl <| lk2 rfl <| lk0) rfl rfl (own_whole 0 rfl) .nil) ?_
  show _ = _
  rw [← bk_at lB]; rfl
set_option maxRecDepth 100000 in
theorem look2_ok {F : Heap} {b c1 c8 c3 : Nat} {vb vr vs vq vl : Value} {r : Room} (hX : RoomX num F b c1 c8 c3 vb vr vs vq vl r) (hv : Valid r) {i : Nat} (hi : i < r.reqs.length) {s : Nat} (hs : s < r.seats.length) : Ok Try.prog 97 [.int .i64 i, .int .i64 s, .pointer (some ⟨c8, 0, none⟩), .pointer (some ⟨c1, 0, none⟩)].toArray F fun v _ => v = .bool (decide ((r.rd (r.reader i)).permit < (r.bk (r.book i)).cls)) := by
  refine Ok.intro Try.func97 rfl Try.ntmps97 rfl fun w0 => ?_
  obtain ⟨eR, lR⟩ := hv.reader hi
  refine WC_seq ?_
  refine WC_reg fun ds => ?_
  refine WL_q rfl (q_assign lk_const) ?_
  refine WL_nil ?_
  refine then_n ?_
  refine WC_seq ?_
  refine WC_draw (.inl rfl) (fun _ _ h => h) (by kernel_rfl) (by kernel_rfl) fun ds => ?_
  refine WQ_q rfl (q_load1 one_150 (lk1 rfl <| lk_entry rfl) (CellF.own hX.bk rfl).cell) ?_
  refine WQ_q rfl (q_move (lk2 rfl <| lk_entry rfl)) ?_
  refine WQ_c rfl (q_call bd_96 (lk1 rfl <| lk0) (.cons (lk0) .nil) (look1_ok hX hv hi) (fun _ _ h => h)) ?_
  refine WQ_q rfl (q_field1 pt_62_1 one_3 (lk0) rfl) ?_
  refine WQ_q rfl (q_fieldAddrB fd_27_1 (lk4 rfl <| lk1 rfl <| lk_entry rfl)) ?_
  refine WQ_q rfl (q_load1 one_23 (lk0) (CellF.own hX.box rfl).cell) ?_
  refine WQ_q rfl (q_fieldAddrB fd_27_3 (lk4 rfl <| lk2 rfl <| lk1 rfl <| lk_entry rfl)) ?_
  refine WQ_q rfl (q_load1 one_25 (lk0) (CellF.own hX.box rfl).cell) ?_
  refine WQ_q rfl (q_move (lk8 rfl <| lk1 rfl <| lk_entry rfl)) ?_
  refine WQ_q rfl (q_index  sl_25 (lk1 rfl <| lk0) hX.room.reqs.plain (lk0) rfl hi) ?_
  refine WQ_q rfl (q_fieldAddr fd_58_0 (lk0)) ?_
  refine WQ_q rfl (q_load1 one_3 (lk0) (hX.room.reqs.cell hi rfl)) ?_
  refine WQ_q rfl (q_index  sl_23 (lk4 rfl <| lk2 rfl <| lk0) hX.room.readers.plain (lk0) eR lR) ?_
  refine WQ_q rfl (q_fieldAddr fd_64_1 (lk0)) ?_
  refine WQ_q rfl (q_load1 one_3 (lk0) (hX.room.readers.cell lR rfl)) ?_
  refine WQ_q rfl (q_gtr (lk8 rfl <| lk2 rfl <| lk1 rfl <| lk0) (lk0)) ?_
  refine WQ_q rfl (q_assign (lk0)) ?_
  refine WQ_nil ?_
  refine then_n ?_
  refine WC_ret ?_
  refine post_ret rfl (.tmp (lk0) .nil) ?_
  show _ = _
  rw [← rd_at lR]; rfl
set_option maxRecDepth 100000 in
theorem look3_ok {F : Heap} {b c1 c8 c3 : Nat} {vb vr vs vq vl : Value} {r : Room} (hX : RoomX num F b c1 c8 c3 vb vr vs vq vl r) (hv : Valid r) {i : Nat} (hi : i < r.reqs.length) {s : Nat} (hs : s < r.seats.length) : Ok Try.prog 98 [.int .i64 i, .int .i64 s, .pointer (some ⟨c8, 0, none⟩), .pointer (some ⟨c1, 0, none⟩)].toArray F fun v _ => v = .bool ((r.bk (r.book i)).large && (r.seat s).small) := by
  refine Ok.intro Try.func98 rfl Try.ntmps98 rfl fun w0 => ?_
  by_cases hl : (r.bk (r.book i)).large = true
  ·
   refine WC_seq ?_
   refine WC_reg fun ds => ?_
   refine WL_q rfl (q_assign lk_const) ?_
   refine WL_nil ?_
   refine then_n ?_
   refine WC_seq ?_
   refine WC_reg fun ds => ?_
   refine WL_q rfl (q_load1 one_150 (lk1 rfl <| lk_entry rfl) (CellF.own hX.bk rfl).cell) ?_
   refine WL_q rfl (q_move (lk2 rfl <| lk_entry rfl)) ?_
   refine WL_c rfl (q_call bd_96 (lk1 rfl <| lk0) (.cons (lk0) .nil) (look1_ok hX hv hi) (fun _ _ h => h)) ?_
   refine WL_q rfl (q_field1 pt_62_3 one_4 (lk0) rfl) ?_
   refine WL_q rfl (q_move (lk0)) ?_
   refine WL_want rfl rfl (lk0) hl ?_
   refine WL_q rfl (q_fieldAddrB fd_27_2 (lk4 rfl <| lk2 rfl <| lk_entry rfl)) ?_
   refine WL_want rfl rfl (lk1 rfl <| lk0) hl ?_
   refine WL_q rfl (q_load1 one_24 (lk0) (CellF.own hX.box rfl).cell) ?_
   refine WL_want rfl rfl (lk2 rfl <| lk0) hl ?_
   refine WL_q rfl (q_move (lk8 rfl <| lk_entry rfl)) ?_
   refine WL_want rfl rfl (lk2 rfl <| lk1 rfl <| lk0) hl ?_
   refine WL_q rfl (q_index  sl_24 (lk1 rfl <| lk0) hX.room.seats.plain (lk0) rfl hs) ?_
   refine WL_want rfl rfl (lk4 rfl <| lk0) hl ?_
   refine WL_q rfl (q_fieldAddr fd_66_1 (lk0)) ?_
   refine WL_want rfl rfl (lk4 rfl <| lk1 rfl <| lk0) hl ?_
   refine WL_q rfl (q_load1 one_4 (lk0) (hX.room.seats.cell hs rfl)) ?_
   refine WL_q rfl (q_pick_true (lk4 rfl <| lk2 rfl <| lk0) hl (lk0)) ?_
   refine WL_q rfl (q_assign (lk0)) ?_
   refine WL_nil ?_
   refine then_n ?_
   refine WC_ret ?_
   refine post_ret rfl (.tmp (lk0) .nil) ?_
   show _ = _
   rw [hl, ← seat_at hs]; rfl
  ·
   replace hl : (r.bk (r.book i)).large = false := by simpa using hl
   refine WC_seq ?_
   refine WC_reg fun ds => ?_
   refine WL_q rfl (q_assign lk_const) ?_
   refine WL_nil ?_
   refine then_n ?_
   refine WC_seq ?_
   refine WC_reg fun ds => ?_
   refine WL_q rfl (q_load1 one_150 (lk1 rfl <| lk_entry rfl) (CellF.own hX.bk rfl).cell) ?_
   refine WL_q rfl (q_move (lk2 rfl <| lk_entry rfl)) ?_
   refine WL_c rfl (q_call bd_96 (lk1 rfl <| lk0) (.cons (lk0) .nil) (look1_ok hX hv hi) (fun _ _ h => h)) ?_
   refine WL_q rfl (q_field1 pt_62_3 one_4 (lk0) rfl) ?_
   refine WL_q rfl (q_move (lk0)) ?_
   refine WL_pass rfl rfl (lk0) (.inl (congrArg Value.bool hl)) rfl ?_
   refine WL_pass rfl rfl (lk1 rfl <| lk0) (.inl (congrArg Value.bool hl)) rfl ?_
   refine WL_pass rfl rfl (lk2 rfl <| lk0) (.inl (congrArg Value.bool hl)) rfl ?_
   refine WL_pass rfl rfl (lk2 rfl <| lk1 rfl <| lk0) (.inl (congrArg Value.bool hl)) rfl ?_
   refine WL_pass rfl rfl (lk4 rfl <| lk0) (.inl (congrArg Value.bool hl)) rfl ?_
   refine WL_pass rfl rfl (lk4 rfl <| lk1 rfl <| lk0) (.inl (congrArg Value.bool hl)) rfl ?_
   refine WL_q rfl (q_pick_false (lk4 rfl <| lk2 rfl <| lk0) hl lk_const) ?_
   refine WL_q rfl (q_assign (lk0)) ?_
   refine WL_nil ?_
   refine then_n ?_
   refine WC_ret ?_
   refine post_ret rfl (.tmp (lk0) .nil) ?_
   show _ = _
   rw [hl]; rfl
set_option maxRecDepth 100000 in
theorem look4_ok {F : Heap} {b c1 c8 c3 : Nat} {vb vr vs vq vl : Value} {r : Room} (hX : RoomX num F b c1 c8 c3 vb vr vs vq vl r) (hv : Valid r) {i : Nat} (hi : i < r.reqs.length) {s : Nat} (hs : s < r.seats.length) : Ok Try.prog 99 [.int .i64 i, .int .i64 s, .pointer (some ⟨c3, 0, none⟩), .pointer (some ⟨c8, 0, none⟩)].toArray F fun v _ => v = .bool (decide ((r.bk (r.book i)).lo < light r i s)) := by
  refine Ok.intro Try.func99 rfl Try.ntmps99 rfl fun w0 => ?_
  have h8 := hv.nq
  have h6 := hv.ns
  refine WC_seq ?_
  refine WC_reg fun ds => ?_
  refine WL_q rfl (q_assign lk_const) ?_
  refine WL_nil ?_
  refine then_n ?_
  refine WC_seq ?_
  refine WC_draw (.inl rfl) (fun _ _ h => h) (by kernel_rfl) (by kernel_rfl) fun ds => ?_
  refine WQ_q rfl (q_load1 one_98 (lk1 rfl <| lk_entry rfl) (CellF.own hX.me rfl).cell) ?_
  refine WQ_q rfl (q_move (lk2 rfl <| lk_entry rfl)) ?_
  refine WQ_q rfl (q_move (lk2 rfl <| lk1 rfl <| lk_entry rfl)) ?_
  refine WQ_q rfl (q_nilCheck (lk2 rfl <| lk0)) ?_
  refine WQ_q rfl (q_fieldAddrB fd_114_1 (lk0)) ?_
  refine WQ_q rfl (q_indexArrB  ar_111 (lk0) (lk2 rfl <| lk1 rfl <| lk0) rfl (by omega)) ?_
  refine WQ_q rfl (q_indexArrB  ar_110 (lk0) (lk2 rfl <| lk1 rfl <| lk0) rfl (by omega)) ?_
  refine WQ_q rfl (q_load1 one_3 (lk0) (hX.light_cell (by omega : i < 8) (by omega : s < 6)).cell) ?_
  refine WQ_q rfl (q_load1 one_150 (lk8 rfl <| lk1 rfl <| lk_entry rfl) (CellF.own hX.bk rfl).cell) ?_
  refine WQ_q rfl (q_move (lk8 rfl <| lk2 rfl <| lk_entry rfl)) ?_
  refine WQ_c rfl (q_call bd_96 (lk1 rfl <| lk0) (.cons (lk0) .nil) (look1_ok hX hv hi) (fun _ _ h => h)) ?_
  refine WQ_q rfl (q_fieldN pt_62_2 agg_60 (lk0) rfl) ?_
  refine WQ_q rfl (q_field1 pt_60_0 one_3 (lk0) rfl) ?_
  refine WQ_q rfl (q_gtr (lk4 rfl <| lk1 rfl <| lk0) (lk0)) ?_
  refine WQ_q rfl (q_assign (lk0)) ?_
  refine WQ_nil ?_
  refine then_n ?_
  refine WC_ret ?_
  refine post_ret rfl (.tmp (lk0) .nil) ?_
  rfl
set_option maxRecDepth 100000 in
theorem why_ok {F : Heap} {b c1 c8 c3 : Nat} {vb vr vs vq vl : Value} {r : Room} (hX : RoomX num F b c1 c8 c3 vb vr vs vq vl r) (hv : Valid r) {i : Nat} (hi : i < r.reqs.length) {s : Nat} (hs : s < r.seats.length) : Ok Try.prog 58 [.pointer (some ⟨b, 0, none⟩), .int .i64 i, .int .i64 s].toArray F fun v _ => v = .int .i64 (reason r i s) := by
  refine Ok.intro Try.func58 rfl Try.ntmps58 rfl fun w0 => ?_
  have hrl := hX.rules.plain.lt
  refine WC_seq ?_
  refine WC_reg fun ds => ?_
  refine WL_q rfl (q_assign lk_const) ?_
  refine WL_nil ?_
  refine then_n ?_
  refine WC_seq ?_
  refine WC_seq ?_
  refine WC_reg fun ds => ?_
  refine WL_q rfl (q_move (lk1 rfl <| lk_entry rfl)) ?_
  refine WL_q rfl (q_nilCheck (lk0)) ?_
  refine WL_q rfl (q_fieldAddrB fd_114_2 (lk0)) ?_
  refine WL_q rfl (q_load1 one_112 (lk0) hX.rule_cell.cell) ?_
  refine WL_q rfl (q_lenP sl_112 (lk0) hX.rules.plain) ?_
  refine WL_q rfl (q_move lk_const) ?_
  refine WL_nil ?_
  refine then_n ?_
  refine WC_block ?_
  refine WC_loopN [6, 8, 14, 15, 16, 17, 18, 19, 20, 21, 22, 23, 24, 25] (fun m e σ => ∃ k : Nat, m + k = 3 ∧ e 14 = .int .i64 k ∧ σ = ⟨F, []⟩ ∧ (0 < k → ¬ (r.rd (r.reader i)).permit < (r.bk (r.book i)).cls) ∧ (1 < k → ¬ ((r.bk (r.book i)).large = true ∧ (r.seat s).small = true)) ∧ (2 < k → ¬ (r.bk (r.book i)).lo < light r i s)) (3) ?_ ?_
  · exact ⟨0, by omega, (lk0), rfl, fun h => absurd h (by omega), fun h => absurd h (by omega), fun h => absurd h (by omega)⟩
  ·
   rintro m e _ ⟨k, hm, hs14, rfl, hA, hB, hC⟩
   rcases (show k = 0 ∨ k = 1 ∨ k = 2 ∨ k = 3 by omega) with hk | hk | hk | hk
   ·
    subst hk
    refine WC_seq ?_
    refine WC_reg fun ds => ?_
    refine WL_q rfl (q_lss (lk_in rfl hs14) (lk_off rfl <| lk1 rfl <| lk0)) ?_
    refine WL_nil ?_
    refine then_n ?_
    refine WC_seq ?_
    refine WC_if_true (lk0) (by first | rfl | exact decide_eq_true (by omega)) ?_
    by_cases h0 : (r.rd (r.reader i)).permit < (r.bk (r.book i)).cls
    ·
     refine WC_skip ?_
     refine then_n ?_
     refine WC_seq ?_
     refine WC_block ?_
     refine WC_seq ?_
     refine WC_reg fun ds => ?_
     refine WL_q rfl (q_index  sl_112 (lk1 rfl <| lk_off rfl <| lk2 rfl <| lk0) hX.rules.plain (lk1 rfl <| lk_in rfl hs14) rfl (by show _ < 3; omega)) ?_
     refine WL_q rfl (q_loadN agg_141 (lk0) rfl rfl (hX.rules.whole (by show _ < 3; omega))) ?_
     refine WL_x rfl (x_alloc zr_141 rfl fun b2 hb2 nb2 => ?_)
     refine WL_x0 (x_storeA sz_141 (lk0) (lk1 rfl <| lk0) (i := 0) rfl rfl rfl rfl (ruleE_one rfl) (.here) ?_)
     refine WL_nil ?_
     refine then_n ?_
     refine WC_seq ?_
     refine WC_reg fun ds => ?_
     refine WL_q rfl (q_fieldAddrB fd_141_1 (lk0)) ?_
     refine WL_q rfl (q_load1 one_139 (lk0) (Cell.own 0 rfl rfl)) ?_
     refine WL_q rfl (q_move (lk4 rfl <| lk2 rfl <| lk_off rfl <| lk4 rfl <| lk2 rfl <| lk1 rfl <| lk_entry rfl)) ?_
     refine WL_q rfl (q_move (lk4 rfl <| lk2 rfl <| lk1 rfl <| lk_off rfl <| lk4 rfl <| lk2 rfl <| lk1 rfl <| lk_entry rfl)) ?_
     refine WL_c rfl (q_call bd_97 (lk2 rfl <| lk0) (.cons (lk1 rfl <| lk0) (.cons (lk0) .nil)) (look2_ok hX hv hi hs) (fun _ _ h => h)) ?_
     refine WL_nil ?_
     refine then_n ?_
     refine WC_if_true (lk0) (decide_eq_true h0) ?_
     refine WC_seq ?_
     refine WC_reg fun ds => ?_
     refine WL_q rfl (q_fieldAddrB fd_141_0 (lk4 rfl <| lk1 rfl <| lk0)) ?_
     refine WL_q rfl (q_load1 one_3 (lk0) (Cell.own 0 rfl rfl)) ?_
     refine WL_q rfl (q_assign (lk0)) ?_
     refine WL_nil ?_
     refine then_n ?_
     refine WC_ret ?_
     refine block_r (then_r (then_r (block_r (then_r ?_))))
     refine post_ret rfl (.tmp (lk0) .nil) ?_
     show _ = _
     unfold reason; rw [if_pos h0]; rfl
    ·
     refine WC_skip ?_
     refine then_n ?_
     refine WC_seq ?_
     refine WC_block ?_
     refine WC_seq ?_
     refine WC_reg fun ds => ?_
     refine WL_q rfl (q_index  sl_112 (lk1 rfl <| lk_off rfl <| lk2 rfl <| lk0) hX.rules.plain (lk1 rfl <| lk_in rfl hs14) rfl (by show _ < 3; omega)) ?_
     refine WL_q rfl (q_loadN agg_141 (lk0) rfl rfl (hX.rules.whole (by show _ < 3; omega))) ?_
     refine WL_x rfl (x_alloc zr_141 rfl fun b3 hb3 nb3 => ?_)
     refine WL_x0 (x_storeA sz_141 (lk0) (lk1 rfl <| lk0) (i := 0) rfl rfl rfl rfl (ruleE_one rfl) (.here) ?_)
     refine WL_nil ?_
     refine then_n ?_
     refine WC_seq ?_
     refine WC_reg fun ds => ?_
     refine WL_q rfl (q_fieldAddrB fd_141_1 (lk0)) ?_
     refine WL_q rfl (q_load1 one_139 (lk0) (Cell.own 0 rfl rfl)) ?_
     refine WL_q rfl (q_move (lk4 rfl <| lk2 rfl <| lk_off rfl <| lk4 rfl <| lk2 rfl <| lk1 rfl <| lk_entry rfl)) ?_
     refine WL_q rfl (q_move (lk4 rfl <| lk2 rfl <| lk1 rfl <| lk_off rfl <| lk4 rfl <| lk2 rfl <| lk1 rfl <| lk_entry rfl)) ?_
     refine WL_c rfl (q_call bd_97 (lk2 rfl <| lk0) (.cons (lk1 rfl <| lk0) (.cons (lk0) .nil)) (look2_ok hX hv hi hs) (fun _ _ h => h)) ?_
     refine WL_nil ?_
     refine then_n ?_
     refine WC_if_false (lk0) (decide_eq_false h0) ?_
     refine WC_skip ?_
     refine block_n (then_n ?_)
     refine WC_imp (fun _ _ h => h.drop (.cons _ <| .refl _)) ?_
     refine WC_reg fun ds => ?_
     refine WL_q rfl (q_add (lk8 rfl <| lk1 rfl <| lk_in rfl hs14) lk_const rfl (by omega) (by omega)) ?_
     refine WL_q rfl (q_move (lk0)) ?_
     refine WL_nil ?_
     refine then_n ⟨_, m - 1, Off.eq (ou8 rfl <| ou2 rfl <| ou1 rfl <| off_over), by omega, ?_⟩
     refine ⟨1, by omega, (lk0), rfl, fun _ => h0, fun h => absurd h (by omega), fun h => absurd h (by omega)⟩
   ·
    subst hk
    refine WC_seq ?_
    refine WC_reg fun ds => ?_
    refine WL_q rfl (q_lss (lk_in rfl hs14) (lk_off rfl <| lk1 rfl <| lk0)) ?_
    refine WL_nil ?_
    refine then_n ?_
    refine WC_seq ?_
    refine WC_if_true (lk0) (by first | rfl | exact decide_eq_true (by omega)) ?_
    by_cases h0 : ((r.bk (r.book i)).large = true ∧ (r.seat s).small = true)
    ·
     refine WC_skip ?_
     refine then_n ?_
     refine WC_seq ?_
     refine WC_block ?_
     refine WC_seq ?_
     refine WC_reg fun ds => ?_
     refine WL_q rfl (q_index  sl_112 (lk1 rfl <| lk_off rfl <| lk2 rfl <| lk0) hX.rules.plain (lk1 rfl <| lk_in rfl hs14) rfl (by show _ < 3; omega)) ?_
     refine WL_q rfl (q_loadN agg_141 (lk0) rfl rfl (hX.rules.whole (by show _ < 3; omega))) ?_
     refine WL_x rfl (x_alloc zr_141 rfl fun b4 hb4 nb4 => ?_)
     refine WL_x0 (x_storeA sz_141 (lk0) (lk1 rfl <| lk0) (i := 0) rfl rfl rfl rfl (ruleE_one rfl) (.here) ?_)
     refine WL_nil ?_
     refine then_n ?_
     refine WC_seq ?_
     refine WC_reg fun ds => ?_
     refine WL_q rfl (q_fieldAddrB fd_141_1 (lk0)) ?_
     refine WL_q rfl (q_load1 one_139 (lk0) (Cell.own 0 rfl rfl)) ?_
     refine WL_q rfl (q_move (lk4 rfl <| lk2 rfl <| lk_off rfl <| lk4 rfl <| lk2 rfl <| lk1 rfl <| lk_entry rfl)) ?_
     refine WL_q rfl (q_move (lk4 rfl <| lk2 rfl <| lk1 rfl <| lk_off rfl <| lk4 rfl <| lk2 rfl <| lk1 rfl <| lk_entry rfl)) ?_
     refine WL_c rfl (q_call bd_98 (lk2 rfl <| lk0) (.cons (lk1 rfl <| lk0) (.cons (lk0) .nil)) (look3_ok hX hv hi hs) (fun _ _ h => h)) ?_
     refine WL_nil ?_
     refine then_n ?_
     refine WC_if_true (lk0) (by simp [h0]) ?_
     refine WC_seq ?_
     refine WC_reg fun ds => ?_
     refine WL_q rfl (q_fieldAddrB fd_141_0 (lk4 rfl <| lk1 rfl <| lk0)) ?_
     refine WL_q rfl (q_load1 one_3 (lk0) (Cell.own 0 rfl rfl)) ?_
     refine WL_q rfl (q_assign (lk0)) ?_
     refine WL_nil ?_
     refine then_n ?_
     refine WC_ret ?_
     refine block_r (then_r (then_r (block_r (then_r ?_))))
     refine post_ret rfl (.tmp (lk0) .nil) ?_
     show _ = _
     unfold reason; rw [if_neg (hA (by omega)), if_pos h0]; rfl
    ·
     refine WC_skip ?_
     refine then_n ?_
     refine WC_seq ?_
     refine WC_block ?_
     refine WC_seq ?_
     refine WC_reg fun ds => ?_
     refine WL_q rfl (q_index  sl_112 (lk1 rfl <| lk_off rfl <| lk2 rfl <| lk0) hX.rules.plain (lk1 rfl <| lk_in rfl hs14) rfl (by show _ < 3; omega)) ?_
     refine WL_q rfl (q_loadN agg_141 (lk0) rfl rfl (hX.rules.whole (by show _ < 3; omega))) ?_
     refine WL_x rfl (x_alloc zr_141 rfl fun b5 hb5 nb5 => ?_)
     refine WL_x0 (x_storeA sz_141 (lk0) (lk1 rfl <| lk0) (i := 0) rfl rfl rfl rfl (ruleE_one rfl) (.here) ?_)
     refine WL_nil ?_
     refine then_n ?_
     refine WC_seq ?_
     refine WC_reg fun ds => ?_
     refine WL_q rfl (q_fieldAddrB fd_141_1 (lk0)) ?_
     refine WL_q rfl (q_load1 one_139 (lk0) (Cell.own 0 rfl rfl)) ?_
     refine WL_q rfl (q_move (lk4 rfl <| lk2 rfl <| lk_off rfl <| lk4 rfl <| lk2 rfl <| lk1 rfl <| lk_entry rfl)) ?_
     refine WL_q rfl (q_move (lk4 rfl <| lk2 rfl <| lk1 rfl <| lk_off rfl <| lk4 rfl <| lk2 rfl <| lk1 rfl <| lk_entry rfl)) ?_
     refine WL_c rfl (q_call bd_98 (lk2 rfl <| lk0) (.cons (lk1 rfl <| lk0) (.cons (lk0) .nil)) (look3_ok hX hv hi hs) (fun _ _ h => h)) ?_
     refine WL_nil ?_
     refine then_n ?_
     refine WC_if_false (lk0) (by simp only [Bool.and_eq_false_iff]; rcases Decidable.not_and_iff_or_not.1 h0 with h | h; (exact .inl (by simpa using h)); (exact .inr (by simpa using h))) ?_
     refine WC_skip ?_
     refine block_n (then_n ?_)
     refine WC_imp (fun _ _ h => h.drop (.cons _ <| .refl _)) ?_
     refine WC_reg fun ds => ?_
     refine WL_q rfl (q_add (lk8 rfl <| lk1 rfl <| lk_in rfl hs14) lk_const rfl (by omega) (by omega)) ?_
     refine WL_q rfl (q_move (lk0)) ?_
     refine WL_nil ?_
     refine then_n ⟨_, m - 1, Off.eq (ou8 rfl <| ou2 rfl <| ou1 rfl <| off_over), by omega, ?_⟩
     refine ⟨2, by omega, (lk0), rfl, fun _ => hA (by omega), fun _ => h0, fun h => absurd h (by omega)⟩
   ·
    subst hk
    refine WC_seq ?_
    refine WC_reg fun ds => ?_
    refine WL_q rfl (q_lss (lk_in rfl hs14) (lk_off rfl <| lk1 rfl <| lk0)) ?_
    refine WL_nil ?_
    refine then_n ?_
    refine WC_seq ?_
    refine WC_if_true (lk0) (by first | rfl | exact decide_eq_true (by omega)) ?_
    by_cases h0 : (r.bk (r.book i)).lo < light r i s
    ·
     refine WC_skip ?_
     refine then_n ?_
     refine WC_seq ?_
     refine WC_block ?_
     refine WC_seq ?_
     refine WC_reg fun ds => ?_
     refine WL_q rfl (q_index  sl_112 (lk1 rfl <| lk_off rfl <| lk2 rfl <| lk0) hX.rules.plain (lk1 rfl <| lk_in rfl hs14) rfl (by show _ < 3; omega)) ?_
     refine WL_q rfl (q_loadN agg_141 (lk0) rfl rfl (hX.rules.whole (by show _ < 3; omega))) ?_
     refine WL_x rfl (x_alloc zr_141 rfl fun b6 hb6 nb6 => ?_)
     refine WL_x0 (x_storeA sz_141 (lk0) (lk1 rfl <| lk0) (i := 0) rfl rfl rfl rfl (ruleE_one rfl) (.here) ?_)
     refine WL_nil ?_
     refine then_n ?_
     refine WC_seq ?_
     refine WC_reg fun ds => ?_
     refine WL_q rfl (q_fieldAddrB fd_141_1 (lk0)) ?_
     refine WL_q rfl (q_load1 one_139 (lk0) (Cell.own 0 rfl rfl)) ?_
     refine WL_q rfl (q_move (lk4 rfl <| lk2 rfl <| lk_off rfl <| lk4 rfl <| lk2 rfl <| lk1 rfl <| lk_entry rfl)) ?_
     refine WL_q rfl (q_move (lk4 rfl <| lk2 rfl <| lk1 rfl <| lk_off rfl <| lk4 rfl <| lk2 rfl <| lk1 rfl <| lk_entry rfl)) ?_
     refine WL_c rfl (q_call bd_99 (lk2 rfl <| lk0) (.cons (lk1 rfl <| lk0) (.cons (lk0) .nil)) (look4_ok hX hv hi hs) (fun _ _ h => h)) ?_
     refine WL_nil ?_
     refine then_n ?_
     refine WC_if_true (lk0) (decide_eq_true h0) ?_
     refine WC_seq ?_
     refine WC_reg fun ds => ?_
     refine WL_q rfl (q_fieldAddrB fd_141_0 (lk4 rfl <| lk1 rfl <| lk0)) ?_
     refine WL_q rfl (q_load1 one_3 (lk0) (Cell.own 0 rfl rfl)) ?_
     refine WL_q rfl (q_assign (lk0)) ?_
     refine WL_nil ?_
     refine then_n ?_
     refine WC_ret ?_
     refine block_r (then_r (then_r (block_r (then_r ?_))))
     refine post_ret rfl (.tmp (lk0) .nil) ?_
     show _ = _
     unfold reason; rw [if_neg (hA (by omega)), if_neg (hB (by omega)), if_pos h0]; rfl
    ·
     refine WC_skip ?_
     refine then_n ?_
     refine WC_seq ?_
     refine WC_block ?_
     refine WC_seq ?_
     refine WC_reg fun ds => ?_
     refine WL_q rfl (q_index  sl_112 (lk1 rfl <| lk_off rfl <| lk2 rfl <| lk0) hX.rules.plain (lk1 rfl <| lk_in rfl hs14) rfl (by show _ < 3; omega)) ?_
     refine WL_q rfl (q_loadN agg_141 (lk0) rfl rfl (hX.rules.whole (by show _ < 3; omega))) ?_
     refine WL_x rfl (x_alloc zr_141 rfl fun b7 hb7 nb7 => ?_)
     refine WL_x0 (x_storeA sz_141 (lk0) (lk1 rfl <| lk0) (i := 0) rfl rfl rfl rfl (ruleE_one rfl) (.here) ?_)
     refine WL_nil ?_
     refine then_n ?_
     refine WC_seq ?_
     refine WC_reg fun ds => ?_
     refine WL_q rfl (q_fieldAddrB fd_141_1 (lk0)) ?_
     refine WL_q rfl (q_load1 one_139 (lk0) (Cell.own 0 rfl rfl)) ?_
     refine WL_q rfl (q_move (lk4 rfl <| lk2 rfl <| lk_off rfl <| lk4 rfl <| lk2 rfl <| lk1 rfl <| lk_entry rfl)) ?_
     refine WL_q rfl (q_move (lk4 rfl <| lk2 rfl <| lk1 rfl <| lk_off rfl <| lk4 rfl <| lk2 rfl <| lk1 rfl <| lk_entry rfl)) ?_
     refine WL_c rfl (q_call bd_99 (lk2 rfl <| lk0) (.cons (lk1 rfl <| lk0) (.cons (lk0) .nil)) (look4_ok hX hv hi hs) (fun _ _ h => h)) ?_
     refine WL_nil ?_
     refine then_n ?_
     refine WC_if_false (lk0) (decide_eq_false h0) ?_
     refine WC_skip ?_
     refine block_n (then_n ?_)
     refine WC_imp (fun _ _ h => h.drop (.cons _ <| .refl _)) ?_
     refine WC_reg fun ds => ?_
     refine WL_q rfl (q_add (lk8 rfl <| lk1 rfl <| lk_in rfl hs14) lk_const rfl (by omega) (by omega)) ?_
     refine WL_q rfl (q_move (lk0)) ?_
     refine WL_nil ?_
     refine then_n ⟨_, m - 1, Off.eq (ou8 rfl <| ou2 rfl <| ou1 rfl <| off_over), by omega, ?_⟩
     refine ⟨3, by omega, (lk0), rfl, fun _ => hA (by omega), fun _ => hB (by omega), fun _ => h0⟩
   ·
    subst hk
    refine WC_seq ?_
    refine WC_reg fun ds => ?_
    refine WL_q rfl (q_lss (lk_in rfl hs14) (lk_off rfl <| lk1 rfl <| lk0)) ?_
    refine WL_nil ?_
    refine then_n ?_
    refine WC_seq ?_
    refine WC_if_false (lk0) (by first | rfl | exact decide_eq_false (by omega)) ?_
    refine WC_exit ?_
    refine then_x (then_x (exit_here ?_))
    refine then_n ?_
    refine WC_seq ?_
    refine WC_reg fun ds => ?_
    refine WL_q rfl (q_assign lk_const) ?_
    refine WL_nil ?_
    refine then_n ?_
    refine WC_ret ?_
    refine post_ret rfl (.tmp (lk0) .nil) ?_
    show _ = _
    unfold reason; rw [if_neg (hA (by omega)), if_neg (hB (by omega)), if_neg (hC (by omega))]; rfl
end Go.Proofs.Ytbcjfkcpfjccdaa
