/-
  A part of a proof: TopReturned returns true of any copy, any sale, any lot and any ring, and leaves what it is handed as it was. No conditions.
-/
import Derived.Test.YtkjfmibiinfhfacGreatPaa
import Derived.Test.YtkjfmibiinfhfacGreatRows
import Derived.WalkKit
import Derived.OpenShut
import Derived.ShutString
import Derived.ChangeOld
import Derived.Below
import Derived.KernelRfl
import Derived.Test.YtkjfmibiinfhfacGreatProg
namespace Go.Proofs.YtkjfmibiinfhfacGreat
set_option synthInstance.maxSize 4000
set_option synthInstance.maxHeartbeats 1000000
section
theorem D7 {g : Gth} {k : Nat} (h : chgErr g k = 0) : inB 1 3 (g.c k).kind = true ∧ inB (chgLo (g.c k)) g.leaves (g.c k).pos = true ∧ chgMany (g.c k) = true ∧ (0 < k → ¬ (g.c k).pos < (g.c (k - 1)).pos ∧ ((g.c k).pos = (g.c (k - 1)).pos → (g.c k).kind = 3 ∧ (g.c (k - 1)).kind ≠ 3)) := by
 unfold chgErr at h
 split at h
 · cases h
 rename_i a1
 split at h
 · cases h
 rename_i a2
 split at h
 · cases h
 rename_i a3
 rw [Bool.not_eq_false, Bool.and_eq_true] at a2
 refine ⟨by simpa using a1, a2.1, a2.2, fun hk => ⟨fun q => a3 ⟨hk, .inl q⟩, fun q => ⟨?_, fun q2 => a3 ⟨hk, .inr ⟨q, .inr q2⟩⟩⟩⟩⟩
 by_cases q3 : (g.c k).kind = 3
 · exact q3
 exact absurd ⟨hk, .inr ⟨q, .inl q3⟩⟩ a3
def plusTo (g : Gth) (n : Int) : Nat → Int × Int
 | 0 => (0, 0)
 | k + 1 => (if (g.c k).pos = n ∧ (g.c k).kind = 3 then (g.c k).many else (plusTo g n k).1, if (g.c k).pos = n ∧ (g.c k).kind ≠ 3 then (g.c k).kind else (plusTo g n k).2)
theorem Hp {g : Gth} {n : Int} {k : Nat} : (plusTo g n (k + 1)).1 = if (g.c k).pos = n ∧ (g.c k).kind = 3 then (g.c k).many else (plusTo g n k).1 := rfl
theorem Ho {g : Gth} {n : Int} {k : Nat} : (plusTo g n (k + 1)).2 = if (g.c k).pos = n ∧ (g.c k).kind ≠ 3 then (g.c k).kind else (plusTo g n k).2 := rfl
def plusG (g : Gth) (n : Int) : Int × Int := plusTo g n g.chs.length
def newTo (i n k : Nat) : List Ql := (List.range k).map fun (k : Nat) => ⟨i, n, (k : Int) + 1, 2⟩
def ownQ (i n : Nat) (kind : Int) : List Ql := if 0 < n ∧ kind ≠ 1 then [⟨i, n, 0, if kind = 2 then 1 else 0⟩] else []
def leafQ (b : Qbk) (i n : Nat) : List Ql := ownQ i n (plusG (b.g i) n).2 ++ newTo i n (plusG (b.g i) n).1.toNat
def gthL (b : Qbk) (i t : Nat) : List Ql := (List.range t).flatMap (leafQ b i)
def allTo (b : Qbk) (i : Nat) : List Ql := (List.range i).flatMap fun i => gthL b i ((b.g i).leaves + 1).toNat
def allQ (b : Qbk) : List Ql := allTo b b.gs.length
theorem DH {i n k : Nat} : newTo i n (k + 1) = newTo i n k ++ [⟨i, n, (k : Int) + 1, 2⟩] := by unfold newTo; rw [List.range_succ, List.map_append]; rfl
theorem Fi {i n k : Nat} : (newTo i n k).length = k := by simp [newTo]
theorem DJ {b : Qbk} {i t : Nat} : gthL b i (t + 1) = gthL b i t ++ leafQ b i t := by unfold gthL; rw [List.range_succ, List.flatMap_append]; simp
theorem HC {b : Qbk} {i : Nat} : allTo b (i + 1) = allTo b i ++ gthL b i ((b.g i).leaves + 1).toNat := by unfold allTo; rw [List.range_succ, List.flatMap_append]; simp
theorem OB {i n : Nat} {k : Int} : (ownQ i n k).length ≤ 1 := by unfold ownQ; split <;> simp
theorem Kk {g : Gth} {n : Int} (h : ∀ k, k < g.chs.length → chgErr g k = 0) : ∀ k, k ≤ g.chs.length → 0 ≤ (plusTo g n k).1 ∧ (plusTo g n k).1 ≤ 4
 | 0, _ => by simp [plusTo]
 | k + 1, hk => by
   have ih := Kk (n := n) h k (by omega)
   unfold plusTo
   simp only
   split
   · rename_i h1
     have h2 := h k (by omega)
     unfold chgErr at h2
     split at h2
     · cases h2
     split at h2
     · cases h2
     rename_i h3
     rw [Bool.not_eq_false, Bool.and_eq_true] at h3
     have h4 := h3.2
     unfold chgMany at h4
     rw [if_pos h1.2, Cn] at h4
     omega
   exact ih
theorem ValidQ.chs {b : Qbk} (hv : ValidQ b) {i : Nat} (hi : i < b.gs.length) : (b.g i).chs.length ≤ 4 ∧ (∀ k, k < (b.g i).chs.length → chgErr (b.g i) k = 0) ∧ 1 ≤ (b.g i).leaves ∧ (b.g i).leaves ≤ 12 := by
 obtain ⟨-, -, -, h4⟩ := D4 (hv.gth i hi)
 unfold tailErr at h4
 split at h4
 · cases h4
 rename_i h5
 split at h4
 · cases h4
 rename_i h6
 refine ⟨by omega, Gm h4, ?_⟩
 unfold lvErr at h5
 by_cases h1 : (b.g i).leaves = 1
 · omega
 rw [dT h1, Bool.true_and, Bool.or_eq_true, not_or] at h5
 have := h5.1
 rw [Bool.not_eq_true, Bool.not_eq_false', Cn] at this
 omega
theorem ValidQ.many4 {b : Qbk} (hv : ValidQ b) {i : Nat} (hi : i < b.gs.length) (n : Int) : 0 ≤ (plusG (b.g i) n).1 ∧ (plusG (b.g i) n).1 ≤ 4 := Kk (hv.chs hi).2.1 _ (Nat.le_refl _)
theorem S9 {b : Qbk} (hv : ValidQ b) {i n : Nat} (hi : i < b.gs.length) : (leafQ b i n).length ≤ 5 := by
 unfold leafQ
 rw [List.length_append, Fi]
 have h1 := OB (i := i) (n := n) (k := (plusG (b.g i) n).2)
 have h2 := hv.many4 hi (n : Int)
 omega
theorem L4 {b : Qbk} (hv : ValidQ b) {i : Nat} (hi : i < b.gs.length) : ∀ t, (gthL b i t).length ≤ 5 * t
 | 0 => by simp [gthL]
 | t + 1 => by
   rw [DJ, List.length_append]
   have := L4 hv hi t
   have := S9 hv (n := t) hi
   omega
theorem Ev {b : Qbk} (hv : ValidQ b) : ∀ i, i ≤ b.gs.length → (allTo b i).length ≤ 65 * i
 | 0, _ => by simp [allTo]
 | i + 1, h => by
   rw [HC, List.length_append]
   have h1 := Ev hv i (by omega)
   have h2 := L4 hv (i := i) (by omega) ((b.g i).leaves + 1).toNat
   have h3 := (hv.chs (i := i) (by omega)).2.2
   omega
end
section
structure Cpc where
 book : Qbk
 items : List (List Int)
@[reducible] def itE (x : Go.Value × List Int) : List Go.Value := [x.1]
structure CpcR (F : Heap) (vg : Go.Value) (qs : List (Go.Value × Gth)) (vi : Go.Value) (is : List (Go.Value × List Int)) (c : Cpc) : Prop where
 book : QbkR F vg qs c.book
 items : Sl F vi 1 itE is
 could : ∀ x ∈ is, Ints F x.1 x.2
 eqs : is.map (·.2) = c.items
theorem CpcR.mono {F F' : Heap} {vg : Go.Value} {qs : List (Go.Value × Gth)} {vi : Go.Value} {is : List (Go.Value × List Int)} {c : Cpc} (h : CpcR F vg qs vi is c) (hF : F.le F') : CpcR F' vg qs vi is c := ⟨h.book.mono hF, h.items.mono hF, fun x hx => (h.could x hx).mono hF, h.eqs⟩
theorem CpcR.len {F : Heap} {vg : Go.Value} {qs : List (Go.Value × Gth)} {vi : Go.Value} {is : List (Go.Value × List Int)} {c : Cpc} (h : CpcR F vg qs vi is c) : is.length = c.items.length := by rw [← h.eqs, List.length_map]
theorem CpcR.ones {F : Heap} {vg : Go.Value} {qs : List (Go.Value × Gth)} {vi : Go.Value} {is : List (Go.Value × List Int)} {c : Cpc} (h : CpcR F vg qs vi is c) : ∀ x ∈ is, ∀ u ∈ itE x, u.oneCell' = true := by
 intro x hx u hu
 simp only [itE, List.mem_cons, List.not_mem_nil, or_false] at hu
 rcases hu with rfl
 exact (h.could x hx).plain.one
theorem CpcR.mem {F : Heap} {vg : Go.Value} {qs : List (Go.Value × Gth)} {vi : Go.Value} {is : List (Go.Value × List Int)} {c : Cpc} (h : CpcR F vg qs vi is c) {x : Go.Value × List Int} (hx : x ∈ is) : x.2 ∈ c.items := by rw [← h.eqs]; exact List.mem_map_of_mem hx
structure ItemOk (n : Int) (x : List Int) : Prop where
 many : x.length ≤ 4
 range : ∀ j (_ : j < x.length), 0 ≤ x[j] ∧ x[j] ≤ n - 1
 order : ∀ j (_ : j < x.length), 0 < j → x[j - 1] < x[j]
def doubts (l : List (List Int)) : Nat := (l.filter fun x => decide (1 < x.length)).length
def Cpc.n (c : Cpc) : Int := (allQ c.book).length
structure ValidC (c : Cpc) : Prop where
 book : ValidQ c.book
 leaves : (allQ c.book).length ≤ 120
 many : c.items.length ≤ 120
 item : ∀ x ∈ c.items, ItemOk c.n x
 few : doubts c.items ≤ 3
theorem Pf {l : List (List Int)} {x : List Int} : doubts (l ++ [x]) = doubts l + if 1 < x.length then 1 else 0 := by
 unfold doubts
 rw [List.filter_append, List.length_append]
 by_cases h : 1 < x.length <;> simp [h]
theorem Kx {l : List (List Int)} {k : Nat} (hk : k < l.length) : doubts (l.take (k + 1)) = doubts (l.take k) + if 1 < l[k].length then 1 else 0 := by
 rw [List.take_succ_eq_append_getElem hk, Pf]
theorem SR {l : List (List Int)} : doubts l ≤ l.length := List.length_filter_le ..
end
section
structure Book where
 name : ByteArray
 cls : Int
 lo : Int
 hi : Int
 large : Bool
structure Rdr where
 name : ByteArray
 permit : Int
structure Seat where
 light : Int
 small : Bool
structure Req where
 reader : Int
 book : Int
 hours : Int
 worth : Int
structure Room where
 books : List Book
 readers : List Rdr
 seats : List Seat
 reqs : List Req
@[reducible] def Book.enc (b : Book) : List Value := [.string b.name, .int .i64 b.cls, .int .i64 b.lo, .int .i64 b.hi, .bool b.large]
@[reducible] def Rdr.enc (b : Rdr) : List Value := [.string b.name, .int .i64 b.permit]
@[reducible] def Seat.enc (b : Seat) : List Value := [.int .i64 b.light, .bool b.small]
@[reducible] def Req.enc (b : Req) : List Value := [.int .i64 b.reader, .int .i64 b.book, .int .i64 b.hours, .int .i64 b.worth]
theorem Book.enc_one {b : Book} : ∀ u ∈ b.enc, u.oneCell' = true := by simp [Book.enc, Value.oneCell']
theorem Rdr.enc_one {b : Rdr} : ∀ u ∈ b.enc, u.oneCell' = true := by simp [Rdr.enc, Value.oneCell']
theorem Seat.enc_one {b : Seat} : ∀ u ∈ b.enc, u.oneCell' = true := by simp [Seat.enc, Value.oneCell']
theorem Req.enc_one {b : Req} : ∀ u ∈ b.enc, u.oneCell' = true := by simp [Req.enc, Value.oneCell']
structure RoomR (F : Heap) (vb vr vs vq : Value) (r : Room) : Prop where
 books : Sl F vb 5 Book.enc r.books
 readers : Sl F vr 2 Rdr.enc r.readers
 seats : Sl F vs 2 Seat.enc r.seats
 reqs : Sl F vq 4 Req.enc r.reqs
theorem RoomR.mono {F F' : Heap} {vb vr vs vq : Value} {r : Room} (h : RoomR F vb vr vs vq r) (hF : F.le F') : RoomR F' vb vr vs vq r :=
 ⟨h.books.mono hF, h.readers.mono hF, h.seats.mono hF, h.reqs.mono hF⟩
def bookErr (bs : List Book) (i : Nat) : Int := match bs[i]? with
 | none => 0
 | some b => if nameOk b.name = false then 6 else if (bs.take i).any (fun x => sameS x.name b.name) = true then 5
   else if (inB 0 5 b.cls && (inB 0 1000 b.lo && inB 0 1000 b.hi)) = false then 7 else if b.hi < b.lo then 2 else 0
def rdrErr (bs : List Rdr) (i : Nat) : Int := match bs[i]? with
 | none => 0
 | some b => if nameOk b.name = false then 6 else if (bs.take i).any (fun x => sameS x.name b.name) = true then 5
   else if inB 0 5 b.permit = false then 7 else 0
def seatErr (ss : List Seat) (i : Nat) : Int := match ss[i]? with
 | none => 0
 | some s => if inB 0 100 s.light = false then 7 else 0
def reqErr (r : Room) (i : Nat) : Int := match r.reqs[i]? with
 | none => 0
 | some q => if (inB 0 (r.readers.length - 1) q.reader && inB 0 (r.books.length - 1) q.book) = false then 4
   else if (inB 1 12 q.hours && inB 0 100 q.worth) = false then 7 else 0
def checkBooks (bs : List Book) : Option (Int × Int) := if 8 < bs.length then some (0, 3) else (firstBad bs.length (bookErr bs)).map fun (i : Nat) => ((i : Int), bookErr bs i)
def checkRdrs (bs : List Rdr) : Option (Int × Int) := if 8 < bs.length then some (0, 3) else (firstBad bs.length (rdrErr bs)).map fun (i : Nat) => ((i : Int), rdrErr bs i)
def checkSeats (ss : List Seat) : Option (Int × Int) := if 6 < ss.length then some (0, 3) else (firstBad ss.length (seatErr ss)).map fun (i : Nat) => ((i : Int), seatErr ss i)
def checkReqs (r : Room) : Option (Int × Int) := if 8 < r.reqs.length then some (0, 3) else (firstBad r.reqs.length (reqErr r)).map fun (i : Nat) => ((i : Int), reqErr r i)
def check (r : Room) : Int × Int × Int :=
 match checkBooks r.books with
 | some (i, e) => (1, i, e)
 | none => match checkRdrs r.readers with
   | some (i, e) => (2, i, e)
   | none => match checkSeats r.seats with
     | some (i, e) => (3, i, e)
     | none => match checkReqs r with
       | some (i, e) => (4, i, e)
       | none => (0, 0, 0)
def optV (o : Option (Int × Int)) : Value := match o with | some (i, e) => .tuple #[.int .i64 i, .int .i64 e] | none => .tuple #[.int .i64 0, .int .i64 0]
def Room.req (r : Room) (i : Nat) : Req := r.reqs[i]?.getD ⟨0, 0, 0, 0⟩
def Room.bk (r : Room) (i : Nat) : Book := r.books[i]?.getD ⟨ByteArray.empty, 0, 0, 0, false⟩
def Room.rd (r : Room) (i : Nat) : Rdr := r.readers[i]?.getD ⟨ByteArray.empty, 0⟩
def Room.seat (r : Room) (i : Nat) : Seat := r.seats[i]?.getD ⟨0, false⟩
theorem TY {r : Room} {i : Nat} (h : i < r.reqs.length) : r.reqs[i] = r.req i := by simp [Room.req, h]
def Room.reader (r : Room) (i : Nat) : Nat := (r.req i).reader.toNat
def Room.book (r : Room) (i : Nat) : Nat := (r.req i).book.toNat
structure Valid (r : Room) : Prop where
 nb : r.books.length ≤ 8
 nr : r.readers.length ≤ 8
 ns : r.seats.length ≤ 6
 nq : r.reqs.length ≤ 8
 rq : ∀ i, i < r.reqs.length → 0 ≤ (r.req i).reader ∧ (r.req i).reader < r.readers.length ∧ 0 ≤ (r.req i).book ∧ (r.req i).book < r.books.length ∧ 1 ≤ (r.req i).hours ∧ (r.req i).hours ≤ 12 ∧ 0 ≤ (r.req i).worth ∧ (r.req i).worth ≤ 100
 st : ∀ i, i < r.seats.length → 0 ≤ (r.seat i).light ∧ (r.seat i).light ≤ 100
 bo : ∀ i, i < r.books.length → 0 ≤ (r.bk i).lo ∧ (r.bk i).lo ≤ (r.bk i).hi ∧ (r.bk i).hi ≤ 1000 ∧ 0 ≤ (r.bk i).cls ∧ (r.bk i).cls ≤ 5
 rd : ∀ i, i < r.readers.length → 0 ≤ (r.rd i).permit ∧ (r.rd i).permit ≤ 5
theorem EO {n : Nat} {f : Nat → Int} (h : firstBad n f = none) : ∀ j, j < n → f j = 0 := by
 unfold firstBad at h
 rw [List.find?_range_eq_none] at h
 intro j hj
 simpa using h j hj
def light (r : Room) (i s : Nat) : Int := (r.req i).hours * (r.seat s).light
def reason (r : Room) (i s : Nat) : Int :=
 if (r.rd (r.reader i)).permit < (r.bk (r.book i)).cls then 1
 else if (r.bk (r.book i)).large = true ∧ (r.seat s).small = true then 2
 else if (r.bk (r.book i)).lo < light r i s then 3 else 0
@[reducible] def natE (n : Nat) : List Value := [.int .i64 (n : Int)]
abbrev Nats (F : Heap) (v : Value) (l : List Nat) : Prop := Sl F v 1 natE l
theorem Nats.ints {F : Heap} {v : Value} {l : List Nat} (h : Nats F v l) : Ints F v (l.map fun (n : Nat) => (n : Int)) := by
 refine ⟨by simpa using h.plain, fun i hi j u hu => ?_⟩
 have hi' : i < l.length := by simpa using hi
 refine h.cells i hi' j u ?_
 simpa [natE, intE] using hu
def notAsc (xs : List Int) : Bool := (List.range xs.length).any fun i => decide (0 < i ∧ xs[i]?.getD 0 ≤ xs[i - 1]?.getD 0)
theorem M3 {xs : List Int} {i : Nat} (h0 : 0 < i) (h : i < xs.length) (hle : xs[i] ≤ xs[i - 1]) : notAsc xs = true := by
 unfold notAsc
 rw [List.any_eq_true]
 refine ⟨i, by simpa using h, ?_⟩
 have : i - 1 < xs.length := by omega
 simp [h, this, h0, hle]
theorem VS {xs : List Int} (h : ∀ i (hi : i < xs.length), 0 < i → ¬ xs[i] ≤ xs[i - 1]) : notAsc xs = false := by
 unfold notAsc
 rw [List.any_eq_false]
 intro i hi
 simp only [List.mem_range] at hi
 by_cases h0 : 0 < i
 · have := h i hi h0
   have h1 : i - 1 < xs.length := by omega
   simp [hi, h1, h0]; omega
 simp [h0]
end
section
theorem Valid.book {r : Room} (hv : Valid r) {i : Nat} (hi : i < r.reqs.length) : r.reqs[i].book = (r.book i : Int) ∧ r.book i < r.books.length := by
 have := hv.rq i hi
 rw [TY hi]
 unfold Room.book
 omega
theorem Valid.reader {r : Room} (hv : Valid r) {i : Nat} (hi : i < r.reqs.length) : r.reqs[i].reader = (r.reader i : Int) ∧ r.reader i < r.readers.length := by
 have := hv.rq i hi
 rw [TY hi]
 unfold Room.reader
 omega
theorem QY {n : Nat} {i : Int} (h : inB 0 (n - 1) i = true) : ∃ k : Nat, i = k ∧ k < n := by
 simp [inB] at h
 obtain ⟨k, rfl⟩ := Int.eq_ofNat_of_zero_le h.1
 exact ⟨k, rfl, by omega⟩
end
section
structure Stp where
 from_ : Int
 by_ : Int
structure Lot where
 name : ByteArray
 seller : Int
 reserve : Int
 defect : Bool
structure Bid where
 bidder : Int
 lot : Int
 most : Int
structure Res where
 bidder : Int
 price : Int
deriving DecidableEq
structure Back where
 lot : Int
 day : Int
structure Ent where
 lot : Int
 sold : Bool
 lo : Int
 hi : Int
structure Sale where
 steps : List Stp
 premium : Int
 fee : Int
 days : Int
 bidders : List ByteArray
 sellers : List ByteArray
 lots : List Lot
 bids : List Bid
@[reducible] def Stp.enc (x : Stp) : List Go.Value := [.int .i64 x.from_, .int .i64 x.by_]
@[reducible] def Lot.enc (x : Lot) : List Go.Value := [.string x.name, .int .i64 x.seller, .int .i64 x.reserve, .bool x.defect]
@[reducible] def Bid.enc (x : Bid) : List Go.Value := [.int .i64 x.bidder, .int .i64 x.lot, .int .i64 x.most]
@[reducible] def Res.enc (x : Res) : List Go.Value := [.int .i64 x.bidder, .int .i64 x.price]
@[reducible] def Back.enc (x : Back) : List Go.Value := [.int .i64 x.lot, .int .i64 x.day]
@[reducible] def Ent.enc (x : Ent) : List Go.Value := [.int .i64 x.lot, .bool x.sold, .int .i64 x.lo, .int .i64 x.hi]
theorem Stp.enc_one {b : Stp} : ∀ u ∈ b.enc, u.oneCell' = true := by simp [Stp.enc, Value.oneCell']
theorem Lot.enc_one {b : Lot} : ∀ u ∈ b.enc, u.oneCell' = true := by simp [Lot.enc, Value.oneCell']
theorem Bid.enc_one {b : Bid} : ∀ u ∈ b.enc, u.oneCell' = true := by simp [Bid.enc, Value.oneCell']
theorem Res.enc_one {b : Res} : ∀ u ∈ b.enc, u.oneCell' = true := by simp [Res.enc, Value.oneCell']
theorem Back.enc_one {b : Back} : ∀ u ∈ b.enc, u.oneCell' = true := by simp [Back.enc, Value.oneCell']
theorem Ent.enc_one {b : Ent} : ∀ u ∈ b.enc, u.oneCell' = true := by simp [Ent.enc, Value.oneCell']
structure SaleR (F : Heap) (vs vb vl vn vd : Go.Value) (s : Sale) : Prop where
 steps : Sl F vs 2 Stp.enc s.steps
 bidders : Sl F vb 1 strE s.bidders
 sellers : Sl F vl 1 strE s.sellers
 lots : Sl F vn 4 Lot.enc s.lots
 bids : Sl F vd 3 Bid.enc s.bids
theorem SaleR.mono {F F' : Heap} {vs vb vl vn vd : Go.Value} {s : Sale} (h : SaleR F vs vb vl vn vd s) (hF : F.le F') : SaleR F' vs vb vl vn vd s :=
 ⟨h.steps.mono hF, h.bidders.mono hF, h.sellers.mono hF, h.lots.mono hF, h.bids.mono hF⟩
def stepErr (ss : List Stp) (i : Nat) : Int := match ss[i]? with
 | none => 0
 | some x => if (if i = 0 then decide (x.from_ = 0) else inB (((ss[i - 1]?).map (·.from_)).getD 0 + 1) 100000 x.from_) = false then 7 else if inB 1 100000 x.by_ = false then 7 else 0
def nameErr (ns : List ByteArray) (i : Nat) : Int := match ns[i]? with
 | none => 0
 | some x => freshE x (ns.take i)
def lotErr (s : Sale) (i : Nat) : Int := match s.lots[i]? with
 | none => 0
 | some x => if nameOk x.name = false then 6 else if (s.lots.take i).any (fun y => sameS y.name x.name) = true then 5
   else if inB 0 (s.sellers.length - 1) x.seller = false then 4 else if inB 1 100000 x.reserve = false then 7 else 0
def bidErr (s : Sale) (i : Nat) : Int := match s.bids[i]? with
 | none => 0
 | some x => if (inB 0 (s.bidders.length - 1) x.bidder && inB 0 (s.lots.length - 1) x.lot) = false then 4
   else if inB 1 100000 x.most = false then 7 else if (s.bids.take i).any (fun y => decide (y.bidder = x.bidder) && decide (y.lot = x.lot)) = true then 5 else 0
def firstE (n most : Nat) (f : Nat → Int) : Option (Int × Int) := if most < n then some (0, 3) else (firstBad n f).map fun (i : Nat) => ((i : Int), f i)
theorem C5 {n most : Nat} {f : Nat → Int} (h : most < n) : firstE n most f = some (0, 3) := if_pos h
theorem BI {n most k : Nat} {f : Nat → Int} {e : Int} (h : ¬ most < n) (hk : k < n) (hb : ∀ j, j < k → f j = 0) (he : f k = e) (hne : e ≠ 0) : firstE n most f = some ((k : Int), e) := by
 unfold firstE; rw [if_neg h, GU hk (by rw [he]; exact hne) hb]; simp [he]
theorem Db {n most : Nat} {f : Nat → Int} (h : ¬ most < n) (hb : ∀ j, j < n → f j = 0) : firstE n most f = none := by
 unfold firstE; rw [if_neg h, GV hb]; rfl
theorem DZ {n most : Nat} {f : Nat → Int} (h : firstE n most f = none) : n ≤ most ∧ ∀ j, j < n → f j = 0 := by
 unfold firstE at h
 split at h
 · cases h
 rename_i h1
 rw [Option.map_eq_none_iff] at h
 exact ⟨by omega, EO h⟩
def stepsE (ss : List Stp) : Option (Int × Int) := if ss.length = 0 then some (0, 3) else firstE ss.length 5 (stepErr ss)
def checkS (s : Sale) : Int × Int × Int :=
 match stepsE s.steps with
 | some (i, e) => (1, i, e)
 | none => if ((inB 0 500 s.premium && inB 0 500 s.fee) && inB 0 60 s.days) = false then (2, 0, 7) else
   match firstE s.bidders.length 6 (nameErr s.bidders) with
   | some (i, e) => (3, i, e)
   | none => match firstE s.sellers.length 4 (nameErr s.sellers) with
     | some (i, e) => (4, i, e)
     | none => match firstE s.lots.length 6 (lotErr s) with
       | some (i, e) => (5, i, e)
       | none => match firstE s.bids.length 16 (bidErr s) with
         | some (i, e) => (6, i, e)
         | none => (0, 0, 0)
@[reducible] def checkSV (s : Sale) : Go.Value := .tuple #[.int .i64 (checkS s).1, .int .i64 (checkS s).2.1, .int .i64 (checkS s).2.2]
end
section
set_option maxRecDepth 100000
open Go.RowKit
theorem nat_u8 {z : Int} (h : (Lit.int .u8 z).wf = true) : ∃ n : Nat, z = n ∧ n < 256 := by
 simp [Lit.wf, IntKind.min, IntKind.max, IntKind.signed, IntKind.bits] at h
 exact ⟨z.toNat, by omega, by omega⟩
@[reducible] def u16E (n : Nat) : List Value := [.int .u16 (n : Int)]
theorem N7 {P : Program} {W : World} {r : Reach} {base : Nat} {t : TypeId} {v : Value} {n : Nat} {e : TypeId} (ht : P.underlying t = some (.array n e)) (h : Value.okWide P W r base t v) : ∃ cs, v = .agg cs ∧ cs.size = P.cellsOf t := by
 simp only [Value.okWide, ht] at h
 obtain ⟨cs, h1, h2, _⟩ := h
 exact ⟨cs, h1, h2⟩
section
variable {H : Type} {enc : TypeId × Value → H} {W : World}
theorem CO : Tryz.prog.cellsOf 3 = 1 := by kernel_rfl
theorem FQ (cs : List Value) (h : Rd enc Tryz.prog W 3 cs) : ∃ z : Int, cs = intE z ∧ True := by obtain ⟨z, h, -⟩ := Ub Tryz.underlying3 h; exact ⟨z, h, trivial⟩
theorem Qy : Tryz.prog.cellsOf 9 = 1 := by kernel_rfl
theorem dec9 (cs : List Value) (h : Rd enc Tryz.prog W 9 cs) : ∃ b : ByteArray, cs = strE b ∧ True := by obtain ⟨b, h⟩ := Sp Tryz.underlying9 h; exact ⟨b, h, trivial⟩
theorem cells4 : Tryz.prog.cellsOf 4 = 1 := by kernel_rfl
theorem dec4 (cs : List Value) (h : Rd enc Tryz.prog W 4 cs) : ∃ b : Bool, cs = [.bool b] ∧ True := by obtain ⟨b, h⟩ := rd_bool Tryz.underlying4 h; exact ⟨b, h, trivial⟩
theorem cells5 : Tryz.prog.cellsOf 5 = 1 := by kernel_rfl
theorem dec5 (cs : List Value) (h : Rd enc Tryz.prog W 5 cs) : ∃ n : Nat, cs = [.int .u8 (n : Int)] ∧ n < 256 := by
 obtain ⟨z, rfl, hz⟩ := Ub Tryz.underlying5 h
 obtain ⟨n, rfl, hn⟩ := nat_u8 hz
 exact ⟨n, rfl, hn⟩
theorem Pm : Tryz.prog.cellsOf 169 = 3 := by kernel_rfl
theorem len3 {α : Type} {l : List α} (h : l.length = 3) : ∃ a0 a1 a2, l = [a0, a1, a2] := by
 match l, h with
 | [a0, a1, a2], _ => exact ⟨a0, a1, a2, rfl⟩
theorem dec169 (cs : List Value) (h : Rd enc Tryz.prog W 169 cs) : ∃ x : Chg, cs = x.enc ∧ True := by
 obtain ⟨hl, hf⟩ := CL Tryz.underlying169 h
 rw [Pm] at hl
 obtain ⟨c0, c1, c2, rfl⟩ := len3 hl
 obtain ⟨x0, e0, -⟩ := FQ _ (BT hf 0 (t := 3) (o := 0) rfl CO)
 obtain ⟨x1, e1, -⟩ := FQ _ (BT hf 1 (t := 3) (o := 1) rfl CO)
 obtain ⟨x2, e2, -⟩ := FQ _ (BT hf 2 (t := 3) (o := 2) rfl CO)
 simp [intE] at e0 e1 e2
 obtain rfl := e0
 obtain rfl := e1
 obtain rfl := e2
 exact ⟨⟨x0, x1, x2⟩, rfl, trivial⟩
theorem Pp : Tryz.prog.cellsOf 114 = 2 := by kernel_rfl
theorem len2 {α : Type} {l : List α} (h : l.length = 2) : ∃ a0 a1, l = [a0, a1] := by
 match l, h with
 | [a0, a1], _ => exact ⟨a0, a1, rfl⟩
theorem dec114 (cs : List Value) (h : Rd enc Tryz.prog W 114 cs) : ∃ x : Sg, cs = [.int .i64 x.round, .int .i64 x.letter] ∧ True := by
 obtain ⟨hl, hf⟩ := CL Tryz.underlying114 h
 rw [Pp] at hl
 obtain ⟨c0, c1, rfl⟩ := len2 hl
 obtain ⟨x0, e0, -⟩ := FQ _ (BT hf 0 (t := 3) (o := 0) rfl CO)
 obtain ⟨x1, e1, -⟩ := FQ _ (BT hf 1 (t := 3) (o := 1) rfl CO)
 simp [intE] at e0 e1
 obtain rfl := e0
 obtain rfl := e1
 exact ⟨⟨x0, x1⟩, rfl, trivial⟩
theorem Rl : Tryz.prog.cellsOf 69 = 2 := by kernel_rfl
theorem dec69 (cs : List Value) (h : Rd enc Tryz.prog W 69 cs) : ∃ x : Stp, cs = x.enc ∧ True := by
 obtain ⟨hl, hf⟩ := CL Tryz.underlying69 h
 rw [Rl] at hl
 obtain ⟨c0, c1, rfl⟩ := len2 hl
 obtain ⟨x0, e0, -⟩ := FQ _ (BT hf 0 (t := 3) (o := 0) rfl CO)
 obtain ⟨x1, e1, -⟩ := FQ _ (BT hf 1 (t := 3) (o := 1) rfl CO)
 simp [intE] at e0 e1
 obtain rfl := e0
 obtain rfl := e1
 exact ⟨⟨x0, x1⟩, rfl, trivial⟩
theorem Ro : Tryz.prog.cellsOf 47 = 4 := by kernel_rfl
theorem len4 {α : Type} {l : List α} (h : l.length = 4) : ∃ a0 a1 a2 a3, l = [a0, a1, a2, a3] := by
 match l, h with
 | [a0, a1, a2, a3], _ => exact ⟨a0, a1, a2, a3, rfl⟩
theorem dec47 (cs : List Value) (h : Rd enc Tryz.prog W 47 cs) : ∃ x : Lot, cs = x.enc ∧ True := by
 obtain ⟨hl, hf⟩ := CL Tryz.underlying47 h
 rw [Ro] at hl
 obtain ⟨c0, c1, c2, c3, rfl⟩ := len4 hl
 obtain ⟨x0, e0, -⟩ := dec9 _ (BT hf 0 (t := 9) (o := 0) rfl Qy)
 obtain ⟨x1, e1, -⟩ := FQ _ (BT hf 1 (t := 3) (o := 1) rfl CO)
 obtain ⟨x2, e2, -⟩ := FQ _ (BT hf 2 (t := 3) (o := 2) rfl CO)
 obtain ⟨x3, e3, -⟩ := dec4 _ (BT hf 3 (t := 4) (o := 3) rfl cells4)
 simp [intE, strE] at e0 e1 e2 e3
 obtain rfl := e0
 obtain rfl := e1
 obtain rfl := e2
 obtain rfl := e3
 exact ⟨⟨x0, x1, x2, x3⟩, rfl, trivial⟩
theorem Pn : Tryz.prog.cellsOf 124 = 3 := by kernel_rfl
theorem dec124 (cs : List Value) (h : Rd enc Tryz.prog W 124 cs) : ∃ x : Bid, cs = x.enc ∧ True := by
 obtain ⟨hl, hf⟩ := CL Tryz.underlying124 h
 rw [Pn] at hl
 obtain ⟨c0, c1, c2, rfl⟩ := len3 hl
 obtain ⟨x0, e0, -⟩ := FQ _ (BT hf 0 (t := 3) (o := 0) rfl CO)
 obtain ⟨x1, e1, -⟩ := FQ _ (BT hf 1 (t := 3) (o := 1) rfl CO)
 obtain ⟨x2, e2, -⟩ := FQ _ (BT hf 2 (t := 3) (o := 2) rfl CO)
 simp [intE] at e0 e1 e2
 obtain rfl := e0
 obtain rfl := e1
 obtain rfl := e2
 exact ⟨⟨x0, x1, x2⟩, rfl, trivial⟩
theorem Po : Tryz.prog.cellsOf 117 = 4 := by kernel_rfl
theorem Vj : Tryz.prog.cellsOf 115 = 1 := by kernel_rfl
theorem cells44 : Tryz.prog.cellsOf 44 = 1 := by kernel_rfl
theorem Rm : Tryz.prog.cellsOf 66 = 1 := by kernel_rfl
theorem cells22 : Tryz.prog.cellsOf 22 = 1 := by kernel_rfl
theorem cells25 : Tryz.prog.cellsOf 25 = 1 := by kernel_rfl
theorem cells24 : Tryz.prog.cellsOf 24 = 2 := by kernel_rfl
theorem len1 {α : Type} {l : List α} (h : l.length = 1) : ∃ a0, l = [a0] := by
 match l, h with
 | [a0], _ => exact ⟨a0, rfl⟩
theorem dec117 (cs : List Value) (h : Rd enc Tryz.prog W 117 cs) : ∃ x : Value × Gth, cs = gE x ∧ Sl (heapOf W) x.1 3 Chg.enc x.2.chs := by
 obtain ⟨hl, hf⟩ := CL Tryz.underlying117 h
 rw [Po] at hl
 obtain ⟨c0, c1, c2, c3, rfl⟩ := len4 hl
 obtain ⟨x0, e0, -⟩ := dec114 _ (BT hf 0 (t := 114) (o := 0) rfl Pp)
 obtain ⟨x1, e1, -⟩ := FQ _ (BT hf 1 (t := 3) (o := 2) rfl CO)
 obtain ⟨x2, s2, -⟩ := D2 Tryz.underlying115 Pm (by decide) (of_decide_eq_true (by kernel_rfl)) (fun _ => rfl) dec169 (BT hf 2 (t := 115) (o := 3) rfl Vj)
 simp [intE] at e0 e1
 obtain ⟨rfl, rfl⟩ := e0
 obtain rfl := e1
 exact ⟨(c3, ⟨x0, x1, x2⟩), rfl, s2⟩
theorem dec66 (cs : List Value) (h : Rd enc Tryz.prog W 66 cs) : ∃ x : Value × List Int, cs = itE x ∧ Ints (heapOf W) x.1 x.2 := by
 obtain ⟨hl, hf⟩ := CL Tryz.underlying66 h
 rw [Rm] at hl
 obtain ⟨c0, rfl⟩ := len1 hl
 obtain ⟨x2, s2, -⟩ := D2 Tryz.underlying44 CO (by decide) (of_decide_eq_true (by kernel_rfl)) (fun _ => rfl) FQ (BT hf 0 (t := 44) (o := 0) rfl cells44)
 exact ⟨(c0, x2), rfl, s2⟩
theorem cells33 : Tryz.prog.cellsOf 33 = 8 := by kernel_rfl
theorem cells28 : Tryz.prog.cellsOf 28 = 1 := by kernel_rfl
theorem Rp : Tryz.prog.cellsOf 29 = 1 := by kernel_rfl
theorem cells30 : Tryz.prog.cellsOf 30 = 1 := by kernel_rfl
theorem cells31 : Tryz.prog.cellsOf 31 = 1 := by kernel_rfl
theorem cells27 : Tryz.prog.cellsOf 27 = 3 := by kernel_rfl
theorem arg_cop {base : Nat} {v : Value} {d : DataW H} {p : List MemPlace} (hok : Value.okWide Tryz.prog W .any base 27 v) (h : DataW.Trod enc Tryz.prog W 0 (fun _ => true) true 27 v d p) (hw : ∀ n ∈ d.weights Tryz.prog 27, n ≤ reachBytes) :
   ∃ vg vi qs is c, v = .agg #[.int .i64 c.book.signed, vg, vi] ∧ CpcR (heapOf W) vg qs vi is c := by
 obtain ⟨cs, rfl, hsz⟩ := Go.WideShapes.okWide_struct Tryz.underlying27 hok
 have hr := Ua h hw
 obtain ⟨hl, hf⟩ := CL Tryz.underlying27 hr
 rw [cells27] at hl
 obtain ⟨c0, c1, c2, hcs⟩ := len3 hl
 have hcs' : cs = #[c0, c1, c2] := by
   have : cs.toList = [c0, c1, c2] := hcs
   exact Array.ext' (by simpa using this)
 subst hcs'
 obtain ⟨xi, si, wi⟩ := D2 Tryz.underlying25 Rm (by decide) (of_decide_eq_true (by kernel_rfl)) (fun _ => rfl) dec66 (BT hf 1 (t := 25) (o := 2) rfl cells25)
 have hp := BT hf 0 (t := 24) (o := 0) rfl cells24
 obtain ⟨hl2, hf⟩ := CL Tryz.underlying24 hp
 obtain ⟨y0, e0, -⟩ := FQ _ (BT hf 0 (t := 3) (o := 0) rfl CO)
 obtain ⟨xg, sg, wg⟩ := D2 Tryz.underlying22 Po (by decide) (of_decide_eq_true (by kernel_rfl)) (fun _ => rfl) dec117 (BT hf 1 (t := 22) (o := 1) rfl cells22)
 simp [intE, Value.cells] at e0
 subst e0
 exact ⟨_, _, xg, xi, ⟨⟨y0, xg.map (·.2)⟩, xi.map (·.2)⟩, rfl, ⟨⟨sg, wg, rfl⟩, si, wi, rfl⟩⟩
theorem len8 {α : Type} {l : List α} (h : l.length = 8) : ∃ a0 a1 a2 a3 a4 a5 a6 a7, l = [a0, a1, a2, a3, a4, a5, a6, a7] := by
 match l, h with
 | [a0, a1, a2, a3, a4, a5, a6, a7], _ => exact ⟨a0, a1, a2, a3, a4, a5, a6, a7, rfl⟩
theorem VU {base : Nat} {v : Value} {d : DataW H} {p : List MemPlace} (hok : Value.okWide Tryz.prog W .any base 33 v) (h : DataW.Trod enc Tryz.prog W 0 (fun _ => true) true 33 v d p) (hw : ∀ n ∈ d.weights Tryz.prog 33, n ≤ reachBytes) :
   ∃ vs vb vl vn vd s, v = .agg #[vs, .int .i64 s.premium, .int .i64 s.fee, .int .i64 s.days, vb, vl, vn, vd] ∧ SaleR (heapOf W) vs vb vl vn vd s := by
 obtain ⟨cs, rfl, hsz⟩ := Go.WideShapes.okWide_struct Tryz.underlying33 hok
 have hr := Ua h hw
 obtain ⟨hl, hf⟩ := CL Tryz.underlying33 hr
 rw [cells33] at hl
 obtain ⟨c0, c1, c2, c3, c4, c5, c6, c7, hcs⟩ := len8 hl
 have hcs' : cs = #[c0, c1, c2, c3, c4, c5, c6, c7] := by
   have : cs.toList = [c0, c1, c2, c3, c4, c5, c6, c7] := hcs
   exact Array.ext' (by simpa using this)
 subst hcs'
 obtain ⟨xa, sa, wa⟩ := D2 Tryz.underlying28 Rl (by decide) (of_decide_eq_true (by kernel_rfl)) (fun _ => rfl) dec69 (BT hf 0 (t := 28) (o := 0) rfl cells28)
 obtain ⟨y1, e1, -⟩ := FQ _ (BT hf 1 (t := 3) (o := 1) rfl CO)
 obtain ⟨y2, e2, -⟩ := FQ _ (BT hf 2 (t := 3) (o := 2) rfl CO)
 obtain ⟨y3, e3, -⟩ := FQ _ (BT hf 3 (t := 3) (o := 3) rfl CO)
 obtain ⟨xb, sb, wb⟩ := D2 Tryz.underlying29 Qy (by decide) (of_decide_eq_true (by kernel_rfl)) (fun _ => rfl) dec9 (BT hf 4 (t := 29) (o := 4) rfl Rp)
 obtain ⟨xc, sc, wc⟩ := D2 Tryz.underlying29 Qy (by decide) (of_decide_eq_true (by kernel_rfl)) (fun _ => rfl) dec9 (BT hf 5 (t := 29) (o := 5) rfl Rp)
 obtain ⟨xd, sd, wd⟩ := D2 Tryz.underlying30 Ro (by decide) (of_decide_eq_true (by kernel_rfl)) (fun _ => rfl) dec47 (BT hf 6 (t := 30) (o := 6) rfl cells30)
 obtain ⟨xe, se, we⟩ := D2 Tryz.underlying31 Pn (by decide) (of_decide_eq_true (by kernel_rfl)) (fun _ => rfl) dec124 (BT hf 7 (t := 31) (o := 7) rfl cells31)
 simp [intE, Value.cells] at e1 e2 e3
 subst e1 e2 e3
 exact ⟨_, _, _, _, _, ⟨xa, y1, y2, y3, xb, xc, xd, xe⟩, rfl, ⟨sa, sb, sc, sd, se⟩⟩
theorem cells34 : Tryz.prog.cellsOf 34 = 2 := by kernel_rfl
theorem VV {base : Nat} {v : Value} {d : DataW H} {p : List MemPlace} (hok : Value.okWide Tryz.prog W .any base 34 v) (h : DataW.Trod enc Tryz.prog W 0 (fun _ => true) true 34 v d p) (hw : ∀ n ∈ d.weights Tryz.prog 34, n ≤ reachBytes) :
   ∃ x y : Nat, v = .agg #[.int .u8 (x : Int), .int .u8 (y : Int)] ∧ x < 256 ∧ y < 256 := by
 obtain ⟨cs, rfl, hsz⟩ := N7 Tryz.underlying34 hok
 have hr := Ua h hw
 obtain ⟨hl, hf⟩ := Uc Tryz.underlying34 hr
 rw [cells34] at hl
 obtain ⟨c0, c1, hcs⟩ := len2 hl
 have hcs' : cs = #[c0, c1] := by
   have : cs.toList = [c0, c1] := hcs
   exact Array.ext' (by simpa using this)
 subst hcs'
 have h0 := hf 0 (by decide)
 have h1 := hf 1 (by decide)
 simp only [cells5, Value.cells] at h0 h1
 obtain ⟨x, hx, wx⟩ := dec5 _ h0
 obtain ⟨y, hy, wy⟩ := dec5 _ h1
 simp at hx hy
 subst hx hy
 exact ⟨x, y, rfl, wx, wy⟩
end
end
section
open Go.ChangeShapes Go.WideShapes Go.ChangeAt Go.RowKit
theorem Un : ownKnob Tryz.prog.godebug = none := by kernel_rfl
theorem NF : laidOutB Tryz.prog = true := by kernel_rfl
theorem Hg {H : Type} {P : Program} {ts : List TypeId} {ds : List (DataW H)} (h : (DataW.weightsEach P ts ds).all (· ≤ reachBytes) = true) {j : Nat} {t : TypeId} {d : DataW H} (ht : ts[j]? = some t) (hd : ds[j]? = some d) : ∀ n ∈ d.weights P t, n ≤ reachBytes := by
 intro n hn
 have := List.all_eq_true.1 h n (DataW.weights_mem_each ht hd n hn)
 simpa using this
end
section
open Go.RowKit
section
variable {P : Program} {n : Nat} {B : Base} {ops : Array Oper}
theorem Au {Q : Exit → Env → St → Prop} {H' : List (Nat × Obj)} {ts : List Nat} {fuel : Nat} {listed : Array Bool} {e : Env} {σ : St} (i : Nat) {d : Nat} {op : Op} {ty : TypeId} {pos : String} {af : Array Edge} {v : Value}
   (hi : ops[i]? = some ⟨some d, op, ty, pos, af, none⟩) (hs : H'.Sublist σ.H) (hy : OpR P B ⟨some d, op, ty, pos, af, none⟩ e ⟨σ.F, H'⟩ v) (h : WX P n B ops Q ⟨σ.F, H'⟩ ts fuel (listed.setIfInBounds i true) (upd e d v) σ)
   (k1 : Region.noSelect ops = true := by kernel_rfl) (k2 : Region.free .any ops listed i = true := by kernel_rfl) (k3 : (Region.ready .any ops listed).contains i = true := by kernel_rfl) (k4 : tailB ops ts i = true := by kernel_rfl) (k5 : ts.contains i = false := by rfl) (k6 : Nat.blt d n = true := by rfl)
   (k7 : ∀ c e σ, Q (.panic c) e σ → False := by exact fun _ _ _ h => h) : WX P n B ops Q ⟨σ.F, H'⟩ ts (fuel + 1) listed e σ :=
 EU i hi k1 k2 k3 k4 k5 k6 (fun _ h => h.drop hs) k7 hy h
end
end
section
open Go.RowKit
def dstB (ops : Array Oper) (j : Nat) : Nat := match (ops[j]?).bind (·.dst) with | some d => d | none => 0
def depB (ops : Array Oper) (i j : Nat) : Bool := match ops[i]? with | some o => o.after.any fun x => Region.binds .any x && x.on == j | none => false
def factB (n : Nat) (ops : Array Oper) (k : Nat) : Bool :=
 (List.range k).all (fun i => match ops[i]? with
   | some o => (match o.dst with | some d => Nat.blt d n | none => false) && o.guard.isNone && o.after.all (fun x => !(Region.binds .any x) || Nat.blt x.on i) && (List.range i).all (fun j => !(Nat.beq (dstB ops j) (dstB ops i)))
   | none => false) &&
 (ops.size == k || (ops.size == k + 1 && (match ops[k]? with
   | some o => o.dst.isNone && o.guard.isNone && o.after.all (fun x => !(Region.binds .any x) || Nat.blt x.on k) && (List.range k).all (depB ops k)
   | none => false)))
def AllTo (H : Nat → Prop) : Nat → Prop
 | 0 => True
 | k + 1 => AllTo H k ∧ H k
theorem AllTo.get {H : Nat → Prop} : ∀ {k : Nat}, AllTo H k → ∀ i, i < k → H i
 | 0, _, i, h => absurd h (by omega)
 | k + 1, h, i, hi => by
   by_cases hk : i = k
   · subst hk; exact h.2
   exact AllTo.get h.1 i (by omega)
section
variable {P : Program} {n : Nat} {B : Base} {e0 : Env} {σ : St}
def Hop (P : Program) (n : Nat) (B : Base) (ops : Array Oper) (k : Nat) (Φ : Nat → Heap → Value → Prop) (e0 : Env) (σ : St) (i : Nat) : Prop :=
 ∀ e F, σ.F.le F → (∀ t, (∀ j, j < k → t ≠ dstB ops j) → e t = e0 t) → (∀ j, depB ops i j = true → j < k → Φ j F (e (dstB ops j))) →
   ∃ d op ty pos af, ops[i]? = some ⟨some d, op, ty, pos, af, none⟩ ∧ OpX P n B ⟨some d, op, ty, pos, af, none⟩ e ⟨F, σ.H⟩ fun v σ' => ∃ F', σ' = ⟨F', σ.H⟩ ∧ F.le F' ∧ Φ i F' v
def Hend (P : Program) (n : Nat) (B : Base) (ops : Array Oper) (k : Nat) (Φ : Nat → Heap → Value → Prop) (e0 : Env) (σ : St) (Q : Exit → Env → St → Prop) : Prop :=
 ∀ e F, σ.F.le F → (∀ t, (∀ j, j < k → t ≠ dstB ops j) → e t = e0 t) → (∀ j, j < k → Φ j F (e (dstB ops j))) →
   (ops.size = k → Q .normal e ⟨F, σ.H⟩) ∧ (ops.size = k + 1 → ∃ op ty pos af, ops[k]? = some ⟨none, op, ty, pos, af, none⟩ ∧ OpX P n B ⟨none, op, ty, pos, af, none⟩ e ⟨F, σ.H⟩ fun _ σ' => Q .normal e σ')
def HendT (P : Program) (n : Nat) (B : Base) (ops : Array Oper) (k : Nat) (Φ : Nat → Heap → Value → Prop) (e0 : Env) (σ : St) (Q : Exit → Env → St → Prop) : Bool → Prop
 | false => ∀ e F, σ.F.le F → (∀ t, (∀ j, j < k → t ≠ dstB ops j) → e t = e0 t) → (∀ j, j < k → Φ j F (e (dstB ops j))) → Q .normal e ⟨F, σ.H⟩
 | true => ∀ e F, σ.F.le F → (∀ t, (∀ j, j < k → t ≠ dstB ops j) → e t = e0 t) → (∀ j, j < k → Φ j F (e (dstB ops j))) → ∃ op ty pos af, ops[k]? = some ⟨none, op, ty, pos, af, none⟩ ∧ OpX P n B ⟨none, op, ty, pos, af, none⟩ e ⟨F, σ.H⟩ fun _ σ' => Q .normal e σ'
theorem HendT.to {ops : Array Oper} {k : Nat} {Φ : Nat → Heap → Value → Prop} {Q : Exit → Env → St → Prop} {tail : Bool} (ht : Nat.beq ops.size (k + 1) = tail) (h : HendT P n B ops k Φ e0 σ Q tail) : Hend P n B ops k Φ e0 σ Q := by
 intro e F h1 h2 h3
 cases tail with
 | false => exact ⟨fun _ => h e F h1 h2 h3, fun hs => by rw [hs] at ht; simp at ht⟩
 | true => exact ⟨fun hs => by rw [hs] at ht; simp at ht, fun _ => h e F h1 h2 h3⟩
def freshB (ops : Array Oper) (k t : Nat) : Bool := (List.range k).all fun j => !(Nat.beq t (dstB ops j))
theorem Bl {ops : Array Oper} {k t : Nat} {e : Env} (he : ∀ t, (∀ j, j < k → t ≠ dstB ops j) → e t = e0 t) (h : freshB ops k t = true) : e t = e0 t :=
 he t fun j hj hh => by
   have := List.all_eq_true.1 h j (by simpa using hj)
   rw [← hh] at this
   simp at this
theorem AY {e : Env} {t : Nat} {v : Value} (h : e t = v) : ev e (.tmp t) = v := h
theorem Bc {e e0 : Env} {t : Nat} {v : Value} (h0 : e t = e0 t) (h : ev e0 (.tmp t) = v) : ev e (.tmp t) = v := h0.trans h
theorem BP {o : Oper} {e : Env} {K : Value → St → Prop} (h : OpX P n B o e σ fun v σ' => ∃ b ob, B.w0.heap.size ≤ b ∧ σ' = ⟨σ.F, (b, ob) :: σ.H⟩ ∧ ∀ F', σ.F.le F' → F' b = some ob → K v ⟨F', σ.H⟩) : OpX P n B o e σ K := by
 intro a w ha hw next Qx hnext
 refine h a w ha hw next Qx fun v σ' w' hK hw' => ?_
 obtain ⟨b, ob, hb, rfl, hK⟩ := hK
 have hn := (hw'.own (b, ob) (by simp)).2.1
 have hfz := hw'.freeze (i := 0) rfl hb
 exact hnext v _ w' (hK _ (DW hn) Dn) hfz
theorem Cw {α : Type} {F : Heap} {b T s m : Nat} {l : List Value} {enc : α → List Value} {xs : List α} (h : F b = some (bx T l)) (hl : l = xs.flatMap enc) (hm : xs.length = m) (hs : ∀ x, (enc x).length = s) (hlt : m < 281474976710656) : Sl F (.slice (some ⟨b, 0, none⟩) m m) s enc xs := by
 subst hl; subst hm
 exact Own.sl (E := T) (R := [(b, bx T (xs.flatMap enc))]) (GA (L6 hs xs)) hs (fun p hp => by simp at hp; subst hp; exact h) hlt
theorem NN {ops : Array Oper} {i : Nat} {o : Oper} (ho : ops[i]? = some o) {j : Nat} (h : depB ops i j = true) : ∃ x ∈ o.after, Region.binds .any x = true ∧ x.on = j := by
 unfold depB at h
 rw [ho] at h
 obtain ⟨x, hx, hb⟩ := Array.any_eq_true'.1 h
 simp only [Bool.and_eq_true, beq_iff_eq] at hb
 exact ⟨x, hx, hb.1, hb.2⟩
def undone (listed : Array Bool) : Nat := listed.toList.count false
theorem ML : ∀ {l : List Bool} {i : Nat} (hi : i < l.length), l[i] = false → (l.set i true).count false + 1 = l.count false
 | [], i, hi, _ => by simp at hi
 | a :: l, 0, _, hv => by simp at hv; subst hv; simp
 | a :: l, i + 1, hi, hv => by
   have := ML (l := l) (i := i) (by simpa using hi) (by simpa using hv)
   simp only [List.set_cons_succ, List.count_cons]
   omega
theorem KS {listed : Array Bool} {i : Nat} (h : listed.getD i true = false) : undone (listed.setIfInBounds i true) + 1 = undone listed := by
 have hi : i < listed.size := by
   rcases Nat.lt_or_ge i listed.size with h' | h'
   · exact h'
   simp [Array.getD, Nat.not_lt.2 h'] at h
 have hv : listed.toList[i]'(by simpa using hi) = false := by simpa [Array.getD, hi] using h
 unfold undone
 rw [Array.toList_setIfInBounds]
 exact ML (by simpa using hi) hv
theorem LD {ops : Array Oper} {k : Nat} (hB : factB n ops k = true) {i : Nat} (hi : i < k) : ∃ o d, ops[i]? = some o ∧ o.dst = some d ∧ d < n ∧ o.guard = none ∧ (∀ x ∈ o.after, Region.binds .any x = true → x.on < i) ∧ ∀ j, j < i → dstB ops j ≠ dstB ops i := by
 unfold factB at hB
 simp only [Bool.and_eq_true] at hB
 have h := List.all_eq_true.1 hB.1 i (by simpa using hi)
 split at h
 · rename_i o ho
   simp only [Bool.and_eq_true] at h
   obtain ⟨⟨⟨h1, h2⟩, h3⟩, h4⟩ := h
   split at h1
   · rename_i d hd
     refine ⟨o, d, ho, hd, by simpa using h1, by simpa using h2, fun x hx hb => ?_, fun j hj he => ?_⟩
     · have := Array.all_eq_true'.1 h3 x hx
       simpa [hb] using this
     have := List.all_eq_true.1 h4 j (by simpa using hj)
     rw [he] at this
     simp at this
   cases h1
 cases h
theorem JL {ops : Array Oper} {k : Nat} (hB : factB n ops k = true) : ops.size = k ∨ (ops.size = k + 1 ∧ ∃ o, ops[k]? = some o ∧ o.dst = none ∧ o.guard = none ∧ (∀ x ∈ o.after, Region.binds .any x = true → x.on < k) ∧ ∀ j, j < k → depB ops k j = true) := by
 unfold factB at hB
 simp only [Bool.and_eq_true, Bool.or_eq_true, beq_iff_eq] at hB
 rcases hB.2 with h | ⟨h1, h2⟩
 · exact .inl h
 refine .inr ⟨h1, ?_⟩
 split at h2
 · rename_i o ho
   simp only [Bool.and_eq_true] at h2
   obtain ⟨⟨⟨q1, q2⟩, q3⟩, q4⟩ := h2
   refine ⟨o, ho, by simpa using q1, by simpa using q2, fun x hx hb => ?_, fun j hj => ?_⟩
   · have := Array.all_eq_true'.1 q3 x hx
     simpa [hb] using this
   exact List.all_eq_true.1 q4 j (by simpa using hj)
 cases h2
theorem Ol {ops : Array Oper} {k : Nat} {Φ : Nat → Heap → Value → Prop} {Q : Exit → Env → St → Prop} (hB : factB n ops k = true) (hm : ∀ i F F' v, F.le F' → Φ i F v → Φ i F' v)
   (hops : AllTo (Hop P n B ops k Φ e0 σ) k) (hend : Hend P n B ops k Φ e0 σ Q) : ∀ (fuel : Nat) (listed : Array Bool) (a : Act) (w : World) (e : Env) (F : Heap), Fits n B a e → Holds B ⟨F, σ.H⟩ w → σ.F.le F →
     (∀ t, (∀ j, j < k → t ≠ dstB ops j) → e t = e0 t) → (∀ j, j < k → listed.getD j false = true → Φ j F (e (dstB ops j))) → listed.size = ops.size → listed.getD k false = false → undone listed = fuel →
     wpAny P .any ops (lift n B Q) fuel listed a w := by
 have hready : ∀ (listed : Array Bool), listed.size = ops.size → undone listed ≠ 0 → ∃ i, i ∈ Region.ready .any ops listed := by
   intro listed hsz hun
   have hex : ∃ i, i < listed.size ∧ listed.getD i false = false := by
     have : false ∈ listed.toList := by
       rw [← List.count_pos_iff]; unfold undone at hun; omega
     obtain ⟨i, hi, he⟩ := List.mem_iff_getElem.1 this
     exact ⟨i, by simpa using hi, by simp at hi; simp [Array.getD, hi]; simpa using he⟩
   obtain ⟨i, ⟨hi, hli⟩, hmin⟩ := D3 hex
   refine ⟨i, mem_ready.2 ⟨by simp [Array.getD, hi] at hli ⊢; exact hli, ?_⟩⟩
   have hlt : ∀ j, j < i → listed.getD j false = true := fun j hj => by
     cases hc : listed.getD j false with
     | true => rfl
     | false => exact absurd (hmin j ⟨by omega, hc⟩) (by omega)
   by_cases hik : i < k
   · obtain ⟨o, d, h1, -, -, -, h5, -⟩ := LD hB hik
     exact ⟨o, h1, fun x hx hb => hlt _ (h5 x hx hb)⟩
   rcases JL hB with h | ⟨h, o, h1, -, -, h4, -⟩
   · omega
   have : i = k := by omega
   subst this
   exact ⟨o, h1, fun x hx hb => hlt _ (h4 x hx hb)⟩
 intro fuel
 induction fuel with
 | zero =>
   intro listed a w e F hf hw hF he hΦ hsz hk0 hun
   have hall : ∀ j, j < listed.size → listed.getD j false = true := fun j hj => by
     cases hc : listed.getD j false with
     | true => rfl
     | false =>
       have h1 : false ∈ listed.toList := List.mem_iff_getElem.2 ⟨j, by simpa using hj, by simp [Array.getD, hj] at hc; simpa using hc⟩
       rw [← List.count_pos_iff] at h1
       unfold undone at hun; omega
   have hsk : ops.size = k := by
     rcases JL hB with h | ⟨h, -⟩
     · exact h
     have := hall k (by omega); rw [hk0] at this; cases this
   refine ⟨?_, B.ds, e, ⟨F, σ.H⟩, hf, hw, (hend e F hF he fun j hj => hΦ j hj (hall j (by omega))).1 hsk⟩
   cases hr : Region.ready .any ops listed with
   | nil => rfl
   | cons i l =>
     have : i ∈ Region.ready .any ops listed := by rw [hr]; simp
     obtain ⟨h1, o, ho, -⟩ := mem_ready.1 this
     have hi : i < listed.size := by rw [hsz]; exact (Array.getElem?_eq_some_iff.1 ho).1
     have h2 := hall i hi
     simp [Array.getD, hi] at h1 h2
     rw [h1] at h2; cases h2
 | succ fuel ih =>
   intro listed a w e F hf hw hF he hΦ hsz hk0 hun
   obtain ⟨i0, hi0⟩ := hready listed hsz (by omega)
   refine ⟨fun h => (by rw [h] at hi0; cases hi0), fun i hi => ?_⟩
   obtain ⟨h1, o, ho, hdeps⟩ := mem_ready.1 hi
   have hil : i < listed.size := by rw [hsz]; exact (Array.getElem?_eq_some_iff.1 ho).1
   have hun' := KS h1
   by_cases hik : i < k
   · obtain ⟨o', d', h2, h3, h4, h5, h6, h7⟩ := LD hB hik
     obtain ⟨d, op, ty, pos, af, q1, q2⟩ := hops.get i hik e F hF he fun j hj hjk => by
       obtain ⟨x, hx, hb, rfl⟩ := NN ho hj
       exact hΦ _ hjk (hdeps x hx hb)
     rw [q1] at ho
     cases ho
     rw [q1] at h2
     cases h2
     have hdd : dstB ops i = d := by unfold dstB; rw [q1]; rfl
     have hdn : d < n := by
       have : d = d' := by simpa using h3
       subst this; exact h4
     unfold wpOp
     simp only [q1]
     rw [if_pos (by simp [Region.wanted])]
     refine .inl (q2 a w hf hw _ _ fun v σ' w' hK hw' => ?_)
     obtain ⟨F', rfl, hle, hφ⟩ := hK
     refine ih (listed.setIfInBounds i true) _ w' (upd e d v) F' (hf.put hdn v) hw' (Heap.le_trans hF hle) (fun t ht => ?_) (fun j hj hlj => ?_) (by simpa using hsz) ?_ (by omega)
     · unfold upd
       rw [if_neg (fun h => ht i hik (by rw [h, hdd]))]
       exact he t ht
     · by_cases hji : j = i
       · subst hji
         rw [hdd]
         simp only [upd, if_true]
         exact hφ
       have hne : dstB ops j ≠ d := by
         rw [← hdd]
         rcases Nat.lt_or_ge j i with h | h
         · exact h7 j h
         obtain ⟨-, -, -, -, -, -, -, h8⟩ := LD hB hj
         exact (h8 i (by omega)).symm
       simp only [upd, if_neg hne]
       rw [getD_set_ne false (Ne.symm hji)] at hlj
       exact hm _ _ _ _ hle (hΦ j hj hlj)
     rw [getD_set_ne false (by omega)]; exact hk0
   rcases JL hB with h | ⟨h, o', q1, q2, q3, q4, q5⟩
   · omega
   have hie : i = k := by omega
   subst hie
   rw [q1] at ho
   cases ho
   have hfull : ∀ j, j < i → listed.getD j false = true := fun j hj => by
     obtain ⟨x, hx, hb, rfl⟩ := NN q1 (q5 j hj)
     exact hdeps x hx hb
   obtain ⟨op, ty, pos, af, p1, p2⟩ := (hend e F hF he fun j hj => hΦ j hj (hfull j hj)).2 h
   rw [q1] at p1
   cases p1
   unfold wpOp
   simp only [q1]
   rw [if_pos (by simp [Region.wanted])]
   refine .inl (p2 a w hf hw _ _ fun v σ' w' hK hw' => ?_)
   have hz : fuel = 0 := by
     have hcnt : undone (listed.setIfInBounds i true) = 0 := by
       have hall : ∀ j, j < (listed.setIfInBounds i true).size → (listed.setIfInBounds i true).getD j false = true := fun j hj => by
         by_cases hji : j = i
         · subst hji; simp [Array.getD, hil]
         rw [getD_set_ne false (Ne.symm hji)]
         exact hfull j (by simp at hj; omega)
       unfold undone
       rw [List.count_eq_zero]
       intro hmem
       obtain ⟨j, hj, hje⟩ := List.mem_iff_getElem.1 hmem
       have hj' : j < (listed.setIfInBounds i true).size := by simpa using hj
       have h9 := hall j hj'
       simp only [Array.getD, hj', dif_pos] at h9
       rw [Array.getElem_toList] at hje
       have h10 : (listed.setIfInBounds i true)[j]'hj' = true := h9
       rw [h10] at hje; cases hje
     omega
   subst hz
   refine ⟨?_, B.ds, e, σ', hf, hw', hK⟩
   cases hr : Region.ready .any ops (listed.setIfInBounds i true) with
   | nil => rfl
   | cons q l =>
     have hq : q ∈ Region.ready .any ops (listed.setIfInBounds i true) := by rw [hr]; simp
     obtain ⟨h1q, o, hoq, -⟩ := mem_ready.1 hq
     have hqs : q < listed.size := by rw [hsz]; exact (Array.getElem?_eq_some_iff.1 hoq).1
     by_cases hqi : q = i
     · subst hqi; simp [Array.getD, hil] at h1q
     have h2 := hfull q (by omega)
     rw [getD_set_ne true (Ne.symm hqi)] at h1q
     simp [Array.getD, hqs] at h1q h2
     rw [h1q] at h2; cases h2
def AllMono : List (Heap → Value → Prop) → Prop
 | [] => True
 | p :: l => (∀ F F' v, F.le F' → p F v → p F' v) ∧ AllMono l
def phiOf : List (Heap → Value → Prop) → Nat → Heap → Value → Prop
 | [], _ => fun _ _ => True
 | p :: _, 0 => p
 | _ :: l, i + 1 => phiOf l i
theorem AllMono.phi : ∀ {l : List (Heap → Value → Prop)}, AllMono l → ∀ i F F' v, F.le F' → phiOf l i F v → phiOf l i F' v
 | [], _, _, _, _, _, _, h => h
 | _ :: _, h, 0, _, _, _, hF, hp => h.1 _ _ _ hF hp
 | _ :: _, h, i + 1, _, _, _, hF, hp => h.2.phi i _ _ _ hF hp
theorem J0 {id : Nat} {l : List Oper} {Q : Exit → Env → St → Prop} (k : Nat) (hp : Plainly B.ro l) (hO : ∀ e σ, Q .outgrown e σ → False) (hm : P.follows .mixedOrders = true) (hB : factB n l.toArray k = true) (tail : Bool) (ht : Nat.beq l.toArray.size (k + 1) = tail)
   (φs : List (Heap → Value → Prop)) (hmono : AllMono φs)
   (hops : ∀ ds, AllTo (Hop P n (B.at ds) l.toArray k (phiOf φs) e0 σ) k) (hend : ∀ ds, HendT P n (B.at ds) l.toArray k (phiOf φs) e0 σ Q tail) : WC P n B (.region id l.toArray true) Q e0 σ := by
 intro ds a w ha hw
 refine wpIn_region_any hm (Ex (Jd hO) (by simpa using hp.mem) _ _ _ _ ?_)
 have := Ol (P := P) (e0 := e0) (σ := σ) (Q := Q) hB hmono.phi (hops ds) ((hend ds).to ht) l.toArray.size (Array.replicate l.toArray.size false) a _ e0 σ.F ha hw.drew (Heap.le_refl _) (fun _ _ => rfl) (fun j _ h => by simp [Array.getD] at h) (by simp) (by simp [Array.getD]) (by simp [undone])
 exact this
end
end
section
open Go.RowKit
def depG (o : Oper) (j : Nat) : Bool := o.after.any fun x => Region.binds .any x && x.on == j
def factGB (n : Nat) (ops : Array Oper) : Bool :=
 (List.range ops.size).all (fun i => match ops[i]? with
   | some o => (match o.dst with | some d => Nat.blt d n | none => false) && (match o.guard with | none => true | some (j, _) => Nat.blt j i && depG o j) && o.after.all (fun x => !(Region.binds .any x) || Nat.blt x.on i) && (List.range i).all (fun j => !(Nat.beq (dstB ops j) (dstB ops i)))
   | none => false)
section
variable {P : Program} {n : Nat} {B : Base} {e0 : Env} {σ : St}
def HopG (P : Program) (n : Nat) (B : Base) (ops : Array Oper) (k : Nat) (Φ : Nat → Heap → Value → Prop) (e0 : Env) (σ : St) (i : Nat) : Prop :=
 ∀ e F, σ.F.le F → (∀ t, (∀ j, j < k → t ≠ dstB ops j) → e t = e0 t) → (∀ j, depB ops i j = true → j < k → Φ j F (e (dstB ops j))) →
   ∃ d op ty pos af gd, ops[i]? = some ⟨some d, op, ty, pos, af, gd⟩ ∧ (∀ j b, gd = some (j, b) → e (dstB ops j) = .bool b) ∧ OpX P n B ⟨some d, op, ty, pos, af, none⟩ e ⟨F, σ.H⟩ fun v σ' => ∃ F', σ' = ⟨F', σ.H⟩ ∧ F.le F' ∧ Φ i F' v
theorem GM {ops : Array Oper} (hB : factGB n ops = true) {i : Nat} (hi : i < ops.size) : ∃ o d, ops[i]? = some o ∧ o.dst = some d ∧ d < n ∧ (∀ j b, o.guard = some (j, b) → j < i) ∧ (∀ x ∈ o.after, Region.binds .any x = true → x.on < i) ∧ ∀ j, j < i → dstB ops j ≠ dstB ops i := by
 unfold factGB at hB
 have h := List.all_eq_true.1 hB i (by simpa using hi)
 split at h
 · rename_i o ho
   simp only [Bool.and_eq_true] at h
   obtain ⟨⟨⟨h1, h2⟩, h3⟩, h4⟩ := h
   split at h1
   · rename_i d hd
     refine ⟨o, d, ho, hd, by simpa using h1, fun j b hg => ?_, fun x hx hb => ?_, fun j hj he => ?_⟩
     · rw [hg] at h2
       simp only [Bool.and_eq_true] at h2
       simpa using h2.1
     · have := Array.all_eq_true'.1 h3 x hx
       simpa [hb] using this
     have := List.all_eq_true.1 h4 j (by simpa using hj)
     rw [he] at this
     simp at this
   cases h1
 cases h
theorem Np {ops : Array Oper} {Φ : Nat → Heap → Value → Prop} {Q : Exit → Env → St → Prop} (hB : factGB n ops = true) (hm : ∀ i F F' v, F.le F' → Φ i F v → Φ i F' v)
   (hops : AllTo (HopG P n B ops ops.size Φ e0 σ) ops.size)
   (hend : ∀ e F, σ.F.le F → (∀ t, (∀ j, j < ops.size → t ≠ dstB ops j) → e t = e0 t) → (∀ j, j < ops.size → Φ j F (e (dstB ops j))) → Q .normal e ⟨F, σ.H⟩) : ∀ (fuel : Nat) (listed : Array Bool) (a : Act) (w : World) (e : Env) (F : Heap), Fits n B a e → Holds B ⟨F, σ.H⟩ w → σ.F.le F →
     (∀ t, (∀ j, j < ops.size → t ≠ dstB ops j) → e t = e0 t) → (∀ j, j < ops.size → listed.getD j false = true → Φ j F (e (dstB ops j))) → listed.size = ops.size → undone listed = fuel →
     wpAny P .any ops (lift n B Q) fuel listed a w := by
 have hready : ∀ (listed : Array Bool), listed.size = ops.size → undone listed ≠ 0 → ∃ i, i ∈ Region.ready .any ops listed := by
   intro listed hsz hun
   have hex : ∃ i, i < listed.size ∧ listed.getD i false = false := by
     have : false ∈ listed.toList := by
       rw [← List.count_pos_iff]; unfold undone at hun; omega
     obtain ⟨i, hi, he⟩ := List.mem_iff_getElem.1 this
     exact ⟨i, by simpa using hi, by simp at hi; simp [Array.getD, hi]; simpa using he⟩
   obtain ⟨i, ⟨hi, hli⟩, hmin⟩ := D3 hex
   refine ⟨i, mem_ready.2 ⟨by simp [Array.getD, hi] at hli ⊢; exact hli, ?_⟩⟩
   have hlt : ∀ j, j < i → listed.getD j false = true := fun j hj => by
     cases hc : listed.getD j false with
     | true => rfl
     | false => exact absurd (hmin j ⟨by omega, hc⟩) (by omega)
   obtain ⟨o, d, h1, -, -, -, h5, -⟩ := GM hB (i := i) (by omega)
   exact ⟨o, h1, fun x hx hb => hlt _ (h5 x hx hb)⟩
 intro fuel
 induction fuel with
 | zero =>
   intro listed a w e F hf hw hF he hΦ hsz hun
   have hall : ∀ j, j < listed.size → listed.getD j false = true := fun j hj => by
     cases hc : listed.getD j false with
     | true => rfl
     | false =>
       have h1 : false ∈ listed.toList := List.mem_iff_getElem.2 ⟨j, by simpa using hj, by simp [Array.getD, hj] at hc; simpa using hc⟩
       rw [← List.count_pos_iff] at h1
       unfold undone at hun; omega
   refine ⟨?_, B.ds, e, ⟨F, σ.H⟩, hf, hw, hend e F hF he fun j hj => hΦ j hj (hall j (by omega))⟩
   cases hr : Region.ready .any ops listed with
   | nil => rfl
   | cons i l =>
     have : i ∈ Region.ready .any ops listed := by rw [hr]; simp
     obtain ⟨h1, o, ho, -⟩ := mem_ready.1 this
     have hi : i < listed.size := by rw [hsz]; exact (Array.getElem?_eq_some_iff.1 ho).1
     have h2 := hall i hi
     simp [Array.getD, hi] at h1 h2
     rw [h1] at h2; cases h2
 | succ fuel ih =>
   intro listed a w e F hf hw hF he hΦ hsz hun
   obtain ⟨i0, hi0⟩ := hready listed hsz (by omega)
   refine ⟨fun h => (by rw [h] at hi0; cases hi0), fun i hi => ?_⟩
   obtain ⟨h1, o, ho, hdeps⟩ := mem_ready.1 hi
   have hik : i < ops.size := (Array.getElem?_eq_some_iff.1 ho).1
   have hil : i < listed.size := by rw [hsz]; exact hik
   have hun' := KS h1
   obtain ⟨o', d', h2, h3, h4, h5, h6, h7⟩ := GM hB hik
   obtain ⟨d, op, ty, pos, af, gd, q1, q3, q2⟩ := hops.get i hik e F hF he fun j hj hjk => by
     obtain ⟨x, hx, hb, rfl⟩ := NN ho hj
     exact hΦ _ hjk (hdeps x hx hb)
   rw [q1] at ho
   cases ho
   rw [q1] at h2
   cases h2
   have hdd : dstB ops i = d := by unfold dstB; rw [q1]; rfl
   have hdn : d < n := by
     have : d = d' := by simpa using h3
     subst this; exact h4
   have hwant : Region.wanted (⟨some d, op, ty, pos, af, gd⟩ : Oper) (yielded ops a.tmps) = true := by
     cases gd with
     | none => simp [Region.wanted]
     | some p =>
       obtain ⟨j, b⟩ := p
       have hji := h5 j b rfl
       obtain ⟨oj, dj, r1, r2, r3, -⟩ := GM hB (i := j) (by omega)
       have hdj : dstB ops j = dj := by unfold dstB; rw [r1]; simp [r2]
       exact Fu hf (by rw [r1]; exact r2) (by simpa using r3) (by have := q3 j b rfl; rw [hdj] at this; exact this) rfl
   unfold wpOp
   simp only [q1]
   rw [if_pos hwant]
   refine .inl (q2 a w hf hw _ _ fun v σ' w' hK hw' => ?_)
   obtain ⟨F', rfl, hle, hφ⟩ := hK
   refine ih (listed.setIfInBounds i true) _ w' (upd e d v) F' (hf.put hdn v) hw' (Heap.le_trans hF hle) (fun t ht => ?_) (fun j hj hlj => ?_) (by simpa using hsz) (by omega)
   · unfold upd
     rw [if_neg (fun h => ht i hik (by rw [h, hdd]))]
     exact he t ht
   by_cases hji : j = i
   · subst hji
     rw [hdd]
     simp only [upd, if_true]
     exact hφ
   have hne : dstB ops j ≠ d := by
     rw [← hdd]
     rcases Nat.lt_or_ge j i with h | h
     · exact h7 j h
     obtain ⟨-, -, -, -, -, -, -, h8⟩ := GM hB hj
     exact (h8 i (by omega)).symm
   simp only [upd, if_neg hne]
   rw [getD_set_ne false (Ne.symm hji)] at hlj
   exact hm _ _ _ _ hle (hΦ j hj hlj)
theorem Wf {id : Nat} {l : List Oper} {Q : Exit → Env → St → Prop} (k : Nat) (hk : l.toArray.size = k) (hp : Plainly B.ro l) (hO : ∀ e σ, Q .outgrown e σ → False) (hm : P.follows .mixedOrders = true) (hB : factGB n l.toArray = true)
   (φs : List (Heap → Value → Prop)) (hmono : AllMono φs)
   (hops : ∀ ds, AllTo (HopG P n (B.at ds) l.toArray k (phiOf φs) e0 σ) k)
   (hend : ∀ e F, σ.F.le F → (∀ t, (∀ j, j < k → t ≠ dstB l.toArray j) → e t = e0 t) → (∀ j, j < k → phiOf φs j F (e (dstB l.toArray j))) → Q .normal e ⟨F, σ.H⟩) : WC P n B (.region id l.toArray true) Q e0 σ := by
 intro ds a w ha hw
 subst hk
 refine wpIn_region_any hm (Ex (Jd hO) (by simpa using hp.mem) _ _ _ _ ?_)
 exact Np (P := P) (e0 := e0) (σ := σ) (Q := Q) hB hmono.phi (hops ds) hend l.toArray.size (Array.replicate l.toArray.size false) a _ e0 σ.F ha hw.drew (Heap.le_refl _) (fun _ _ => rfl) (fun j _ h => by simp [Array.getD] at h) (by simp) (by simp [undone])
end
end
section
open Go.RowKit
section
variable {P : Program} {n : Nat} {B : Base} {ops : Array Oper} {Φ : Nat → Heap → Value → Prop} {e : Env} {F : Heap} {H : List (Nat × Obj)} {i j k : Nat} {b : Bool} {d : Nat} {op : Op} {ty : TypeId} {pos : String} {af : Array Edge} {v : Value}
theorem CD (ho : ops[i]? = some ⟨some d, op, ty, pos, af, none⟩) (q : OpR P B ⟨some d, op, ty, pos, af, none⟩ e ⟨F, H⟩ v) (h : Φ i F v) : ∃ d op ty pos af gd, ops[i]? = some ⟨some d, op, ty, pos, af, gd⟩ ∧ (∀ j b, gd = some (j, b) → e (dstB ops j) = .bool b) ∧ OpX P n B ⟨some d, op, ty, pos, af, none⟩ e ⟨F, H⟩ fun v σ' => ∃ F', σ' = ⟨F', H⟩ ∧ F.le F' ∧ Φ i F' v :=
 ⟨_, _, _, _, _, _, ho, (fun _ _ h => nomatch h), Be q.quiet ⟨_, rfl, Heap.le_refl _, h⟩⟩
theorem Da (ho : ops[i]? = some ⟨some d, op, ty, pos, af, some (j, b)⟩) (hg : e (dstB ops j) = .bool b) (q : OpR P B ⟨some d, op, ty, pos, af, none⟩ e ⟨F, H⟩ v) (h : Φ i F v) : ∃ d op ty pos af gd, ops[i]? = some ⟨some d, op, ty, pos, af, gd⟩ ∧ (∀ j b, gd = some (j, b) → e (dstB ops j) = .bool b) ∧ OpX P n B ⟨some d, op, ty, pos, af, none⟩ e ⟨F, H⟩ fun v σ' => ∃ F', σ' = ⟨F', H⟩ ∧ F.le F' ∧ Φ i F' v :=
 ⟨_, _, _, _, _, _, ho, (fun _ _ h => by cases h; exact hg), Be q.quiet ⟨_, rfl, Heap.le_refl _, h⟩⟩
theorem DX (ho : ops[i]? = some ⟨some d, op, ty, pos, af, none⟩) (q : OpR P B ⟨some d, op, ty, pos, af, none⟩ e ⟨F, H⟩ v) (h : Φ i F v) : ∃ d op ty pos af, ops[i]? = some ⟨some d, op, ty, pos, af, none⟩ ∧ OpX P n B ⟨some d, op, ty, pos, af, none⟩ e ⟨F, H⟩ fun v σ' => ∃ F', σ' = ⟨F', H⟩ ∧ F.le F' ∧ Φ i F' v :=
 ⟨_, _, _, _, _, ho, Be q.quiet ⟨_, rfl, Heap.le_refl _, h⟩⟩
theorem B7 (h : ∀ j, depB ops i j = true → j < k → Φ j F (e (dstB ops j))) (j : Nat) (h1 : depB ops i j = true := by kernel_rfl) (h2 : j < k := by decide) : Φ j F (e (dstB ops j)) := h j h1 h2
end
end
section
def Sale.bid (s : Sale) (i : Nat) : Bid := s.bids[i]?.getD ⟨0, 0, 0⟩
def Sale.lot (s : Sale) (i : Nat) : Lot := s.lots[i]?.getD ⟨ByteArray.empty, 0, 0, false⟩
def Sale.stp (s : Sale) (i : Nat) : Stp := s.steps[i]?.getD ⟨0, 0⟩
theorem Gv {s : Sale} {i : Nat} (h : i < s.bids.length) : s.bids[i] = s.bid i := by simp [Sale.bid, h]
theorem Hw {s : Sale} {i : Nat} (h : i < s.lots.length) : s.lots[i] = s.lot i := by simp [Sale.lot, h]
theorem Fw {s : Sale} {i : Nat} (h : i < s.steps.length) : s.steps[i] = s.stp i := by simp [Sale.stp, h]
structure ValidS (s : Sale) : Prop where
 nst : 1 ≤ s.steps.length ∧ s.steps.length ≤ 5
 nb : s.bidders.length ≤ 6
 nse : s.sellers.length ≤ 4
 nl : s.lots.length ≤ 6
 nd : s.bids.length ≤ 16
 st0 : (s.stp 0).from_ = 0
 st : ∀ i, 0 < i → i < s.steps.length → (s.stp (i - 1)).from_ < (s.stp i).from_ ∧ (s.stp i).from_ ≤ 100000
 by_ : ∀ i, i < s.steps.length → 1 ≤ (s.stp i).by_ ∧ (s.stp i).by_ ≤ 100000
 pre : 0 ≤ s.premium ∧ s.premium ≤ 500
 fee : 0 ≤ s.fee ∧ s.fee ≤ 500
 days : 0 ≤ s.days ∧ s.days ≤ 60
 lo : ∀ i, i < s.lots.length → 0 ≤ (s.lot i).seller ∧ (s.lot i).seller < s.sellers.length ∧ 1 ≤ (s.lot i).reserve ∧ (s.lot i).reserve ≤ 100000
 bd : ∀ i, i < s.bids.length → 0 ≤ (s.bid i).bidder ∧ (s.bid i).bidder < s.bidders.length ∧ 0 ≤ (s.bid i).lot ∧ (s.bid i).lot < s.lots.length ∧ 1 ≤ (s.bid i).most ∧ (s.bid i).most ≤ 100000
 two : ∀ i j, i < j → j < s.bids.length → ¬ ((s.bid i).bidder = (s.bid j).bidder ∧ (s.bid i).lot = (s.bid j).lot)
theorem Pk {s : Sale} (h : (checkS s).2.2 = 0) : stepsE s.steps = none ∧ ((inB 0 500 s.premium && inB 0 500 s.fee) && inB 0 60 s.days) = true ∧ firstE s.bidders.length 6 (nameErr s.bidders) = none ∧ firstE s.sellers.length 4 (nameErr s.sellers) = none ∧ firstE s.lots.length 6 (lotErr s) = none ∧ firstE s.bids.length 16 (bidErr s) = none := by
 have hb : ∀ {n most : Nat} {f : Nat → Int} {i e : Int}, firstE n most f = some (i, e) → e ≠ 0 := by
   intro n most f i e h
   unfold firstE at h
   split at h
   · simp at h; omega
   rw [Option.map_eq_some_iff] at h
   obtain ⟨k, hk, h2⟩ := h
   simp at h2
   unfold firstBad at hk
   have := List.find?_some hk
   simp at this
   rw [← h2.2]; exact this
 unfold checkS at h
 cases h1 : stepsE s.steps with
 | some p =>
   obtain ⟨i, e⟩ := p
   rw [h1] at h
   unfold stepsE at h1
   split at h1
   · simp at h1; simp only at h; omega
   exact absurd h (hb h1)
 | none =>
   rw [h1] at h
   simp only at h
   split at h
   · simp at h
   rename_i h2
   cases h3 : firstE s.bidders.length 6 (nameErr s.bidders) with
   | some p => rw [h3] at h; exact absurd h (hb h3)
   | none =>
     rw [h3] at h; simp only at h
     cases h4 : firstE s.sellers.length 4 (nameErr s.sellers) with
     | some p => rw [h4] at h; exact absurd h (hb h4)
     | none =>
       rw [h4] at h; simp only at h
       cases h5 : firstE s.lots.length 6 (lotErr s) with
       | some p => rw [h5] at h; exact absurd h (hb h5)
       | none =>
         rw [h5] at h; simp only at h
         cases h6 : firstE s.bids.length 16 (bidErr s) with
         | some p => rw [h6] at h; exact absurd h (hb h6)
         | none => exact ⟨rfl, (by simpa only [Bool.not_eq_false] using h2), rfl, rfl, rfl, rfl⟩
theorem BV {s : Sale} (h : (checkS s).2.2 = 0) : ValidS s := by
 obtain ⟨h1, h2, h3, h4, h5, h6⟩ := Pk h
 unfold stepsE at h1
 split at h1
 · cases h1
 rename_i h0
 obtain ⟨a1, a2⟩ := DZ h1
 obtain ⟨b1, -⟩ := DZ h3
 obtain ⟨c1, -⟩ := DZ h4
 obtain ⟨d1, d2⟩ := DZ h5
 obtain ⟨e1, e2⟩ := DZ h6
 simp only [inB, Bool.and_eq_true, decide_eq_true_eq] at h2
 have hst : ∀ i (hi : i < s.steps.length), (if i = 0 then decide (s.steps[i].from_ = 0) else inB (((s.steps[i - 1]?).map (·.from_)).getD 0 + 1) 100000 s.steps[i].from_) = true ∧ inB 1 100000 s.steps[i].by_ = true := fun i hi => by
   have := a2 i hi
   unfold stepErr at this
   rw [List.getElem?_eq_getElem hi] at this
   simp only at this
   by_cases k1 : (if i = 0 then decide (s.steps[i].from_ = 0) else inB (((s.steps[i - 1]?).map (·.from_)).getD 0 + 1) 100000 s.steps[i].from_) = true
   · refine ⟨k1, ?_⟩
     rw [if_neg (by rw [k1]; simp)] at this
     by_cases k2 : inB 1 100000 s.steps[i].by_ = true
     · exact k2
     rw [if_pos (by simpa using k2)] at this; cases this
   rw [if_pos (by simpa only [Bool.not_eq_true] using k1)] at this; cases this
 have hbd : ∀ i (hi : i < s.bids.length), (inB 0 (s.bidders.length - 1) s.bids[i].bidder && inB 0 (s.lots.length - 1) s.bids[i].lot) = true ∧ inB 1 100000 s.bids[i].most = true ∧ (s.bids.take i).any (fun y => decide (y.bidder = s.bids[i].bidder) && decide (y.lot = s.bids[i].lot)) = false := fun i hi => by
   have := e2 i hi
   unfold bidErr at this
   rw [List.getElem?_eq_getElem hi] at this
   simp only at this
   split at this
   · cases this
   rename_i k1
   split at this
   · cases this
   rename_i k2
   split at this
   · cases this
   rename_i k3; exact ⟨by simpa using k1, by simpa using k2, by simpa using k3⟩
 refine ⟨⟨by omega, a1⟩, b1, c1, d1, e1, ?_, fun i h0 hi => ?_, fun i hi => ?_, h2.1.1, h2.1.2, h2.2, fun i hi => ?_, fun i hi => ?_, fun i j hij hj => ?_⟩
 · have := (hst 0 (by omega)).1
   rw [if_pos rfl] at this
   rw [← Fw (show 0 < s.steps.length by omega)]; simpa using this
 · have := (hst i hi).1
   rw [if_neg (by omega), List.getElem?_eq_getElem (show i - 1 < s.steps.length by omega)] at this
   simp [inB] at this
   rw [← Fw hi, ← Fw (show i - 1 < s.steps.length by omega)]
   omega
 · have := (hst i hi).2
   simp [inB] at this
   rw [← Fw hi]; exact this
 · have := d2 i hi
   unfold lotErr at this
   rw [List.getElem?_eq_getElem hi] at this
   simp only at this
   split at this
   · cases this
   split at this
   · cases this
   split at this
   · cases this
   rename_i k3
   split at this
   · cases this
   rename_i k4
   simp [inB] at k3 k4
   rw [← Hw hi]; omega
 · obtain ⟨k1, k2, -⟩ := hbd i hi
   simp [inB] at k1 k2
   rw [← Gv hi]; omega
 obtain ⟨-, -, k3⟩ := hbd j hj
 rw [List.any_eq_false] at k3
 have := k3 (s.bids[i]'(by omega)) (by rw [List.mem_take_iff_getElem]; exact ⟨i, by omega, rfl⟩)
 rw [← Gv hj, ← Gv (show i < s.bids.length by omega)]
 simpa using this
def behindBy (ss : List Stp) (p : Int) : Int := ss.foldl (fun b x => if x.from_ ≤ p then x.by_ else b) 0
def behindS (s : Sale) (p : Int) : Int := p + behindBy s.steps p
def climbTo (s : Sale) (others most : Int) : Nat → Int → Int
 | 0, p => p
 | f + 1, p => if p ≤ others ∧ behindS s p ≤ most then climbTo s others most f (behindS s p) else p
def climbS (s : Sale) (p others most : Int) : Int := climbTo s others most (others + 1 - p).toNat p
def topStep (s : Sale) (lot : Int) (mem : Int → Bool) (best : Int) (i : Nat) : Int :=
 if (s.bid i).lot = lot ∧ mem (s.bid i).bidder = true ∧ (best < 0 ∨ (s.bid best.toNat).most < (s.bid i).most) then (i : Int) else best
def topTo (s : Sale) (lot : Int) (mem : Int → Bool) (k : Nat) : Int := (List.range k).foldl (topStep s lot mem) (-1)
def topS (s : Sale) (lot : Int) (mem : Int → Bool) : Int := topTo s lot mem s.bids.length
def inRing (ring : List Int) (b : Int) : Bool := decide (b ∈ ring)
def biddingP (s : Sale) (lot : Int) (ring : List Int) (i : Nat) : Bool := decide ((s.bid i).lot = lot) && (decide ((i : Int) = topS s lot (inRing ring)) || !(inRing ring (s.bid i).bidder))
def biddingL (s : Sale) (lot : Int) (ring : List Int) : List Nat := (List.range s.bids.length).filter (biddingP s lot ring)
def othersL (s : Sale) (one : Int) (l : List Nat) : Int := l.foldl (fun (m : Int) (i : Nat) => if (i : Int) ≠ one then max m (s.bid i).most else m) 0
def soldS (s : Sale) (i : Nat) (ring : List Int) : Res :=
 if topS s (i : Int) (fun _ => true) < 0 ∨ (s.bid (topS s i fun _ => true).toNat).most < (s.lot i).reserve then ⟨-1, 0⟩
 else ⟨(s.bid (topS s i fun _ => true).toNat).bidder, climbS s (s.lot i).reserve (othersL s (topS s i fun _ => true) (biddingL s i ring)) (s.bid (topS s i fun _ => true).toNat).most⟩
def allS (s : Sale) (ring : List Int) : List Res := (List.range s.lots.length).map fun i => soldS s i ring
def ringErr (s : Sale) (ring : List Int) : Int := if (ring.any fun z => !(inB 0 (s.bidders.length - 1) z)) = true then 4 else if notAsc ring = true then 2 else if ring.length = 1 then 3 else 0
def enterErr (s : Sale) (ring : List Int) : Int := if (checkS s).2.2 ≠ 0 then (checkS s).2.2 else ringErr s ring
def nextE (s : Sale) (p : Int) : Int × Int := if (checkS s).2.2 ≠ 0 then (0, (checkS s).2.2) else if inB 0 100000 p = false then (0, 7) else (behindS s p, 0)
end
section
set_option maxRecDepth 100000
open Go.RowKit
theorem HF : AggT Tryz.prog 47 4 := Cu (by kernel_rfl)
instance : AggI Tryz.prog 47 4 := ⟨HF⟩
theorem Ep : AggT Tryz.prog 124 3 := Cu (by kernel_rfl)
instance : AggI Tryz.prog 124 3 := ⟨Ep⟩
theorem VI : Body Tryz.prog 118 := AE (by kernel_rfl)
theorem bd_86 : Body Tryz.prog 86 := AE (by kernel_rfl)
theorem Rt : Body Tryz.prog 87 := AE (by kernel_rfl)
theorem VH : Body Tryz.prog 119 := AE (by kernel_rfl)
theorem bd_120 : Body Tryz.prog 120 := AE (by kernel_rfl)
theorem Vz : Body Tryz.prog 81 := AE (by kernel_rfl)
theorem bd_82 : Body Tryz.prog 82 := AE (by kernel_rfl)
theorem bd_155 : Body Tryz.prog 155 := AE (by kernel_rfl)
theorem bd_156 : Body Tryz.prog 156 := AE (by kernel_rfl)
theorem Rh : FieldT Tryz.prog 41 0 0 := AU (by kernel_rfl)
instance : FieldI Tryz.prog 41 0 0 := ⟨Rh⟩
instance : FieldI Tryz.prog 41 1 1 := ⟨AU (by kernel_rfl)⟩
theorem AF : OneT Tryz.prog 3 := BE (by kernel_rfl)
instance : OneI Tryz.prog 3 := ⟨AF⟩
theorem E6 : OneT Tryz.prog 9 := BE (by kernel_rfl)
instance : OneI Tryz.prog 9 := ⟨E6⟩
theorem BB : SliceT Tryz.prog 29 9 1 := Ci (by kernel_rfl)
instance : SliceI Tryz.prog 29 := ⟨_, _, BB⟩
theorem BN : SliceT Tryz.prog 30 47 4 := Ci (by kernel_rfl)
instance : SliceI Tryz.prog 30 := ⟨_, _, BN⟩
theorem CT : SliceT Tryz.prog 31 124 3 := Ci (by kernel_rfl)
instance : SliceI Tryz.prog 31 := ⟨_, _, CT⟩
theorem A9 : SliceT Tryz.prog 44 3 1 := Ci (by kernel_rfl)
instance : SliceI Tryz.prog 44 := ⟨_, _, A9⟩
theorem M7 {F : Heap} (c : UInt8) : Ok Tryz.prog 119 [.int .u8 (c.toNat : Int)].toArray F fun r _ => r = .bool (letterB c) := by
 refine Ok.intro Tryz.func119 rfl Tryz.ntmps119 rfl fun w0 => ?_
 by_cases h1 : 97 ≤ (c.toNat : Int)
 ·refine AD (Af 1) <| Az (Af 3) fun ds => Ae rfl rfl Aa (by first | rfl | exact dT (by omega)) <| Aj (Af 1) <| Ae rfl rfl Aa (by first | rfl | exact dT (by omega)) <| Aj (Af 1) <| Ag rfl (Ar Aa (by first | rfl | exact dT (by omega)) Aa) <| Aw (Af 1) ?_
  by_cases h2 : (c.toNat : Int) ≤ 122
  ·refine At <| Ap rfl Bd ?_
   show _ = _; simp [outOf, letterB, h1, h2]
  refine At <| Ap rfl Bd ?_
  show _ = _; simp [outOf, letterB, h1, h2]
 refine AD (Af 1) <| Az (Af 3) fun ds => Ah rfl rfl Aa (.inl (congrArg Value.bool (by first | rfl | exact dF (by omega)))) rfl <| Ah rfl rfl Aa (.inl (congrArg Value.bool (by first | rfl | exact dF (by omega)))) rfl <| Ag rfl (As Aa (by first | rfl | exact dF (by omega)) Aa) <| Aw (Af 1) <| At <| Ap rfl Bd ?_
 show _ = _; simp [outOf, letterB, h1]
theorem Vd {F : Heap} (c : UInt8) : Ok Tryz.prog 120 [.int .u8 (c.toNat : Int)].toArray F fun r _ => r = .bool (digitB c) := by
 refine Ok.intro Tryz.func120 rfl Tryz.ntmps120 rfl fun w0 => ?_
 by_cases h1 : 48 ≤ (c.toNat : Int)
 ·refine AD (Af 1) <| Az (Af 3) fun ds => Ae rfl rfl Aa (by first | rfl | exact dT (by omega)) <| Aj (Af 1) <| Ae rfl rfl Aa (by first | rfl | exact dT (by omega)) <| Aj (Af 1) <| Ag rfl (Ar Aa (by first | rfl | exact dT (by omega)) Aa) <| Aw (Af 1) ?_
  by_cases h2 : (c.toNat : Int) ≤ 57
  ·refine At <| Ap rfl Bd ?_
   show _ = _; simp [outOf, digitB, h1, h2]
  refine At <| Ap rfl Bd ?_
  show _ = _; simp [outOf, digitB, h1, h2]
 refine AD (Af 1) <| Az (Af 3) fun ds => Ah rfl rfl Aa (.inl (congrArg Value.bool (by first | rfl | exact dF (by omega)))) rfl <| Ah rfl rfl Aa (.inl (congrArg Value.bool (by first | rfl | exact dF (by omega)))) rfl <| Ag rfl (As Aa (by first | rfl | exact dF (by omega)) Aa) <| Aw (Af 1) <| At <| Ap rfl Bd ?_
 show _ = _; simp [outOf, digitB, h1]
theorem CA {F : Heap} (z lo hi : Int) : Ok Tryz.prog 17 [.int .i64 z, .int .i64 lo, .int .i64 hi].toArray F fun r _ => r = .bool (inB lo hi z) := by
 refine Ok.intro Tryz.func17 rfl Tryz.ntmps17 rfl fun w0 => ?_
 by_cases h1 : lo ≤ z
 ·refine AD (Af 1) <| Az (Af 4) fun ds => Ae rfl rfl Aa (by first | rfl | exact dT (by omega)) <| Aj (Af 1) <| Ae rfl rfl Aa (by first | rfl | exact dT (by omega)) <| Aj (Af 1) <| Ae rfl rfl Aa (by first | rfl | exact dT (by omega)) <| Aj (Af 1) <| Ag rfl (Ar Aa (by first | rfl | exact dT (by omega)) Aa) <| Aw (Af 1) ?_
  by_cases h2 : z ≤ hi
  ·refine At <| Ap rfl Bd ?_
   show _ = _; simp [outOf, inB, h1, h2]
  refine At <| Ap rfl Bd ?_
  show _ = _; simp [outOf, inB, h1, h2]
 refine AD (Af 1) <| Az (Af 4) fun ds => Ah rfl rfl Aa (.inl (congrArg Value.bool (by first | rfl | exact dF (by omega)))) rfl <| Ah rfl rfl Aa (.inl (congrArg Value.bool (by first | rfl | exact dF (by omega)))) rfl <| Ah rfl rfl Aa (.inl (congrArg Value.bool (by first | rfl | exact dF (by omega)))) rfl <| Ag rfl (As Aa (by first | rfl | exact dF (by omega)) Aa) <| Aw (Af 1) <| At <| Ap rfl Bd ?_
 show _ = _; simp [outOf, inB, h1]
theorem Fy {F : Heap} (s : ByteArray) : Ok Tryz.prog 87 [.string s].toArray F fun r _ => r = .bool (nameOk s) := by
 refine Ok.intro Tryz.func87 rfl Tryz.ntmps87 rfl fun w0 => ?_
 by_cases h0 : (s.size : Int) = 0
 ·refine AD (Af 1) <| Ac <| Az (Af 1) fun ds => Ag rfl (JC Tryz.underlying9 Aa) <| Aj (Af 2) <| Ah rfl rfl Aa (.inl (congrArg Value.bool (by first | rfl | exact dT (by omega)))) rfl <| Ah rfl rfl Aa (.inl (congrArg Value.bool (by first | rfl | exact dT (by omega)))) rfl <| Ah rfl rfl Aa (.inl (congrArg Value.bool (by first | rfl | exact dT (by omega)))) rfl <| Ag rfl (Ar Aa (by first | rfl | exact dT (by omega)) Aa) <| Ao <| Ab <| Ai Aa (by first | rfl | exact dT (by omega)) <| AD (Af 1) <| At <| Ax <| Ap rfl Bd ?_
  show _ = _
  rw [FA (by omega)]; rfl
 refine AD (Af 1) <| Ac <| Az (Af 1) fun ds => Ag rfl (JC Tryz.underlying9 Aa) <| Aj (Af 2) <| Ae rfl rfl Aa (by first | rfl | exact dF (by omega)) <| Aj (Af 1) <| Ae rfl rfl Aa (by first | rfl | exact dF (by omega)) <| Ag rfl (JC Tryz.underlying9 Aa) <| Ae rfl rfl Aa (by first | rfl | exact dF (by omega)) <| Aj (Af 1) <| Ag rfl (As Aa (by first | rfl | exact dF (by omega)) Aa) <| Ao <| Ab ?_
 by_cases h16 : (16 : Int) < s.size
 ·refine Ai Aa (by first | rfl | exact dT (by omega)) <| AD (Af 1) <| At <| Ax <| Ap rfl Bd ?_
  show _ = _
  rw [FA (by omega)]; rfl
 refine Ad Aa (by first | rfl | exact dF (by omega)) <| Al <| Ab <| Ac <| AD (Af 1) <| Aq ?_
 refine AL [2, 3, 12, 13, 14, 15, 16, 17, 18, 19, 20, 21, 22, 23, 24, 25, 26, 27, 28, 29, 30, 31, 32, 33, 34, 35, 36, 37, 38, 39] (fun m e σ => ∃ k : Nat, m + k = s.size ∧ Fct e 3 (.int .i64 k) ∧ σ = ⟨F, []⟩ ∧ ∀ j (hj : j < s.size), j < k → chOk j s[j] = true) (s.size) ?_ ?_
 · exact ⟨0, by omega, AX, rfl, fun j hj h => absurd h (by omega)⟩
 rintro m e _ ⟨k, hm, hs3, rfl, hno⟩
 by_cases hlt : k < s.size
 ·refine Ac <| Az (Af 2) fun ds => Ag rfl (JC Tryz.underlying9 Aa) <| Aw (Af 1) <| Ai Aa (by first | rfl | exact dT (by omega)) ?_
  by_cases hl : letterB s[k] = true
  ·have hch : chOk k s[k] = true := by unfold chOk; rw [hl]; rfl
   refine Al <| Ab <| Ac <| Aq <| Az (Af 2) fun ds => Ag rfl (FZ Tryz.underlying9 Aa Aa rfl hlt) <| AN rfl (Ay VH Aa AW (M7 _) (fun _ _ h => h)) <| Aj (Af 2) <| Ah rfl rfl Aa (.inl (congrArg Value.bool (by first | rfl | (simp [hl]; done)))) rfl <| Ah rfl rfl Aa (.inl (congrArg Value.bool (by first | rfl | (simp [hl]; done)))) rfl <| Ah rfl rfl Aa (.inl (congrArg Value.bool (by first | rfl | (simp [hl]; done)))) rfl <| Ah rfl rfl Aa (.inr rfl) rfl <| Ah rfl rfl Aa (.inr rfl) rfl <| Ah rfl rfl Aa (.inr rfl) rfl <| Ah rfl rfl Aa (.inr rfl) rfl <| Ah rfl rfl Aa (.inr rfl) rfl <| Ah rfl rfl Aa (.inr rfl) rfl <| Ah rfl rfl Aa (.inr rfl) rfl <| Ah rfl rfl Aa (.inr rfl) rfl <| Ah rfl rfl Aa (.inr rfl) rfl <| Ah rfl rfl Aa (.inr rfl) rfl <| Ah rfl rfl Aa (.inr rfl) rfl <| Ah rfl rfl Aa (.inl (congrArg Value.bool (by first | rfl | (simp [hl]; done)))) rfl <| Ag rfl (As Aa (by first | rfl | (simp [hl]; done)) Aa) <| Ao <| Ab <| Ad Aa (by first | rfl | (simp [hl]; done)) <| Al <| A0 <| Ab <| Am fun ds => Aj (Af 1) <| Ag rfl (AG Aa Aa rfl (by omega) (by omega)) <| Aj (Af 1) <| Ao ?_
   refine Ab ⟨_, m - 1, Off.eq (B3 rfl <| BR rfl <| Ca rfl <| BX rfl <| A2), by omega, ?_⟩
   refine ⟨k + 1, by omega, AX, rfl, fun j hj hjk => ?_⟩
   rcases Nat.lt_succ_iff_lt_or_eq.1 hjk with hjk | rfl
   · exact hno j hj hjk
   exact hch
  replace hl : letterB s[k] = false := by simpa using hl
  refine Al <| Ab <| Ac <| Aq <| Az (Af 2) fun ds => Ag rfl (FZ Tryz.underlying9 Aa Aa rfl hlt) <| AN rfl (Ay VH Aa AW (M7 _) (fun _ _ h => h)) <| Aj (Af 2) <| Ae rfl rfl Aa (by first | rfl | (simp [hl]; done)) <| Aj (Af 1) <| Ae rfl rfl Aa (by first | rfl | (simp [hl]; done)) <| Aj (Af 1) <| Ae rfl rfl Aa (by first | rfl | (simp [hl]; done)) <| Aj (Af 1) ?_
  by_cases hz : k = 0
  ·have hch : chOk k s[k] = false := by unfold chOk; rw [hl]; simp [hz]
   refine Ah rfl rfl Aa (.inl (congrArg Value.bool (by first | rfl | exact dT (by omega)))) rfl <| Ah rfl rfl Aa (.inl (congrArg Value.bool (by first | rfl | exact dT (by omega)))) rfl <| Ah rfl rfl Aa (.inl (congrArg Value.bool (by first | rfl | exact dT (by omega)))) rfl <| Ah rfl rfl Aa (.inl (congrArg Value.bool (by first | rfl | exact dT (by omega)))) rfl <| Ah rfl rfl Aa (.inl (congrArg Value.bool (by first | rfl | exact dT (by omega)))) rfl <| Ah rfl rfl Aa (.inl (congrArg Value.bool (by first | rfl | exact dT (by omega)))) rfl <| Ah rfl rfl Aa (.inr rfl) rfl <| Ah rfl rfl Aa (.inr rfl) rfl <| Ah rfl rfl Aa (.inr rfl) rfl <| Ah rfl rfl Aa (.inr rfl) rfl <| Ah rfl rfl Aa (.inl (congrArg Value.bool (by first | rfl | exact dT (by omega)))) rfl <| Ae rfl rfl Aa (by first | rfl | (simp [hl]; done)) <| Ag rfl (Ar Aa (by first | rfl | exact dT (by omega)) Aa) <| Ag rfl (Ar Aa (by first | rfl | (simp [hl]; done)) Aa) <| Ao <| Ab <| Ai Aa (by first | rfl | exact dT (by omega)) <| AD (Af 1) <| At ?_
   refine A7 (Ax (Ax (A7 (Ax ?_))))
   refine Ap rfl Bd ?_
   show _ = _
   rw [C8 (i := k) hlt hch]; rfl
  refine Ae rfl rfl Aa (by first | rfl | exact dF (by omega)) <| Aj (Af 1) <| Ae rfl rfl Aa (by first | rfl | exact dF (by omega)) <| Aj (Af 1) <| Ae rfl rfl Aa (by first | rfl | exact dF (by omega)) <| Ag rfl (FZ Tryz.underlying9 Aa Aa rfl hlt) <| Ae rfl rfl Aa (by first | rfl | exact dF (by omega)) <| AN rfl (Ay bd_120 Aa AW (Vd _) (fun _ _ h => h)) <| Ae rfl rfl Aa (by first | rfl | exact dF (by omega)) <| Aj (Af 1) <| Ae rfl rfl Aa (by first | rfl | exact dF (by omega)) <| Aj (Af 1) ?_
  by_cases hd : digitB s[k] = true
  ·have hch : chOk k s[k] = true := by unfold chOk; rw [hd]; simp [hz]
   refine Ah rfl rfl Aa (.inl (congrArg Value.bool (by first | rfl | (simp [hd]; done)))) rfl <| Ah rfl rfl Aa (.inl (congrArg Value.bool (by first | rfl | (simp [hd]; done)))) rfl <| Ah rfl rfl Aa (.inl (congrArg Value.bool (by first | rfl | (simp [hd]; done)))) rfl <| Ah rfl rfl Aa (.inl (congrArg Value.bool (by first | rfl | (simp [hd]; done)))) rfl <| Ae rfl rfl Aa (by first | rfl | exact dF (by omega)) <| Ag rfl (As Aa (by first | rfl | (simp [hd]; done)) Aa) <| Ae rfl rfl Aa (by first | rfl | (simp [hl]; done)) <| Ag rfl (As Aa (by first | rfl | exact dF (by omega)) Aa) <| Ag rfl (Ar Aa (by first | rfl | (simp [hl]; done)) Aa) <| Ao <| Ab <| Ad Aa (by first | rfl | (simp [hd]; done)) <| Al <| A0 <| Ab <| Am fun ds => Aj (Af 1) <| Ag rfl (AG Aa Aa rfl (by omega) (by omega)) <| Aj (Af 1) <| Ao ?_
   refine Ab ⟨_, m - 1, Off.eq (B3 rfl <| BR rfl <| Ca rfl <| BX rfl <| A2), by omega, ?_⟩
   refine ⟨k + 1, by omega, AX, rfl, fun j hj hjk => ?_⟩
   rcases Nat.lt_succ_iff_lt_or_eq.1 hjk with hjk | rfl
   · exact hno j hj hjk
   exact hch
  replace hd : digitB s[k] = false := by simpa using hd
  refine Ae rfl rfl Aa (by first | rfl | (simp [hd]; done)) <| Aj (Af 1) <| Ae rfl rfl Aa (by first | rfl | (simp [hd]; done)) <| Aj (Af 1) <| Ae rfl rfl Aa (by first | rfl | (simp [hd]; done)) <| Ag rfl (FZ Tryz.underlying9 Aa Aa rfl hlt) <| Ae rfl rfl Aa (by first | rfl | (simp [hd]; done)) <| Aj (Af 1) <| Ae rfl rfl Aa (by first | rfl | exact dF (by omega)) <| Ag rfl (Ar Aa (by first | rfl | (simp [hd]; done)) Aa) <| Ae rfl rfl Aa (by first | rfl | (simp [hl]; done)) <| Ag rfl (As Aa (by first | rfl | exact dF (by omega)) Aa) <| Ag rfl (Ar Aa (by first | rfl | (simp [hl]; done)) Aa) <| Ao <| Ab ?_
  by_cases hp : (s[k].toNat : Int) = 46
  ·have hch : chOk k s[k] = true := by unfold chOk; simp [hz, hp]
   refine Ad Aa (by first | rfl | exact dF (by omega)) <| Al <| A0 <| Ab <| Am fun ds => Aj (Af 1) <| Ag rfl (AG Aa Aa rfl (by omega) (by omega)) <| Aj (Af 1) <| Ao ?_
   refine Ab ⟨_, m - 1, Off.eq (B3 rfl <| BR rfl <| Ca rfl <| BX rfl <| A2), by omega, ?_⟩
   refine ⟨k + 1, by omega, AX, rfl, fun j hj hjk => ?_⟩
   rcases Nat.lt_succ_iff_lt_or_eq.1 hjk with hjk | rfl
   · exact hno j hj hjk
   exact hch
  have hch : chOk k s[k] = false := by unfold chOk; simp [hl, hd, hp]
  refine Ai Aa (by first | rfl | exact dT (by omega)) <| AD (Af 1) <| At ?_
  refine A7 (Ax (Ax (A7 (Ax ?_))))
  refine Ap rfl Bd ?_
  show _ = _
  rw [C8 (i := k) hlt hch]; rfl
 refine Ac <| Az (Af 2) fun ds => Ag rfl (JC Tryz.underlying9 Aa) <| Aw (Af 1) <| Ad Aa (by first | rfl | exact dF (by omega)) <| AH ?_
 refine A8 <| A8 <| AB <| Ab <| AD (Af 1) <| At <| Ap rfl Bd ?_
 show _ = _
 rw [Kn (by omega) (by omega) fun j hj => hno j hj (by omega)]; rfl
theorem Em {F : Heap} (s : ByteArray) : Ok Tryz.prog 137 [.string s].toArray F fun r _ => r = .bool (nameOk s) := by
 refine Ok.intro Tryz.func137 rfl Tryz.ntmps137 rfl fun w0 => AD (Af 1) <| Ac <| Az (Af 1) fun ds => A5 rfl <| Tw Tryz.underlying9 Aa fun b1 hb1 nb1 => Ao <| Ab <| Aq ?_
 refine AL [2, 3, 4, 7, 8, 9, 10, 11, 12, 13, 14, 15, 16, 17, 18, 19, 20, 21, 22, 23, 24, 25, 26, 27, 28, 29, 30, 31, 32] (fun m e σ => ∃ k : Nat, m + k = s.size ∧ σ = ⟨F, [(b1, .stringIter s k)]⟩ ∧ ∀ j (hj : j < s.size), j < k → chOk j s[j] = true) (s.size) ?_ ?_
 · exact ⟨0, by omega, rfl, fun j hj h => absurd h (by omega)⟩
 rintro m e _ ⟨k, hm, rfl, hno⟩
 by_cases hlt : k < s.size
 ·by_cases ha : s[k].toNat < 128
  ·have hdec := decode_ascii s k hlt ha
   refine Ac <| Am fun ds => A5 rfl <| Q9 Aa (i := 0) rfl hlt hdec (.here) <| Aw (Af 1) <| Ac <| Ai Aa rfl ?_
   by_cases hl1 : 97 ≤ (s[k].toNat : Int)
   ·refine Al <| Ab <| Aq <| AD (Af 4) <| Aq <| Az (Af 3) fun ds => Ae rfl rfl Aa (by first | rfl | exact dT (by omega)) <| Aj (Af 1) <| Ae rfl rfl Aa (by first | rfl | exact dT (by omega)) <| Aj (Af 1) <| Ag rfl (Ar Aa (by first | rfl | exact dT (by omega)) Aa) <| Aw (Af 1) ?_
    by_cases hl2 : (s[k].toNat : Int) ≤ 122
    ·have hch : chOk k s[k] = true := by unfold chOk letterB digitB; simp; omega
     refine Ai Aa (by first | rfl | exact dT (by omega)) <| Al <| A0 <| A0 ?_
     refine Ab ⟨_, m - 1, Off.eq (BR rfl <| Ca rfl <| BX rfl <| A2), by omega, ?_⟩
     refine ⟨k + 1, by omega, rfl, fun j hj hjk => ?_⟩
     rcases Nat.lt_succ_iff_lt_or_eq.1 hjk with hjk | rfl
     · exact hno j hj hjk
     exact hch
    refine Ad Aa (by first | rfl | exact dF (by omega)) ?_
    by_cases hz : k = 0
    ·refine Az (Af 3) fun ds => Ah rfl rfl Aa (.inl (congrArg Value.bool (by first | rfl | exact dF (by omega)))) rfl <| Ah rfl rfl Aa (.inl (congrArg Value.bool (by first | rfl | exact dF (by omega)))) rfl <| Ah rfl rfl Aa (.inl (congrArg Value.bool (by first | rfl | exact dF (by omega)))) rfl <| Ah rfl rfl Aa (.inr rfl) rfl <| Ah rfl rfl Aa (.inr rfl) rfl <| Ah rfl rfl Aa (.inl (congrArg Value.bool (by first | rfl | exact dF (by omega)))) rfl <| Ah rfl rfl Aa (.inl (congrArg Value.bool (by first | rfl | exact dF (by omega)))) rfl <| Ah rfl rfl Aa (.inr rfl) rfl <| Ah rfl rfl Aa (.inr rfl) rfl <| Ah rfl rfl Aa (.inl (congrArg Value.bool (by first | rfl | exact dF (by omega)))) rfl <| Ag rfl (As Aa (by first | rfl | exact dF (by omega)) Aa) <| Aw (Af 1) ?_
     have hch : chOk k s[k] = false := by unfold chOk letterB digitB; simp; omega
     refine Ad Aa (by first | rfl | exact dF (by omega)) <| AD (Af 1) <| At ?_
     refine A7 (A7 (Ax (A7 (Ax ?_))))
     refine Ap rfl Bd ?_
     show _ = _
     rw [C8 (i := k) hlt hch]; rfl
    refine Az (Af 3) fun ds => Ae rfl rfl Aa (by first | rfl | exact dT (by omega)) <| Aj (Af 1) <| Ae rfl rfl Aa (by first | rfl | exact dT (by omega)) <| Aj (Af 1) <| Ae rfl rfl Aa (by first | rfl | exact dT (by omega)) <| Aj (Af 1) ?_
    by_cases hd1 : 48 ≤ (s[k].toNat : Int)
    ·refine Ae rfl rfl Aa (by first | rfl | exact dT (by omega)) <| Aj (Af 1) <| Ae rfl rfl Aa (by first | rfl | exact dT (by omega)) <| Aj (Af 1) <| Ae rfl rfl Aa (by first | rfl | exact dT (by omega)) <| Ag rfl (Ar Aa (by first | rfl | exact dT (by omega)) Aa) <| Ae rfl rfl Aa (by first | rfl | exact dT (by omega)) <| Aj (Af 1) ?_
     by_cases hd2 : (s[k].toNat : Int) ≤ 57
     ·refine Ah rfl rfl Aa (.inl (congrArg Value.bool (by first | rfl | exact dT (by omega)))) rfl <| Ah rfl rfl Aa (.inl (congrArg Value.bool (by first | rfl | exact dT (by omega)))) rfl <| Ae rfl rfl Aa (by first | rfl | exact dT (by omega)) <| Ag rfl (Ar Aa (by first | rfl | exact dT (by omega)) Aa) <| Ag rfl (Ar Aa (by first | rfl | exact dT (by omega)) Aa) <| Aw (Af 1) ?_
      have hch : chOk k s[k] = true := by unfold chOk letterB digitB; simp; omega
      refine Ai Aa (by first | rfl | exact dT (by omega)) <| Al <| A0 <| A0 ?_
      refine Ab ⟨_, m - 1, Off.eq (B3 rfl <| BR rfl <| Ca rfl <| A2), by omega, ?_⟩
      refine ⟨k + 1, by omega, rfl, fun j hj hjk => ?_⟩
      rcases Nat.lt_succ_iff_lt_or_eq.1 hjk with hjk | rfl
      · exact hno j hj hjk
      exact hch
     refine Ae rfl rfl Aa (by first | rfl | exact dF (by omega)) <| Aj (Af 1) <| Ae rfl rfl Aa (by first | rfl | exact dF (by omega)) <| Aj (Af 1) <| Ae rfl rfl Aa (by first | rfl | exact dT (by omega)) <| Ag rfl (As Aa (by first | rfl | exact dF (by omega)) Aa) <| Ag rfl (Ar Aa (by first | rfl | exact dT (by omega)) Aa) <| Aw (Af 1) ?_
     by_cases hp : (s[k].toNat : Int) = 46
     ·have hch : chOk k s[k] = true := by unfold chOk letterB digitB; simp; omega
      refine Ai Aa (by first | rfl | exact dT (by omega)) <| Al <| A0 <| A0 ?_
      refine Ab ⟨_, m - 1, Off.eq (B3 rfl <| BR rfl <| Ca rfl <| A2), by omega, ?_⟩
      refine ⟨k + 1, by omega, rfl, fun j hj hjk => ?_⟩
      rcases Nat.lt_succ_iff_lt_or_eq.1 hjk with hjk | rfl
      · exact hno j hj hjk
      exact hch
     have hch : chOk k s[k] = false := by unfold chOk letterB digitB; simp; omega
     refine Ad Aa (by first | rfl | exact dF (by omega)) <| AD (Af 1) <| At ?_
     refine A7 (A7 (Ax (A7 (Ax ?_))))
     refine Ap rfl Bd ?_
     show _ = _
     rw [C8 (i := k) hlt hch]; rfl
    refine Ah rfl rfl Aa (.inl (congrArg Value.bool (by first | rfl | exact dF (by omega)))) rfl <| Ah rfl rfl Aa (.inl (congrArg Value.bool (by first | rfl | exact dF (by omega)))) rfl <| Ae rfl rfl Aa (by first | rfl | exact dT (by omega)) <| Ag rfl (As Aa (by first | rfl | exact dF (by omega)) Aa) <| Ae rfl rfl Aa (by first | rfl | exact dT (by omega)) <| Aj (Af 1) <| Ae rfl rfl Aa (by first | rfl | exact dF (by omega)) <| Aj (Af 1) <| Ae rfl rfl Aa (by first | rfl | exact dF (by omega)) <| Aj (Af 1) <| Ae rfl rfl Aa (by first | rfl | exact dT (by omega)) <| Ag rfl (As Aa (by first | rfl | exact dF (by omega)) Aa) <| Ag rfl (Ar Aa (by first | rfl | exact dT (by omega)) Aa) <| Aw (Af 1) ?_
    by_cases hp : (s[k].toNat : Int) = 46
    ·have hch : chOk k s[k] = true := by unfold chOk letterB digitB; simp; omega
     refine Ai Aa (by first | rfl | exact dT (by omega)) <| Al <| A0 <| A0 ?_
     refine Ab ⟨_, m - 1, Off.eq (B3 rfl <| BR rfl <| Ca rfl <| A2), by omega, ?_⟩
     refine ⟨k + 1, by omega, rfl, fun j hj hjk => ?_⟩
     rcases Nat.lt_succ_iff_lt_or_eq.1 hjk with hjk | rfl
     · exact hno j hj hjk
     exact hch
    have hch : chOk k s[k] = false := by unfold chOk letterB digitB; simp; omega
    refine Ad Aa (by first | rfl | exact dF (by omega)) <| AD (Af 1) <| At ?_
    refine A7 (A7 (Ax (A7 (Ax ?_))))
    refine Ap rfl Bd ?_
    show _ = _
    rw [C8 (i := k) hlt hch]; rfl
   refine Al <| Ab <| Aq <| AD (Af 4) <| Aq <| Az (Af 3) fun ds => Ah rfl rfl Aa (.inl (congrArg Value.bool (by first | rfl | exact dF (by omega)))) rfl <| Ah rfl rfl Aa (.inl (congrArg Value.bool (by first | rfl | exact dF (by omega)))) rfl <| Ag rfl (As Aa (by first | rfl | exact dF (by omega)) Aa) <| Aw (Af 1) <| Ad Aa (by first | rfl | exact dF (by omega)) ?_
   by_cases hz : k = 0
   ·refine Az (Af 3) fun ds => Ah rfl rfl Aa (.inl (congrArg Value.bool (by first | rfl | exact dF (by omega)))) rfl <| Ah rfl rfl Aa (.inl (congrArg Value.bool (by first | rfl | exact dF (by omega)))) rfl <| Ah rfl rfl Aa (.inl (congrArg Value.bool (by first | rfl | exact dF (by omega)))) rfl <| Ah rfl rfl Aa (.inr rfl) rfl <| Ah rfl rfl Aa (.inr rfl) rfl <| Ah rfl rfl Aa (.inl (congrArg Value.bool (by first | rfl | exact dF (by omega)))) rfl <| Ah rfl rfl Aa (.inl (congrArg Value.bool (by first | rfl | exact dF (by omega)))) rfl <| Ah rfl rfl Aa (.inr rfl) rfl <| Ah rfl rfl Aa (.inr rfl) rfl <| Ah rfl rfl Aa (.inl (congrArg Value.bool (by first | rfl | exact dF (by omega)))) rfl <| Ag rfl (As Aa (by first | rfl | exact dF (by omega)) Aa) <| Aw (Af 1) ?_
    have hch : chOk k s[k] = false := by unfold chOk letterB digitB; simp; omega
    refine Ad Aa (by first | rfl | exact dF (by omega)) <| AD (Af 1) <| At ?_
    refine A7 (A7 (Ax (A7 (Ax ?_))))
    refine Ap rfl Bd ?_
    show _ = _
    rw [C8 (i := k) hlt hch]; rfl
   refine Az (Af 3) fun ds => Ae rfl rfl Aa (by first | rfl | exact dT (by omega)) <| Aj (Af 1) <| Ae rfl rfl Aa (by first | rfl | exact dT (by omega)) <| Aj (Af 1) <| Ae rfl rfl Aa (by first | rfl | exact dT (by omega)) <| Aj (Af 1) ?_
   by_cases hd1 : 48 ≤ (s[k].toNat : Int)
   ·refine Ae rfl rfl Aa (by first | rfl | exact dT (by omega)) <| Aj (Af 1) <| Ae rfl rfl Aa (by first | rfl | exact dT (by omega)) <| Aj (Af 1) <| Ae rfl rfl Aa (by first | rfl | exact dT (by omega)) <| Ag rfl (Ar Aa (by first | rfl | exact dT (by omega)) Aa) <| Ae rfl rfl Aa (by first | rfl | exact dT (by omega)) <| Aj (Af 1) ?_
    by_cases hd2 : (s[k].toNat : Int) ≤ 57
    ·refine Ah rfl rfl Aa (.inl (congrArg Value.bool (by first | rfl | exact dT (by omega)))) rfl <| Ah rfl rfl Aa (.inl (congrArg Value.bool (by first | rfl | exact dT (by omega)))) rfl <| Ae rfl rfl Aa (by first | rfl | exact dT (by omega)) <| Ag rfl (Ar Aa (by first | rfl | exact dT (by omega)) Aa) <| Ag rfl (Ar Aa (by first | rfl | exact dT (by omega)) Aa) <| Aw (Af 1) ?_
     have hch : chOk k s[k] = true := by unfold chOk letterB digitB; simp; omega
     refine Ai Aa (by first | rfl | exact dT (by omega)) <| Al <| A0 <| A0 ?_
     refine Ab ⟨_, m - 1, Off.eq (B3 rfl <| BR rfl <| Ca rfl <| A2), by omega, ?_⟩
     refine ⟨k + 1, by omega, rfl, fun j hj hjk => ?_⟩
     rcases Nat.lt_succ_iff_lt_or_eq.1 hjk with hjk | rfl
     · exact hno j hj hjk
     exact hch
    refine Ae rfl rfl Aa (by first | rfl | exact dF (by omega)) <| Aj (Af 1) <| Ae rfl rfl Aa (by first | rfl | exact dF (by omega)) <| Aj (Af 1) <| Ae rfl rfl Aa (by first | rfl | exact dT (by omega)) <| Ag rfl (As Aa (by first | rfl | exact dF (by omega)) Aa) <| Ag rfl (Ar Aa (by first | rfl | exact dT (by omega)) Aa) <| Aw (Af 1) ?_
    by_cases hp : (s[k].toNat : Int) = 46
    ·have hch : chOk k s[k] = true := by unfold chOk letterB digitB; simp; omega
     refine Ai Aa (by first | rfl | exact dT (by omega)) <| Al <| A0 <| A0 ?_
     refine Ab ⟨_, m - 1, Off.eq (B3 rfl <| BR rfl <| Ca rfl <| A2), by omega, ?_⟩
     refine ⟨k + 1, by omega, rfl, fun j hj hjk => ?_⟩
     rcases Nat.lt_succ_iff_lt_or_eq.1 hjk with hjk | rfl
     · exact hno j hj hjk
     exact hch
    have hch : chOk k s[k] = false := by unfold chOk letterB digitB; simp; omega
    refine Ad Aa (by first | rfl | exact dF (by omega)) <| AD (Af 1) <| At ?_
    refine A7 (A7 (Ax (A7 (Ax ?_))))
    refine Ap rfl Bd ?_
    show _ = _
    rw [C8 (i := k) hlt hch]; rfl
   refine Ah rfl rfl Aa (.inl (congrArg Value.bool (by first | rfl | exact dF (by omega)))) rfl <| Ah rfl rfl Aa (.inl (congrArg Value.bool (by first | rfl | exact dF (by omega)))) rfl <| Ae rfl rfl Aa (by first | rfl | exact dT (by omega)) <| Ag rfl (As Aa (by first | rfl | exact dF (by omega)) Aa) <| Ae rfl rfl Aa (by first | rfl | exact dT (by omega)) <| Aj (Af 1) <| Ae rfl rfl Aa (by first | rfl | exact dF (by omega)) <| Aj (Af 1) <| Ae rfl rfl Aa (by first | rfl | exact dF (by omega)) <| Aj (Af 1) <| Ae rfl rfl Aa (by first | rfl | exact dT (by omega)) <| Ag rfl (As Aa (by first | rfl | exact dF (by omega)) Aa) <| Ag rfl (Ar Aa (by first | rfl | exact dT (by omega)) Aa) <| Aw (Af 1) ?_
   by_cases hp : (s[k].toNat : Int) = 46
   ·have hch : chOk k s[k] = true := by unfold chOk letterB digitB; simp; omega
    refine Ai Aa (by first | rfl | exact dT (by omega)) <| Al <| A0 <| A0 ?_
    refine Ab ⟨_, m - 1, Off.eq (B3 rfl <| BR rfl <| Ca rfl <| A2), by omega, ?_⟩
    refine ⟨k + 1, by omega, rfl, fun j hj hjk => ?_⟩
    rcases Nat.lt_succ_iff_lt_or_eq.1 hjk with hjk | rfl
    · exact hno j hj hjk
    exact hch
   have hch : chOk k s[k] = false := by unfold chOk letterB digitB; simp; omega
   refine Ad Aa (by first | rfl | exact dF (by omega)) <| AD (Af 1) <| At ?_
   refine A7 (A7 (Ax (A7 (Ax ?_))))
   refine Ap rfl Bd ?_
   show _ = _
   rw [C8 (i := k) hlt hch]; rfl
  obtain ⟨rc, wd, hdec⟩ : ∃ rc wd, Utf8.decode s k = (rc, wd) := ⟨_, _, rfl⟩
  have hrc : 128 ≤ rc := by have := Pg s k hlt (by omega); rw [hdec] at this; exact this
  refine Ac <| Am fun ds => A5 rfl <| Q9 Aa (i := 0) rfl hlt hdec (.here) <| Aw (Af 1) <| Ac <| Ai Aa rfl <| Al <| Ab <| Aq <| AD (Af 4) <| Aq <| Az (Af 3) fun ds => Ae rfl rfl Aa (by first | rfl | exact dT (by omega)) <| Aj (Af 1) <| Ae rfl rfl Aa (by first | rfl | exact dT (by omega)) <| Aj (Af 1) <| Ag rfl (Ar Aa (by first | rfl | exact dT (by omega)) Aa) <| Aw (Af 1) <| Ad Aa (by first | rfl | exact dF (by omega)) ?_
  have hch : chOk k s[k] = false := by unfold chOk letterB digitB; simp; omega
  by_cases hz : k = 0
  ·refine Az (Af 3) fun ds => Ah rfl rfl Aa (.inl (congrArg Value.bool (by first | rfl | exact dF (by omega)))) rfl <| Ah rfl rfl Aa (.inl (congrArg Value.bool (by first | rfl | exact dF (by omega)))) rfl <| Ah rfl rfl Aa (.inl (congrArg Value.bool (by first | rfl | exact dF (by omega)))) rfl <| Ah rfl rfl Aa (.inr rfl) rfl <| Ah rfl rfl Aa (.inr rfl) rfl <| Ah rfl rfl Aa (.inl (congrArg Value.bool (by first | rfl | exact dF (by omega)))) rfl <| Ah rfl rfl Aa (.inl (congrArg Value.bool (by first | rfl | exact dF (by omega)))) rfl <| Ah rfl rfl Aa (.inr rfl) rfl <| Ah rfl rfl Aa (.inr rfl) rfl <| Ah rfl rfl Aa (.inl (congrArg Value.bool (by first | rfl | exact dF (by omega)))) rfl <| Ag rfl (As Aa (by first | rfl | exact dF (by omega)) Aa) <| Aw (Af 1) <| Ad Aa (by first | rfl | exact dF (by omega)) <| AD (Af 1) <| At ?_
   refine A7 (A7 (Ax (A7 (Ax ?_))))
   refine Ap rfl Bd ?_
   show _ = _
   rw [C8 (i := k) hlt hch]; rfl
  refine Az (Af 3) fun ds => Ae rfl rfl Aa (by first | rfl | exact dT (by omega)) <| Aj (Af 1) <| Ae rfl rfl Aa (by first | rfl | exact dT (by omega)) <| Aj (Af 1) <| Ae rfl rfl Aa (by first | rfl | exact dT (by omega)) <| Aj (Af 1) <| Ae rfl rfl Aa (by first | rfl | exact dT (by omega)) <| Aj (Af 1) <| Ae rfl rfl Aa (by first | rfl | exact dT (by omega)) <| Aj (Af 1) <| Ae rfl rfl Aa (by first | rfl | exact dT (by omega)) <| Ag rfl (Ar Aa (by first | rfl | exact dT (by omega)) Aa) <| Ae rfl rfl Aa (by first | rfl | exact dT (by omega)) <| Aj (Af 1) <| Ae rfl rfl Aa (by first | rfl | exact dF (by omega)) <| Aj (Af 1) <| Ae rfl rfl Aa (by first | rfl | exact dF (by omega)) <| Aj (Af 1) <| Ae rfl rfl Aa (by first | rfl | exact dT (by omega)) <| Ag rfl (As Aa (by first | rfl | exact dF (by omega)) Aa) <| Ag rfl (Ar Aa (by first | rfl | exact dT (by omega)) Aa) <| Aw (Af 1) <| Ad Aa (by first | rfl | exact dF (by omega)) <| AD (Af 1) <| At ?_
  refine A7 (A7 (Ax (A7 (Ax ?_))))
  refine Ap rfl Bd ?_
  show _ = _
  rw [C8 (i := k) hlt hch]; rfl
 refine Ac <| Am fun ds => A5 rfl <| x_nextE Aa (i := 0) rfl hlt <| Aw (Af 1) <| Ac <| Ad Aa rfl ?_
 by_cases h0 : s.size = 0
 ·refine AH ?_
  refine A8 <| A8 <| AB <| Ab <| Az (Af 3) fun ds => Ah rfl rfl Aa (.inl (congrArg Value.bool (by rw [Gp]; simp [h0]))) rfl <| Ah rfl rfl Aa (.inl (congrArg Value.bool (by rw [Gp]; simp [h0]))) rfl <| Ah rfl rfl Aa (.inl (congrArg Value.bool (by rw [Gp]; simp [h0]))) rfl <| Ag rfl (As Aa (by rw [Gp]; simp [h0]) Aa) <| Aw (Af 1) <| At <| Ap rfl Bd ?_
  show _ = _
  rw [FA (by omega)]; rfl
 refine AH ?_
 refine A8 <| A8 <| AB <| Ab <| Az (Af 3) fun ds => Ae rfl rfl Aa (by rw [Gp]; simp [h0]) <| Aj (Af 1) <| Ae rfl rfl Aa (by rw [Gp]; simp [h0]) <| Ag rfl (JC Tryz.underlying9 Aa) <| Ae rfl rfl Aa (by rw [Gp]; simp [h0]) <| Aj (Af 1) <| Ag rfl (Ar Aa (by rw [Gp]; simp [h0]) Aa) <| Aw (Af 1) ?_
 by_cases h16 : (s.size : Int) ≤ 16
 ·refine At <| Ap rfl Bd ?_
  show _ = _
  rw [Kn (by omega) (by omega) fun j hj => hno j hj (by omega)]; simp [outOf, h16]
 refine At <| Ap rfl Bd ?_
 show _ = _
 rw [FA (by omega)]; simp [outOf, h16]
theorem O9 {F : Heap} {v : Value} {xs : List ByteArray} (h : Sl F v 1 strE xs) (wd : ByteArray) : Ok Tryz.prog 86 [v, .string wd].toArray F fun r _ => r = .int .i64 (findI (fun x => sameS x wd) xs) := by
 refine Ok.intro Tryz.func86 rfl Tryz.ntmps86 rfl fun w0 => ?_
 have hlen := h.plain.lt
 refine AD (Af 1) <| Az (Af 1) fun ds => Ag rfl (A4 BB Aa h.plain) <| Ag rfl (B4 Aa Aa rfl (by omega) (by omega)) <| Aw (Af 1) <| Ac <| Aq ?_
 refine AL [5, 10, 11, 12, 13, 14, 15, 16, 17, 18, 19, 20, 21] (fun m e σ => ∃ z : Int, m = (z + 1).toNat ∧ -1 ≤ z ∧ z < xs.length ∧ Fct e 5 (.int .i64 z) ∧ σ = ⟨F, []⟩ ∧ ∀ j (hj : j < xs.length), z < j → sameS xs[j] wd = false) (xs.length) ?_ ?_
 · exact ⟨xs.length - 1, by omega, by omega, by omega, AX, rfl, fun j hj h => absurd h (by omega)⟩
 rintro m e _ ⟨z, hm, hz1, hz2, hs5, rfl, hno⟩
 by_cases hz : 0 ≤ z
 ·obtain ⟨k, rfl⟩ := Int.eq_ofNat_of_zero_le hz
  have hk : k < xs.length := by omega
  refine Ac <| Az (Af 3) fun ds => Ae rfl rfl Aa (by first | rfl | exact dT (by omega)) <| Aj (Af 1) <| Ae rfl rfl Aa (by first | rfl | exact dT (by omega)) <| Aj (Af 1) <| Ae rfl rfl Aa (by first | rfl | exact dT (by omega)) <| Ag rfl (A1  BB Aa h.plain Aa rfl (by omega)) <| Ae rfl rfl Aa (by first | rfl | exact dT (by omega)) <| Ag rfl (Ak E6 Aa (h.cell1 (by omega) rfl)) <| Ae rfl rfl Aa (by first | rfl | exact dT (by omega)) <| Aj (Af 1) <| Ae rfl rfl Aa (by first | rfl | exact dT (by omega)) <| Aj (Af 1) <| Ag rfl (Ar Aa (by first | rfl | exact dT (by omega)) Aa) <| Ao <| Ab ?_
  by_cases hsm : sameS xs[k] wd = true
  ·refine Ad Aa (by simpa [sameS] using hsm) <| AH ?_
   refine A8 <| A8 <| AB <| Ab <| Ac <| AD (Af 1) <| Aq ?_
   refine AL [4, 6, 22, 23, 24, 25, 26, 27, 28, 29, 30, 31, 32, 33] (fun m e σ => ∃ q : Nat, m + q = k ∧ Fct e 6 (.int .i64 q) ∧ σ = ⟨F, []⟩ ∧ ∀ j (hj : j < xs.length), j < q → sameS xs[j] wd = false) (k) ?_ ?_
   · exact ⟨0, by omega, AX, rfl, fun j hj h => absurd h (by omega)⟩
   rintro m2 e2 _ ⟨q, hm2, ht6, rfl, hno2⟩
   by_cases hq : q < k
   ·refine Ac <| AD (Af 3) <| Ai Aa (by first | rfl | exact dT (by omega)) ?_
    by_cases hsq : sameS xs[q] wd = true
    ·refine Al <| Ab <| Ac <| Aq <| Az (Af 2) fun ds => Ag rfl (A1  BB Aa h.plain Aa rfl (by omega)) <| Ag rfl (Ak E6 Aa (h.cell1 (by omega) rfl)) <| Aw (Af 2) <| Ai Aa hsq <| AD (Af 2) <| At ?_
     refine A7 (Ax (Ax (A7 (Ax ?_))))
     refine Ap rfl Bd ?_
     show _ = _
     rw [Co (p := fun x => sameS x wd) (k := q) (by omega) hsq hno2]; rfl
    replace hsq : sameS xs[q] wd = false := by simpa using hsq
    refine Al <| Ab <| Ac <| Aq <| Az (Af 2) fun ds => Ag rfl (A1  BB Aa h.plain Aa rfl (by omega)) <| Ag rfl (Ak E6 Aa (h.cell1 (by omega) rfl)) <| Aw (Af 2) <| Ad Aa hsq <| Al <| A0 <| Ab <| Am fun ds => Aj (Af 1) <| Ag rfl (AG Aa Aa rfl (by omega) (by omega)) <| Aj (Af 1) <| Ao ?_
    refine Ab ⟨_, m2 - 1, Off.eq (BR rfl <| Ca rfl <| A2), by omega, ?_⟩
    refine ⟨q + 1, by omega, AX, rfl, fun j hj hjk => ?_⟩
    rcases Nat.lt_succ_iff_lt_or_eq.1 hjk with hjk | rfl
    · exact hno2 j hj hjk
    exact hsq
   refine Ac <| AD (Af 3) <| Ad Aa (by first | rfl | exact dF (by omega)) <| AH ?_
   refine A8 <| A8 <| AB <| Ab <| AD (Af 2) <| At <| Ap rfl Bd ?_
   show _ = _
   rw [Co (p := fun x => sameS x wd) (k := k) hk hsm (fun j hj hjk => hno2 j hj (by omega))]; rfl
  replace hsm : sameS xs[k] wd = false := by simpa using hsm
  refine Ai Aa (by simpa [sameS] using hsm) <| Al <| Ab <| Aq <| Am fun ds => Aj (Af 1) <| Ag rfl (B4 Aa Aa rfl (by omega) (by omega)) <| Aj (Af 1) <| Ao <| A0 ?_
  refine Ab ⟨_, m - 1, Off.eq (BR rfl <| Ca rfl <| BX rfl <| A2), by omega, ?_⟩
  refine ⟨(k : Int) - 1, by omega, by omega, by omega, AX, rfl, fun j hj hjk => ?_⟩
  by_cases hjk2 : j = k
  · subst hjk2; exact hsm
  exact hno j hj (by omega)
 refine Ac <| Az (Af 3) fun ds => Ah rfl rfl Aa (.inl (congrArg Value.bool (by first | rfl | exact dF (by omega)))) rfl <| Ah rfl rfl Aa (.inl (congrArg Value.bool (by first | rfl | exact dF (by omega)))) rfl <| Ah rfl rfl Aa (.inl (congrArg Value.bool (by first | rfl | exact dF (by omega)))) rfl <| Ah rfl rfl Aa (.inl (congrArg Value.bool (by first | rfl | exact dF (by omega)))) rfl <| Ah rfl rfl Aa (.inl (congrArg Value.bool (by first | rfl | exact dF (by omega)))) rfl <| Ah rfl rfl Aa (.inl (congrArg Value.bool (by first | rfl | exact dF (by omega)))) rfl <| Ag rfl (As Aa (by first | rfl | exact dF (by omega)) Aa) <| Ao <| Ab <| Ad Aa (by first | rfl | exact dF (by omega)) <| AH ?_
 refine A8 <| A8 <| AB <| Ab <| Ac <| AD (Af 1) <| Aq ?_
 refine AL [4, 6, 22, 23, 24, 25, 26, 27, 28, 29, 30, 31, 32, 33] (fun m e σ => m = 0 ∧ Fct e 6 (.int .i64 0) ∧ σ = ⟨F, []⟩) (0) ?_ ?_
 · exact ⟨rfl, AX, rfl⟩
 rintro m2 e2 _ ⟨hm2, ht6, rfl⟩
 refine Ac <| AD (Af 3) <| Ad Aa (by first | rfl | exact dF (by omega)) <| AH ?_
 refine A8 <| A8 <| AB <| Ab <| AD (Af 2) <| At <| Ap rfl Bd ?_
 show _ = _
 obtain rfl : z = -1 := by omega
 rw [Cy (p := fun x => sameS x wd) (fun j hj => hno j hj (by omega))]; rfl
theorem Ji {F : Heap} {v : Value} {xs : List ByteArray} (h : Sl F v 1 strE xs) (wd : ByteArray) : Ok Tryz.prog 52 [.string wd, v].toArray F fun r _ => r = .int .i64 (freshE wd xs) := by
 refine Ok.intro Tryz.func52 rfl Tryz.ntmps52 rfl fun w0 => ?_
 by_cases hp : 0 ≤ findI (fun x => sameS x wd) xs
 ·refine AD (Af 1) <| AD (Af 1) <| Ac <| Az (Af 2) fun ds => AN rfl (Ay bd_86 Aa AW (O9 h wd) (fun _ _ h => h)) <| Aw (Af 1) <| Ai Aa (by first | rfl | exact dT (by omega)) ?_
  by_cases hn : nameOk wd = true
  ·refine Am fun ds => Aw (Af 1) <| Ac <| Az (Af 1) fun ds => AN rfl (Ay Rt Aa AW (Fy wd) (fun _ _ h => h)) <| Aw (Af 1) <| Ad Aa (by rw [hn]; rfl) <| Al <| Ab <| AD (Af 2) <| At <| Ap rfl Bd ?_
   show _ = _
   simp [outOf, freshE, hn, ← CM, hp]
  refine Am fun ds => Aw (Af 1) <| Ac <| Az (Af 1) fun ds => AN rfl (Ay Rt Aa AW (Fy wd) (fun _ _ h => h)) <| Aw (Af 1) <| Ai Aa (by simpa using hn) <| Am fun ds => Aw (Af 1) <| AD (Af 2) <| At <| Ap rfl Bd ?_
  show _ = _
  simp [outOf, freshE, hn]
 refine AD (Af 1) <| AD (Af 1) <| Ac <| Az (Af 2) fun ds => AN rfl (Ay bd_86 Aa AW (O9 h wd) (fun _ _ h => h)) <| Aw (Af 1) <| Ad Aa (by first | rfl | exact dF (by omega)) ?_
 by_cases hn : nameOk wd = true
 ·refine Al <| Ab <| Ac <| Az (Af 1) fun ds => AN rfl (Ay Rt Aa AW (Fy wd) (fun _ _ h => h)) <| Aw (Af 1) <| Ad Aa (by rw [hn]; rfl) <| Al <| Ab <| AD (Af 2) <| At <| Ap rfl Bd ?_
  show _ = _
  simp [outOf, freshE, hn, ← CM, hp]
 refine Al <| Ab <| Ac <| Az (Af 1) fun ds => AN rfl (Ay Rt Aa AW (Fy wd) (fun _ _ h => h)) <| Aw (Af 1) <| Ai Aa (by simpa using hn) <| Am fun ds => Aw (Af 1) <| AD (Af 2) <| At <| Ap rfl Bd ?_
 show _ = _
 simp [outOf, freshE, hn]
theorem OT {F : Heap} {v : Value} {xs : List Int} (h : Ints F v xs) (p : _ → Bool) {g : FuncId} {cs : List Value} (hg : Body Tryz.prog g) (hp : ∀ k (hk : k < xs.length), Ok Tryz.prog g ([Value.int .i64 xs[k]] ++ cs).toArray F fun r _ => r = .bool (p xs[k])) : Ok Tryz.prog 118 [v, .func (.func g) #[] cs.toArray].toArray F fun r _ => r = .int .i64 (findI p xs) := by
 refine Ok.intro Tryz.func118 rfl Tryz.ntmps118 rfl fun w0 => ?_
 have hlen := h.plain.lt
 refine AD (Af 1) <| Ac <| Az (Af 1) fun ds => Ag rfl (A4 A9 Aa h.plain) <| Aw (Af 1) <| Aq ?_
 refine AL [4, 5, 8, 9, 10, 11, 12, 13, 14, 15, 16, 17, 18] (fun m e σ => ∃ k : Nat, m + k = xs.length ∧ Fct e 8 (.int .i64 k) ∧ σ = ⟨F, []⟩ ∧ ∀ j (hj : j < xs.length), j < k → p xs[j] = false) (xs.length) ?_ ?_
 · exact ⟨0, by omega, AX, rfl, fun j hj h => absurd h (by omega)⟩
 rintro m e _ ⟨k, hm, hs8, rfl, hno⟩
 by_cases hlt : k < xs.length
 ·refine AD (Af 1) <| Ac <| Ai Aa (by first | rfl | exact dT (by omega)) ?_
  by_cases hpk : p xs[k] = true
  ·refine Al <| Ab <| Ac <| Aq <| AD (Af 2) <| Az (Af 3) fun ds => Ag rfl (A1  A9 Aa h.plain Aa rfl (by omega)) <| Ag rfl (Ak AF Aa (h.cell1 (by omega) rfl)) <| AN rfl (Ay hg Aa AW (hp k hlt) (fun _ _ h => h)) <| Ao <| Ab <| Ai Aa hpk <| AD (Af 2) <| At ?_
   refine A7 (Ax (Ax (A7 (Ax ?_))))
   refine Ap rfl Bd ?_
   show _ = _
   rw [Co hlt hpk hno]; rfl
  replace hpk : p xs[k] = false := by simpa using hpk
  refine Al <| Ab <| Ac <| Aq <| AD (Af 2) <| Az (Af 3) fun ds => Ag rfl (A1  A9 Aa h.plain Aa rfl (by omega)) <| Ag rfl (Ak AF Aa (h.cell1 (by omega) rfl)) <| AN rfl (Ay hg Aa AW (hp k hlt) (fun _ _ h => h)) <| Ao <| Ab <| Ad Aa hpk <| Al <| A0 <| Ab <| Am fun ds => Ag rfl (AG Aa Aa rfl (by omega) (by omega)) <| Aj (Af 1) <| Ao ?_
  refine Ab ⟨_, m - 1, Off.eq (BR rfl <| BM rfl <| BX rfl <| A2), by omega, ?_⟩
  refine ⟨k + 1, by omega, AX, rfl, fun j hj hjk => ?_⟩
  rcases Nat.lt_succ_iff_lt_or_eq.1 hjk with hjk | rfl
  · exact hno j hj hjk
  exact hpk
 refine AD (Af 1) <| Ac <| Ad Aa (by first | rfl | exact dF (by omega)) <| AH ?_
 refine A8 <| A8 <| AB <| Ab <| AD (Af 1) <| At <| Ap rfl Bd ?_
 show _ = _
 rw [Cy fun j hj => hno j hj (by omega)]; rfl
theorem LK {F : Heap} {v : Value} {xs : List Int} (h : Ints F v xs) (p : _ → Bool) {g : FuncId} {cs : List Value} (hg : Body Tryz.prog g) (hp : ∀ k (hk : k < xs.length), Ok Tryz.prog g ([Value.int .i64 xs[k]] ++ cs).toArray F fun r _ => r = .bool (p xs[k])) : Ok Tryz.prog 81 [v, .func (.func g) #[] cs.toArray].toArray F fun r _ => r = .bool (xs.any p) := by
 refine Ok.intro Tryz.func81 rfl Tryz.ntmps81 rfl fun w0 => AD (Af 1) <| Az (Af 2) fun ds => AN rfl (Ay VI Aa AW (OT h p hg hp) (fun _ _ h => h)) <| Aw (Af 2) <| At <| Ap rfl Bd ?_
 show _ = _
 rw [← CM]; rfl
theorem OC {F : Heap} {b1 b2 T1 T2 : Nat} {lo hi : Int} (h1 : F b1 = some (bx T1 [.int .i64 lo])) (h2 : F b2 = some (bx T2 [.int .i64 hi])) (z : Int) : Ok Tryz.prog 82 [.int .i64 z, .pointer (some ⟨b1, 0, none⟩), .pointer (some ⟨b2, 0, none⟩)].toArray F fun r _ => r = .bool (!(inB lo hi z)) := by
 refine Ok.intro Tryz.func82 rfl Tryz.ntmps82 rfl fun w0 => ?_
 by_cases hz : z < lo
 ·refine AD (Af 1) <| Az (Af 1) fun ds => Ag rfl (Ak AF Aa (AA h1 rfl)) <| Aj (Af 2) <| Ah rfl rfl Aa (.inl (congrArg Value.bool (by first | rfl | exact dT (by omega)))) rfl <| Ah rfl rfl Aa (.inl (congrArg Value.bool (by first | rfl | exact dT (by omega)))) rfl <| Ah rfl rfl Aa (.inl (congrArg Value.bool (by first | rfl | exact dT (by omega)))) rfl <| Ag rfl (Ar Aa (by first | rfl | exact dT (by omega)) Aa) <| Aw (Af 1) <| At <| Ap rfl Bd ?_
  show _ = _
  have : ¬ lo ≤ z := by omega
  simp [outOf, inB, this]
 refine AD (Af 1) <| Az (Af 1) fun ds => Ag rfl (Ak AF Aa (AA h1 rfl)) <| Aj (Af 2) <| Ae rfl rfl Aa (by first | rfl | exact dF (by omega)) <| Aj (Af 1) <| Ae rfl rfl Aa (by first | rfl | exact dF (by omega)) <| Ag rfl (Ak AF Aa (AA h2 rfl)) <| Ae rfl rfl Aa (by first | rfl | exact dF (by omega)) <| Aj (Af 1) <| Ag rfl (As Aa (by first | rfl | exact dF (by omega)) Aa) <| Aw (Af 1) ?_
 by_cases hz2 : hi < z
 ·refine At <| Ap rfl Bd ?_
  show _ = _
  have : ¬ z ≤ hi := by omega
  simp [outOf, inB, hz2, this]
 refine At <| Ap rfl Bd ?_
 show _ = _
 have e1 : lo ≤ z := by omega
 have e2 : z ≤ hi := by omega
 simp [outOf, inB, hz2, e1, e2]
theorem Bj {F : Heap} {v : Value} {xs : List Int} (lo hi : Int) (h : Ints F v xs) : Ok Tryz.prog 46 [.int .i64 lo, .int .i64 hi, v].toArray F fun r _ => r = .bool (xs.any fun z => !(inB lo hi z)) := by
 refine Ok.intro Tryz.func46 rfl Tryz.ntmps46 rfl fun w0 => Ac <| Am fun ds => A5 rfl <| Bg Aa rfl fun b1 hb1 nb1 => A5 rfl <| Bg Aa rfl fun b2 hb2 nb2 => Aw (Af 1) <| AK (i := 1) rfl hb1 (.next <| .here) fun F3 hF4 hz1 => ?_
 refine AK (i := 0) rfl hb2 (.here) fun F5 hF6 hz2 => ?_
 replace h := h.mono (Heap.le_trans hF4 hF6)
 replace hz1 := hF6 _ _ hz1
 refine Az (Af 1) fun ds => Ag rfl (Bt AW) <| AN rfl (Ay Vz Aa AW (LK h (fun z => !(inB lo hi z)) bd_82 fun k hk => OC hz1 hz2 _) (fun _ _ h => h)) <| Aw (Af 1) <| At <| Ap rfl Bd ?_
 rfl
theorem OS {F : Heap} {v : Value} {xs : List Lot} (h : Sl F v 4 Lot.enc xs) (p : _ → Bool) {g : FuncId} {cs : List Value} (hg : Body Tryz.prog g) (hp : ∀ k (hk : k < xs.length), Ok Tryz.prog g ([Value.agg (Lot.enc xs[k]).toArray] ++ cs).toArray F fun r _ => r = .bool (p xs[k])) : Ok Tryz.prog 155 [v, .func (.func g) #[] cs.toArray].toArray F fun r _ => r = .int .i64 (findI p xs) := by
 refine Ok.intro Tryz.func155 rfl Tryz.ntmps155 rfl fun w0 => ?_
 have hlen := h.plain.lt
 refine AD (Af 1) <| Ac <| Az (Af 1) fun ds => Ag rfl (A4 BN Aa h.plain) <| Aw (Af 1) <| Aq ?_
 refine AL [4, 5, 8, 9, 10, 11, 12, 13, 14, 15, 16, 17, 18] (fun m e σ => ∃ k : Nat, m + k = xs.length ∧ Fct e 8 (.int .i64 k) ∧ σ = ⟨F, []⟩ ∧ ∀ j (hj : j < xs.length), j < k → p xs[j] = false) (xs.length) ?_ ?_
 · exact ⟨0, by omega, AX, rfl, fun j hj h => absurd h (by omega)⟩
 rintro m e _ ⟨k, hm, hs8, rfl, hno⟩
 by_cases hlt : k < xs.length
 ·refine AD (Af 1) <| Ac <| Ai Aa (by first | rfl | exact dT (by omega)) ?_
  by_cases hpk : p xs[k] = true
  ·refine Al <| Ab <| Ac <| Aq <| AD (Af 2) <| Az (Af 3) fun ds => Ag rfl (A1  BN Aa h.plain Aa rfl (by omega)) <| Ag rfl (AC HF Aa rfl rfl (h.whole (by omega))) <| AN rfl (Ay hg Aa AW (hp k hlt) (fun _ _ h => h)) <| Ao <| Ab <| Ai Aa hpk <| AD (Af 2) <| At ?_
   refine A7 (Ax (Ax (A7 (Ax ?_))))
   refine Ap rfl Bd ?_
   show _ = _
   rw [Co hlt hpk hno]; rfl
  replace hpk : p xs[k] = false := by simpa using hpk
  refine Al <| Ab <| Ac <| Aq <| AD (Af 2) <| Az (Af 3) fun ds => Ag rfl (A1  BN Aa h.plain Aa rfl (by omega)) <| Ag rfl (AC HF Aa rfl rfl (h.whole (by omega))) <| AN rfl (Ay hg Aa AW (hp k hlt) (fun _ _ h => h)) <| Ao <| Ab <| Ad Aa hpk <| Al <| A0 <| Ab <| Am fun ds => Ag rfl (AG Aa Aa rfl (by omega) (by omega)) <| Aj (Af 1) <| Ao ?_
  refine Ab ⟨_, m - 1, Off.eq (BR rfl <| BM rfl <| BX rfl <| A2), by omega, ?_⟩
  refine ⟨k + 1, by omega, AX, rfl, fun j hj hjk => ?_⟩
  rcases Nat.lt_succ_iff_lt_or_eq.1 hjk with hjk | rfl
  · exact hno j hj hjk
  exact hpk
 refine AD (Af 1) <| Ac <| Ad Aa (by first | rfl | exact dF (by omega)) <| AH ?_
 refine A8 <| A8 <| AB <| Ab <| AD (Af 1) <| At <| Ap rfl Bd ?_
 show _ = _
 rw [Cy fun j hj => hno j hj (by omega)]; rfl
theorem Gr {F : Heap} {v : Value} {xs : List Lot} (h : Sl F v 4 Lot.enc xs) (p : _ → Bool) {g : FuncId} {cs : List Value} (hg : Body Tryz.prog g) (hp : ∀ k (hk : k < xs.length), Ok Tryz.prog g ([Value.agg (Lot.enc xs[k]).toArray] ++ cs).toArray F fun r _ => r = .bool (p xs[k])) : Ok Tryz.prog 138 [v, .func (.func g) #[] cs.toArray].toArray F fun r _ => r = .bool (xs.any p) := by
 refine Ok.intro Tryz.func138 rfl Tryz.ntmps138 rfl fun w0 => AD (Af 1) <| Az (Af 2) fun ds => AN rfl (Ay bd_155 Aa AW (OS h p hg hp) (fun _ _ h => h)) <| Aw (Af 2) <| At <| Ap rfl Bd ?_
 show _ = _
 rw [← CM]; rfl
theorem OU {F : Heap} {v : Value} {xs : List Bid} (h : Sl F v 3 Bid.enc xs) (p : _ → Bool) {g : FuncId} {cs : List Value} (hg : Body Tryz.prog g) (hp : ∀ k (hk : k < xs.length), Ok Tryz.prog g ([Value.agg (Bid.enc xs[k]).toArray] ++ cs).toArray F fun r _ => r = .bool (p xs[k])) : Ok Tryz.prog 156 [v, .func (.func g) #[] cs.toArray].toArray F fun r _ => r = .int .i64 (findI p xs) := by
 refine Ok.intro Tryz.func156 rfl Tryz.ntmps156 rfl fun w0 => ?_
 have hlen := h.plain.lt
 refine AD (Af 1) <| Ac <| Az (Af 1) fun ds => Ag rfl (A4 CT Aa h.plain) <| Aw (Af 1) <| Aq ?_
 refine AL [4, 5, 8, 9, 10, 11, 12, 13, 14, 15, 16, 17, 18] (fun m e σ => ∃ k : Nat, m + k = xs.length ∧ Fct e 8 (.int .i64 k) ∧ σ = ⟨F, []⟩ ∧ ∀ j (hj : j < xs.length), j < k → p xs[j] = false) (xs.length) ?_ ?_
 · exact ⟨0, by omega, AX, rfl, fun j hj h => absurd h (by omega)⟩
 rintro m e _ ⟨k, hm, hs8, rfl, hno⟩
 by_cases hlt : k < xs.length
 ·refine AD (Af 1) <| Ac <| Ai Aa (by first | rfl | exact dT (by omega)) ?_
  by_cases hpk : p xs[k] = true
  ·refine Al <| Ab <| Ac <| Aq <| AD (Af 2) <| Az (Af 3) fun ds => Ag rfl (A1  CT Aa h.plain Aa rfl (by omega)) <| Ag rfl (AC Ep Aa rfl rfl (h.whole (by omega))) <| AN rfl (Ay hg Aa AW (hp k hlt) (fun _ _ h => h)) <| Ao <| Ab <| Ai Aa hpk <| AD (Af 2) <| At ?_
   refine A7 (Ax (Ax (A7 (Ax ?_))))
   refine Ap rfl Bd ?_
   show _ = _
   rw [Co hlt hpk hno]; rfl
  replace hpk : p xs[k] = false := by simpa using hpk
  refine Al <| Ab <| Ac <| Aq <| AD (Af 2) <| Az (Af 3) fun ds => Ag rfl (A1  CT Aa h.plain Aa rfl (by omega)) <| Ag rfl (AC Ep Aa rfl rfl (h.whole (by omega))) <| AN rfl (Ay hg Aa AW (hp k hlt) (fun _ _ h => h)) <| Ao <| Ab <| Ad Aa hpk <| Al <| A0 <| Ab <| Am fun ds => Ag rfl (AG Aa Aa rfl (by omega) (by omega)) <| Aj (Af 1) <| Ao ?_
  refine Ab ⟨_, m - 1, Off.eq (BR rfl <| BM rfl <| BX rfl <| A2), by omega, ?_⟩
  refine ⟨k + 1, by omega, AX, rfl, fun j hj hjk => ?_⟩
  rcases Nat.lt_succ_iff_lt_or_eq.1 hjk with hjk | rfl
  · exact hno j hj hjk
  exact hpk
 refine AD (Af 1) <| Ac <| Ad Aa (by first | rfl | exact dF (by omega)) <| AH ?_
 refine A8 <| A8 <| AB <| Ab <| AD (Af 1) <| At <| Ap rfl Bd ?_
 show _ = _
 rw [Cy fun j hj => hno j hj (by omega)]; rfl
theorem Gs {F : Heap} {v : Value} {xs : List Bid} (h : Sl F v 3 Bid.enc xs) (p : _ → Bool) {g : FuncId} {cs : List Value} (hg : Body Tryz.prog g) (hp : ∀ k (hk : k < xs.length), Ok Tryz.prog g ([Value.agg (Bid.enc xs[k]).toArray] ++ cs).toArray F fun r _ => r = .bool (p xs[k])) : Ok Tryz.prog 142 [v, .func (.func g) #[] cs.toArray].toArray F fun r _ => r = .bool (xs.any p) := by
 refine Ok.intro Tryz.func142 rfl Tryz.ntmps142 rfl fun w0 => AD (Af 1) <| Az (Af 2) fun ds => AN rfl (Ay bd_156 Aa AW (OU h p hg hp) (fun _ _ h => h)) <| Aw (Af 2) <| At <| Ap rfl Bd ?_
 show _ = _
 rw [← CM]; rfl
end
section
set_option maxRecDepth 100000
open Go.RowKit
theorem FL : ZeroT Tryz.prog 95 (.agg #[.int .i64 0, .bool false, .int .i64 0, .int .i64 0]) := Br (by kernel_rfl)
theorem Mk : ZeroT Tryz.prog 47 (.agg #[.string ⟨#[]⟩, .int .i64 0, .int .i64 0, .bool false]) := Br (by kernel_rfl)
theorem FS : ZeroT Tryz.prog 124 (.agg #[.int .i64 0, .int .i64 0, .int .i64 0]) := Br (by kernel_rfl)
theorem GP : ZeroT Tryz.prog 69 (.agg #[.int .i64 0, .int .i64 0]) := Br (by kernel_rfl)
theorem Gx : AggT Tryz.prog 95 4 := Cu (by kernel_rfl)
instance : AggI Tryz.prog 95 4 := ⟨Gx⟩
theorem FG : AggT Tryz.prog 69 2 := Cu (by kernel_rfl)
instance : AggI Tryz.prog 69 2 := ⟨FG⟩
theorem bd_158 : Body Tryz.prog 158 := AE (by kernel_rfl)
theorem CQ : SliceT Tryz.prog 28 69 2 := Ci (by kernel_rfl)
instance : SliceI Tryz.prog 28 := ⟨_, _, CQ⟩
theorem Dx : SliceT Tryz.prog 97 95 4 := Ci (by kernel_rfl)
instance : SliceI Tryz.prog 97 := ⟨_, _, Dx⟩
theorem KU : SizeT Tryz.prog 95 4 := Bx (by kernel_rfl)
theorem QF : SizeT Tryz.prog 47 4 := Bx (by kernel_rfl)
theorem J7 : SizeT Tryz.prog 124 3 := Bx (by kernel_rfl)
theorem Kc : SizeT Tryz.prog 69 2 := Bx (by kernel_rfl)
theorem Kt {F : Heap} {v : Value} {xs : List Stp} (h : Sl F v 2 Stp.enc xs) {most : Nat} (f : Nat → Int) {g : FuncId} {cs : List Value} (hg : Body Tryz.prog g) (hp : ∀ k (hk : k < xs.length), (∀ j, j < k → f j = 0) → Ok Tryz.prog g ([Value.int .i64 (k : Int), Value.agg (Stp.enc xs[k]).toArray] ++ cs).toArray F fun r _ => r = .int .i64 (f k)) : Ok Tryz.prog 131 [v, .int .i64 (most : Int), .func (.func g) #[] cs.toArray].toArray F fun r _ => r = optV (firstE xs.length most f) := by
 refine Ok.intro Tryz.func131 rfl Tryz.ntmps131 rfl fun w0 => ?_
 have hlen := h.plain.lt
 by_cases hml : most < xs.length
 ·refine AD (Af 2) <| Ac <| Az (Af 1) fun ds => Ag rfl (A4 CQ Aa h.plain) <| Aw (Af 2) <| Ai Aa (by first | rfl | exact dT (by omega)) <| AD (Af 2) <| At <| Ax <| Ap rfl Bd ?_
  show _ = _
  rw [C5 hml]; rfl
 refine AD (Af 2) <| Ac <| Az (Af 1) fun ds => Ag rfl (A4 CQ Aa h.plain) <| Aw (Af 2) <| Ad Aa (by first | rfl | exact dF (by omega)) <| Al <| Ab <| Ac <| Az (Af 1) fun ds => Ag rfl (A4 CQ Aa h.plain) <| Aw (Af 1) <| Aq ?_
 refine AL [6, 7, 8, 9, 10, 17, 18, 19, 20, 21, 22, 23, 24, 25, 26, 27, 28, 29, 30] (fun m e σ => ∃ k : Nat, m + k = xs.length ∧ Fct e 17 (.int .i64 (k : Int)) ∧ σ = ⟨F, []⟩ ∧ ∀ j, j < k → f j = 0) (xs.length) ?_ ?_
 · exact ⟨0, by omega, AX, rfl, fun j h => absurd h (by omega)⟩
 rintro m e _ ⟨k, hm, hs17, rfl, hno⟩
 by_cases hlt : k < xs.length
 ·refine AD (Af 1) <| Ac <| Ai Aa (by first | rfl | exact dT (by omega)) ?_
  by_cases hfk : f k = 0
  ·refine Al <| Ab <| Ac <| Aq <| Az (Af 1) fun ds => Ag rfl (A1  CQ Aa h.plain Aa rfl (by omega)) <| Ag rfl (AC FG Aa rfl rfl (h.whole (by omega))) <| A5 rfl <| AO GP rfl fun b2 hb2 nb2 => Aj (Af 1) <| AS <| AP Kc Aa Aa (i := 0) rfl rfl rfl rfl Stp.enc_one (.here) <| Ao <| Ab <| Az (Af 3) fun ds => AN rfl (Ay hg Aa AW (hp k hlt hno) (fun _ _ h => h)) <| Aw (Af 1) <| AD (Af 2) <| Ad Aa (dF (fun h => h hfk)) <| Al <| A0 <| Ab <| Bn (fun _ _ h => h.drop (kD <| .refl _)) <| Am fun ds => Ag rfl (AG Aa Aa rfl (by omega) (by omega)) <| Aj (Af 1) <| Ao ?_
   refine Ab ⟨_, m - 1, Off.eq (BR rfl <| Ca rfl <| BM rfl <| BX rfl <| A2), by omega, ?_⟩
   refine ⟨k + 1, by omega, AX, rfl, fun j hjk => ?_⟩
   rcases Nat.lt_succ_iff_lt_or_eq.1 hjk with hjk | rfl
   · exact hno j hjk
   exact hfk
  refine Al <| Ab <| Ac <| Aq <| Az (Af 1) fun ds => Ag rfl (A1  CQ Aa h.plain Aa rfl (by omega)) <| Ag rfl (AC FG Aa rfl rfl (h.whole (by omega))) <| A5 rfl <| AO GP rfl fun b3 hb3 nb3 => Aj (Af 1) <| AS <| AP Kc Aa Aa (i := 0) rfl rfl rfl rfl Stp.enc_one (.here) <| Ao <| Ab <| Az (Af 3) fun ds => AN rfl (Ay hg Aa AW (hp k hlt hno) (fun _ _ h => h)) <| Aw (Af 1) <| AD (Af 2) <| Ai Aa (dT hfk) <| AD (Af 4) <| At ?_
  refine A7 (Ax (Ax (A7 (Ax ?_))))
  refine Ap rfl Bd ?_
  show _ = _
  rw [BI hml hlt hno rfl hfk]; rfl
 refine AD (Af 1) <| Ac <| Ad Aa (by first | rfl | exact dF (by omega)) <| AH ?_
 refine A8 <| A8 <| AB <| Ab <| AD (Af 2) <| At <| Ap rfl Bd ?_
 show _ = _
 rw [Db hml fun j hj => hno j (by omega)]; rfl
theorem Ku {F : Heap} {v : Value} {xs : List Lot} (h : Sl F v 4 Lot.enc xs) {most : Nat} (f : Nat → Int) {g : FuncId} {cs : List Value} (hg : Body Tryz.prog g) (hp : ∀ k (hk : k < xs.length), (∀ j, j < k → f j = 0) → Ok Tryz.prog g ([Value.int .i64 (k : Int), Value.agg (Lot.enc xs[k]).toArray] ++ cs).toArray F fun r _ => r = .int .i64 (f k)) : Ok Tryz.prog 135 [v, .int .i64 (most : Int), .func (.func g) #[] cs.toArray].toArray F fun r _ => r = optV (firstE xs.length most f) := by
 refine Ok.intro Tryz.func135 rfl Tryz.ntmps135 rfl fun w0 => ?_
 have hlen := h.plain.lt
 by_cases hml : most < xs.length
 ·refine AD (Af 2) <| Ac <| Az (Af 1) fun ds => Ag rfl (A4 BN Aa h.plain) <| Aw (Af 2) <| Ai Aa (by first | rfl | exact dT (by omega)) <| AD (Af 2) <| At <| Ax <| Ap rfl Bd ?_
  show _ = _
  rw [C5 hml]; rfl
 refine AD (Af 2) <| Ac <| Az (Af 1) fun ds => Ag rfl (A4 BN Aa h.plain) <| Aw (Af 2) <| Ad Aa (by first | rfl | exact dF (by omega)) <| Al <| Ab <| Ac <| Az (Af 1) fun ds => Ag rfl (A4 BN Aa h.plain) <| Aw (Af 1) <| Aq ?_
 refine AL [6, 7, 8, 9, 10, 17, 18, 19, 20, 21, 22, 23, 24, 25, 26, 27, 28, 29, 30] (fun m e σ => ∃ k : Nat, m + k = xs.length ∧ Fct e 17 (.int .i64 (k : Int)) ∧ σ = ⟨F, []⟩ ∧ ∀ j, j < k → f j = 0) (xs.length) ?_ ?_
 · exact ⟨0, by omega, AX, rfl, fun j h => absurd h (by omega)⟩
 rintro m e _ ⟨k, hm, hs17, rfl, hno⟩
 by_cases hlt : k < xs.length
 ·refine AD (Af 1) <| Ac <| Ai Aa (by first | rfl | exact dT (by omega)) ?_
  by_cases hfk : f k = 0
  ·refine Al <| Ab <| Ac <| Aq <| Az (Af 1) fun ds => Ag rfl (A1  BN Aa h.plain Aa rfl (by omega)) <| Ag rfl (AC HF Aa rfl rfl (h.whole (by omega))) <| A5 rfl <| AO Mk rfl fun b2 hb2 nb2 => Aj (Af 1) <| AS <| AP QF Aa Aa (i := 0) rfl rfl rfl rfl Lot.enc_one (.here) <| Ao <| Ab <| Az (Af 3) fun ds => AN rfl (Ay hg Aa AW (hp k hlt hno) (fun _ _ h => h)) <| Aw (Af 1) <| AD (Af 2) <| Ad Aa (dF (fun h => h hfk)) <| Al <| A0 <| Ab <| Bn (fun _ _ h => h.drop (kD <| .refl _)) <| Am fun ds => Ag rfl (AG Aa Aa rfl (by omega) (by omega)) <| Aj (Af 1) <| Ao ?_
   refine Ab ⟨_, m - 1, Off.eq (BR rfl <| Ca rfl <| BM rfl <| BX rfl <| A2), by omega, ?_⟩
   refine ⟨k + 1, by omega, AX, rfl, fun j hjk => ?_⟩
   rcases Nat.lt_succ_iff_lt_or_eq.1 hjk with hjk | rfl
   · exact hno j hjk
   exact hfk
  refine Al <| Ab <| Ac <| Aq <| Az (Af 1) fun ds => Ag rfl (A1  BN Aa h.plain Aa rfl (by omega)) <| Ag rfl (AC HF Aa rfl rfl (h.whole (by omega))) <| A5 rfl <| AO Mk rfl fun b3 hb3 nb3 => Aj (Af 1) <| AS <| AP QF Aa Aa (i := 0) rfl rfl rfl rfl Lot.enc_one (.here) <| Ao <| Ab <| Az (Af 3) fun ds => AN rfl (Ay hg Aa AW (hp k hlt hno) (fun _ _ h => h)) <| Aw (Af 1) <| AD (Af 2) <| Ai Aa (dT hfk) <| AD (Af 4) <| At ?_
  refine A7 (Ax (Ax (A7 (Ax ?_))))
  refine Ap rfl Bd ?_
  show _ = _
  rw [BI hml hlt hno rfl hfk]; rfl
 refine AD (Af 1) <| Ac <| Ad Aa (by first | rfl | exact dF (by omega)) <| AH ?_
 refine A8 <| A8 <| AB <| Ab <| AD (Af 2) <| At <| Ap rfl Bd ?_
 show _ = _
 rw [Db hml fun j hj => hno j (by omega)]; rfl
theorem Kw {F : Heap} {v : Value} {xs : List Bid} (h : Sl F v 3 Bid.enc xs) {most : Nat} (f : Nat → Int) {g : FuncId} {cs : List Value} (hg : Body Tryz.prog g) (hp : ∀ k (hk : k < xs.length), (∀ j, j < k → f j = 0) → Ok Tryz.prog g ([Value.int .i64 (k : Int), Value.agg (Bid.enc xs[k]).toArray] ++ cs).toArray F fun r _ => r = .int .i64 (f k)) : Ok Tryz.prog 140 [v, .int .i64 (most : Int), .func (.func g) #[] cs.toArray].toArray F fun r _ => r = optV (firstE xs.length most f) := by
 refine Ok.intro Tryz.func140 rfl Tryz.ntmps140 rfl fun w0 => ?_
 have hlen := h.plain.lt
 by_cases hml : most < xs.length
 ·refine AD (Af 2) <| Ac <| Az (Af 1) fun ds => Ag rfl (A4 CT Aa h.plain) <| Aw (Af 2) <| Ai Aa (by first | rfl | exact dT (by omega)) <| AD (Af 2) <| At <| Ax <| Ap rfl Bd ?_
  show _ = _
  rw [C5 hml]; rfl
 refine AD (Af 2) <| Ac <| Az (Af 1) fun ds => Ag rfl (A4 CT Aa h.plain) <| Aw (Af 2) <| Ad Aa (by first | rfl | exact dF (by omega)) <| Al <| Ab <| Ac <| Az (Af 1) fun ds => Ag rfl (A4 CT Aa h.plain) <| Aw (Af 1) <| Aq ?_
 refine AL [6, 7, 8, 9, 10, 17, 18, 19, 20, 21, 22, 23, 24, 25, 26, 27, 28, 29, 30] (fun m e σ => ∃ k : Nat, m + k = xs.length ∧ Fct e 17 (.int .i64 (k : Int)) ∧ σ = ⟨F, []⟩ ∧ ∀ j, j < k → f j = 0) (xs.length) ?_ ?_
 · exact ⟨0, by omega, AX, rfl, fun j h => absurd h (by omega)⟩
 rintro m e _ ⟨k, hm, hs17, rfl, hno⟩
 by_cases hlt : k < xs.length
 ·refine AD (Af 1) <| Ac <| Ai Aa (by first | rfl | exact dT (by omega)) ?_
  by_cases hfk : f k = 0
  ·refine Al <| Ab <| Ac <| Aq <| Az (Af 1) fun ds => Ag rfl (A1  CT Aa h.plain Aa rfl (by omega)) <| Ag rfl (AC Ep Aa rfl rfl (h.whole (by omega))) <| A5 rfl <| AO FS rfl fun b2 hb2 nb2 => Aj (Af 1) <| AS <| AP J7 Aa Aa (i := 0) rfl rfl rfl rfl Bid.enc_one (.here) <| Ao <| Ab <| Az (Af 3) fun ds => AN rfl (Ay hg Aa AW (hp k hlt hno) (fun _ _ h => h)) <| Aw (Af 1) <| AD (Af 2) <| Ad Aa (dF (fun h => h hfk)) <| Al <| A0 <| Ab <| Bn (fun _ _ h => h.drop (kD <| .refl _)) <| Am fun ds => Ag rfl (AG Aa Aa rfl (by omega) (by omega)) <| Aj (Af 1) <| Ao ?_
   refine Ab ⟨_, m - 1, Off.eq (BR rfl <| Ca rfl <| BM rfl <| BX rfl <| A2), by omega, ?_⟩
   refine ⟨k + 1, by omega, AX, rfl, fun j hjk => ?_⟩
   rcases Nat.lt_succ_iff_lt_or_eq.1 hjk with hjk | rfl
   · exact hno j hjk
   exact hfk
  refine Al <| Ab <| Ac <| Aq <| Az (Af 1) fun ds => Ag rfl (A1  CT Aa h.plain Aa rfl (by omega)) <| Ag rfl (AC Ep Aa rfl rfl (h.whole (by omega))) <| A5 rfl <| AO FS rfl fun b3 hb3 nb3 => Aj (Af 1) <| AS <| AP J7 Aa Aa (i := 0) rfl rfl rfl rfl Bid.enc_one (.here) <| Ao <| Ab <| Az (Af 3) fun ds => AN rfl (Ay hg Aa AW (hp k hlt hno) (fun _ _ h => h)) <| Aw (Af 1) <| AD (Af 2) <| Ai Aa (dT hfk) <| AD (Af 4) <| At ?_
  refine A7 (Ax (Ax (A7 (Ax ?_))))
  refine Ap rfl Bd ?_
  show _ = _
  rw [BI hml hlt hno rfl hfk]; rfl
 refine AD (Af 1) <| Ac <| Ad Aa (by first | rfl | exact dF (by omega)) <| AH ?_
 refine A8 <| A8 <| AB <| Ab <| AD (Af 2) <| At <| Ap rfl Bd ?_
 show _ = _
 rw [Db hml fun j hj => hno j (by omega)]; rfl
theorem Kv {F : Heap} {v : Value} {xs : List Ent} (h : Sl F v 4 Ent.enc xs) {most : Nat} (f : Nat → Int) {g : FuncId} {cs : List Value} (hg : Body Tryz.prog g) (hp : ∀ k (hk : k < xs.length), (∀ j, j < k → f j = 0) → Ok Tryz.prog g ([Value.int .i64 (k : Int), Value.agg (Ent.enc xs[k]).toArray] ++ cs).toArray F fun r _ => r = .int .i64 (f k)) : Ok Tryz.prog 98 [v, .int .i64 (most : Int), .func (.func g) #[] cs.toArray].toArray F fun r _ => r = optV (firstE xs.length most f) := by
 refine Ok.intro Tryz.func98 rfl Tryz.ntmps98 rfl fun w0 => ?_
 have hlen := h.plain.lt
 by_cases hml : most < xs.length
 ·refine AD (Af 2) <| Ac <| Az (Af 1) fun ds => Ag rfl (A4 Dx Aa h.plain) <| Aw (Af 2) <| Ai Aa (by first | rfl | exact dT (by omega)) <| AD (Af 2) <| At <| Ax <| Ap rfl Bd ?_
  show _ = _
  rw [C5 hml]; rfl
 refine AD (Af 2) <| Ac <| Az (Af 1) fun ds => Ag rfl (A4 Dx Aa h.plain) <| Aw (Af 2) <| Ad Aa (by first | rfl | exact dF (by omega)) <| Al <| Ab <| Ac <| Az (Af 1) fun ds => Ag rfl (A4 Dx Aa h.plain) <| Aw (Af 1) <| Aq ?_
 refine AL [6, 7, 8, 9, 10, 17, 18, 19, 20, 21, 22, 23, 24, 25, 26, 27, 28, 29, 30] (fun m e σ => ∃ k : Nat, m + k = xs.length ∧ Fct e 17 (.int .i64 (k : Int)) ∧ σ = ⟨F, []⟩ ∧ ∀ j, j < k → f j = 0) (xs.length) ?_ ?_
 · exact ⟨0, by omega, AX, rfl, fun j h => absurd h (by omega)⟩
 rintro m e _ ⟨k, hm, hs17, rfl, hno⟩
 by_cases hlt : k < xs.length
 ·refine AD (Af 1) <| Ac <| Ai Aa (by first | rfl | exact dT (by omega)) ?_
  by_cases hfk : f k = 0
  ·refine Al <| Ab <| Ac <| Aq <| Az (Af 1) fun ds => Ag rfl (A1  Dx Aa h.plain Aa rfl (by omega)) <| Ag rfl (AC Gx Aa rfl rfl (h.whole (by omega))) <| A5 rfl <| AO FL rfl fun b2 hb2 nb2 => Aj (Af 1) <| AS <| AP KU Aa Aa (i := 0) rfl rfl rfl rfl Ent.enc_one (.here) <| Ao <| Ab <| Az (Af 3) fun ds => AN rfl (Ay hg Aa AW (hp k hlt hno) (fun _ _ h => h)) <| Aw (Af 1) <| AD (Af 2) <| Ad Aa (dF (fun h => h hfk)) <| Al <| A0 <| Ab <| Bn (fun _ _ h => h.drop (kD <| .refl _)) <| Am fun ds => Ag rfl (AG Aa Aa rfl (by omega) (by omega)) <| Aj (Af 1) <| Ao ?_
   refine Ab ⟨_, m - 1, Off.eq (BR rfl <| Ca rfl <| BM rfl <| BX rfl <| A2), by omega, ?_⟩
   refine ⟨k + 1, by omega, AX, rfl, fun j hjk => ?_⟩
   rcases Nat.lt_succ_iff_lt_or_eq.1 hjk with hjk | rfl
   · exact hno j hjk
   exact hfk
  refine Al <| Ab <| Ac <| Aq <| Az (Af 1) fun ds => Ag rfl (A1  Dx Aa h.plain Aa rfl (by omega)) <| Ag rfl (AC Gx Aa rfl rfl (h.whole (by omega))) <| A5 rfl <| AO FL rfl fun b3 hb3 nb3 => Aj (Af 1) <| AS <| AP KU Aa Aa (i := 0) rfl rfl rfl rfl Ent.enc_one (.here) <| Ao <| Ab <| Az (Af 3) fun ds => AN rfl (Ay hg Aa AW (hp k hlt hno) (fun _ _ h => h)) <| Aw (Af 1) <| AD (Af 2) <| Ai Aa (dT hfk) <| AD (Af 4) <| At ?_
  refine A7 (Ax (Ax (A7 (Ax ?_))))
  refine Ap rfl Bd ?_
  show _ = _
  rw [BI hml hlt hno rfl hfk]; rfl
 refine AD (Af 1) <| Ac <| Ad Aa (by first | rfl | exact dF (by omega)) <| AH ?_
 refine A8 <| A8 <| AB <| Ab <| AD (Af 2) <| At <| Ap rfl Bd ?_
 show _ = _
 rw [Db hml fun j hj => hno j (by omega)]; rfl
theorem EN {F : Heap} {v : Value} {xs : List ByteArray} (h : Sl F v 1 strE xs) {most : Nat} (f : Nat → Int) {g : FuncId} {cs : List Value} (hg : Body Tryz.prog g) (hp : ∀ k (hk : k < xs.length), (∀ j, j < k → f j = 0) → Ok Tryz.prog g ([Value.int .i64 (k : Int), Value.string xs[k]] ++ cs).toArray F fun r _ => r = .int .i64 (f k)) : Ok Tryz.prog 133 [v, .int .i64 (most : Int), .func (.func g) #[] cs.toArray].toArray F fun r _ => r = optV (firstE xs.length most f) := by
 refine Ok.intro Tryz.func133 rfl Tryz.ntmps133 rfl fun w0 => ?_
 have hlen := h.plain.lt
 by_cases hml : most < xs.length
 ·refine AD (Af 2) <| Ac <| Az (Af 1) fun ds => Ag rfl (A4 BB Aa h.plain) <| Aw (Af 2) <| Ai Aa (by first | rfl | exact dT (by omega)) <| AD (Af 2) <| At <| Ax <| Ap rfl Bd ?_
  show _ = _
  rw [C5 hml]; rfl
 refine AD (Af 2) <| Ac <| Az (Af 1) fun ds => Ag rfl (A4 BB Aa h.plain) <| Aw (Af 2) <| Ad Aa (by first | rfl | exact dF (by omega)) <| Al <| Ab <| Ac <| Az (Af 1) fun ds => Ag rfl (A4 BB Aa h.plain) <| Aw (Af 1) <| Aq ?_
 refine AL [6, 7, 8, 9, 10, 17, 18, 19, 20, 21, 22, 23, 24, 25, 26, 27, 28, 29, 30] (fun m e σ => ∃ k : Nat, m + k = xs.length ∧ Fct e 17 (.int .i64 (k : Int)) ∧ σ = ⟨F, []⟩ ∧ ∀ j, j < k → f j = 0) (xs.length) ?_ ?_
 · exact ⟨0, by omega, AX, rfl, fun j h => absurd h (by omega)⟩
 rintro m e _ ⟨k, hm, hs17, rfl, hno⟩
 by_cases hlt : k < xs.length
 ·refine AD (Af 1) <| Ac <| Ai Aa (by first | rfl | exact dT (by omega)) ?_
  by_cases hfk : f k = 0
  ·refine Al <| Ab <| Ac <| Aq <| Az (Af 1) fun ds => Ag rfl (A1  BB Aa h.plain Aa rfl (by omega)) <| Ag rfl (Ak E6 Aa (h.cell1 (by omega) rfl)) <| Aw (Af 2) <| Az (Af 3) fun ds => AN rfl (Ay hg Aa AW (hp k hlt hno) (fun _ _ h => h)) <| Aw (Af 1) <| AD (Af 2) <| Ad Aa (dF (fun h => h hfk)) <| Al <| A0 <| Ab <| Am fun ds => Ag rfl (AG Aa Aa rfl (by omega) (by omega)) <| Aj (Af 1) <| Ao ?_
   refine Ab ⟨_, m - 1, Off.eq (BR rfl <| Ca rfl <| BM rfl <| BX rfl <| A2), by omega, ?_⟩
   refine ⟨k + 1, by omega, AX, rfl, fun j hjk => ?_⟩
   rcases Nat.lt_succ_iff_lt_or_eq.1 hjk with hjk | rfl
   · exact hno j hjk
   exact hfk
  refine Al <| Ab <| Ac <| Aq <| Az (Af 1) fun ds => Ag rfl (A1  BB Aa h.plain Aa rfl (by omega)) <| Ag rfl (Ak E6 Aa (h.cell1 (by omega) rfl)) <| Aw (Af 2) <| Az (Af 3) fun ds => AN rfl (Ay hg Aa AW (hp k hlt hno) (fun _ _ h => h)) <| Aw (Af 1) <| AD (Af 2) <| Ai Aa (dT hfk) <| AD (Af 4) <| At ?_
  refine A7 (Ax (Ax (A7 (Ax ?_))))
  refine Ap rfl Bd ?_
  show _ = _
  rw [BI hml hlt hno rfl hfk]; rfl
 refine AD (Af 1) <| Ac <| Ad Aa (by first | rfl | exact dF (by omega)) <| AH ?_
 refine A8 <| A8 <| AB <| Ab <| AD (Af 2) <| At <| Ap rfl Bd ?_
 show _ = _
 rw [Db hml fun j hj => hno j (by omega)]; rfl
theorem OR {F : Heap} {v : Value} {xs : List ByteArray} (h : Sl F v 1 strE xs) (wd : ByteArray) : Ok Tryz.prog 158 [v, .string wd].toArray F fun r _ => r = .int .i64 (findI (fun x => sameS x wd) xs) := by
 refine Ok.intro Tryz.func158 rfl Tryz.ntmps158 rfl fun w0 => ?_
 have hlen := h.plain.lt
 refine AD (Af 1) <| Ac <| Az (Af 1) fun ds => Ag rfl (A4 BB Aa h.plain) <| Aw (Af 1) <| Aq ?_
 refine AL [4, 5, 8, 9, 10, 11, 12, 13, 14, 15, 16, 17, 18] (fun m e σ => ∃ k : Nat, m + k = xs.length ∧ Fct e 8 (.int .i64 (k : Int)) ∧ σ = ⟨F, []⟩ ∧ ∀ j (hj : j < xs.length), j < k → sameS xs[j] wd = false) (xs.length) ?_ ?_
 · exact ⟨0, by omega, AX, rfl, fun j hj h => absurd h (by omega)⟩
 rintro m e _ ⟨k, hm, hs8, rfl, hno⟩
 by_cases hlt : k < xs.length
 ·refine AD (Af 1) <| Ac <| Ai Aa (by first | rfl | exact dT (by omega)) ?_
  by_cases hpk : sameS xs[k] wd = true
  ·refine Al <| Ab <| Ac <| Aq <| AD (Af 2) <| Az (Af 3) fun ds => Ag rfl (A1 (k := k) BB Aa h.plain Aa rfl hlt) <| Ag rfl (Ak E6 Aa (h.cell1 hlt rfl)) <| Aw (Af 1) <| Ai Aa (by unfold sameS at hpk; rw [beq_iff_eq] at hpk ⊢; exact hpk.symm) <| AD (Af 2) <| At ?_
   refine A7 (Ax (Ax (A7 (Ax ?_))))
   refine Ap rfl Bd ?_
   show _ = _
   rw [Co (p := fun x => sameS x wd) hlt hpk hno]; rfl
  replace hpk : sameS xs[k] wd = false := by simpa using hpk
  refine Al <| Ab <| Ac <| Aq <| AD (Af 2) <| Az (Af 3) fun ds => Ag rfl (A1 (k := k) BB Aa h.plain Aa rfl hlt) <| Ag rfl (Ak E6 Aa (h.cell1 hlt rfl)) <| Aw (Af 1) <| Ad Aa (by unfold sameS at hpk; rw [beq_eq_false_iff_ne] at hpk ⊢; exact fun e => hpk e.symm) <| Al <| A0 <| Ab <| Am fun ds => Ag rfl (AG Aa Aa rfl (by omega) (by omega)) <| Aj (Af 1) <| Ao ?_
  refine Ab ⟨_, m - 1, Off.eq (BR rfl <| BM rfl <| BX rfl <| A2), by omega, ?_⟩
  refine ⟨k + 1, by omega, AX, rfl, fun j hj hjk => ?_⟩
  rcases Nat.lt_succ_iff_lt_or_eq.1 hjk with hjk | rfl
  · exact hno j hj hjk
  exact hpk
 refine AD (Af 1) <| Ac <| Ad Aa (by first | rfl | exact dF (by omega)) <| AH ?_
 refine A8 <| A8 <| AB <| Ab <| AD (Af 1) <| At <| Ap rfl Bd ?_
 show _ = _
 rw [Cy (p := fun x => sameS x wd) fun j hj => hno j hj (by omega)]; rfl
theorem Gq {F : Heap} {v : Value} {xs : List ByteArray} (h : Sl F v 1 strE xs) (wd : ByteArray) : Ok Tryz.prog 154 [v, .string wd].toArray F fun r _ => r = .bool (xs.any fun x => sameS x wd) := by
 refine Ok.intro Tryz.func154 rfl Tryz.ntmps154 rfl fun w0 => AD (Af 1) <| Az (Af 2) fun ds => AN rfl (Ay bd_158 Aa AW (OR h wd) (fun _ _ h => h)) <| Aw (Af 2) <| At <| Ap rfl Bd ?_
 show _ = _
 rw [← CM]; rfl
end
section
theorem CK {ss : List Stp} (h : 0 < ss.length) : stepErr ss 0 = if inB 0 0 ss[0].from_ = false then 7 else if inB 1 100000 ss[0].by_ = false then 7 else 0 := by
 unfold stepErr
 rw [List.getElem?_eq_getElem h]
 have : decide (ss[0].from_ = 0) = inB 0 0 ss[0].from_ := by
   unfold inB
   rw [Bool.eq_iff_iff]
   simp; omega
 simp only [if_pos, this]
theorem C2 {ss : List Stp} {k : Nat} (h0 : 0 < k) (h : k < ss.length) : stepErr ss k = if inB ((ss[k - 1]'(by omega)).from_ + 1) 100000 ss[k].from_ = false then 7 else if inB 1 100000 ss[k].by_ = false then 7 else 0 := by
 unfold stepErr
 rw [List.getElem?_eq_getElem h, List.getElem?_eq_getElem (show k - 1 < ss.length by omega)]
 simp only [if_neg (show ¬ k = 0 by omega)]
 rfl
theorem Mq {ss : List Stp} {k : Nat} (h : k < ss.length) (he : stepErr ss k = 0) : 0 ≤ ss[k].from_ ∨ True → ss[k].from_ ≤ 100000 := fun _ => by
 by_cases h0 : k = 0
 · subst h0
   rw [CK h] at he
   split at he
   · cases he
   rename_i h1; simp [inB] at h1; omega
 rw [C2 (by omega) h] at he
 split at he
 · cases he
 rename_i h1; simp [inB] at h1; omega
theorem Hj {ss : List Stp} : ∀ {k : Nat} (h : k < ss.length), (∀ j, j ≤ k → stepErr ss j = 0) → 0 ≤ ss[k].from_
 | 0, h, he => by
   have := he 0 (by omega)
   rw [CK h] at this
   split at this
   · cases this
   rename_i h1; simp [inB] at h1; omega
 | k + 1, h, he => by
   have ih := Hj (k := k) (by omega) (fun j hj => he j (by omega))
   have := he (k + 1) (by omega)
   rw [C2 (by omega) h] at this
   split at this
   · cases this
   rename_i h1; simp [inB] at h1; omega
theorem Hv {ns : List ByteArray} {k : Nat} (h : k < ns.length) : nameErr ns k = if nameOk ns[k] = false then 6 else if (ns.take k).any (fun x => sameS x ns[k]) = true then 5 else 0 := by
 unfold nameErr; rw [List.getElem?_eq_getElem h]; rfl
theorem Er {s : Sale} {k : Nat} (h : k < s.lots.length) : lotErr s k = if nameOk s.lots[k].name = false then 6 else if (s.lots.take k).any (fun y => sameS y.name s.lots[k].name) = true then 5
   else if inB 0 (s.sellers.length - 1) s.lots[k].seller = false then 4 else if inB 1 100000 s.lots[k].reserve = false then 7 else 0 := by
 unfold lotErr; rw [List.getElem?_eq_getElem h]
theorem CN {s : Sale} {k : Nat} (h : k < s.bids.length) : bidErr s k = if (inB 0 (s.bidders.length - 1) s.bids[k].bidder && inB 0 (s.lots.length - 1) s.bids[k].lot) = false then 4
   else if inB 1 100000 s.bids[k].most = false then 7 else if (s.bids.take k).any (fun y => decide (y.bidder = s.bids[k].bidder) && decide (y.lot = s.bids[k].lot)) = true then 5 else 0 := by
 unfold bidErr; rw [List.getElem?_eq_getElem h]
theorem B6 {lo hi y z : Int} : ([y, z].any fun z => !(inB lo hi z)) = !(inB lo hi y && inB lo hi z) := by simp [Bool.not_and]
theorem Ds {s : Sale} {i e : Int} (h : stepsE s.steps = some (i, e)) : checkSV s = .tuple #[.int .i64 1, .int .i64 i, .int .i64 e] := by unfold checkSV checkS; rw [h]
theorem Fl {s : Sale} (h1 : stepsE s.steps = none) (h : ((inB 0 500 s.premium && inB 0 500 s.fee) && inB 0 60 s.days) = false) : checkSV s = .tuple #[.int .i64 2, .int .i64 0, .int .i64 7] := by unfold checkSV checkS; rw [h1]; simp only [h, if_true]
theorem MU {s : Sale} {i e : Int} (h1 : stepsE s.steps = none) (h2 : ((inB 0 500 s.premium && inB 0 500 s.fee) && inB 0 60 s.days) = true) (h : firstE s.bidders.length 6 (nameErr s.bidders) = some (i, e)) : checkSV s = .tuple #[.int .i64 3, .int .i64 i, .int .i64 e] := by
 unfold checkSV checkS; rw [h1]; simp only [h2, h]; rfl
theorem MT {s : Sale} {i e : Int} (h1 : stepsE s.steps = none) (h2 : ((inB 0 500 s.premium && inB 0 500 s.fee) && inB 0 60 s.days) = true) (h3 : firstE s.bidders.length 6 (nameErr s.bidders) = none) (h : firstE s.sellers.length 4 (nameErr s.sellers) = some (i, e)) : checkSV s = .tuple #[.int .i64 4, .int .i64 i, .int .i64 e] := by
 unfold checkSV checkS; rw [h1]; simp only [h2, h3, h]; rfl
theorem MS {s : Sale} {i e : Int} (h1 : stepsE s.steps = none) (h2 : ((inB 0 500 s.premium && inB 0 500 s.fee) && inB 0 60 s.days) = true) (h3 : firstE s.bidders.length 6 (nameErr s.bidders) = none) (h4 : firstE s.sellers.length 4 (nameErr s.sellers) = none) (h : firstE s.lots.length 6 (lotErr s) = some (i, e)) : checkSV s = .tuple #[.int .i64 5, .int .i64 i, .int .i64 e] := by
 unfold checkSV checkS; rw [h1]; simp only [h2, h3, h4, h]; rfl
theorem MR {s : Sale} {i e : Int} (h1 : stepsE s.steps = none) (h2 : ((inB 0 500 s.premium && inB 0 500 s.fee) && inB 0 60 s.days) = true) (h3 : firstE s.bidders.length 6 (nameErr s.bidders) = none) (h4 : firstE s.sellers.length 4 (nameErr s.sellers) = none) (h5 : firstE s.lots.length 6 (lotErr s) = none) (h : firstE s.bids.length 16 (bidErr s) = some (i, e)) : checkSV s = .tuple #[.int .i64 6, .int .i64 i, .int .i64 e] := by
 unfold checkSV checkS; rw [h1]; simp only [h2, h3, h4, h5, h]; rfl
theorem MV {s : Sale} (h1 : stepsE s.steps = none) (h2 : ((inB 0 500 s.premium && inB 0 500 s.fee) && inB 0 60 s.days) = true) (h3 : firstE s.bidders.length 6 (nameErr s.bidders) = none) (h4 : firstE s.sellers.length 4 (nameErr s.sellers) = none) (h5 : firstE s.lots.length 6 (lotErr s) = none) (h : firstE s.bids.length 16 (bidErr s) = none) : checkSV s = .tuple #[.int .i64 0, .int .i64 0, .int .i64 0] := by
 unfold checkSV checkS; rw [h1]; simp only [h2, h3, h4, h5, h]; rfl
theorem CF {n most : Nat} {f : Nat → Int} {i e : Int} (h : firstE n most f = some (i, e)) : e ≠ 0 := by
 unfold firstE at h
 split at h
 · simp at h; omega
 rw [Option.map_eq_some_iff] at h
 obtain ⟨k, hk, h2⟩ := h
 simp at h2
 unfold firstBad at hk
 have := List.find?_some hk
 simp at this
 rw [← h2.2]; exact this
theorem GR {ns : List ByteArray} {k : Nat} (h : k < ns.length) : nameErr ns k = freshE ns[k] (ns.take k) := by unfold nameErr; rw [List.getElem?_eq_getElem h]
def lnames (s : Sale) (k : Nat) : List ByteArray := (s.lots.take k).map (·.name)
theorem OL {s : Sale} {k : Nat} (h : k < s.lots.length) : lnames s (k + 1) = lnames s k ++ [s.lots[k].name] := by unfold lnames; rw [List.take_succ_eq_append_getElem h, List.map_append]; rfl
theorem Qa {s : Sale} {k : Nat} (h : k ≤ s.lots.length) : (lnames s k).length = k := by simp [lnames]; omega
theorem En {s : Sale} {k : Nat} (h : k < s.lots.length) : lotErr s k = if freshE s.lots[k].name (lnames s k) ≠ 0 then freshE s.lots[k].name (lnames s k) else if inB 0 (s.sellers.length - 1) s.lots[k].seller = false then 4 else if inB 1 100000 s.lots[k].reserve = false then 7 else 0 := by
 rw [Er h]
 have hany : (lnames s k).any (fun x => sameS x s.lots[k].name) = (s.lots.take k).any fun y => sameS y.name s.lots[k].name := by unfold lnames; rw [List.any_map]; rfl
 unfold freshE
 rw [hany]
 cases nameOk s.lots[k].name <;> cases (s.lots.take k).any (fun y => sameS y.name s.lots[k].name) <;> simp
end
section
set_option maxRecDepth 100000
open Go.RowKit
theorem B2 : ZeroT Tryz.prog 3 (.int .i64 0) := Br (by kernel_rfl)
theorem Cc : Body Tryz.prog 46 := AE (by kernel_rfl)
theorem NV : Body Tryz.prog 137 := AE (by kernel_rfl)
theorem VC : Body Tryz.prog 138 := AE (by kernel_rfl)
theorem VB : Body Tryz.prog 139 := AE (by kernel_rfl)
theorem V8 : Body Tryz.prog 142 := AE (by kernel_rfl)
theorem V7 : Body Tryz.prog 143 := AE (by kernel_rfl)
theorem V4 : Body Tryz.prog 154 := AE (by kernel_rfl)
instance : FieldI Tryz.prog 33 0 0 := ⟨AU (by kernel_rfl)⟩
theorem GL : FieldT Tryz.prog 33 4 4 := AU (by kernel_rfl)
instance : FieldI Tryz.prog 33 4 4 := ⟨GL⟩
theorem GK : FieldT Tryz.prog 33 5 5 := AU (by kernel_rfl)
instance : FieldI Tryz.prog 33 5 5 := ⟨GK⟩
theorem Jl : FieldT Tryz.prog 33 6 6 := AU (by kernel_rfl)
instance : FieldI Tryz.prog 33 6 6 := ⟨Jl⟩
instance : FieldI Tryz.prog 33 7 7 := ⟨AU (by kernel_rfl)⟩
instance : FieldI Tryz.prog 47 0 0 := ⟨AU (by kernel_rfl)⟩
theorem KK : FieldT Tryz.prog 47 1 1 := AU (by kernel_rfl)
instance : FieldI Tryz.prog 47 1 1 := ⟨KK⟩
theorem Rg : FieldT Tryz.prog 47 2 2 := AU (by kernel_rfl)
instance : FieldI Tryz.prog 47 2 2 := ⟨Rg⟩
theorem LB : FieldT Tryz.prog 124 0 0 := AU (by kernel_rfl)
instance : FieldI Tryz.prog 124 0 0 := ⟨LB⟩
theorem LA : FieldT Tryz.prog 124 1 1 := AU (by kernel_rfl)
instance : FieldI Tryz.prog 124 1 1 := ⟨LA⟩
theorem OZ : FieldT Tryz.prog 124 2 2 := AU (by kernel_rfl)
instance : FieldI Tryz.prog 124 2 2 := ⟨OZ⟩
instance : FieldI Tryz.prog 69 0 0 := ⟨AU (by kernel_rfl)⟩
instance : FieldI Tryz.prog 69 1 1 := ⟨AU (by kernel_rfl)⟩
theorem Ht : OneT Tryz.prog 28 := BE (by kernel_rfl)
instance : OneI Tryz.prog 28 := ⟨Ht⟩
theorem Cd : OneT Tryz.prog 29 := BE (by kernel_rfl)
instance : OneI Tryz.prog 29 := ⟨Cd⟩
theorem Dm : OneT Tryz.prog 30 := BE (by kernel_rfl)
instance : OneI Tryz.prog 30 := ⟨Dm⟩
theorem Ln : OneT Tryz.prog 31 := BE (by kernel_rfl)
instance : OneI Tryz.prog 31 := ⟨Ln⟩
theorem MZ {F : Heap} {vs vb vl vn vd : Value} {s : Sale} (hr : SaleR F vs vb vl vn vd s) {c TC : Nat} (hc : F c = some (bx TC [vs, .int .i64 s.premium, .int .i64 s.fee, .int .i64 s.days, vb, vl, vn, vd])) {k : Nat} (hk : k < s.steps.length) (hno : ∀ j, j < k → stepErr s.steps j = 0) : Ok Tryz.prog 132 [.int .i64 (k : Int), .agg (s.steps[k].enc).toArray, .pointer (some ⟨c, 0, none⟩)].toArray F fun r _ => r = .int .i64 (stepErr s.steps k) := by
 refine Ok.intro Tryz.func132 rfl Tryz.ntmps132 rfl fun w0 => ?_
 by_cases hk0 : k = 0
 ·subst hk0
  refine Ac <| Am fun ds => A5 rfl <| Bg Aa rfl fun b1 hb1 nb1 => Aw (Af 1) <| AD (Af 2) <| Ac <| AD (Af 2) <| Ad Aa (by first | rfl | exact dF (by omega)) ?_
  by_cases hf : inB 0 0 s.steps[0].from_ = true
  ·refine Al <| Ab <| Ac <| Az (Af 4) fun ds => A5 rfl <| AM A9 B2 rfl (.cons Aa .nil) rfl rfl (by decide) (by simp [Value.oneCell']) fun b2 hb2 nb2 => AJ (i := 0) rfl hb2 .here fun F3 hF4 hz5 => ?_
   have hsl6 := Bh hz5
   refine AN rfl (Ay Cc Aa AW (Bj _ _ hsl6) (fun _ _ h => h)) <| Aj (Af 1) <| Ae rfl rfl Aa (by simp [hf]) <| Aj (Af 1) <| Ae rfl rfl Aa (by simp [hf]) <| Aj (Af 1) <| Ae rfl rfl Aa (by simp [hf]) <| A5 rfl <| AM A9 B2 rfl (.cons Aa .nil) rfl rfl (by decide) (by simp [Value.oneCell']) fun b7 hb7 nb7 => AJ (i := 0) rfl hb7 .here fun F8 hF9 hz10 => ?_
   have hU63 := Heap.le_trans hF4 hF9
   have hsl11 := Bh hz10
   refine Ae rfl rfl Aa (by simp [hf]) <| AN rfl (Ay Cc Aa AW (Bj _ _ hsl11) (fun _ _ h => h)) <| Ag rfl (As Aa (by simp [hf]) Aa) <| Ao <| Ab ?_
   by_cases hb : inB 1 100000 s.steps[0].by_ = true
   ·refine Ad Aa (by simp [hb]) <| Al <| Ab <| AD (Af 1) <| At <| Ap rfl Bd ?_
    show _ = _
    rw [CK hk]; simp [outOf, hf, hb]
   replace hb : inB 1 100000 s.steps[0].by_ = false := by simpa using hb
   refine Ai Aa (by simp [hb]) <| AD (Af 1) <| At <| Ax <| Ap rfl Bd ?_
   show _ = _
   rw [CK hk]; simp [outOf, hf, hb]
  replace hf : inB 0 0 s.steps[0].from_ = false := by simpa using hf
  refine Al <| Ab <| Ac <| Az (Af 4) fun ds => A5 rfl <| AM A9 B2 rfl (.cons Aa .nil) rfl rfl (by decide) (by simp [Value.oneCell']) fun b12 hb12 nb12 => AJ (i := 0) rfl hb12 .here fun F13 hF14 hz15 => ?_
  have hsl16 := Bh hz15
  refine AN rfl (Ay Cc Aa AW (Bj _ _ hsl16) (fun _ _ h => h)) <| Aj (Af 1) <| Ah rfl rfl Aa (.inl (congrArg Value.bool (by simp [hf]))) rfl <| Ah rfl rfl Aa (.inl (congrArg Value.bool (by simp [hf]))) rfl <| Ah rfl rfl Aa (.inl (congrArg Value.bool (by simp [hf]))) rfl <| Ah rfl rfl Aa (.inl (congrArg Value.bool (by simp [hf]))) rfl <| Ag rfl (Ar Aa (by simp [hf]) Aa) <| Ao <| Ab <| Ai Aa rfl <| AD (Af 1) <| At <| Ax <| Ap rfl Bd ?_
  show _ = _
  rw [CK hk]; simp [outOf, hf]
 have hL1 := hr.steps.plain.lt
 have hk1 : k - 1 < s.steps.length := by omega
 have hprev := Mq hk1 (hno (k - 1) (by omega)) (.inr trivial)
 have hlow := Hj hk1 (fun j hj => hno j (by omega))
 refine Ac <| Am fun ds => A5 rfl <| Bg Aa rfl fun b17 hb17 nb17 => Aw (Af 1) <| AD (Af 2) <| Ac <| AD (Af 2) <| Ai Aa (by first | rfl | exact dT (by omega)) ?_
 by_cases hf : inB ((s.steps[k - 1]'hk1).from_ + 1) 100000 s.steps[k].from_ = true
 ·refine Am fun ds => Aj (Af 1) <| Ag rfl (Ak Ht Aa (AA hc rfl)) <| Aj (Af 1) <| Ag rfl (B4 Aa Aa rfl (by omega) (by omega)) <| Ag rfl (A1 (k := k - 1) CQ Aa hr.steps.plain Aa (by omega) hk1) <| Aj (Af 1) <| Ag rfl (Ak AF Aa (hr.steps.cell hk1 rfl)) <| Ag rfl (AG Aa Aa rfl (by omega) (by omega)) <| Aw (Af 2) <| Ac <| Az (Af 4) fun ds => A5 rfl <| AM A9 B2 rfl (.cons Aa .nil) rfl rfl (by decide) (by simp [Value.oneCell']) fun b18 hb18 nb18 => AJ (i := 0) rfl hb18 .here fun F19 hF20 hz21 => ?_
  have hsl22 := Bh hz21
  refine AN rfl (Ay Cc Aa AW (Bj _ _ hsl22) (fun _ _ h => h)) <| Aj (Af 1) <| Ae rfl rfl Aa (by simp [hf]) <| Aj (Af 1) <| Ae rfl rfl Aa (by simp [hf]) <| Aj (Af 1) <| Ae rfl rfl Aa (by simp [hf]) <| A5 rfl <| AM A9 B2 rfl (.cons Aa .nil) rfl rfl (by decide) (by simp [Value.oneCell']) fun b23 hb23 nb23 => AJ (i := 0) rfl hb23 .here fun F24 hF25 hz26 => ?_
  have hU100 := Heap.le_trans hF20 hF25
  have hsl27 := Bh hz26
  refine Ae rfl rfl Aa (by simp [hf]) <| AN rfl (Ay Cc Aa AW (Bj _ _ hsl27) (fun _ _ h => h)) <| Ag rfl (As Aa (by simp [hf]) Aa) <| Ao <| Ab ?_
  by_cases hb : inB 1 100000 s.steps[k].by_ = true
  ·refine Ad Aa (by simp [hb]) <| Al <| Ab <| AD (Af 1) <| At <| Ap rfl Bd ?_
   show _ = _
   rw [C2 (by omega) hk]; simp [outOf, hf, hb]
  replace hb : inB 1 100000 s.steps[k].by_ = false := by simpa using hb
  refine Ai Aa (by simp [hb]) <| AD (Af 1) <| At <| Ax <| Ap rfl Bd ?_
  show _ = _
  rw [C2 (by omega) hk]; simp [outOf, hf, hb]
 replace hf : inB ((s.steps[k - 1]'hk1).from_ + 1) 100000 s.steps[k].from_ = false := by simpa using hf
 refine Am fun ds => Aj (Af 1) <| Ag rfl (Ak Ht Aa (AA hc rfl)) <| Aj (Af 1) <| Ag rfl (B4 Aa Aa rfl (by omega) (by omega)) <| Ag rfl (A1 (k := k - 1) CQ Aa hr.steps.plain Aa (by omega) hk1) <| Aj (Af 1) <| Ag rfl (Ak AF Aa (hr.steps.cell hk1 rfl)) <| Ag rfl (AG Aa Aa rfl (by omega) (by omega)) <| Aw (Af 2) <| Ac <| Az (Af 4) fun ds => A5 rfl <| AM A9 B2 rfl (.cons Aa .nil) rfl rfl (by decide) (by simp [Value.oneCell']) fun b28 hb28 nb28 => AJ (i := 0) rfl hb28 .here fun F29 hF30 hz31 => ?_
 have hsl32 := Bh hz31
 refine AN rfl (Ay Cc Aa AW (Bj _ _ hsl32) (fun _ _ h => h)) <| Aj (Af 1) <| Ah rfl rfl Aa (.inl (congrArg Value.bool (by simp [hf]))) rfl <| Ah rfl rfl Aa (.inl (congrArg Value.bool (by simp [hf]))) rfl <| Ah rfl rfl Aa (.inl (congrArg Value.bool (by simp [hf]))) rfl <| Ah rfl rfl Aa (.inl (congrArg Value.bool (by simp [hf]))) rfl <| Ag rfl (Ar Aa (by simp [hf]) Aa) <| Ao <| Ab <| Ai Aa rfl <| AD (Af 1) <| At <| Ax <| Ap rfl Bd ?_
 show _ = _
 rw [C2 (by omega) hk]; simp [outOf, hf]
theorem GC {F : Heap} {c TC : Nat} {v : Value} {ns : List ByteArray} (hc : F c = some (bx TC [v])) (h : Sl F v 1 strE ns) {k : Nat} (hk : k < ns.length) : Ok Tryz.prog 153 [.int .i64 (k : Int), .string ns[k], .pointer (some ⟨c, 0, none⟩)].toArray F fun r _ => r = .int .i64 (nameErr ns k) := by
 refine Ok.intro Tryz.func153 rfl Tryz.ntmps153 rfl fun w0 => ?_
 by_cases hn : nameOk ns[k] = true
 ·refine AD (Af 1) <| Ac <| Aq <| Az (Af 1) fun ds => AN rfl (Ay NV Aa AW (Em _) (fun _ _ h => h)) <| Aw (Af 2) <| Ad Aa (by rw [hn]; rfl) ?_
  by_cases ht : (ns.take k).any (fun x => sameS x ns[k]) = true
  ·refine Ac <| Am fun ds => Ag rfl (Ak Cd Aa (AA hc rfl)) <| Aj (Af 1) <| Ag rfl (Dp BB Aa h.plain Aa (k := k) rfl (by omega)) <| Aj (Af 1) <| AN rfl (Ay V4 Aa AW (Gq (h.to (k := k) (by omega)) _) (fun _ _ h => h)) <| Aw (Af 1) <| Ai Aa ht <| AD (Af 1) <| At <| A7 <| Ax <| Ap rfl Bd ?_
   show _ = _
   rw [Hv hk]; simp [outOf, hn, ht]
  replace ht : (ns.take k).any (fun x => sameS x ns[k]) = false := by simpa using ht
  refine Ac <| Am fun ds => Ag rfl (Ak Cd Aa (AA hc rfl)) <| Aj (Af 1) <| Ag rfl (Dp BB Aa h.plain Aa (k := k) rfl (by omega)) <| Aj (Af 1) <| AN rfl (Ay V4 Aa AW (Gq (h.to (k := k) (by omega)) _) (fun _ _ h => h)) <| Aw (Af 1) <| Ad Aa ht <| Al <| A0 <| Ab <| AD (Af 1) <| At <| Ap rfl Bd ?_
  show _ = _
  rw [Hv hk]; simp [outOf, hn, ht]
 replace hn : nameOk ns[k] = false := by simpa using hn
 refine AD (Af 1) <| Ac <| Aq <| Az (Af 1) fun ds => AN rfl (Ay NV Aa AW (Em _) (fun _ _ h => h)) <| Aw (Af 2) <| Ai Aa (by rw [hn]; rfl) <| AD (Af 1) <| At <| A7 <| Ax <| Ap rfl Bd ?_
 show _ = _
 rw [Hv hk]; simp [outOf, hn]
theorem HY {F : Heap} {v : Value} {ns : List ByteArray} (h : Sl F v 1 strE ns) : Ok Tryz.prog 134 [v].toArray F fun u F' => ∃ b, u = .func (.func 153) #[] #[.pointer (some ⟨b, 0, none⟩)] ∧ F' b = some (bx 29 [v]) := by
 refine Ok.intro Tryz.func134 rfl Tryz.ntmps134 rfl fun w0 => Ac <| Am fun ds => A5 rfl <| Bg Aa (B9 h.plain.one) fun b1 hb1 nb1 => Aw (Af 1) <| Ac <| AK (i := 0) rfl hb1 (.here) fun F2 hF3 hz => ?_
 refine Am fun ds => Ag rfl (Bt AW) <| Aw (Af 1) <| At <| Ap rfl Bd ?_
 exact ⟨_, rfl, hz⟩
theorem LU {F : Heap} {c TB : Nat} {b : Lot} (hb : F c = some (bx TB b.enc)) (x : Lot) : Ok Tryz.prog 139 [.agg x.enc.toArray, .pointer (some ⟨c, 0, none⟩)].toArray F fun r _ => r = .bool (sameS x.name b.name) := by
 refine Ok.intro Tryz.func139 rfl Tryz.ntmps139 rfl fun w0 => Ac <| Am fun ds => A5 rfl <| Bg Aa rfl fun b1 hb1 nb1 => Aw (Af 1) <| Az (Af 3) fun ds => Ag rfl (Ak E6 Aa (AA hb rfl)) <| Aw (Af 2) <| At <| Ap rfl Bd ?_
 rfl
theorem LT {F : Heap} {c TB : Nat} {b : Bid} (hb : F c = some (bx TB b.enc)) (x : Bid) : Ok Tryz.prog 143 [.agg x.enc.toArray, .pointer (some ⟨c, 0, none⟩)].toArray F fun r _ => r = .bool (decide (x.bidder = b.bidder) && decide (x.lot = b.lot)) := by
 refine Ok.intro Tryz.func143 rfl Tryz.ntmps143 rfl fun w0 => ?_
 by_cases h1 : x.bidder = b.bidder
 ·refine Ac <| Am fun ds => A5 rfl <| Bg Aa rfl fun b1 hb1 nb1 => Aw (Af 1) <| Az (Af 3) fun ds => Ag rfl (Ak AF Aa (AA hb rfl)) <| Aj (Af 2) <| Ae rfl rfl Aa (dT h1) <| Aj (Af 1) <| Ae rfl rfl Aa (dT h1) <| Aj (Af 1) <| Ae rfl rfl Aa (dT h1) <| Aj (Af 1) <| Ae rfl rfl Aa (dT h1) <| Ag rfl (Ak AF Aa (AA hb rfl)) <| Ae rfl rfl Aa (dT h1) <| Aj (Af 1) <| Ag rfl (Ar Aa (dT h1) Aa) <| Aw (Af 1) <| At <| Ap rfl Bd ?_
  show _ = _
  simp [outOf, h1]
 refine Ac <| Am fun ds => A5 rfl <| Bg Aa rfl fun b2 hb2 nb2 => Aw (Af 1) <| Az (Af 3) fun ds => Ag rfl (Ak AF Aa (AA hb rfl)) <| Aj (Af 2) <| Ah rfl rfl Aa (.inl (congrArg Value.bool (dF h1))) rfl <| Ah rfl rfl Aa (.inl (congrArg Value.bool (dF h1))) rfl <| Ah rfl rfl Aa (.inl (congrArg Value.bool (dF h1))) rfl <| Ah rfl rfl Aa (.inl (congrArg Value.bool (dF h1))) rfl <| Ah rfl rfl Aa (.inl (congrArg Value.bool (dF h1))) rfl <| Ag rfl (As Aa (dF h1) Aa) <| Aw (Af 1) <| At <| Ap rfl Bd ?_
 show _ = _
 simp [outOf, h1]
theorem MY {F : Heap} {vs vb vl vn vd : Value} {s : Sale} (hr : SaleR F vs vb vl vn vd s) {c TC : Nat} (hc : F c = some (bx TC [vs, .int .i64 s.premium, .int .i64 s.fee, .int .i64 s.days, vb, vl, vn, vd])) {k : Nat} (hk : k < s.lots.length) : Ok Tryz.prog 136 [.int .i64 (k : Int), .agg (s.lots[k].enc).toArray, .pointer (some ⟨c, 0, none⟩)].toArray F fun r _ => r = .int .i64 (lotErr s k) := by
 refine Ok.intro Tryz.func136 rfl Tryz.ntmps136 rfl fun w0 => ?_
 have hL1 := hr.lots.plain.lt
 have hL2 := hr.sellers.plain.lt
 by_cases hn : nameOk s.lots[k].name = true
 ·refine Ac <| Am fun ds => A5 rfl <| Bg Aa rfl fun b1 hb1 nb1 => Aw (Af 1) <| Ac <| Aq <| Az (Af 2) fun ds => AN rfl (Ay NV Aa AW (Em _) (fun _ _ h => h)) <| Aw (Af 2) <| Ad Aa (by rw [hn]; rfl) <| Ac <| AK (i := 0) rfl hb1 (.here) fun F2 hF3 hq => ?_
  replace hr := hr.mono hF3
  replace hc := hF3 _ _ hc
  by_cases ht : (s.lots.take k).any (fun y => sameS y.name s.lots[k].name) = true
  ·refine Am fun ds => Aj (Af 1) <| Ag rfl (Ak Dm Aa (AA hc rfl)) <| Aj (Af 1) <| Ag rfl (Dp BN Aa hr.lots.plain Aa (k := k) rfl (by omega)) <| Ag rfl (Bt AW) <| AN rfl (Ay VC Aa AW (Gr (hr.lots.to (k := k) (by omega)) (fun y => sameS y.name s.lots[k].name) VB fun i hi => LU hq _) (fun _ _ h => h)) <| Aw (Af 1) <| Ai Aa ht <| AD (Af 1) <| At <| A7 <| Ax <| Ap rfl Bd ?_
   show _ = _
   rw [Er hk]; simp [outOf, hn, ht]
  replace ht : (s.lots.take k).any (fun y => sameS y.name s.lots[k].name) = false := by simpa using ht
  refine Am fun ds => Aj (Af 1) <| Ag rfl (Ak Dm Aa (AA hc rfl)) <| Aj (Af 1) <| Ag rfl (Dp BN Aa hr.lots.plain Aa (k := k) rfl (by omega)) <| Ag rfl (Bt AW) <| AN rfl (Ay VC Aa AW (Gr (hr.lots.to (k := k) (by omega)) (fun y => sameS y.name s.lots[k].name) VB fun i hi => LU hq _) (fun _ _ h => h)) <| Aw (Af 1) <| Ad Aa ht ?_
  by_cases hs : inB 0 (s.sellers.length - 1) s.lots[k].seller = true
  ·refine Az (Af 1) fun ds => Ag rfl (Ak Cd Aa (AA hc rfl)) <| Ag rfl (A4 BB Aa hr.sellers.plain) <| Ag rfl (B4 Aa Aa rfl (by omega) (by omega)) <| Aj (Af 1) <| Ag rfl (Ak AF Aa (AA hq rfl)) <| A5 rfl <| AM A9 B2 rfl (.cons Aa .nil) rfl rfl (by decide) (by simp [Value.oneCell']) fun b4 hb4 nb4 => AJ (i := 0) rfl hb4 .here fun F5 hF6 hz7 => ?_
   replace hq := hF6 _ _ hq
   have hsl8 := Bh hz7
   refine AN rfl (Ay Cc Aa AW (Bj _ _ hsl8) (fun _ _ h => h)) <| Aw (Af 1) <| Ad Aa (by simp [hs]) ?_
   by_cases hv : inB 1 100000 s.lots[k].reserve = true
   ·refine Az (Af 1) fun ds => Ag rfl (Ak AF Aa (AA hq rfl)) <| A5 rfl <| AM A9 B2 rfl (.cons Aa .nil) rfl rfl (by decide) (by simp [Value.oneCell']) fun b9 hb9 nb9 => AJ (i := 0) rfl hb9 .here fun F10 hF11 hz12 => ?_
    have hsl13 := Bh hz12
    refine AN rfl (Ay Cc Aa AW (Bj _ _ hsl13) (fun _ _ h => h)) <| Aw (Af 1) <| Ad Aa (by simp [hv]) <| Al <| A0 <| Ab <| AD (Af 1) <| At <| Ap rfl Bd ?_
    show _ = _
    rw [Er hk]; simp [outOf, hn, ht, hs, hv]
   replace hv : inB 1 100000 s.lots[k].reserve = false := by simpa using hv
   refine Az (Af 1) fun ds => Ag rfl (Ak AF Aa (AA hq rfl)) <| A5 rfl <| AM A9 B2 rfl (.cons Aa .nil) rfl rfl (by decide) (by simp [Value.oneCell']) fun b14 hb14 nb14 => AJ (i := 0) rfl hb14 .here fun F15 hF16 hz17 => ?_
   have hsl18 := Bh hz17
   refine AN rfl (Ay Cc Aa AW (Bj _ _ hsl18) (fun _ _ h => h)) <| Aw (Af 1) <| Ai Aa (by simp [hv]) <| AD (Af 1) <| At <| A7 <| Ax <| Ap rfl Bd ?_
   show _ = _
   rw [Er hk]; simp [outOf, hn, ht, hs, hv]
  replace hs : inB 0 (s.sellers.length - 1) s.lots[k].seller = false := by simpa using hs
  refine Az (Af 1) fun ds => Ag rfl (Ak Cd Aa (AA hc rfl)) <| Ag rfl (A4 BB Aa hr.sellers.plain) <| Ag rfl (B4 Aa Aa rfl (by omega) (by omega)) <| Aj (Af 1) <| Ag rfl (Ak AF Aa (AA hq rfl)) <| A5 rfl <| AM A9 B2 rfl (.cons Aa .nil) rfl rfl (by decide) (by simp [Value.oneCell']) fun b19 hb19 nb19 => AJ (i := 0) rfl hb19 .here fun F20 hF21 hz22 => ?_
  have hsl23 := Bh hz22
  refine AN rfl (Ay Cc Aa AW (Bj _ _ hsl23) (fun _ _ h => h)) <| Aw (Af 1) <| Ai Aa (by simp [hs]) <| AD (Af 1) <| At <| A7 <| Ax <| Ap rfl Bd ?_
  show _ = _
  rw [Er hk]; simp [outOf, hn, ht, hs]
 replace hn : nameOk s.lots[k].name = false := by simpa using hn
 refine Ac <| Am fun ds => A5 rfl <| Bg Aa rfl fun b24 hb24 nb24 => Aw (Af 1) <| Ac <| Aq <| Az (Af 2) fun ds => AN rfl (Ay NV Aa AW (Em _) (fun _ _ h => h)) <| Aw (Af 2) <| Ai Aa (by rw [hn]; rfl) <| AD (Af 1) <| At <| A7 <| Ax <| Ap rfl Bd ?_
 show _ = _
 rw [Er hk]; simp [outOf, hn]
theorem MX {F : Heap} {vs vb vl vn vd : Value} {s : Sale} (hr : SaleR F vs vb vl vn vd s) {c TC : Nat} (hc : F c = some (bx TC [vs, .int .i64 s.premium, .int .i64 s.fee, .int .i64 s.days, vb, vl, vn, vd])) {k : Nat} (hk : k < s.bids.length) : Ok Tryz.prog 141 [.int .i64 (k : Int), .agg (s.bids[k].enc).toArray, .pointer (some ⟨c, 0, none⟩)].toArray F fun r _ => r = .int .i64 (bidErr s k) := by
 refine Ok.intro Tryz.func141 rfl Tryz.ntmps141 rfl fun w0 => ?_
 have hL1 := hr.bids.plain.lt
 have hL2 := hr.bidders.plain.lt
 have hL3 := hr.lots.plain.lt
 by_cases h1 : inB 0 (s.bidders.length - 1) s.bids[k].bidder = true
 ·refine Ac <| Am fun ds => A5 rfl <| Bg Aa rfl fun b1 hb1 nb1 => Aw (Af 1) <| Ac <| Aq <| Az (Af 1) fun ds => Ag rfl (Ak Cd Aa (AA hc rfl)) <| Ag rfl (A4 BB Aa hr.bidders.plain) <| Ag rfl (B4 Aa Aa rfl (by omega) (by omega)) <| Aj (Af 2) <| A5 rfl <| AM A9 B2 rfl (.cons Aa .nil) rfl rfl (by decide) (by simp [Value.oneCell']) fun b2 hb2 nb2 => AJ (i := 0) rfl hb2 .here fun F3 hF4 hz5 => ?_
  replace hr := hr.mono hF4
  replace hc := hF4 _ _ hc
  have hsl6 := Bh hz5
  refine AN rfl (Ay Cc Aa AW (Bj _ _ hsl6) (fun _ _ h => h)) <| Aj (Af 1) <| Ae rfl rfl Aa (by simp [h1]) <| Aj (Af 1) <| Ae rfl rfl Aa (by simp [h1]) <| Ag rfl (Ak Dm Aa (AA hc rfl)) <| Ae rfl rfl Aa (by simp [h1]) <| Ag rfl (A4 BN Aa hr.lots.plain) <| Ae rfl rfl Aa (by simp [h1]) <| Ag rfl (B4 Aa Aa rfl (by omega) (by omega)) <| Ae rfl rfl Aa (by simp [h1]) <| Aj (Af 1) <| Ae rfl rfl Aa (by simp [h1]) <| Aj (Af 1) <| Ae rfl rfl Aa (by simp [h1]) <| A5 rfl <| AM A9 B2 rfl (.cons Aa .nil) rfl rfl (by decide) (by simp [Value.oneCell']) fun b7 hb7 nb7 => AJ (i := 0) rfl hb7 .here fun F8 hF9 hz10 => ?_
  replace hr := hr.mono hF9
  replace hc := hF9 _ _ hc
  have hsl11 := Bh hz10
  refine Ae rfl rfl Aa (by simp [h1]) <| AN rfl (Ay Cc Aa AW (Bj _ _ hsl11) (fun _ _ h => h)) <| Ag rfl (As Aa (by simp [h1]) Aa) <| Aw (Af 1) ?_
  by_cases h2 : inB 0 (s.lots.length - 1) s.bids[k].lot = true
  ·refine Ad Aa (by simp [h2]) ?_
   by_cases h3 : inB 1 100000 s.bids[k].most = true
   ·refine Az (Af 2) fun ds => A5 rfl <| AM A9 B2 rfl (.cons Aa .nil) rfl rfl (by decide) (by simp [Value.oneCell']) fun b12 hb12 nb12 => AJ (i := 0) rfl hb12 .here fun F13 hF14 hz15 => ?_
    have hsl16 := Bh hz15
    refine AN rfl (Ay Cc Aa AW (Bj _ _ hsl16) (fun _ _ h => h)) <| Aw (Af 1) <| Ad Aa (by simp [h3]) <| Ac <| AK (i := 0) rfl hb1 (.here) fun F17 hF18 hq => ?_
    have hU260 := Heap.le_trans hF14 hF18
    replace hr := hr.mono hU260
    replace hc := hU260 _ _ hc
    by_cases ht : (s.bids.take k).any (fun y => decide (y.bidder = s.bids[k].bidder) && decide (y.lot = s.bids[k].lot)) = true
    ·refine Am fun ds => Aj (Af 1) <| Ag rfl (Ak Ln Aa (AA hc rfl)) <| Aj (Af 1) <| Ag rfl (Dp CT Aa hr.bids.plain Aa (k := k) rfl (by omega)) <| Ag rfl (Bt AW) <| AN rfl (Ay V8 Aa AW (Gs (hr.bids.to (k := k) (by omega)) (fun y => decide (y.bidder = s.bids[k].bidder) && decide (y.lot = s.bids[k].lot)) V7 fun i hi => LT hq _) (fun _ _ h => h)) <| Aw (Af 1) <| Ai Aa ht <| AD (Af 1) <| At <| A7 <| Ax <| Ap rfl Bd ?_
     show _ = _
     rw [CN hk]; simp [outOf, h1, h2, h3, ht]
    replace ht : (s.bids.take k).any (fun y => decide (y.bidder = s.bids[k].bidder) && decide (y.lot = s.bids[k].lot)) = false := by simpa using ht
    refine Am fun ds => Aj (Af 1) <| Ag rfl (Ak Ln Aa (AA hc rfl)) <| Aj (Af 1) <| Ag rfl (Dp CT Aa hr.bids.plain Aa (k := k) rfl (by omega)) <| Ag rfl (Bt AW) <| AN rfl (Ay V8 Aa AW (Gs (hr.bids.to (k := k) (by omega)) (fun y => decide (y.bidder = s.bids[k].bidder) && decide (y.lot = s.bids[k].lot)) V7 fun i hi => LT hq _) (fun _ _ h => h)) <| Aw (Af 1) <| Ad Aa ht <| Al <| A0 <| Ab <| AD (Af 1) <| At <| Ap rfl Bd ?_
    show _ = _
    rw [CN hk]; simp [outOf, h1, h2, h3, ht]
   replace h3 : inB 1 100000 s.bids[k].most = false := by simpa using h3
   refine Az (Af 2) fun ds => A5 rfl <| AM A9 B2 rfl (.cons Aa .nil) rfl rfl (by decide) (by simp [Value.oneCell']) fun b19 hb19 nb19 => AJ (i := 0) rfl hb19 .here fun F20 hF21 hz22 => ?_
   have hsl23 := Bh hz22
   refine AN rfl (Ay Cc Aa AW (Bj _ _ hsl23) (fun _ _ h => h)) <| Aw (Af 1) <| Ai Aa (by simp [h3]) <| AD (Af 1) <| At <| A7 <| Ax <| Ap rfl Bd ?_
   show _ = _
   rw [CN hk]; simp [outOf, h1, h2, h3]
  replace h2 : inB 0 (s.lots.length - 1) s.bids[k].lot = false := by simpa using h2
  refine Ai Aa (by simp [h2]) <| AD (Af 1) <| At <| A7 <| Ax <| Ap rfl Bd ?_
  show _ = _
  rw [CN hk]; simp [outOf, h1, h2]
 replace h1 : inB 0 (s.bidders.length - 1) s.bids[k].bidder = false := by simpa using h1
 refine Ac <| Am fun ds => A5 rfl <| Bg Aa rfl fun b24 hb24 nb24 => Aw (Af 1) <| Ac <| Aq <| Az (Af 1) fun ds => Ag rfl (Ak Cd Aa (AA hc rfl)) <| Ag rfl (A4 BB Aa hr.bidders.plain) <| Ag rfl (B4 Aa Aa rfl (by omega) (by omega)) <| Aj (Af 2) <| A5 rfl <| AM A9 B2 rfl (.cons Aa .nil) rfl rfl (by decide) (by simp [Value.oneCell']) fun b25 hb25 nb25 => AJ (i := 0) rfl hb25 .here fun F26 hF27 hz28 => ?_
 have hsl29 := Bh hz28
 refine AN rfl (Ay Cc Aa AW (Bj _ _ hsl29) (fun _ _ h => h)) <| Aj (Af 1) <| Ah rfl rfl Aa (.inl (congrArg Value.bool (by simp [h1]))) rfl <| Ah rfl rfl Aa (.inl (congrArg Value.bool (by simp [h1]))) rfl <| Ah rfl rfl Aa (.inl (congrArg Value.bool (by simp [h1]))) rfl <| Ah rfl rfl Aa (.inl (congrArg Value.bool (by simp [h1]))) rfl <| Ah rfl rfl Aa (.inl (congrArg Value.bool (by simp [h1]))) rfl <| Ah rfl rfl Aa (.inl (congrArg Value.bool (by simp [h1]))) rfl <| Ah rfl rfl Aa (.inl (congrArg Value.bool (by simp [h1]))) rfl <| Ah rfl rfl Aa (.inl (congrArg Value.bool (by simp [h1]))) rfl <| Ag rfl (Ar Aa (by simp [h1]) Aa) <| Aw (Af 1) <| Ai Aa rfl <| AD (Af 1) <| At <| A7 <| Ax <| Ap rfl Bd ?_
 show _ = _
 rw [CN hk]; simp [outOf, h1]
end
section
open Go.RowKit
section
variable {P : Program} {n : Nat} {B : Base} {e : Env} {σ : St} {d : Option Nat} {ty : TypeId} {pos : String} {af : Array Edge} {gd : Option (Nat × Bool)}
inductive OutE {α : Type} (p : α) : List α → List α → Prop
 | here {us : List α} : OutE p (p :: us) us
 | next {u : α} {us us' : List α} : OutE p us us' → OutE p (u :: us) (u :: us')
 | skip {S us us' : List α} : OutE p us us' → OutE p (S ++ us) (S ++ us')
 | lastS {S : List α} : OutE p (S ++ [p]) S
inductive OutB {α : Type} (R : List α) : List α → List α → Prop
 | here {us : List α} : OutB R (R ++ us) us
 | last : OutB R R []
 | next {u : α} {us us' : List α} : OutB R us us' → OutB R (u :: us) (u :: us')
 | skip {S us us' : List α} : OutB R us us' → OutB R (S ++ us) (S ++ us')
 | lastS {S : List α} : OutB R (S ++ R) S
theorem OutE.perm {α : Type} {p : α} {H H1 : List α} (h : OutE p H H1) : H.Perm (p :: H1) := by
 induction h with
 | here => exact .refl _
 | next _ ih => exact (ih.cons _).trans (.swap _ _ _)
 | skip _ ih => exact (ih.append_left _).trans List.perm_middle
 | lastS => exact List.perm_append_comm
theorem OutB.perm {α : Type} {R H H1 : List α} (h : OutB R H H1) : H.Perm (R ++ H1) := by
 induction h with
 | here => exact .refl _
 | last => rw [List.append_nil]
 | next _ ih => exact (ih.cons _).trans List.perm_middle.symm
 | skip _ ih =>
   refine (ih.append_left _).trans ?_
   rw [← List.append_assoc, ← List.append_assoc]
   exact List.perm_append_comm.append_right _
 | lastS => exact List.perm_append_comm
inductive PickB {α : Type} : List α → List α → Prop
 | nil {H : List α} : PickB H []
 | all {H : List α} : PickB H H
 | one {p : α} {H H1 H' : List α} : OutE p H H1 → PickB H1 H' → PickB H (p :: H')
 | blk {R H H1 H' : List α} : OutB R H H1 → PickB H1 H' → PickB H (R ++ H')
 | lastb {R H H1 : List α} : OutB R H H1 → PickB H R
theorem PickB.sub {α : Type} {H H' : List α} (h : PickB H H') : ∃ D, H.Perm (H' ++ D) := by
 induction h with
 | @nil H => exact ⟨H, by simp⟩
 | all => exact ⟨[], by simp⟩
 | one ho _ ih => obtain ⟨D, hD⟩ := ih; exact ⟨D, ho.perm.trans (hD.cons _)⟩
 | blk ho _ ih => obtain ⟨D, hD⟩ := ih; exact ⟨D, by rw [List.append_assoc]; exact ho.perm.trans (hD.append_left _)⟩
 | lastb ho => exact ⟨_, ho.perm⟩
theorem Holds.pickB {w : World} (h : Holds B σ w) {H' : List (Nat × Obj)} (hp : PickB σ.H H') : Holds B ⟨σ.F, H'⟩ w := by
 obtain ⟨D, hD⟩ := hp.sub
 refine h.perm (fun p hm => hD.symm.mem_iff.1 (List.mem_append_left _ hm)) fun hn => ?_
 have := (hD.map (·.1)).nodup_iff.1 hn
 rw [List.map_append, List.nodup_append] at this
 exact this.1
theorem Cs {c : Code} {Q : Exit → Env → St → Prop} {H' : List (Nat × Obj)} (hp : PickB σ.H H') (h : WC P n B c Q e ⟨σ.F, H'⟩) : WC P n B c Q e σ := Bn (fun _ _ hw => hw.pickB hp) h
theorem Tp {ops : Array Oper} {Q : Exit → Env → St → Prop} {σS : St} {ts : List Nat} {fuel : Nat} {listed : Array Bool} {H' : List (Nat × Obj)} (hp : PickB σ.H H') (h : WX P n B ops Q σS ts fuel listed e ⟨σ.F, H'⟩) : WX P n B ops Q σS ts fuel listed e σ := Wc (fun _ hw => hw.pickB hp) h
end
end
section
open Go.RowKit
theorem N8 {F F' : Heap} (hF : F.le F') {b : Nat} (h : F' b = none) : F b = none := by
 cases hb : F b with
 | none => rfl
 | some o => have := hF _ _ hb; rw [h] at this; cases this
theorem ext_le {F0 F F' : Heap} (h0 : F0.le F) (hF : F.le F') {b : Nat} (h : F' b = F0 b) : F b = F0 b := by
 cases h2 : F b with
 | some o => rw [← h]; exact (hF _ _ h2).symm
 | none => exact (N8 h0 h2).symm
theorem Holds.weak {B : Base} {F F' : Heap} {H : List (Nat × Obj)} {w : World} (h : Holds B ⟨F', H⟩ w) (hF : F.le F') (h0 : B.F0.le F) : Holds B ⟨F, H⟩ w :=
 ⟨h.os, h.tape, h.output, h.size, h.old, fun b o hb => h.sub b o (hF b o hb), fun p hp => let ⟨h1, h2, h3⟩ := h.own p hp; ⟨h1, N8 hF h2, h3⟩, h.nodup, fun b hb => ext_le h0 hF (h.ext b hb), h0,
   fun D hD => let ⟨h1, h2, h3, h4⟩ := h.marks D hD; ⟨h1, N8 hF h2, h3, h4⟩, h.dnodup⟩
end
section
set_option maxRecDepth 100000
open Go.RowKit
theorem VG : Body Tryz.prog 131 := AE (by kernel_rfl)
theorem VF : Body Tryz.prog 132 := AE (by kernel_rfl)
theorem NX : Body Tryz.prog 133 := AE (by kernel_rfl)
theorem NW : Body Tryz.prog 134 := AE (by kernel_rfl)
theorem VE : Body Tryz.prog 135 := AE (by kernel_rfl)
theorem VD : Body Tryz.prog 136 := AE (by kernel_rfl)
theorem VA : Body Tryz.prog 140 := AE (by kernel_rfl)
theorem V9 : Body Tryz.prog 141 := AE (by kernel_rfl)
theorem NU : Body Tryz.prog 153 := AE (by kernel_rfl)
instance : FieldI Tryz.prog 33 1 1 := ⟨AU (by kernel_rfl)⟩
instance : FieldI Tryz.prog 33 2 2 := ⟨AU (by kernel_rfl)⟩
instance : FieldI Tryz.prog 33 3 3 := ⟨AU (by kernel_rfl)⟩
theorem SaleR.ones {F : Heap} {vs vb vl vn vd : Value} {s : Sale} (hr : SaleR F vs vb vl vn vd s) : ∀ u ∈ [vs, .int .i64 s.premium, .int .i64 s.fee, .int .i64 s.days, vb, vl, vn, vd], u.oneCell' = true := by
 intro u hu
 simp only [List.mem_cons, List.not_mem_nil, or_false] at hu
 rcases hu with rfl | rfl | rfl | rfl | rfl | rfl | rfl | rfl
 · exact hr.steps.plain.one
 · rfl
 · rfl
 · rfl
 · exact hr.bidders.plain.one
 · exact hr.sellers.plain.one
 · exact hr.lots.plain.one
 exact hr.bids.plain.one
theorem MW {F : Heap} {vs vb vl vn vd : Value} {s : Sale} (hr : SaleR F vs vb vl vn vd s) : Ok Tryz.prog 97 [.agg #[vs, .int .i64 s.premium, .int .i64 s.fee, .int .i64 s.days, vb, vl, vn, vd]].toArray F fun r _ => r = checkSV s := by
 refine Ok.intro Tryz.func97 rfl Tryz.ntmps97 rfl fun w0 => ?_
 have hle0 : F.le F := Heap.le_refl _
 by_cases hlen0 : s.steps.length = 0
 ·refine Ac <| Am fun ds => A5 rfl <| Bg Aa rfl fun b1 hb1 nb1 => Aw (Af 3) <| Ac <| Az (Af 2) fun ds => Ag rfl (A4 CQ Aa hr.steps.plain) <| Aw (Af 1) <| Ai Aa (dT (by omega)) <| AD (Af 3) <| At <| Ax <| Ap rfl Bd ?_
  exact (Ds (i := 0) (e := 3) (by unfold stepsE; rw [if_pos hlen0])).symm
 refine Ac <| Am fun ds => A5 rfl <| Bg Aa rfl fun b2 hb2 nb2 => Aw (Af 3) <| Ac <| Az (Af 2) fun ds => Ag rfl (A4 CQ Aa hr.steps.plain) <| Aw (Af 1) <| Ad Aa (dF (by omega)) <| Al <| Ab <| Ac <| AK (i := 0) rfl hb2 (.here) fun F3 hF4 hc1 => ?_
 replace hr := hr.mono hF4
 replace hle0 := Heap.le_trans hle0 hF4
 rcases hS : firstE s.steps.length 5 (stepErr s.steps) with _ | ⟨i1, e1⟩
 ·refine Am fun ds => Aj (Af 1) <| Ag rfl (Ak Ht Aa (AA hc1 rfl)) <| Ag rfl (Bt AW) <| AN rfl (Ay VG Aa AW (Kt hr.steps (most := 5) (stepErr s.steps) VF fun k hk hno => MZ hr hc1 hk hno) (fun _ _ h => h.trans (show optV _ = .tuple #[.int .i64 0, .int .i64 0] from by rw [hS]; rfl))) <| Aw (Af 5) <| Ac <| Aq <| AD (Af 3) <| Ad Aa rfl ?_
  by_cases p1 : (inB 0 500 s.premium && inB 0 500 s.fee) = true
  ·refine Az (Af 1) fun ds => Ag rfl (Ak AF Aa (AA hc1 rfl)) <| Aj (Af 1) <| Ag rfl (Ak AF Aa (AA hc1 rfl)) <| A5 rfl <| AM A9 B2 rfl (.cons Aa (.cons Aa .nil)) rfl rfl (by decide) (by simp [Value.oneCell']) fun b5 hb5 nb5 => AJ (i := 0) rfl hb5 .here fun F6 hF7 hz8 => ?_
   replace hle0 := Heap.le_trans hle0 hF7
   replace hc1 := hF7 _ _ hc1
   have hsl9 := BW hz8
   refine AN rfl (Ay Cc Aa AW (Bj _ _ hsl9) (fun _ _ h => h)) <| Aj (Af 1) <| Ae rfl rfl Aa (by first | (rw [B6, p1]; done) | (rw [B6, p1]; rfl)) <| Aj (Af 1) <| Ae rfl rfl Aa (by first | (rw [B6, p1]; done) | (rw [B6, p1]; rfl)) <| Ag rfl (Ak AF Aa (AA hc1 rfl)) <| Ae rfl rfl Aa (by first | (rw [B6, p1]; done) | (rw [B6, p1]; rfl)) <| A5 rfl <| AM A9 B2 rfl (.cons Aa .nil) rfl rfl (by decide) (by simp [Value.oneCell']) fun b10 hb10 nb10 => AJ (i := 0) rfl hb10 .here fun F11 hF12 hz13 => ?_
   replace hr := hr.mono (Heap.le_trans hF7 hF12)
   replace hle0 := Heap.le_trans hle0 hF12
   replace hc1 := hF12 _ _ hc1
   have hsl14 := Bh hz13
   refine Ae rfl rfl Aa (by first | (rw [B6, p1]; done) | (rw [B6, p1]; rfl)) <| AN rfl (Ay Cc Aa AW (Bj _ _ hsl14) (fun _ _ h => h)) <| Ag rfl (As Aa (by first | (rw [B6, p1]; done) | (rw [B6, p1]; rfl)) Aa) <| Aw (Af 1) ?_
   by_cases p2 : inB 0 60 s.days = true
   ·refine Ad Aa (by simp [p2]) ?_
    have hP : ((inB 0 500 s.premium && inB 0 500 s.fee) && inB 0 60 s.days) = true := by simp [p1, p2]
    rcases h3 : firstE s.bidders.length 6 (nameErr s.bidders) with _ | ⟨i3, e3⟩
    ·refine Al <| A0 <| Ab <| Ac <| Ac ?_
     refine HG [3, 4, 34, 35, 36, 37, 38, 39, 40, 41, 42] (fun st σ => Fct st 3 (.int .i64 0) ∧ Fct st 4 (.int .i64 0) ∧ ∃ G, F.le G ∧ SaleR G vs vb vl vn vd s ∧ G b2 = some (bx 33 [vs, .int .i64 s.premium, .int .i64 s.fee, .int .i64 s.days, vb, vl, vn, vd]) ∧ σ = ⟨G, []⟩) ?_ ?_
     ·have hleS := hle0
      refine BO (.inl rfl) (fun _ _ h => h) (List.nil_sublist _) [5, 6, 7, 8, 9, 10] (by kernel_rfl) fun ds => Au 0 rfl (List.nil_sublist _) (AV GL Aa) <| Au 1 rfl (List.nil_sublist _) (Ak Cd Aa (AA hc1 rfl)) <| Au 2 rfl (List.nil_sublist _) (AV GL Aa) <| Au 3 rfl (List.nil_sublist _) (Ak Cd Aa (AA hc1 rfl)) ?_
      refine BU 4 rfl (by kernel_rfl) rfl (Bi NW Aa AW (HY hr.bidders) fun v15 F16 hr17 hF18 => ⟨fun _ _ _ h => (h.drop (List.nil_sublist _)).weak hF18 hleS, ?_⟩)
      replace hr := hr.mono hF18
      replace hle0 := Heap.le_trans hle0 hF18
      obtain ⟨b5, rfl, hzb⟩ := hr17
      refine BU 5 rfl (by kernel_rfl) rfl (Bi NX Aa AW ((EN hr.bidders (most := 6) (nameErr s.bidders) NU fun k hk _ => GC hzb hr.bidders hk).mono fun u F2 _ h => h.trans (show optV _ = .tuple #[.int .i64 0, .int .i64 0] from by rw [h3]; rfl)) fun v19 F20 hr21 hF22 => ⟨(fun h => nomatch h), ?_⟩)
      replace hr := hr.mono hF22
      replace hle0 := Heap.le_trans hle0 hF22
      have hU84 := Heap.le_trans hF18 hF22
      replace hc1 := hU84 _ _ hc1
      obtain rfl := hr21
      refine BU 6 rfl (by kernel_rfl) rfl (Be (AI Aa).quiet ⟨(fun h => nomatch h), ?_⟩)
      refine D9 [7, 8] (by kernel_rfl) (by decide) (UH ?_ ?_)
      ·refine C0 rfl rfl (Be (Ct Aa).quiet ⟨(fun h => nomatch h), ?_⟩)
       refine D9 [8, 9] (by kernel_rfl) (by decide) (UH ?_ ?_)
       ·refine C0 rfl rfl (Be (Ct Aa).quiet ⟨(fun h => nomatch h), ?_⟩)
        refine BU 9 rfl (by kernel_rfl) rfl (Be (Bk Aa).quiet ⟨(fun h => nomatch h), ?_⟩)
        refine BU 10 rfl (by kernel_rfl) rfl (Be (Bk Aa).quiet ⟨(fun h => nomatch h), ?_⟩)
        refine BC (by kernel_rfl) ?_ _
        refine Ab ⟨_, Off.eq (BR rfl <| BM rfl <| BX rfl <| Cb), ?_⟩
        exact ⟨AX, AX, _, hle0, hr, hc1, rfl⟩
       refine C0 rfl rfl (Be (Bk Aa).quiet ⟨(fun h => nomatch h), ?_⟩)
       refine BU 8 rfl (by kernel_rfl) rfl (Be (Ct Aa).quiet ⟨(fun h => nomatch h), ?_⟩)
       refine BU 10 rfl (by kernel_rfl) rfl (Be (Bk Aa).quiet ⟨(fun h => nomatch h), ?_⟩)
       refine BC (by kernel_rfl) ?_ _
       refine Ab ⟨_, Off.eq (BR rfl <| BM rfl <| BX rfl <| Cb), ?_⟩
       exact ⟨AX, AX, _, hle0, hr, hc1, rfl⟩
      refine C0 rfl rfl (Be (Ct Aa).quiet ⟨(fun h => nomatch h), ?_⟩)
      refine BU 7 rfl (by kernel_rfl) rfl (Be (Ct Aa).quiet ⟨(fun h => nomatch h), ?_⟩)
      refine BU 9 rfl (by kernel_rfl) rfl (Be (Bk Aa).quiet ⟨(fun h => nomatch h), ?_⟩)
      refine BU 10 rfl (by kernel_rfl) rfl (Be (Bk Aa).quiet ⟨(fun h => nomatch h), ?_⟩)
      refine BC (by kernel_rfl) ?_ _
      refine Ab ⟨_, Off.eq (BR rfl <| BM rfl <| BX rfl <| Cb), ?_⟩
      exact ⟨AX, AX, _, hle0, hr, hc1, rfl⟩
     rintro e8 _ ⟨hc3, hc4, G8, hle0, hr, hc1, rfl⟩
     refine AD (Af 2) <| Ad Aa rfl ?_
     rcases h4 : firstE s.sellers.length 4 (nameErr s.sellers) with _ | ⟨i4, e4⟩
     ·refine Al <| Ab <| Ac <| Ac ?_
      refine HG [3, 4, 47, 48, 49, 50, 51, 52, 53, 54, 55] (fun st σ => Fct st 3 (.int .i64 0) ∧ Fct st 4 (.int .i64 0) ∧ ∃ G, F.le G ∧ SaleR G vs vb vl vn vd s ∧ G b2 = some (bx 33 [vs, .int .i64 s.premium, .int .i64 s.fee, .int .i64 s.days, vb, vl, vn, vd]) ∧ σ = ⟨G, []⟩) ?_ ?_
      ·have hleS := hle0
       refine BO (.inl rfl) (fun _ _ h => h) (List.nil_sublist _) [5, 6, 7, 8, 9, 10] (by kernel_rfl) fun ds => Au 0 rfl (List.nil_sublist _) (AV GK Aa) <| Au 1 rfl (List.nil_sublist _) (Ak Cd Aa (AA hc1 rfl)) <| Au 2 rfl (List.nil_sublist _) (AV GK Aa) <| Au 3 rfl (List.nil_sublist _) (Ak Cd Aa (AA hc1 rfl)) ?_
       refine BU 4 rfl (by kernel_rfl) rfl (Bi NW Aa AW (HY hr.sellers) fun v23 F24 hr25 hF26 => ⟨fun _ _ _ h => (h.drop (List.nil_sublist _)).weak hF26 hleS, ?_⟩)
       replace hr := hr.mono hF26
       replace hle0 := Heap.le_trans hle0 hF26
       obtain ⟨b5, rfl, hzb⟩ := hr25
       refine BU 5 rfl (by kernel_rfl) rfl (Bi NX Aa AW ((EN hr.sellers (most := 4) (nameErr s.sellers) NU fun k hk _ => GC hzb hr.sellers hk).mono fun u F2 _ h => h.trans (show optV _ = .tuple #[.int .i64 0, .int .i64 0] from by rw [h4]; rfl)) fun v27 F28 hr29 hF30 => ⟨(fun h => nomatch h), ?_⟩)
       replace hr := hr.mono hF30
       replace hle0 := Heap.le_trans hle0 hF30
       replace hc1 := (Heap.le_trans hF26 hF30) _ _ hc1
       obtain rfl := hr29
       refine BU 6 rfl (by kernel_rfl) rfl (Be (AI Aa).quiet ⟨(fun h => nomatch h), ?_⟩)
       refine D9 [7, 8] (by kernel_rfl) (by decide) (UH ?_ ?_)
       ·refine C0 rfl rfl (Be (Ct Aa).quiet ⟨(fun h => nomatch h), ?_⟩)
        refine D9 [8, 9] (by kernel_rfl) (by decide) (UH ?_ ?_)
        ·refine C0 rfl rfl (Be (Ct Aa).quiet ⟨(fun h => nomatch h), ?_⟩)
         refine BU 9 rfl (by kernel_rfl) rfl (Be (Bk Aa).quiet ⟨(fun h => nomatch h), ?_⟩)
         refine BU 10 rfl (by kernel_rfl) rfl (Be (Bk Aa).quiet ⟨(fun h => nomatch h), ?_⟩)
         refine BC (by kernel_rfl) ?_ _
         refine Ab ⟨_, Off.eq (BR rfl <| BM rfl <| BX rfl <| Cb), ?_⟩
         exact ⟨AX, AX, _, hle0, hr, hc1, rfl⟩
        refine C0 rfl rfl (Be (Bk Aa).quiet ⟨(fun h => nomatch h), ?_⟩)
        refine BU 8 rfl (by kernel_rfl) rfl (Be (Ct Aa).quiet ⟨(fun h => nomatch h), ?_⟩)
        refine BU 10 rfl (by kernel_rfl) rfl (Be (Bk Aa).quiet ⟨(fun h => nomatch h), ?_⟩)
        refine BC (by kernel_rfl) ?_ _
        refine Ab ⟨_, Off.eq (BR rfl <| BM rfl <| BX rfl <| Cb), ?_⟩
        exact ⟨AX, AX, _, hle0, hr, hc1, rfl⟩
       refine C0 rfl rfl (Be (Ct Aa).quiet ⟨(fun h => nomatch h), ?_⟩)
       refine BU 7 rfl (by kernel_rfl) rfl (Be (Ct Aa).quiet ⟨(fun h => nomatch h), ?_⟩)
       refine BU 9 rfl (by kernel_rfl) rfl (Be (Bk Aa).quiet ⟨(fun h => nomatch h), ?_⟩)
       refine BU 10 rfl (by kernel_rfl) rfl (Be (Bk Aa).quiet ⟨(fun h => nomatch h), ?_⟩)
       refine BC (by kernel_rfl) ?_ _
       refine Ab ⟨_, Off.eq (BR rfl <| BM rfl <| BX rfl <| Cb), ?_⟩
       exact ⟨AX, AX, _, hle0, hr, hc1, rfl⟩
      rintro e11 _ ⟨hc3, hc4, G11, hle0, hr, hc1, rfl⟩
      refine AD (Af 2) <| Ad Aa rfl ?_
      rcases h5 : firstE s.lots.length 6 (lotErr s) with _ | ⟨i5, e5⟩
      ·refine Al <| Ab <| Az (Af 1) fun ds => Ag rfl (Ak Dm Aa (AA hc1 rfl)) <| Ag rfl (Bt AW) <| AN rfl (Ay VE Aa AW (Ku hr.lots (most := 6) (lotErr s) VD fun k hk _ => MY hr hc1 hk) (fun _ _ h => h.trans (show optV _ = .tuple #[.int .i64 0, .int .i64 0] from by rw [h5]; rfl))) <| Aw (Af 5) <| Ac <| AD (Af 2) <| Ad Aa rfl ?_
       rcases h6 : firstE s.bids.length 16 (bidErr s) with _ | ⟨i6, e6⟩
       ·refine Al <| Ab <| Az (Af 1) fun ds => Ag rfl (Ak Ln Aa (AA hc1 rfl)) <| Ag rfl (Bt AW) <| AN rfl (Ay VA Aa AW (Kw hr.bids (most := 16) (bidErr s) V9 fun k hk _ => MX hr hc1 hk) (fun _ _ h => h.trans (show optV _ = .tuple #[.int .i64 0, .int .i64 0] from by rw [h6]; rfl))) <| Aw (Af 5) <| Ac <| AD (Af 2) <| Ad Aa rfl <| Al <| Ab <| AD (Af 3) <| At <| Ap rfl Bd ?_
        exact (MV (by unfold stepsE; rw [if_neg hlen0, hS]) hP h3 h4 h5 h6).symm
       refine Al <| Ab <| Az (Af 1) fun ds => Ag rfl (Ak Ln Aa (AA hc1 rfl)) <| Ag rfl (Bt AW) <| AN rfl (Ay VA Aa AW (Kw hr.bids (most := 16) (bidErr s) V9 fun k hk _ => MX hr hc1 hk) (fun _ _ h => h.trans (show optV _ = .tuple #[.int .i64 i6, .int .i64 e6] from by rw [h6]; rfl))) <| Aw (Af 5) <| Ac <| AD (Af 2) <| Ai Aa (dT (CF h6)) <| AD (Af 5) <| At <| Ax <| Ap rfl Bd ?_
       exact (MR (by unfold stepsE; rw [if_neg hlen0, hS]) hP h3 h4 h5 h6).symm
      refine Al <| Ab <| Az (Af 1) fun ds => Ag rfl (Ak Dm Aa (AA hc1 rfl)) <| Ag rfl (Bt AW) <| AN rfl (Ay VE Aa AW (Ku hr.lots (most := 6) (lotErr s) VD fun k hk _ => MY hr hc1 hk) (fun _ _ h => h.trans (show optV _ = .tuple #[.int .i64 i5, .int .i64 e5] from by rw [h5]; rfl))) <| Aw (Af 5) <| Ac <| AD (Af 2) <| Ai Aa (dT (CF h5)) <| AD (Af 5) <| At <| Ax <| Ap rfl Bd ?_
      exact (MS (by unfold stepsE; rw [if_neg hlen0, hS]) hP h3 h4 h5).symm
     refine Al <| Ab <| Ac <| Ac ?_
     refine HG [3, 4, 47, 48, 49, 50, 51, 52, 53, 54, 55] (fun st σ => Fct st 3 (.int .i64 i4) ∧ Fct st 4 (.int .i64 e4) ∧ ∃ G, F.le G ∧ SaleR G vs vb vl vn vd s ∧ G b2 = some (bx 33 [vs, .int .i64 s.premium, .int .i64 s.fee, .int .i64 s.days, vb, vl, vn, vd]) ∧ σ = ⟨G, []⟩) ?_ ?_
     ·have hleS := hle0
      refine BO (.inl rfl) (fun _ _ h => h) (List.nil_sublist _) [5, 6, 7, 8, 9, 10] (by kernel_rfl) fun ds => Au 0 rfl (List.nil_sublist _) (AV GK Aa) <| Au 1 rfl (List.nil_sublist _) (Ak Cd Aa (AA hc1 rfl)) <| Au 2 rfl (List.nil_sublist _) (AV GK Aa) <| Au 3 rfl (List.nil_sublist _) (Ak Cd Aa (AA hc1 rfl)) ?_
      refine BU 4 rfl (by kernel_rfl) rfl (Bi NW Aa AW (HY hr.sellers) fun v31 F32 hr33 hF34 => ⟨fun _ _ _ h => (h.drop (List.nil_sublist _)).weak hF34 hleS, ?_⟩)
      replace hr := hr.mono hF34
      replace hle0 := Heap.le_trans hle0 hF34
      obtain ⟨b5, rfl, hzb⟩ := hr33
      refine BU 5 rfl (by kernel_rfl) rfl (Bi NX Aa AW ((EN hr.sellers (most := 4) (nameErr s.sellers) NU fun k hk _ => GC hzb hr.sellers hk).mono fun u F2 _ h => h.trans (show optV _ = .tuple #[.int .i64 i4, .int .i64 e4] from by rw [h4]; rfl)) fun v35 F36 hr37 hF38 => ⟨(fun h => nomatch h), ?_⟩)
      replace hr := hr.mono hF38
      replace hle0 := Heap.le_trans hle0 hF38
      replace hc1 := (Heap.le_trans hF34 hF38) _ _ hc1
      obtain rfl := hr37
      refine BU 6 rfl (by kernel_rfl) rfl (Be (AI Aa).quiet ⟨(fun h => nomatch h), ?_⟩)
      refine D9 [7, 8] (by kernel_rfl) (by decide) (UH ?_ ?_)
      ·refine C0 rfl rfl (Be (Ct Aa).quiet ⟨(fun h => nomatch h), ?_⟩)
       refine D9 [8, 9] (by kernel_rfl) (by decide) (UH ?_ ?_)
       ·refine C0 rfl rfl (Be (Ct Aa).quiet ⟨(fun h => nomatch h), ?_⟩)
        refine BU 9 rfl (by kernel_rfl) rfl (Be (Bk Aa).quiet ⟨(fun h => nomatch h), ?_⟩)
        refine BU 10 rfl (by kernel_rfl) rfl (Be (Bk Aa).quiet ⟨(fun h => nomatch h), ?_⟩)
        refine BC (by kernel_rfl) ?_ _
        refine Ab ⟨_, Off.eq (BR rfl <| BM rfl <| BX rfl <| Cb), ?_⟩
        exact ⟨AX, AX, _, hle0, hr, hc1, rfl⟩
       refine C0 rfl rfl (Be (Bk Aa).quiet ⟨(fun h => nomatch h), ?_⟩)
       refine BU 8 rfl (by kernel_rfl) rfl (Be (Ct Aa).quiet ⟨(fun h => nomatch h), ?_⟩)
       refine BU 10 rfl (by kernel_rfl) rfl (Be (Bk Aa).quiet ⟨(fun h => nomatch h), ?_⟩)
       refine BC (by kernel_rfl) ?_ _
       refine Ab ⟨_, Off.eq (BR rfl <| BM rfl <| BX rfl <| Cb), ?_⟩
       exact ⟨AX, AX, _, hle0, hr, hc1, rfl⟩
      refine C0 rfl rfl (Be (Ct Aa).quiet ⟨(fun h => nomatch h), ?_⟩)
      refine BU 7 rfl (by kernel_rfl) rfl (Be (Ct Aa).quiet ⟨(fun h => nomatch h), ?_⟩)
      refine BU 9 rfl (by kernel_rfl) rfl (Be (Bk Aa).quiet ⟨(fun h => nomatch h), ?_⟩)
      refine BU 10 rfl (by kernel_rfl) rfl (Be (Bk Aa).quiet ⟨(fun h => nomatch h), ?_⟩)
      refine BC (by kernel_rfl) ?_ _
      refine Ab ⟨_, Off.eq (BR rfl <| BM rfl <| BX rfl <| Cb), ?_⟩
      exact ⟨AX, AX, _, hle0, hr, hc1, rfl⟩
     rintro e11 _ ⟨hc3, hc4, G11, hle0, hr, hc1, rfl⟩
     refine AD (Af 2) <| Ai Aa (dT (CF h4)) <| AD (Af 5) <| At <| Ax <| Ap rfl Bd ?_
     exact (MT (by unfold stepsE; rw [if_neg hlen0, hS]) hP h3 h4).symm
    refine Al <| A0 <| Ab <| Ac <| Ac ?_
    refine HG [3, 4, 34, 35, 36, 37, 38, 39, 40, 41, 42] (fun st σ => Fct st 3 (.int .i64 i3) ∧ Fct st 4 (.int .i64 e3) ∧ ∃ G, F.le G ∧ SaleR G vs vb vl vn vd s ∧ G b2 = some (bx 33 [vs, .int .i64 s.premium, .int .i64 s.fee, .int .i64 s.days, vb, vl, vn, vd]) ∧ σ = ⟨G, []⟩) ?_ ?_
    ·have hleS := hle0
     refine BO (.inl rfl) (fun _ _ h => h) (List.nil_sublist _) [5, 6, 7, 8, 9, 10] (by kernel_rfl) fun ds => Au 0 rfl (List.nil_sublist _) (AV GL Aa) <| Au 1 rfl (List.nil_sublist _) (Ak Cd Aa (AA hc1 rfl)) <| Au 2 rfl (List.nil_sublist _) (AV GL Aa) <| Au 3 rfl (List.nil_sublist _) (Ak Cd Aa (AA hc1 rfl)) ?_
     refine BU 4 rfl (by kernel_rfl) rfl (Bi NW Aa AW (HY hr.bidders) fun v39 F40 hr41 hF42 => ⟨fun _ _ _ h => (h.drop (List.nil_sublist _)).weak hF42 hleS, ?_⟩)
     replace hr := hr.mono hF42
     replace hle0 := Heap.le_trans hle0 hF42
     obtain ⟨b5, rfl, hzb⟩ := hr41
     refine BU 5 rfl (by kernel_rfl) rfl (Bi NX Aa AW ((EN hr.bidders (most := 6) (nameErr s.bidders) NU fun k hk _ => GC hzb hr.bidders hk).mono fun u F2 _ h => h.trans (show optV _ = .tuple #[.int .i64 i3, .int .i64 e3] from by rw [h3]; rfl)) fun v43 F44 hr45 hF46 => ⟨(fun h => nomatch h), ?_⟩)
     replace hr := hr.mono hF46
     replace hle0 := Heap.le_trans hle0 hF46
     have hU238 := Heap.le_trans hF42 hF46
     replace hc1 := hU238 _ _ hc1
     obtain rfl := hr45
     refine BU 6 rfl (by kernel_rfl) rfl (Be (AI Aa).quiet ⟨(fun h => nomatch h), ?_⟩)
     refine D9 [7, 8] (by kernel_rfl) (by decide) (UH ?_ ?_)
     ·refine C0 rfl rfl (Be (Ct Aa).quiet ⟨(fun h => nomatch h), ?_⟩)
      refine D9 [8, 9] (by kernel_rfl) (by decide) (UH ?_ ?_)
      ·refine C0 rfl rfl (Be (Ct Aa).quiet ⟨(fun h => nomatch h), ?_⟩)
       refine BU 9 rfl (by kernel_rfl) rfl (Be (Bk Aa).quiet ⟨(fun h => nomatch h), ?_⟩)
       refine BU 10 rfl (by kernel_rfl) rfl (Be (Bk Aa).quiet ⟨(fun h => nomatch h), ?_⟩)
       refine BC (by kernel_rfl) ?_ _
       refine Ab ⟨_, Off.eq (BR rfl <| BM rfl <| BX rfl <| Cb), ?_⟩
       exact ⟨AX, AX, _, hle0, hr, hc1, rfl⟩
      refine C0 rfl rfl (Be (Bk Aa).quiet ⟨(fun h => nomatch h), ?_⟩)
      refine BU 8 rfl (by kernel_rfl) rfl (Be (Ct Aa).quiet ⟨(fun h => nomatch h), ?_⟩)
      refine BU 10 rfl (by kernel_rfl) rfl (Be (Bk Aa).quiet ⟨(fun h => nomatch h), ?_⟩)
      refine BC (by kernel_rfl) ?_ _
      refine Ab ⟨_, Off.eq (BR rfl <| BM rfl <| BX rfl <| Cb), ?_⟩
      exact ⟨AX, AX, _, hle0, hr, hc1, rfl⟩
     refine C0 rfl rfl (Be (Ct Aa).quiet ⟨(fun h => nomatch h), ?_⟩)
     refine BU 7 rfl (by kernel_rfl) rfl (Be (Ct Aa).quiet ⟨(fun h => nomatch h), ?_⟩)
     refine BU 9 rfl (by kernel_rfl) rfl (Be (Bk Aa).quiet ⟨(fun h => nomatch h), ?_⟩)
     refine BU 10 rfl (by kernel_rfl) rfl (Be (Bk Aa).quiet ⟨(fun h => nomatch h), ?_⟩)
     refine BC (by kernel_rfl) ?_ _
     refine Ab ⟨_, Off.eq (BR rfl <| BM rfl <| BX rfl <| Cb), ?_⟩
     exact ⟨AX, AX, _, hle0, hr, hc1, rfl⟩
    rintro e8 _ ⟨hc3, hc4, G8, hle0, hr, hc1, rfl⟩
    refine AD (Af 2) <| Ai Aa (dT (CF h3)) <| AD (Af 5) <| At <| Ax <| Ap rfl Bd ?_
    exact (MU (by unfold stepsE; rw [if_neg hlen0, hS]) hP h3).symm
   replace p2 : inB 0 60 s.days = false := by simpa using p2
   refine Ai Aa (by simp [p2]) ?_
   have hP : ((inB 0 500 s.premium && inB 0 500 s.fee) && inB 0 60 s.days) = false := by simp [p2]
   refine AD (Af 3) <| At <| A7 <| Ax <| Ap rfl Bd ?_
   exact (Fl (by unfold stepsE; rw [if_neg hlen0, hS]) hP).symm
  replace p1 : (inB 0 500 s.premium && inB 0 500 s.fee) = false := by simpa using p1
  refine Az (Af 1) fun ds => Ag rfl (Ak AF Aa (AA hc1 rfl)) <| Aj (Af 1) <| Ag rfl (Ak AF Aa (AA hc1 rfl)) <| A5 rfl <| AM A9 B2 rfl (.cons Aa (.cons Aa .nil)) rfl rfl (by decide) (by simp [Value.oneCell']) fun b47 hb47 nb47 => AJ (i := 0) rfl hb47 .here fun F48 hF49 hz50 => ?_
  have hsl51 := BW hz50
  refine AN rfl (Ay Cc Aa AW (Bj _ _ hsl51) (fun _ _ h => h)) <| Aj (Af 1) <| Ah rfl rfl Aa (.inl (congrArg Value.bool (by first | (rw [B6, p1]; done) | (rw [B6, p1]; rfl)))) rfl <| Ah rfl rfl Aa (.inl (congrArg Value.bool (by first | (rw [B6, p1]; done) | (rw [B6, p1]; rfl)))) rfl <| Ah rfl rfl Aa (.inl (congrArg Value.bool (by first | (rw [B6, p1]; done) | (rw [B6, p1]; rfl)))) rfl <| Ah rfl rfl Aa (.inl (congrArg Value.bool (by first | (rw [B6, p1]; done) | (rw [B6, p1]; rfl)))) rfl <| Ag rfl (Ar Aa (by first | (rw [B6, p1]; done) | (rw [B6, p1]; rfl)) Aa) <| Aw (Af 1) <| Ai Aa rfl ?_
  have hP : ((inB 0 500 s.premium && inB 0 500 s.fee) && inB 0 60 s.days) = false := by rw [p1]; rfl
  refine AD (Af 3) <| At <| A7 <| Ax <| Ap rfl Bd ?_
  exact (Fl (by unfold stepsE; rw [if_neg hlen0, hS]) hP).symm
 refine Am fun ds => Aj (Af 1) <| Ag rfl (Ak Ht Aa (AA hc1 rfl)) <| Ag rfl (Bt AW) <| AN rfl (Ay VG Aa AW (Kt hr.steps (most := 5) (stepErr s.steps) VF fun k hk hno => MZ hr hc1 hk hno) (fun _ _ h => h.trans (show optV _ = .tuple #[.int .i64 i1, .int .i64 e1] from by rw [hS]; rfl))) <| Aw (Af 5) <| Ac <| Aq <| AD (Af 3) <| Ai Aa (dT (CF hS)) <| AD (Af 5) <| At <| A7 <| Ax <| Ap rfl Bd ?_
 exact (Ds (by unfold stepsE; rw [if_neg hlen0, hS])).symm
end
section
set_option maxRecDepth 100000
open Go.RowKit
theorem zr_9 : ZeroT Tryz.prog 9 (.string ⟨#[]⟩) := Br (by kernel_rfl)
theorem Ef : Body Tryz.prog 17 := AE (by kernel_rfl)
theorem RA : Body Tryz.prog 52 := AE (by kernel_rfl)
theorem el_9 : ElemT Tryz.prog 9 1 16 (.string ⟨#[]⟩) := D6 (by kernel_rfl) rfl (by decide)
theorem EL {F : Heap} {v : Value} {ns : List ByteArray} (h : Sl F v 1 strE ns) (most : Nat) : Ok Tryz.prog 18 [v, .int .i64 (most : Int)].toArray F fun r _ => r = optV (firstE ns.length most (nameErr ns)) := by
 refine Ok.intro Tryz.func18 rfl Tryz.ntmps18 rfl fun w0 => ?_
 have hlen := h.plain.lt
 by_cases hml : most < ns.length
 ·refine AD (Af 2) <| Ac <| Az (Af 1) fun ds => Ag rfl (A4 BB Aa h.plain) <| Aw (Af 2) <| Ai Aa (by first | rfl | exact dT (by omega)) <| AD (Af 2) <| At <| Ax <| Ap rfl Bd ?_
  show _ = _
  rw [C5 hml]; rfl
 refine AD (Af 2) <| Ac <| Az (Af 1) fun ds => Ag rfl (A4 BB Aa h.plain) <| Aw (Af 2) <| Ad Aa (by first | rfl | exact dF (by omega)) <| Al <| Ab <| Ac <| AD (Af 1) <| Aq ?_
 refine AL [4, 5, 6, 7, 12, 13, 14, 15, 16, 17, 18, 19, 20, 21, 22, 23, 24, 25, 26, 27, 28, 29] (fun m e σ => ∃ k : Nat, m + k = ns.length ∧ Fct e 6 (.int .i64 (k : Int)) ∧ σ = ⟨F, []⟩ ∧ ∀ j, j < k → nameErr ns j = 0) (ns.length) ?_ ?_
 · exact ⟨0, by omega, AX, rfl, fun j h => absurd h (by omega)⟩
 rintro m e _ ⟨k, hm, hs6, rfl, hno⟩
 by_cases hlt : k < ns.length
 ·refine Ac <| Az (Af 2) fun ds => Ag rfl (A4 BB Aa h.plain) <| Aw (Af 1) <| Ai Aa (by first | rfl | exact dT (by omega)) ?_
  by_cases hf : freshE ns[k] (ns.take k) = 0
  ·refine Al <| Ab <| Ac <| Aq <| Ac <| Bs (.inl rfl) (fun _ _ h => h) (by kernel_rfl) (by kernel_rfl) fun ds => AR (Af 2) <| AT rfl (A1 (k := k) BB Aa h.plain Aa rfl hlt) <| AT rfl (Ak E6 Aa (h.cell1 hlt rfl)) <| AR (Af 2) <| AT rfl (Dp BB Aa h.plain Aa (k := k) rfl (by omega)) <| FJ rfl (Ay RA Aa AW (Ji (h.to (k := k) (by omega)) _) (fun _ _ h => h)) <| AR (Af 1) <| B0 <| Ab <| AD (Af 2) <| Ad Aa (dF (fun h => h hf)) <| Al <| A0 <| Ab <| Am fun ds => Aj (Af 1) <| Ag rfl (AG Aa Aa rfl (by omega) (by omega)) <| Aj (Af 1) <| Ao ?_
   refine Ab ⟨_, m - 1, Off.eq (B3 rfl <| BM rfl <| A2), by omega, ?_⟩
   refine ⟨k + 1, by omega, AX, rfl, fun j hjk => ?_⟩
   rcases Nat.lt_succ_iff_lt_or_eq.1 hjk with hjk | rfl
   · exact hno j hjk
   rw [GR hlt]; exact hf
  refine Al <| Ab <| Ac <| Aq <| Ac <| Bs (.inl rfl) (fun _ _ h => h) (by kernel_rfl) (by kernel_rfl) fun ds => AR (Af 2) <| AT rfl (A1 (k := k) BB Aa h.plain Aa rfl hlt) <| AT rfl (Ak E6 Aa (h.cell1 hlt rfl)) <| AR (Af 2) <| AT rfl (Dp BB Aa h.plain Aa (k := k) rfl (by omega)) <| FJ rfl (Ay RA Aa AW (Ji (h.to (k := k) (by omega)) _) (fun _ _ h => h)) <| AR (Af 1) <| B0 <| Ab <| AD (Af 2) <| Ai Aa (dT hf) <| AD (Af 4) <| At ?_
  refine A7 (Ax (Ax (A7 (Ax ?_))))
  refine Ap rfl Bd ?_
  show _ = _
  rw [BI hml hlt hno (GR hlt) hf]; rfl
 refine Ac <| Az (Af 2) fun ds => Ag rfl (A4 BB Aa h.plain) <| Aw (Af 1) <| Ad Aa (by first | rfl | exact dF (by omega)) <| AH ?_
 refine A8 <| A8 <| AB <| Ab <| AD (Af 2) <| At <| Ap rfl Bd ?_
 show _ = _
 rw [Db hml fun j hj => hno j (by omega)]; rfl
theorem Le {F : Heap} {vs vb vl vn vd : Value} {s : Sale} (hr : SaleR F vs vb vl vn vd s) : Ok Tryz.prog 19 [.agg #[vs, .int .i64 s.premium, .int .i64 s.fee, .int .i64 s.days, vb, vl, vn, vd]].toArray F fun r _ => r = optV (firstE s.lots.length 6 (lotErr s)) := by
 refine Ok.intro Tryz.func19 rfl Tryz.ntmps19 rfl fun w0 => ?_
 have hL1 := hr.lots.plain.lt
 have hL2 := hr.sellers.plain.lt
 by_cases h1 : 6 < s.lots.length
 ·refine Ac <| Am fun ds => A5 rfl <| Bg Aa rfl fun b1 hb1 nb1 => Aw (Af 2) <| Ac <| Az (Af 2) fun ds => Ag rfl (A4 BN Aa hr.lots.plain) <| Aw (Af 1) <| Ai Aa (by first | rfl | exact dT (by omega)) <| AD (Af 2) <| At <| Ax <| Ap rfl Bd ?_
  show _ = _
  rw [C5 h1]; rfl
 refine Ac <| Am fun ds => A5 rfl <| Bg Aa rfl fun b2 hb2 nb2 => Aw (Af 2) <| Ac <| Az (Af 2) fun ds => Ag rfl (A4 BN Aa hr.lots.plain) <| Aw (Af 1) <| Ad Aa (by first | rfl | exact dF (by omega)) <| Al <| Ab <| AD (Af 1) <| Ac <| AD (Af 1) <| Aq ?_
 refine AL [2, 3, 4, 5, 6, 11, 12, 13, 14, 15, 16, 17, 18, 19, 20, 21, 22, 23, 24, 25, 26, 27, 28, 29, 30, 31, 32, 33, 34, 35, 36, 37, 38, 39, 40, 41, 42, 43, 44, 45, 46, 47, 48, 49, 50, 51, 52, 53, 54, 55, 56, 57, 58, 59, 60, 61, 62, 63, 64, 65, 66] (fun m e σ => ∃ k : Nat, m + k = s.lots.length ∧ Fct e 5 (.int .i64 (k : Int)) ∧ ∃ (v : Value) (R : List (Nat × Obj)), Fct e 4 v ∧ Own 9 1 v (lnames s k).length ((lnames s k).flatMap strE) R ∧ σ = ⟨F, (b2, bx 33 [vs, .int .i64 s.premium, .int .i64 s.fee, .int .i64 s.days, vb, vl, vn, vd]) :: R⟩ ∧ ∀ j, j < k → lotErr s j = 0) (s.lots.length) ?_ ?_
 · exact ⟨0, by omega, AX, _, _, AX, Own.nil, rfl, fun j h => absurd h (by omega)⟩
 rintro m e _ ⟨k, hm, hs5, v4, R4, hs4, ho, rfl, hno⟩
 by_cases hlt : k < s.lots.length
 ·have hnl := Qa (Nat.le_of_lt hlt)
  refine Ac <| Az (Af 3) fun ds => Ag rfl (A4 BN Aa hr.lots.plain) <| Aw (Af 1) <| Ai Aa (by first | rfl | exact dT (by omega)) ?_
  by_cases hf : freshE s.lots[k].name (lnames s k) = 0
  ·refine Al <| Ab <| Ac <| Aq <| Az (Af 3) fun ds => Ag rfl (A1 (k := k) BN Aa hr.lots.plain Aa rfl hlt) <| Aj (Af 1) <| Ag rfl (Ak E6 Aa (hr.lots.cell hlt rfl)) <| Aj (Af 1) <| AN rfl (QM RA Aa AW (fun G _ hG => Ji (ho.sl (fun _ => rfl) (fun p hp => hG p (List.mem_cons_of_mem _ hp)) (by omega)) _) (fun _ _ h => h)) <| Aw (Af 1) <| Az (Af 4) fun ds => Ag rfl (A1 (k := k) BN Aa hr.lots.plain Aa rfl hlt) <| Aj (Af 1) <| Ag rfl (Ak E6 Aa (hr.lots.cell hlt rfl)) <| A5 rfl <| AM BB zr_9 rfl (.cons Aa .nil) rfl rfl (by decide) (by simp [Value.oneCell']) fun b4 hb4 nb4 => A5 rfl <| Bp BB el_9 Aa ho Aa (B1 (s := 1) 0 rfl rfl (by simp [Value.oneCell'])) (by omega) (by omega) (.s <| .s <| .z) .last fun v5 R6 ho7 => ?_
   have ho2 := ho7.snoc (x := s.lots[k].name) rfl rfl
   refine Aw (Af 1) <| Ac <| Ac <| Bs (.inl rfl) (fun _ _ h => h) (by kernel_rfl) (by kernel_rfl) fun ds => AR (Af 3) <| A3 rfl rfl Aa (dT hf) <| AR (Af 1) <| A3 rfl rfl Aa (dT hf) <| AR (Af 1) <| A3 rfl rfl Aa (dT hf) <| AR (Af 1) <| A3 rfl rfl Aa (dT hf) <| AT rfl (A1 (k := k) BN Aa hr.lots.plain Aa rfl hlt) <| A3 rfl rfl Aa (dT hf) <| AR (Af 1) <| A3 rfl rfl Aa (dT hf) <| AT rfl (Ak AF Aa (hr.lots.cell hlt rfl)) <| A3 rfl rfl Aa (dT hf) <| AR (Af 1) <| A3 rfl rfl Aa (dT hf) <| AR (Af 1) <| A3 rfl rfl Aa (dT hf) <| AT rfl (A4 BB Aa hr.sellers.plain) <| A3 rfl rfl Aa (dT hf) <| AT rfl (B4 Aa Aa rfl (by omega) (by omega)) <| A3 rfl rfl Aa (dT hf) <| FJ rfl (Ay Ef Aa AW (CA _ _ _) (fun _ _ h => h)) <| A3 rfl rfl Aa (dT hf) <| AR (Af 1) <| AT rfl (Ar Aa (dT hf) Aa) <| B0 <| Ab ?_
   by_cases hs : inB 0 (s.sellers.length - 1) s.lots[k].seller = true
   ·refine Ad Aa (by rw [hs]; rfl) <| Al <| Ab <| Ac <| Az (Af 3) fun ds => Ae rfl rfl Aa (dT hf) <| Aj (Af 1) <| Ae rfl rfl Aa (dT hf) <| Aj (Af 1) <| Ae rfl rfl Aa (dT hf) <| Aj (Af 1) <| Ae rfl rfl Aa (dT hf) <| Ag rfl (A1 (k := k) BN Aa hr.lots.plain Aa rfl hlt) <| Ae rfl rfl Aa (dT hf) <| Aj (Af 1) <| Ae rfl rfl Aa (dT hf) <| Ag rfl (Ak AF Aa (hr.lots.cell hlt rfl)) <| Ae rfl rfl Aa (dT hf) <| AN rfl (Ay Ef Aa AW (CA _ _ _) (fun _ _ h => h)) <| Ae rfl rfl Aa (dT hf) <| Aj (Af 1) <| Ag rfl (Ar Aa (dT hf) Aa) <| Ao <| Ab ?_
    by_cases hv : inB 1 100000 s.lots[k].reserve = true
    ·refine Ad Aa (by rw [hv]; rfl) <| Al <| Ab <| AD (Af 2) <| Ad Aa (dF (fun h => h hf)) <| Al <| A0 <| Ab <| Bn (fun _ _ h => h.drop (kD <| kK <| .refl _)) <| Am fun ds => Aj (Af 1) <| Ag rfl (AG Aa Aa rfl (by omega) (by omega)) <| Aj (Af 1) <| Ao ?_
     refine Ab ⟨_, m - 1, Off.eq (DT rfl <| B3 rfl <| BR rfl <| BX rfl <| A2), by omega, ?_⟩
     refine ⟨k + 1, by omega, AX, _, _, AX, by rw [OL hlt]; exact ho2, rfl, fun j hjk => ?_⟩
     rcases Nat.lt_succ_iff_lt_or_eq.1 hjk with hjk | rfl
     · exact hno j hjk
     rw [En hlt, if_neg (fun h => h hf), hs, hv]; rfl
    replace hv : inB 1 100000 s.lots[k].reserve = false := by simpa using hv
    refine Ai Aa (by rw [hv]; rfl) <| Am fun ds => Aw (Af 1) <| AD (Af 2) <| Ai Aa rfl <| AD (Af 4) <| At ?_
    refine A7 (Ax (Ax (A7 (Ax ?_))))
    refine Ap rfl Bd ?_
    show _ = _
    rw [BI h1 hlt hno (En hlt) (by simp [hf, hs, hv])]; simp [optV, outOf, hf, hs, hv]
   replace hs : inB 0 (s.sellers.length - 1) s.lots[k].seller = false := by simpa using hs
   refine Ai Aa (by rw [hs]; rfl) <| Am fun ds => Aw (Af 1) <| Ac <| Az (Af 3) fun ds => Ah rfl rfl Aa (.inl (congrArg Value.bool rfl)) rfl <| Ah rfl rfl Aa (.inl (congrArg Value.bool rfl)) rfl <| Ah rfl rfl Aa (.inl (congrArg Value.bool rfl)) rfl <| Ah rfl rfl Aa (.inl (congrArg Value.bool rfl)) rfl <| Ah rfl rfl Aa (.inl (congrArg Value.bool rfl)) rfl <| Ah rfl rfl Aa (.inl (congrArg Value.bool rfl)) rfl <| Ah rfl rfl Aa (.inl (congrArg Value.bool rfl)) rfl <| Ah rfl rfl Aa (.inl (congrArg Value.bool rfl)) rfl <| Ag rfl (As Aa rfl C4) <| Ao <| Ab <| Ad Aa rfl <| Al <| Ab <| AD (Af 2) <| Ai Aa rfl <| AD (Af 4) <| At ?_
   refine A7 (Ax (Ax (A7 (Ax ?_))))
   refine Ap rfl Bd ?_
   show _ = _
   rw [BI h1 hlt hno (En hlt) (by simp [hf, hs])]; simp [optV, outOf, hf, hs]
  refine Al <| Ab <| Ac <| Aq <| Az (Af 3) fun ds => Ag rfl (A1 (k := k) BN Aa hr.lots.plain Aa rfl hlt) <| Aj (Af 1) <| Ag rfl (Ak E6 Aa (hr.lots.cell hlt rfl)) <| Aj (Af 1) <| AN rfl (QM RA Aa AW (fun G _ hG => Ji (ho.sl (fun _ => rfl) (fun p hp => hG p (List.mem_cons_of_mem _ hp)) (by omega)) _) (fun _ _ h => h)) <| Aw (Af 1) <| Az (Af 4) fun ds => Ag rfl (A1 (k := k) BN Aa hr.lots.plain Aa rfl hlt) <| Aj (Af 1) <| Ag rfl (Ak E6 Aa (hr.lots.cell hlt rfl)) <| A5 rfl <| AM BB zr_9 rfl (.cons Aa .nil) rfl rfl (by decide) (by simp [Value.oneCell']) fun b8 hb8 nb8 => A5 rfl <| Bp BB el_9 Aa ho Aa (B1 (s := 1) 0 rfl rfl (by simp [Value.oneCell'])) (by omega) (by omega) (.s <| .s <| .z) .last fun v9 R10 ho11 => ?_
  have ho2 := ho11.snoc (x := s.lots[k].name) rfl rfl
  refine Aw (Af 1) <| Ac <| Ac <| Bs (.inl rfl) (fun _ _ h => h) (by kernel_rfl) (by kernel_rfl) fun ds => AR (Af 3) <| A6 rfl rfl Aa (.inl (congrArg Value.bool (dF hf))) rfl <| A6 rfl rfl Aa (.inl (congrArg Value.bool (dF hf))) rfl <| A6 rfl rfl Aa (.inl (congrArg Value.bool (dF hf))) rfl <| A6 rfl rfl Aa (.inl (congrArg Value.bool (dF hf))) rfl <| A6 rfl rfl Aa (.inl (congrArg Value.bool (dF hf))) rfl <| A6 rfl rfl Aa (.inl (congrArg Value.bool (dF hf))) rfl <| A6 rfl rfl Aa (.inl (congrArg Value.bool (dF hf))) rfl <| A6 rfl rfl Aa (.inl (congrArg Value.bool (dF hf))) rfl <| A6 rfl rfl Aa (.inl (congrArg Value.bool (dF hf))) rfl <| A6 rfl rfl Aa (.inl (congrArg Value.bool (dF hf))) rfl <| A6 rfl rfl Aa (.inl (congrArg Value.bool (dF hf))) rfl <| A6 rfl rfl Aa (.inl (congrArg Value.bool (dF hf))) rfl <| AT rfl (As Aa (dF hf) Aa) <| B0 <| Ab <| Ad Aa (by first | rfl | exact dF hf) <| Al <| Ab <| Ac <| Az (Af 3) fun ds => Ah rfl rfl Aa (.inl (congrArg Value.bool (dF hf))) rfl <| Ah rfl rfl Aa (.inl (congrArg Value.bool (dF hf))) rfl <| Ah rfl rfl Aa (.inl (congrArg Value.bool (dF hf))) rfl <| Ah rfl rfl Aa (.inl (congrArg Value.bool (dF hf))) rfl ?_
  refine Ah rfl rfl Aa (.inl (congrArg Value.bool (dF hf))) rfl <| Ah rfl rfl Aa (.inl (congrArg Value.bool (dF hf))) rfl <| Ah rfl rfl Aa (.inl (congrArg Value.bool (dF hf))) rfl <| Ah rfl rfl Aa (.inl (congrArg Value.bool (dF hf))) rfl <| Ag rfl (As Aa (dF hf) Aa) <| Ao <| Ab <| Ad Aa (by first | rfl | exact dF hf) <| Al <| Ab <| AD (Af 2) <| Ai Aa (dT hf) <| AD (Af 4) <| At ?_
  refine A7 (Ax (Ax (A7 (Ax ?_))))
  refine Ap rfl Bd ?_
  show _ = _
  rw [BI h1 hlt hno (En hlt) (by simp [hf])]; simp [optV, outOf, hf]
 refine Ac <| Az (Af 3) fun ds => Ag rfl (A4 BN Aa hr.lots.plain) <| Aw (Af 1) <| Ad Aa (by first | rfl | exact dF (by omega)) <| AH ?_
 refine A8 <| A8 <| AB <| Ab <| AD (Af 2) <| At <| Ap rfl Bd ?_
 show _ = _
 rw [Db h1 fun j hj => hno j (by omega)]; rfl
end
section
set_option maxRecDepth 100000
open Go.RowKit
theorem EG : AggT Tryz.prog 33 8 := Cu (by kernel_rfl)
instance : AggI Tryz.prog 33 8 := ⟨EG⟩
theorem RD : Body Tryz.prog 18 := AE (by kernel_rfl)
theorem bd_19 : Body Tryz.prog 19 := AE (by kernel_rfl)
theorem bd_20 : Body Tryz.prog 20 := AE (by kernel_rfl)
theorem Py {α : Type} {p : α → Bool} {xs : List α} {k : Nat} (h : ∀ j (hj : j < xs.length), j < k → p xs[j] = false) : (xs.take k).any p = false := by
 rw [List.any_eq_false]
 intro x hx
 obtain ⟨j, hj, rfl⟩ := List.getElem_of_mem hx
 rw [List.length_take] at hj
 rw [List.getElem_take]
 simp [h j (by omega) (by omega)]
theorem Ez {ss : List Stp} {k : Nat} (h0 : k = 0) (h : k < ss.length) : stepErr ss k = if inB 0 0 ss[k].from_ = false then 7 else if inB 1 100000 ss[k].by_ = false then 7 else 0 := by
 subst h0; exact CK h
theorem Oc {α : Type} {p : α → Bool} {xs : List α} {k j : Nat} (hj : j < xs.length) (hjk : j < k) (h : p xs[j] = true) : (xs.take k).any p = true :=
 List.any_eq_true.2 ⟨xs[j], by rw [List.mem_take_iff_getElem]; exact ⟨j, by omega, rfl⟩, h⟩
theorem Lf {F : Heap} {vs vb vl vn vd : Value} {s : Sale} (hr : SaleR F vs vb vl vn vd s) : Ok Tryz.prog 20 [.agg #[vs, .int .i64 s.premium, .int .i64 s.fee, .int .i64 s.days, vb, vl, vn, vd]].toArray F fun r _ => r = optV (firstE s.bids.length 16 (bidErr s)) := by
 refine Ok.intro Tryz.func20 rfl Tryz.ntmps20 rfl fun w0 => ?_
 have hL1 := hr.lots.plain.lt
 have hL2 := hr.bidders.plain.lt
 have hL3 := hr.bids.plain.lt
 by_cases h1 : 16 < s.bids.length
 ·refine Ac <| Am fun ds => A5 rfl <| Bg Aa rfl fun b1 hb1 nb1 => Aw (Af 2) <| Ac <| Az (Af 2) fun ds => Ag rfl (A4 CT Aa hr.bids.plain) <| Aw (Af 1) <| Ai Aa (by first | rfl | exact dT (by omega)) <| AD (Af 2) <| At <| Ax <| Ap rfl Bd ?_
  show _ = _
  rw [C5 h1]; rfl
 refine Ac <| Am fun ds => A5 rfl <| Bg Aa rfl fun b2 hb2 nb2 => Aw (Af 2) <| Ac <| Az (Af 2) fun ds => Ag rfl (A4 CT Aa hr.bids.plain) <| Aw (Af 1) <| Ad Aa (by first | rfl | exact dF (by omega)) <| Al <| Ab <| Ac <| AD (Af 1) <| Aq ?_
 refine AL [2, 3, 4, 5, 6, 11, 12, 13, 14, 15, 16, 17, 18, 19, 20, 21, 22, 23, 24, 25, 26, 27, 28, 29, 30, 31, 32, 33, 34, 35, 36, 37, 38, 39, 40, 41, 42, 43, 44, 45, 46, 47, 48, 49, 50, 51, 52, 53, 54, 55, 56, 57, 58, 59, 60, 61, 62, 63, 64, 65, 66, 67, 68, 69, 70, 71, 72] (fun m e σ => ∃ k : Nat, m + k = s.bids.length ∧ Fct e 4 (.int .i64 (k : Int)) ∧ σ = ⟨F, [(b2, bx 33 [vs, .int .i64 s.premium, .int .i64 s.fee, .int .i64 s.days, vb, vl, vn, vd])]⟩ ∧ ∀ j, j < k → bidErr s j = 0) (s.bids.length) ?_ ?_
 · exact ⟨0, by omega, AX, rfl, fun j h => absurd h (by omega)⟩
 rintro m e _ ⟨k, hm, hs4, rfl, hno⟩
 by_cases hlt : k < s.bids.length
 ·refine Ac <| Az (Af 3) fun ds => Ag rfl (A4 CT Aa hr.bids.plain) <| Aw (Af 1) <| Ai Aa (by first | rfl | exact dT (by omega)) ?_
  by_cases h1_ : inB 0 (s.bidders.length - 1) s.bids[k].bidder = true
  ·refine Al <| Ab <| Ac <| Aq <| Az (Af 3) fun ds => Ag rfl (A1 (k := k) CT Aa hr.bids.plain Aa rfl hlt) <| Ag rfl (AC Ep Aa rfl rfl (hr.bids.whole hlt)) <| A5 rfl <| AO FS rfl fun b4 hb4 nb4 => AS <| AP J7 Aa Aa (i := 0) rfl rfl rfl rfl Bid.enc_one (.here) <| Ao <| Ab <| Ac <| Az (Af 4) fun ds => Ag rfl (A4 BB Aa hr.bidders.plain) <| Ag rfl (B4 Aa Aa rfl (by omega) (by omega)) <| AN rfl (Ay Ef Aa AW (CA _ _ _) (fun _ _ h => h)) <| Aj (Af 2) <| Ae rfl rfl Aa (by simp [h1_]) <| Aj (Af 1) <| Ae rfl rfl Aa (by simp [h1_]) <| Aj (Af 1) <| Ae rfl rfl Aa (by simp [h1_]) <| Aj (Af 1) <| Ae rfl rfl Aa (by simp [h1_]) <| Aj (Af 1) <| Ae rfl rfl Aa (by simp [h1_]) <| Ag rfl (A4 BN Aa hr.lots.plain) <| Ae rfl rfl Aa (by simp [h1_]) <| Ag rfl (B4 Aa Aa rfl (by omega) (by omega)) <| Ae rfl rfl Aa (by simp [h1_]) <| AN rfl (Ay Ef Aa AW (CA _ _ _) (fun _ _ h => h)) <| Ae rfl rfl Aa (by simp [h1_]) <| Aj (Af 1) <| Ag rfl (As Aa (by simp [h1_]) Aa) <| Ao <| Ab ?_
   by_cases h2_ : inB 0 (s.lots.length - 1) s.bids[k].lot = true
   ·refine Ad Aa (by simp [h2_]) ?_
    by_cases h3_ : inB 1 100000 s.bids[k].most = true
    ·refine Al <| Ab <| Ac <| Az (Af 2) fun ds => AN rfl (Ay Ef Aa AW (CA _ _ _) (fun _ _ h => h)) <| Aw (Af 1) <| Ad Aa (by simp [h3_]) <| Al <| Ab <| AD (Af 1) <| Aq ?_
     refine AL [2, 3, 6, 47, 48, 49, 50, 51, 52, 53, 54, 55, 56, 57, 58, 59, 60, 61, 62, 63, 64, 65, 66, 67, 68, 69, 70, 71, 72] (fun m e σ => ∃ t : Nat, m + t = k ∧ Fct e 6 (.int .i64 (t : Int)) ∧ σ = ⟨F, [(b4, bx 124 (s.bids[k].enc)), (b2, bx 33 [vs, .int .i64 s.premium, .int .i64 s.fee, .int .i64 s.days, vb, vl, vn, vd])]⟩ ∧ ∀ j (hj : j < s.bids.length), j < t → (decide (s.bids[j].bidder = s.bids[k].bidder) && decide (s.bids[j].lot = s.bids[k].lot)) = false) (k) ?_ ?_
     · exact ⟨0, by omega, AX, rfl, fun j hj h => absurd h (by omega)⟩
     rintro m2 e2 _ ⟨t, hm2, ht6, rfl, hnt⟩
     by_cases htk : t < k
     ·have htl : t < s.bids.length := by omega
      refine Ac <| AD (Af 3) <| Ai Aa (by first | rfl | exact dT (by omega)) ?_
      by_cases g1 : s.bids[t].bidder = s.bids[k].bidder
      ·refine Al <| Ab <| Ac <| Aq <| Ac <| Bs (.inl rfl) (fun _ _ h => h) (by kernel_rfl) (by kernel_rfl) fun ds => AR (Af 3) <| AT rfl (A1 (k := t) CT Aa hr.bids.plain Aa rfl htl) <| AR (Af 1) <| AT rfl (Ak AF Aa (hr.bids.cell htl rfl)) <| AR (Af 4) <| A3 rfl rfl Aa (dT g1) <| AR (Af 1) <| A3 rfl rfl Aa (dT g1) <| AR (Af 1) <| A3 rfl rfl Aa (dT g1) <| AR (Af 1) <| A3 rfl rfl Aa (dT g1) <| AT rfl (A1 (k := t) CT Aa hr.bids.plain Aa rfl htl) <| A3 rfl rfl Aa (dT g1) <| AR (Af 1) <| A3 rfl rfl Aa (dT g1) <| AT rfl (Ak AF Aa (hr.bids.cell htl rfl)) <| A3 rfl rfl Aa (dT g1) <| AR (Af 1) <| A3 rfl rfl Aa (dT g1) <| AR (Af 1) <| A3 rfl rfl Aa (dT g1) <| AR (Af 1) <| AT rfl (Ar Aa (dT g1) Aa) <| B0 <| Ab ?_
       by_cases g2 : s.bids[t].lot = s.bids[k].lot
       ·refine Ai Aa (dT g2) ?_
        have hany := Oc (p := fun y : Bid => decide (y.bidder = s.bids[k].bidder) && decide (y.lot = s.bids[k].lot)) htl htk (by simp [g1, g2])
        refine AD (Af 3) <| At ?_
        refine A7 (Ax (Ax (A7 (A7 (Ax (Ax (A7 (Ax ?_))))))))
        refine Ap rfl Bd ?_
        show _ = _
        rw [BI h1 hlt hno (CN hlt) (by simp [h1_, h2_, h3_, hany])]; simp [optV, outOf, h1_, h2_, h3_, hany]
       refine Ad Aa (dF g2) <| Al <| A0 <| Ab <| Am fun ds => Aj (Af 1) <| Ag rfl (AG Aa Aa rfl (by omega) (by omega)) <| Aj (Af 1) <| Ao ?_
       refine Ab ⟨_, m2 - 1, Off.eq (B3 rfl <| BR rfl <| BM rfl <| A2), by omega, ?_⟩
       refine ⟨t + 1, by omega, AX, rfl, fun j hj hjk => ?_⟩
       rcases Nat.lt_succ_iff_lt_or_eq.1 hjk with hjk | rfl
       · exact hnt j hj hjk
       simp [g2]
      refine Al <| Ab <| Ac <| Aq <| Ac <| Bs (.inl rfl) (fun _ _ h => h) (by kernel_rfl) (by kernel_rfl) fun ds => AR (Af 3) <| AT rfl (A1 (k := t) CT Aa hr.bids.plain Aa rfl htl) <| AR (Af 1) <| AT rfl (Ak AF Aa (hr.bids.cell htl rfl)) <| AR (Af 4) <| A6 rfl rfl Aa (.inl (congrArg Value.bool (dF g1))) rfl <| A6 rfl rfl Aa (.inl (congrArg Value.bool (dF g1))) rfl <| A6 rfl rfl Aa (.inl (congrArg Value.bool (dF g1))) rfl <| A6 rfl rfl Aa (.inl (congrArg Value.bool (dF g1))) rfl <| A6 rfl rfl Aa (.inl (congrArg Value.bool (dF g1))) rfl <| A6 rfl rfl Aa (.inl (congrArg Value.bool (dF g1))) rfl <| A6 rfl rfl Aa (.inl (congrArg Value.bool (dF g1))) rfl <| A6 rfl rfl Aa (.inl (congrArg Value.bool (dF g1))) rfl <| A6 rfl rfl Aa (.inl (congrArg Value.bool (dF g1))) rfl <| AT rfl (As Aa (dF g1) Aa) <| B0 <| Ab <| Ad Aa rfl <| Al <| A0 <| Ab <| Am fun ds => Aj (Af 1) <| Ag rfl (AG Aa Aa rfl (by omega) (by omega)) <| Aj (Af 1) <| Ao ?_
      refine Ab ⟨_, m2 - 1, Off.eq (B3 rfl <| BR rfl <| BM rfl <| A2), by omega, ?_⟩
      refine ⟨t + 1, by omega, AX, rfl, fun j hj hjk => ?_⟩
      rcases Nat.lt_succ_iff_lt_or_eq.1 hjk with hjk | rfl
      · exact hnt j hj hjk
      simp [g1]
     refine Ac <| AD (Af 3) <| Ad Aa (by first | rfl | exact dF (by omega)) <| AH ?_
     refine A8 <| A8 <| AB <| A0 <| Ab <| Bn (fun _ _ h => h.drop (kD <| kK <| .refl _)) <| Am fun ds => Aj (Af 1) <| Ag rfl (AG Aa Aa rfl (by omega) (by omega)) <| Aj (Af 1) <| Ao ?_
     refine Ab ⟨_, m - 1, Off.eq (Ca rfl <| BM rfl <| Cg rfl <| DT rfl <| BM rfl <| A2), by omega, ?_⟩
     refine ⟨k + 1, by omega, AX, rfl, fun j hjk => ?_⟩
     rcases Nat.lt_succ_iff_lt_or_eq.1 hjk with hjk | rfl
     · exact hno j hjk
     rw [CN hlt, h1_, h2_, h3_, Py (fun j hj hjk => hnt j hj (by omega))]; rfl
    replace h3_ : inB 1 100000 s.bids[k].most = false := by simpa using h3_
    refine Al <| Ab <| Ac <| Az (Af 2) fun ds => AN rfl (Ay Ef Aa AW (CA _ _ _) (fun _ _ h => h)) <| Aw (Af 1) <| Ai Aa (by simp [h3_]) <| AD (Af 3) <| At ?_
    refine Ax (A7 (Ax (Ax (A7 (Ax ?_)))))
    refine Ap rfl Bd ?_
    show _ = _
    rw [BI h1 hlt hno (CN hlt) (by simp [h1_, h2_, h3_])]; simp [optV, outOf, h1_, h2_, h3_]
   replace h2_ : inB 0 (s.lots.length - 1) s.bids[k].lot = false := by simpa using h2_
   refine Ai Aa (by simp [h2_]) <| AD (Af 3) <| At ?_
   refine Ax (A7 (Ax (Ax (A7 (Ax ?_)))))
   refine Ap rfl Bd ?_
   show _ = _
   rw [BI h1 hlt hno (CN hlt) (by simp [h1_, h2_])]; simp [optV, outOf, h1_, h2_]
  replace h1_ : inB 0 (s.bidders.length - 1) s.bids[k].bidder = false := by simpa using h1_
  refine Al <| Ab <| Ac <| Aq <| Az (Af 3) fun ds => Ag rfl (A1 (k := k) CT Aa hr.bids.plain Aa rfl hlt) <| Ag rfl (AC Ep Aa rfl rfl (hr.bids.whole hlt)) <| A5 rfl <| AO FS rfl fun b6 hb6 nb6 => AS <| AP J7 Aa Aa (i := 0) rfl rfl rfl rfl Bid.enc_one (.here) <| Ao <| Ab <| Ac <| Az (Af 4) fun ds => Ag rfl (A4 BB Aa hr.bidders.plain) <| Ag rfl (B4 Aa Aa rfl (by omega) (by omega)) <| AN rfl (Ay Ef Aa AW (CA _ _ _) (fun _ _ h => h)) <| Aj (Af 2) <| Ah rfl rfl Aa (.inl (congrArg Value.bool (by simp [h1_]))) rfl <| Ah rfl rfl Aa (.inl (congrArg Value.bool (by simp [h1_]))) rfl <| Ah rfl rfl Aa (.inl (congrArg Value.bool (by simp [h1_]))) rfl <| Ah rfl rfl Aa (.inl (congrArg Value.bool (by simp [h1_]))) rfl <| Ah rfl rfl Aa (.inl (congrArg Value.bool (by simp [h1_]))) rfl <| Ah rfl rfl Aa (.inl (congrArg Value.bool (by simp [h1_]))) rfl <| Ah rfl rfl Aa (.inl (congrArg Value.bool (by simp [h1_]))) rfl <| Ah rfl rfl Aa (.inl (congrArg Value.bool (by simp [h1_]))) rfl <| Ag rfl (Ar Aa (by simp [h1_]) Aa) <| Ao <| Ab <| Ai Aa rfl <| AD (Af 3) <| At ?_
  refine Ax (A7 (Ax (Ax (A7 (Ax ?_)))))
  refine Ap rfl Bd ?_
  show _ = _
  rw [BI h1 hlt hno (CN hlt) (by simp [h1_])]; simp [optV, outOf, h1_]
 refine Ac <| Az (Af 3) fun ds => Ag rfl (A4 CT Aa hr.bids.plain) <| Aw (Af 1) <| Ad Aa (by first | rfl | exact dF (by omega)) <| AH ?_
 refine A8 <| A8 <| AB <| Ab <| AD (Af 2) <| At <| Ap rfl Bd ?_
 show _ = _
 rw [Db h1 fun j hj => hno j (by omega)]; rfl
theorem N0 {F : Heap} {vs vb vl vn vd : Value} {s : Sale} (hr : SaleR F vs vb vl vn vd s) : Ok Tryz.prog 5 [.agg #[vs, .int .i64 s.premium, .int .i64 s.fee, .int .i64 s.days, vb, vl, vn, vd]].toArray F fun r _ => r = checkSV s := by
 refine Ok.intro Tryz.func5 rfl Tryz.ntmps5 rfl fun w0 => ?_
 have hL1 := hr.steps.plain.lt
 by_cases hl : inB 1 5 (s.steps.length : Int) = true
 ·refine Ac <| Am fun ds => A5 rfl <| Bg Aa rfl fun b1 hb1 nb1 => Aw (Af 3) <| Ac <| Az (Af 2) fun ds => Ag rfl (A4 CQ Aa hr.steps.plain) <| AN rfl (Ay Ef Aa AW (CA _ _ _) (fun _ _ h => h)) <| Aw (Af 1) <| Ad Aa (by simp [hl]) ?_
  have hl5 : 1 ≤ s.steps.length ∧ s.steps.length ≤ 5 := by simp [inB] at hl; omega
  have hl0 : ¬ s.steps.length = 0 := by omega
  refine Al <| Ab <| Ac <| AD (Af 1) <| Aq ?_
  refine AL [2, 3, 4, 5, 6, 14, 15, 16, 17, 18, 19, 20, 21, 22, 23, 24, 25, 26, 27, 28, 29, 30, 31, 32, 33, 34, 35, 36, 37, 38, 39, 40, 41, 42, 43, 44, 45, 46, 47, 48, 49, 50, 51, 52, 53, 54, 55, 56, 57] (fun m e σ => ∃ k : Nat, m + k = s.steps.length ∧ Fct e 5 (.int .i64 (k : Int)) ∧ σ = ⟨F, [(b1, bx 33 [vs, .int .i64 s.premium, .int .i64 s.fee, .int .i64 s.days, vb, vl, vn, vd])]⟩ ∧ ∀ j, j < k → stepErr s.steps j = 0) (s.steps.length) ?_ ?_
  · exact ⟨0, by omega, AX, rfl, fun j h => absurd h (by omega)⟩
  rintro m e _ ⟨k, hm, hs5, rfl, hno⟩
  by_cases hlt : k < s.steps.length
  ·refine Ac <| Az (Af 3) fun ds => Ag rfl (A4 CQ Aa hr.steps.plain) <| Aw (Af 1) <| Ai Aa (by first | rfl | exact dT (by omega)) ?_
   rcases Nat.eq_zero_or_pos k with hk0 | hk0
   ·refine Al <| Ab <| Ac <| Aq <| Az (Af 3) fun ds => Ag rfl (A1 (k := k) CQ Aa hr.steps.plain Aa rfl hlt) <| Ag rfl (AC FG Aa rfl rfl (hr.steps.whole hlt)) <| A5 rfl <| AO GP rfl fun b3 hb3 nb3 => AS <| AP Kc Aa Aa (i := 0) rfl rfl rfl rfl Stp.enc_one (.here) <| Ao <| Ab <| Ac <| Bs (.inl rfl) (fun _ _ h => h) (by kernel_rfl) (by kernel_rfl) fun ds => AR (Af 3) <| A3 rfl rfl Aa (dT (by omega)) <| AR (Af 1) <| A3 rfl rfl Aa (dT (by omega)) <| AR (Af 1) <| A3 rfl rfl Aa (dT (by omega)) <| AR (Af 1) <| AT rfl (Ar Aa (dT (by omega)) Aa) <| AR (Af 1) ?_
    by_cases hf : s.steps[k].from_ = 0
    ·have hfB : inB 0 0 (s.steps[k].from_) = true := by rw [hf]; rfl
     refine A3 rfl rfl Aa (dF (fun h => h hf)) <| AR (Af 1) <| A3 rfl rfl Aa (dF (fun h => h hf)) <| AR (Af 1) <| A3 rfl rfl Aa (dF (fun h => h hf)) <| AR (Af 1) <| A6 rfl rfl Aa (.inl (congrArg Value.bool (dF (by omega)))) rfl <| A6 rfl rfl Aa (.inl (congrArg Value.bool (dF (by omega)))) rfl <| A6 rfl rfl Aa (.inl (congrArg Value.bool (dF (by omega)))) rfl <| A6 rfl rfl Aa (.inl (congrArg Value.bool (dF (by omega)))) rfl <| A6 rfl rfl Aa (.inl (congrArg Value.bool (dF (by omega)))) rfl <| A6 rfl rfl Aa (.inl (congrArg Value.bool (dF (by omega)))) rfl <| A6 rfl rfl Aa (.inl (congrArg Value.bool (dF (by omega)))) rfl <| A6 rfl rfl Aa (.inl (congrArg Value.bool (dF (by omega)))) rfl <| A6 rfl rfl Aa (.inl (congrArg Value.bool (dF (by omega)))) rfl <| A6 rfl rfl Aa (.inl (congrArg Value.bool (dF (by omega)))) rfl <| A6 rfl rfl Aa (.inl (congrArg Value.bool (dF (by omega)))) rfl <| A6 rfl rfl Aa (.inl (congrArg Value.bool (dF (by omega)))) rfl <| A3 rfl rfl Aa (dF (fun h => h hf)) <| AT rfl (As Aa (dF (by omega)) Aa) <| AT rfl (As Aa (dF (fun h => h hf)) Aa) <| AR (Af 1) <| A3 rfl rfl Aa rfl <| AR (Af 1) <| A3 rfl rfl Aa rfl ?_
     refine AR (Af 1) <| A3 rfl rfl Aa rfl <| FJ rfl (Ay Ef Aa AW (CA _ _ _) (fun _ _ h => h)) <| A3 rfl rfl Aa rfl <| AR (Af 1) <| AT rfl (As Aa rfl Aa) <| B0 <| Ab ?_
     by_cases hb : inB 1 100000 s.steps[k].by_ = true
     ·refine Ad Aa (by simp [hb]) <| Al <| A0 <| Ab <| Bn (fun _ _ h => h.drop (kD <| kK <| .refl _)) <| Am fun ds => Aj (Af 1) <| Ag rfl (AG Aa Aa rfl (by omega) (by omega)) <| Aj (Af 1) <| Ao ?_
      refine Ab ⟨_, m - 1, Off.eq (DT rfl <| BR rfl <| Ca rfl <| BX rfl <| A2), by omega, ?_⟩
      refine ⟨k + 1, by omega, AX, rfl, fun j hjk => ?_⟩
      rcases Nat.lt_succ_iff_lt_or_eq.1 hjk with hjk | rfl
      · exact hno j hjk
      rw [Ez hk0 hlt]; simp [hfB, hb]
     replace hb : inB 1 100000 s.steps[k].by_ = false := by simpa using hb
     refine Ai Aa (by simp [hb]) ?_
     have he : stepErr s.steps k = 7 := by rw [Ez hk0 hlt]; simp [hfB, hb]
     refine AD (Af 4) <| At ?_
     refine A7 (Ax (Ax (A7 (Ax ?_))))
     refine Ap rfl Bd ?_
     exact (Ds (by unfold stepsE; rw [if_neg hl0, BI (by omega) hlt hno he (by decide)])).symm
    have hfB : inB 0 0 (s.steps[k].from_) = false := by simp [inB]; omega
    refine A6 rfl rfl Aa (.inl (congrArg Value.bool (dT hf))) rfl <| A6 rfl rfl Aa (.inl (congrArg Value.bool (dT hf))) rfl <| A6 rfl rfl Aa (.inl (congrArg Value.bool (dT hf))) rfl <| A6 rfl rfl Aa (.inr rfl) rfl <| A6 rfl rfl Aa (.inr rfl) rfl <| A6 rfl rfl Aa (.inr rfl) rfl <| A6 rfl rfl Aa (.inr rfl) rfl <| A6 rfl rfl Aa (.inr rfl) rfl <| A6 rfl rfl Aa (.inr rfl) rfl <| A6 rfl rfl Aa (.inr rfl) rfl <| A6 rfl rfl Aa (.inr rfl) rfl <| A6 rfl rfl Aa (.inr rfl) rfl <| A6 rfl rfl Aa (.inr rfl) rfl <| A6 rfl rfl Aa (.inr rfl) rfl <| A6 rfl rfl Aa (.inr rfl) rfl <| A6 rfl rfl Aa (.inl (congrArg Value.bool (dT hf))) rfl <| AT rfl (Ar Aa (dT hf) Aa) <| AR (Af 1) <| A6 rfl rfl Aa (.inl (congrArg Value.bool rfl)) rfl <| A6 rfl rfl Aa (.inl (congrArg Value.bool rfl)) rfl <| A6 rfl rfl Aa (.inl (congrArg Value.bool rfl)) rfl <| A6 rfl rfl Aa (.inl (congrArg Value.bool rfl)) rfl <| AT rfl (Ar Aa rfl C4) <| B0 <| Ab <| Ai Aa rfl ?_
    have he : stepErr s.steps k = 7 := by rw [Ez hk0 hlt]; simp [hfB]
    refine AD (Af 4) <| At ?_
    refine A7 (Ax (Ax (A7 (Ax ?_))))
    refine Ap rfl Bd ?_
    exact (Ds (by unfold stepsE; rw [if_neg hl0, BI (by omega) hlt hno he (by decide)])).symm
   have hk1 : k - 1 < s.steps.length := by omega
   have hprev := Mq hk1 (hno (k - 1) (by omega)) (.inr trivial)
   have hlow := Hj hk1 (fun j hj => hno j (by omega))
   refine Al <| Ab <| Ac <| Aq <| Az (Af 3) fun ds => Ag rfl (A1 (k := k) CQ Aa hr.steps.plain Aa rfl hlt) <| Ag rfl (AC FG Aa rfl rfl (hr.steps.whole hlt)) <| A5 rfl <| AO GP rfl fun b4 hb4 nb4 => AS <| AP Kc Aa Aa (i := 0) rfl rfl rfl rfl Stp.enc_one (.here) <| Ao <| Ab <| Ac <| Bs (.inl rfl) (fun _ _ h => h) (by kernel_rfl) (by kernel_rfl) fun ds => AR (Af 3) <| A6 rfl rfl Aa (.inl (congrArg Value.bool (dF (by omega)))) rfl <| A6 rfl rfl Aa (.inl (congrArg Value.bool (dF (by omega)))) rfl <| A6 rfl rfl Aa (.inl (congrArg Value.bool (dF (by omega)))) rfl <| AT rfl (As Aa (dF (by omega)) Aa) <| AR (Af 1) <| A3 rfl rfl Aa rfl <| AR (Af 1) <| A3 rfl rfl Aa rfl <| AR (Af 1) <| A3 rfl rfl Aa rfl <| AR (Af 1) <| A3 rfl rfl Aa (dT (by omega)) <| AR (Af 1) <| A3 rfl rfl Aa (dT (by omega)) <| AR (Af 1) <| A3 rfl rfl Aa (dT (by omega)) <| AR (Af 1) <| A3 rfl rfl Aa (dT (by omega)) <| AR (Af 1) <| A3 rfl rfl Aa (dT (by omega)) <| AR (Af 1) <| A3 rfl rfl Aa (dT (by omega)) <| AT rfl (B4 Aa Aa rfl (by omega) (by omega)) <| A3 rfl rfl Aa (dT (by omega)) <| AT rfl (A1 (k := k - 1) CQ Aa hr.steps.plain Aa (by omega) hk1) <| A3 rfl rfl Aa (dT (by omega)) ?_
   refine AR (Af 1) <| A3 rfl rfl Aa (dT (by omega)) <| AT rfl (Ak AF Aa (hr.steps.cell hk1 rfl)) <| A3 rfl rfl Aa (dT (by omega)) <| AT rfl (AG Aa Aa rfl (by omega) (by omega)) <| A3 rfl rfl Aa (dT (by omega)) <| FJ rfl (Ay Ef Aa AW (CA _ _ _) (fun _ _ h => h)) <| A3 rfl rfl Aa (dT (by omega)) <| AR (Af 1) <| A3 rfl rfl Aa rfl <| AT rfl (Ar Aa (dT (by omega)) Aa) <| AT rfl (As Aa rfl Aa) <| AR (Af 1) ?_
   by_cases hf : inB (s.steps[k - 1].from_ + 1) 100000 s.steps[k].from_ = true
   ·refine A3 rfl rfl Aa (by simp [hf]) <| AR (Af 1) <| A3 rfl rfl Aa (by simp [hf]) <| AR (Af 1) <| A3 rfl rfl Aa (by simp [hf]) <| FJ rfl (Ay Ef Aa AW (CA _ _ _) (fun _ _ h => h)) <| A3 rfl rfl Aa (by simp [hf]) <| AR (Af 1) <| AT rfl (As Aa (by simp [hf]) Aa) <| B0 <| Ab ?_
    by_cases hb : inB 1 100000 s.steps[k].by_ = true
    ·refine Ad Aa (by simp [hb]) <| Al <| A0 <| Ab <| Bn (fun _ _ h => h.drop (kD <| kK <| .refl _)) <| Am fun ds => Aj (Af 1) <| Ag rfl (AG Aa Aa rfl (by omega) (by omega)) <| Aj (Af 1) <| Ao ?_
     refine Ab ⟨_, m - 1, Off.eq (DT rfl <| BR rfl <| Ca rfl <| BX rfl <| A2), by omega, ?_⟩
     refine ⟨k + 1, by omega, AX, rfl, fun j hjk => ?_⟩
     rcases Nat.lt_succ_iff_lt_or_eq.1 hjk with hjk | rfl
     · exact hno j hjk
     rw [C2 hk0 hlt]; simp [hf, hb]
    replace hb : inB 1 100000 s.steps[k].by_ = false := by simpa using hb
    refine Ai Aa (by simp [hb]) ?_
    have he : stepErr s.steps k = 7 := by rw [C2 hk0 hlt]; simp [hf, hb]
    refine AD (Af 4) <| At ?_
    refine A7 (Ax (Ax (A7 (Ax ?_))))
    refine Ap rfl Bd ?_
    exact (Ds (by unfold stepsE; rw [if_neg hl0, BI (by omega) hlt hno he (by decide)])).symm
   replace hf : inB (s.steps[k - 1].from_ + 1) 100000 s.steps[k].from_ = false := by simpa using hf
   refine A6 rfl rfl Aa (.inl (congrArg Value.bool (by simp [hf]))) rfl <| A6 rfl rfl Aa (.inl (congrArg Value.bool (by simp [hf]))) rfl <| A6 rfl rfl Aa (.inl (congrArg Value.bool (by simp [hf]))) rfl <| A6 rfl rfl Aa (.inl (congrArg Value.bool (by simp [hf]))) rfl <| AT rfl (Ar Aa (by simp [hf]) Aa) <| B0 <| Ab <| Ai Aa rfl ?_
   have he : stepErr s.steps k = 7 := by rw [C2 hk0 hlt]; simp [hf]
   refine AD (Af 4) <| At ?_
   refine A7 (Ax (Ax (A7 (Ax ?_))))
   refine Ap rfl Bd ?_
   exact (Ds (by unfold stepsE; rw [if_neg hl0, BI (by omega) hlt hno he (by decide)])).symm
  refine Ac <| Az (Af 3) fun ds => Ag rfl (A4 CQ Aa hr.steps.plain) <| Aw (Af 1) <| Ad Aa (by first | rfl | exact dF (by omega)) ?_
  have hS := Db (n := s.steps.length) (most := 5) (f := stepErr s.steps) (by omega) (fun j hj => hno j (by omega))
  by_cases p1 : inB 0 500 s.premium = true
  ·refine AH ?_
   refine A8 <| A8 <| AB <| Ab <| Ac <| Az (Af 2) fun ds => AN rfl (Ay Ef Aa AW (CA _ _ _) (fun _ _ h => h)) <| Aj (Af 2) <| Ae rfl rfl Aa (by simp [p1]) <| Aj (Af 1) <| Ae rfl rfl Aa (by simp [p1]) <| Aj (Af 1) <| Ae rfl rfl Aa (by simp [p1]) <| AN rfl (Ay Ef Aa AW (CA _ _ _) (fun _ _ h => h)) <| Ae rfl rfl Aa (by simp [p1]) <| Aj (Af 1) <| Ag rfl (As Aa (by simp [p1]) Aa) <| Aj (Af 1) ?_
   by_cases p2 : inB 0 500 s.fee = true
   ·refine Ae rfl rfl Aa (by simp [p2]) <| Aj (Af 1) <| Ae rfl rfl Aa (by simp [p2]) <| Aj (Af 1) <| Ae rfl rfl Aa (by simp [p2]) <| AN rfl (Ay Ef Aa AW (CA _ _ _) (fun _ _ h => h)) <| Ae rfl rfl Aa (by simp [p2]) <| Aj (Af 1) <| Ag rfl (As Aa (by simp [p2]) Aa) <| Ao <| Ab ?_
    by_cases p3 : inB 0 60 s.days = true
    ·refine Ad Aa (by simp [p3]) ?_
     have hP : ((inB 0 500 s.premium && inB 0 500 s.fee) && inB 0 60 s.days) = true := by simp [p1, p2, p3]
     rcases h3 : firstE s.bidders.length 6 (nameErr s.bidders) with _ | ⟨i3, e3⟩
     ·refine Al <| Ab <| Az (Af 2) fun ds => AN rfl (Ay RD Aa AW (EL hr.bidders 6) (fun _ _ h => h.trans (show optV _ = .tuple #[.int .i64 0, .int .i64 0] from by rw [h3]; rfl))) <| Aw (Af 5) <| Ac <| AD (Af 2) <| Ad Aa rfl ?_
      rcases h4 : firstE s.sellers.length 4 (nameErr s.sellers) with _ | ⟨i4, e4⟩
      ·refine Al <| Ab <| Az (Af 2) fun ds => AN rfl (Ay RD Aa AW (EL hr.sellers 4) (fun _ _ h => h.trans (show optV _ = .tuple #[.int .i64 0, .int .i64 0] from by rw [h4]; rfl))) <| Aw (Af 5) <| Ac <| AD (Af 2) <| Ad Aa rfl ?_
       rcases h5 : firstE s.lots.length 6 (lotErr s) with _ | ⟨i5, e5⟩
       ·refine Al <| Ab <| Az (Af 1) fun ds => AN rfl (Ay bd_19 Aa AW (Le hr) (fun _ _ h => h.trans (show optV _ = .tuple #[.int .i64 0, .int .i64 0] from by rw [h5]; rfl))) <| Aw (Af 5) <| Ac <| AD (Af 2) <| Ad Aa rfl ?_
        rcases h6 : firstE s.bids.length 16 (bidErr s) with _ | ⟨i6, e6⟩
        ·refine Al <| Ab <| Az (Af 1) fun ds => AN rfl (Ay bd_20 Aa AW (Lf hr) (fun _ _ h => h.trans (show optV _ = .tuple #[.int .i64 0, .int .i64 0] from by rw [h6]; rfl))) <| Aw (Af 5) <| Ac <| AD (Af 2) <| Ad Aa rfl <| Al <| Ab <| AD (Af 3) <| At <| Ap rfl Bd ?_
         exact (MV (by unfold stepsE; rw [if_neg hl0]; exact hS) hP h3 h4 h5 h6).symm
        refine Al <| Ab <| Az (Af 1) fun ds => AN rfl (Ay bd_20 Aa AW (Lf hr) (fun _ _ h => h.trans (show optV _ = .tuple #[.int .i64 i6, .int .i64 e6] from by rw [h6]; rfl))) <| Aw (Af 5) <| Ac <| AD (Af 2) <| Ai Aa (dT (CF h6)) <| AD (Af 5) <| At <| Ax <| Ap rfl Bd ?_
        exact (MR (by unfold stepsE; rw [if_neg hl0]; exact hS) hP h3 h4 h5 h6).symm
       refine Al <| Ab <| Az (Af 1) fun ds => AN rfl (Ay bd_19 Aa AW (Le hr) (fun _ _ h => h.trans (show optV _ = .tuple #[.int .i64 i5, .int .i64 e5] from by rw [h5]; rfl))) <| Aw (Af 5) <| Ac <| AD (Af 2) <| Ai Aa (dT (CF h5)) <| AD (Af 5) <| At <| Ax <| Ap rfl Bd ?_
       exact (MS (by unfold stepsE; rw [if_neg hl0]; exact hS) hP h3 h4 h5).symm
      refine Al <| Ab <| Az (Af 2) fun ds => AN rfl (Ay RD Aa AW (EL hr.sellers 4) (fun _ _ h => h.trans (show optV _ = .tuple #[.int .i64 i4, .int .i64 e4] from by rw [h4]; rfl))) <| Aw (Af 5) <| Ac <| AD (Af 2) <| Ai Aa (dT (CF h4)) <| AD (Af 5) <| At <| Ax <| Ap rfl Bd ?_
      exact (MT (by unfold stepsE; rw [if_neg hl0]; exact hS) hP h3 h4).symm
     refine Al <| Ab <| Az (Af 2) fun ds => AN rfl (Ay RD Aa AW (EL hr.bidders 6) (fun _ _ h => h.trans (show optV _ = .tuple #[.int .i64 i3, .int .i64 e3] from by rw [h3]; rfl))) <| Aw (Af 5) <| Ac <| AD (Af 2) <| Ai Aa (dT (CF h3)) <| AD (Af 5) <| At <| Ax <| Ap rfl Bd ?_
     exact (MU (by unfold stepsE; rw [if_neg hl0]; exact hS) hP h3).symm
    replace p3 : inB 0 60 s.days = false := by simpa using p3
    refine Ai Aa (by simp [p3]) ?_
    have hP : ((inB 0 500 s.premium && inB 0 500 s.fee) && inB 0 60 s.days) = false := by simp [p3]
    refine AD (Af 3) <| At <| Ax <| Ap rfl Bd ?_
    exact (Fl (by unfold stepsE; rw [if_neg hl0]; exact hS) hP).symm
   replace p2 : inB 0 500 s.fee = false := by simpa using p2
   refine Ah rfl rfl Aa (.inl (congrArg Value.bool (by simp [p2]))) rfl <| Ah rfl rfl Aa (.inl (congrArg Value.bool (by simp [p2]))) rfl <| Ah rfl rfl Aa (.inl (congrArg Value.bool (by simp [p2]))) rfl <| Ah rfl rfl Aa (.inl (congrArg Value.bool (by simp [p2]))) rfl <| Ag rfl (Ar Aa (by simp [p2]) Aa) <| Ao <| Ab <| Ai Aa rfl ?_
   have hP : ((inB 0 500 s.premium && inB 0 500 s.fee) && inB 0 60 s.days) = false := by simp [p2]
   refine AD (Af 3) <| At <| Ax <| Ap rfl Bd ?_
   exact (Fl (by unfold stepsE; rw [if_neg hl0]; exact hS) hP).symm
  replace p1 : inB 0 500 s.premium = false := by simpa using p1
  refine AH ?_
  refine A8 <| A8 <| AB <| Ab <| Ac <| Az (Af 2) fun ds => AN rfl (Ay Ef Aa AW (CA _ _ _) (fun _ _ h => h)) <| Aj (Af 2) <| Ah rfl rfl Aa (.inl (congrArg Value.bool (by simp [p1]))) rfl <| Ah rfl rfl Aa (.inl (congrArg Value.bool (by simp [p1]))) rfl <| Ah rfl rfl Aa (.inl (congrArg Value.bool (by simp [p1]))) rfl <| Ah rfl rfl Aa (.inl (congrArg Value.bool (by simp [p1]))) rfl <| Ag rfl (Ar Aa (by simp [p1]) Aa) <| Aj (Af 1) <| Ah rfl rfl Aa (.inl (congrArg Value.bool rfl)) rfl <| Ah rfl rfl Aa (.inl (congrArg Value.bool rfl)) rfl <| Ah rfl rfl Aa (.inl (congrArg Value.bool rfl)) rfl <| Ah rfl rfl Aa (.inl (congrArg Value.bool rfl)) rfl <| Ag rfl (Ar Aa rfl C4) <| Ao <| Ab <| Ai Aa rfl ?_
  have hP : ((inB 0 500 s.premium && inB 0 500 s.fee) && inB 0 60 s.days) = false := by simp [p1]
  refine AD (Af 3) <| At <| Ax <| Ap rfl Bd ?_
  exact (Fl (by unfold stepsE; rw [if_neg hl0]; exact hS) hP).symm
 replace hl : inB 1 5 (s.steps.length : Int) = false := by simpa using hl
 refine Ac <| Am fun ds => A5 rfl <| Bg Aa rfl fun b5 hb5 nb5 => Aw (Af 3) <| Ac <| Az (Af 2) fun ds => Ag rfl (A4 CQ Aa hr.steps.plain) <| AN rfl (Ay Ef Aa AW (CA _ _ _) (fun _ _ h => h)) <| Aw (Af 1) <| Ai Aa (by simp [hl]) ?_
 by_cases hl0 : s.steps.length = 0
 ·refine AD (Af 3) <| At <| Ax <| Ap rfl Bd ?_
  exact (Ds (i := 0) (e := 3) (by unfold stepsE; rw [if_pos hl0])).symm
 have hl6 : 5 < s.steps.length := by simp [inB] at hl; omega
 refine AD (Af 3) <| At <| Ax <| Ap rfl Bd ?_
 exact (Ds (i := 0) (e := 3) (by unfold stepsE; rw [if_neg hl0, C5 hl6])).symm
end
end Go.Proofs.YtkjfmibiinfhfacGreat
