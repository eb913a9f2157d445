/-
  A part of a proof: TopReturned returns true of any copy, any sale, any lot and any ring, and leaves what it is handed as it was. No conditions.
-/
import Derived.Test.YtkjfmibiinfhfacGreatPab
import Derived.Maps.Keyed
import Derived.DeepKeys4
namespace Go.Proofs.YtkjfmibiinfhfacGreat
set_option synthInstance.maxSize 4000
set_option synthInstance.maxHeartbeats 1000000
section
theorem DQ {ss : List Stp} {k : Nat} (hk : k < ss.length) (p : Int) : behindBy (ss.take (k + 1)) p = if ss[k].from_ ≤ p then ss[k].by_ else behindBy (ss.take k) p := by
 unfold behindBy
 rw [List.take_succ_eq_append_getElem hk, List.foldl_append]
 rfl
theorem Gw {p q : Int} : ∀ (ss : List Stp) (b : Int), (∀ x ∈ ss, (x.from_ ≤ p ↔ x.from_ ≤ q)) → ss.foldl (fun b x => if x.from_ ≤ p then x.by_ else b) b = ss.foldl (fun b x => if x.from_ ≤ q then x.by_ else b) b
 | [], _, _ => rfl
 | x :: ss, b, h => by
   have hx := h x (by simp)
   simp only [List.foldl_cons]
   rw [show (if x.from_ ≤ p then x.by_ else b) = if x.from_ ≤ q then x.by_ else b by
     by_cases h1 : x.from_ ≤ p
     · rw [if_pos h1, if_pos (hx.1 h1)]
     rw [if_neg h1, if_neg fun h2 => h1 (hx.2 h2)]]
   exact Gw ss _ fun y hy => h y (List.mem_cons_of_mem _ hy)
theorem Rb {s : Sale} (hv : ValidS s) {i : Nat} : ∀ {j : Nat}, i < j → j < s.steps.length → (s.stp i).from_ < (s.stp j).from_
 | 0, h, _ => absurd h (by omega)
 | j + 1, h, hj => by
   have h1 := (hv.st (j + 1) (by omega) hj).1
   simp only [Nat.add_sub_cancel] at h1
   rcases Nat.lt_succ_iff_lt_or_eq.1 h with h2 | rfl
   · have := Rb hv h2 (by omega); omega
   exact h1
theorem OV {s : Sale} (hv : ValidS s) {i : Nat} (hi : i < s.steps.length) : 0 ≤ (s.stp i).from_ := by
 have h0 := hv.st0
 rcases Nat.eq_zero_or_pos i with rfl | h
 · omega
 have := Rb hv h hi; omega
theorem K1 {s : Sale} (hv : ValidS s) {p : Int} (hp : 0 ≤ p) : ∀ k, 0 < k → k ≤ s.steps.length → ∃ i, i < k ∧ (s.stp i).from_ ≤ p ∧ (∀ j, i < j → j < k → p < (s.stp j).from_) ∧ behindBy (s.steps.take k) p = (s.stp i).by_
 | 0, h, _ => absurd h (by omega)
 | k + 1, _, hk => by
   have hk' : k < s.steps.length := hk
   rw [DQ hk', Fw hk']
   by_cases h1 : (s.stp k).from_ ≤ p
   · exact ⟨k, by omega, h1, fun j h2 h3 => absurd h2 (by omega), by rw [if_pos h1]⟩
   rw [if_neg h1]
   rcases Nat.eq_zero_or_pos k with rfl | h0
   · have := hv.st0; omega
   obtain ⟨i, a1, a2, a3, a4⟩ := K1 hv hp k h0 (by omega)
   refine ⟨i, by omega, a2, fun j h2 h3 => ?_, a4⟩
   rcases Nat.lt_succ_iff_lt_or_eq.1 h3 with h3 | rfl
   · exact a3 j h2 h3
   omega
theorem NT {s : Sale} (hv : ValidS s) {p : Int} (hp : 0 ≤ p) : ∃ i, i < s.steps.length ∧ (s.stp i).from_ ≤ p ∧ (∀ j, i < j → j < s.steps.length → p < (s.stp j).from_) ∧ behindBy s.steps p = (s.stp i).by_ := by
 have := K1 hv hp s.steps.length (by have := hv.nst; omega) (Nat.le_refl _)
 rwa [List.take_of_length_le (Nat.le_refl _)] at this
theorem EF {s : Sale} (hv : ValidS s) {p : Int} (hp : 0 ≤ p) : 1 ≤ behindBy s.steps p ∧ behindBy s.steps p ≤ 100000 := by
 obtain ⟨i, h1, -, -, h2⟩ := NT hv hp
 rw [h2]; exact hv.by_ i h1
theorem Jv {s : Sale} (hv : ValidS s) : ∀ (k : Nat) (p : Int), k ≤ s.steps.length → 0 ≤ behindBy (s.steps.take k) p ∧ behindBy (s.steps.take k) p ≤ 100000
 | 0, p, _ => by simp [behindBy]
 | k + 1, p, hk => by
   have hk' : k < s.steps.length := hk
   rw [DQ hk', Fw hk']
   split
   · have := hv.by_ k hk'; omega
   exact Jv hv k p (by omega)
theorem Mj {s : Sale} {p q : Int} (hpq : p ≤ q) (h : ∀ i, i < s.steps.length → p < (s.stp i).from_ → q < (s.stp i).from_) : behindBy s.steps q = behindBy s.steps p := by
 unfold behindBy
 refine (Gw s.steps 0 fun x hx => ?_).symm
 obtain ⟨i, hi, rfl⟩ := List.getElem_of_mem hx
 rw [Fw hi]
 have := h i hi
 constructor
 · intro h1; omega
 intro h1; by_cases h2 : p < (s.stp i).from_
 · have := this h2; omega
 omega
theorem EE {s : Sale} (hv : ValidS s) {p : Int} (hp : 0 ≤ p) : p < behindS s p := by
 have := (EF hv hp).1; unfold behindS; omega
theorem LQ {s : Sale} (hv : ValidS s) {others most : Int} : ∀ (f f' : Nat) (p : Int), 0 ≤ p → (others + 1 - p).toNat ≤ f → (others + 1 - p).toNat ≤ f' → climbTo s others most f p = climbTo s others most f' p
 | 0, 0, p, _, _, _ => rfl
 | 0, f' + 1, p, _, h1, _ => by
   have : ¬ (p ≤ others ∧ behindS s p ≤ most) := by omega
   simp [climbTo, this]
 | f + 1, 0, p, _, _, h2 => by
   have : ¬ (p ≤ others ∧ behindS s p ≤ most) := by omega
   simp [climbTo, this]
 | f + 1, f' + 1, p, hp, h1, h2 => by
   unfold climbTo
   have := EE hv hp
   split
   · exact LQ hv f f' _ (by omega) (by omega) (by omega)
   rfl
theorem CX {s : Sale} {p others most : Int} (h : ¬ (p ≤ others ∧ behindS s p ≤ most)) : climbS s p others most = p := by
 unfold climbS
 generalize (others + 1 - p).toNat = f
 cases f with
 | zero => rfl
 | succ f => simp [climbTo, h]
theorem ED {s : Sale} (hv : ValidS s) {p others most : Int} (hp : 0 ≤ p) (h1 : p ≤ others) (h2 : behindS s p ≤ most) : climbS s p others most = climbS s (behindS s p) others most := by
 have hlt := EE hv hp
 unfold climbS
 obtain ⟨f, hf⟩ : ∃ f, (others + 1 - p).toNat = f + 1 := ⟨(others - p).toNat, by omega⟩
 rw [hf]
 show (if p ≤ others ∧ behindS s p ≤ most then climbTo s others most f (behindS s p) else p) = _
 rw [if_pos ⟨h1, h2⟩]
 exact LQ hv f (others + 1 - behindS s p).toNat (behindS s p) (by omega) (by omega) (Nat.le_refl _)
theorem LN {s : Sale} (hv : ValidS s) {p b others most : Int} (hp : 0 ≤ p) (hb : 1 ≤ b) : ∀ n : Nat, (∀ j : Nat, j < n → p + j * b ≤ others ∧ p + j * b + b ≤ most ∧ behindBy s.steps (p + j * b) = b) → climbS s p others most = climbS s (p + n * b) others most
 | 0, _ => by simp
 | n + 1, h => by
   rw [LN hv hp hb n fun j hj => h j (by omega)]
   obtain ⟨h1, h2, h3⟩ := h n (by omega)
   have hn : 0 ≤ (n : Int) * b := Int.mul_nonneg (by omega) (by omega)
   rw [ED hv (by omega) h1 (by unfold behindS; rw [h3]; exact h2)]
   unfold behindS
   rw [h3, show p + (n : Int) * b + b = p + ((n + 1 : Nat) : Int) * b by rw [Int.natCast_succ, Int.add_mul]; omega]
theorem MP {s : Sale} (hv : ValidS s) {o m : Int} : ∀ (f : Nat) (p : Int), 0 ≤ p → (o + 1 - p).toNat ≤ f → p ≤ climbS s p o m
 | 0, p, hp, hf => by rw [CX (show ¬ (p ≤ o ∧ behindS s p ≤ m) by omega)]; exact Int.le_refl _
 | f + 1, p, hp, hf => by
   by_cases h : p ≤ o ∧ behindS s p ≤ m
   · have hlt := EE hv hp
     rw [ED hv hp h.1 h.2]
     have := MP hv (o := o) (m := m) f (behindS s p) (by omega) (by omega)
     omega
   rw [CX h]; exact Int.le_refl _
theorem LP {s : Sale} (hv : ValidS s) {o m p : Int} (hp : 0 ≤ p) : p ≤ climbS s p o m := MP hv (o + 1 - p).toNat p hp (Nat.le_refl _)
theorem LM {s : Sale} (hv : ValidS s) {o m o' m' : Int} (hq : ∀ q, 0 ≤ q → q ≤ o → behindS s q ≤ m → q ≤ o' ∧ behindS s q ≤ m') : ∀ (f : Nat) (p : Int), 0 ≤ p → (o + 1 - p).toNat ≤ f → climbS s p o m ≤ climbS s p o' m'
 | 0, p, hp, hf => by
   rw [CX (show ¬ (p ≤ o ∧ behindS s p ≤ m) by omega)]
   exact LP hv hp
 | f + 1, p, hp, hf => by
   by_cases h : p ≤ o ∧ behindS s p ≤ m
   · have h2 := hq p hp h.1 h.2
     have hlt := EE hv hp
     rw [ED hv hp h.1 h.2, ED hv hp h2.1 h2.2]
     exact LM hv hq f (behindS s p) (by omega) (by omega)
   rw [CX h]
   exact LP hv hp
theorem LO {s : Sale} (hv : ValidS s) {o m o' m' p : Int} (hp : 0 ≤ p) (hq : ∀ q, 0 ≤ q → q ≤ o → behindS s q ≤ m → q ≤ o' ∧ behindS s q ≤ m') : climbS s p o m ≤ climbS s p o' m' := LM hv hq _ p hp (Nat.le_refl _)
theorem MQ {s : Sale} (hv : ValidS s) {o m : Int} : ∀ (f : Nat) (p : Int), 0 ≤ p → (o + 1 - p).toNat ≤ f → p ≤ m → climbS s p o m ≤ m ∧ ¬ (climbS s p o m ≤ o ∧ behindS s (climbS s p o m) ≤ m)
 | 0, p, hp, hf, hm => by rw [CX (show ¬ (p ≤ o ∧ behindS s p ≤ m) by omega)]; exact ⟨hm, by omega⟩
 | f + 1, p, hp, hf, hm => by
   by_cases h : p ≤ o ∧ behindS s p ≤ m
   · have hlt := EE hv hp
     rw [ED hv hp h.1 h.2]
     exact MQ hv f (behindS s p) (by omega) (by omega) h.2
   rw [CX h]; exact ⟨hm, h⟩
theorem Vi {s : Sale} (hv : ValidS s) {o m p : Int} (hp : 0 ≤ p) (hm : p ≤ m) : climbS s p o m ≤ m := (MQ hv _ p hp (Nat.le_refl _) hm).1
def endStep (p : Int) (e : Int) (x : Stp) : Int := if p < x.from_ then min e (x.from_ - 1) else e
def endTo (s : Sale) (p others : Int) (k : Nat) : Int := (s.steps.take k).foldl (endStep p) others
theorem H5 {s : Sale} {p o : Int} {k : Nat} (hk : k < s.steps.length) : endTo s p o (k + 1) = endStep p (endTo s p o k) s.steps[k] := by
 unfold endTo; rw [List.take_succ_eq_append_getElem hk, List.foldl_append]; rfl
theorem H6 {s : Sale} {p o : Int} (hpo : p ≤ o) : ∀ k, k ≤ s.steps.length → endTo s p o k ≤ o ∧ p ≤ endTo s p o k ∧ ∀ i, i < k → p < (s.stp i).from_ → endTo s p o k < (s.stp i).from_
 | 0, _ => by simp [endTo, hpo]
 | k + 1, hk => by
   have hk' : k < s.steps.length := hk
   obtain ⟨h1, h2, h3⟩ := H6 (s := s) hpo k (by omega)
   rw [H5 hk', Fw hk']
   unfold endStep
   split
   · rename_i h4
     refine ⟨by omega, by omega, fun i hi hp => ?_⟩
     rcases Nat.lt_succ_iff_lt_or_eq.1 hi with hi | rfl
     · have := h3 i hi hp; omega
     omega
   rename_i h4
   refine ⟨h1, h2, fun i hi hp => ?_⟩
   rcases Nat.lt_succ_iff_lt_or_eq.1 hi with hi | rfl
   · exact h3 i hi hp
   omega
def leapN (e p by_ most : Int) : Int := max 1 (min ((e - p) / by_ + 1) ((most - p) / by_))
theorem Lx {e p b most : Int} (hb : 1 ≤ b) (hpe : p ≤ e) (h2 : p + b ≤ most) : 1 ≤ leapN e p b most ∧ p + leapN e p b most * b ≤ most ∧ p + (leapN e p b most - 1) * b ≤ e := by
 have a1 : (e - p) / b * b ≤ e - p := Int.ediv_mul_le _ (by omega)
 have a2 : (most - p) / b * b ≤ most - p := Int.ediv_mul_le _ (by omega)
 have a3 : 0 ≤ (e - p) / b := Int.ediv_nonneg (by omega) (by omega)
 have a4 : 1 ≤ (most - p) / b := (Int.le_ediv_iff_mul_le (by omega)).2 (by omega)
 unfold leapN
 refine ⟨by omega, ?_, ?_⟩
 · have : max 1 (min ((e - p) / b + 1) ((most - p) / b)) ≤ (most - p) / b := by omega
   have := Int.mul_le_mul_of_nonneg_right this (show 0 ≤ b by omega)
   omega
 have : max 1 (min ((e - p) / b + 1) ((most - p) / b)) - 1 ≤ (e - p) / b := by omega
 have := Int.mul_le_mul_of_nonneg_right this (show 0 ≤ b by omega)
 omega
theorem Qu {s : Sale} (hv : ValidS s) {p others most : Int} (hp : 0 ≤ p) (h1 : p ≤ others) (h2 : behindS s p ≤ most) :
   climbS s p others most = climbS s (p + leapN (endTo s p others s.steps.length) p (behindBy s.steps p) most * behindBy s.steps p) others most := by
 obtain ⟨e1, e2, e3⟩ := H6 (s := s) h1 s.steps.length (Nat.le_refl _)
 have hb := (EF hv hp).1
 obtain ⟨n1, n2, n3⟩ := Lx (e := endTo s p others s.steps.length) hb e2 h2
 generalize hn : leapN (endTo s p others s.steps.length) p (behindBy s.steps p) most = n at *
 obtain ⟨m, rfl⟩ := Int.eq_ofNat_of_zero_le (show 0 ≤ n by omega)
 refine LN hv hp hb m fun j hj => ?_
 have g1 : (j : Int) * behindBy s.steps p ≤ ((m : Int) - 1) * behindBy s.steps p := Int.mul_le_mul_of_nonneg_right (by omega) (by omega)
 have g2 : ((j : Int) + 1) * behindBy s.steps p ≤ (m : Int) * behindBy s.steps p := Int.mul_le_mul_of_nonneg_right (by omega) (by omega)
 have g3 : 0 ≤ (j : Int) * behindBy s.steps p := Int.mul_nonneg (by omega) (by omega)
 rw [Int.add_mul] at g2
 refine ⟨by omega, by omega, ?_⟩
 exact Mj (by omega) fun i hi hpi => by have := e3 i hi hpi; omega
end
section
def Two (r : Room) (a b : Nat) : Prop := r.reader a ≠ r.reader b ∧ r.book a ≠ r.book b
instance {r : Room} : DecidableRel (Two r) := fun _ _ => inferInstanceAs (Decidable (_ ∧ _))
def Apart (r : Room) (l : List Nat) : Prop := l.Pairwise (Two r)
instance {r : Room} {l : List Nat} : Decidable (Apart r l) := inferInstanceAs (Decidable (List.Pairwise _ _))
theorem Two.symm {r : Room} {a b : Nat} (h : Two r a b) : Two r b a := ⟨fun e => h.1 e.symm, fun e => h.2 e.symm⟩
def step (r : Room) (q : Nat) (taken : List Nat) (sub : List Nat → Option (List Nat × Int)) (best : Option (List Nat × Int)) (s : Nat) : Option (List Nat × Int) :=
 if s ∈ taken ∨ reason r q s ≠ 0 then best
 else match sub (taken ++ [s]) with
   | none => best
   | some (l, n) => match best with
     | none => some (s :: l, n + light r q s)
     | some (_, m) => if n + light r q s < m then some (s :: l, n + light r q s) else best
def giveR (r : Room) : List Nat → List Nat → Option (List Nat × Int)
 | [], _ => some ([], 0)
 | q :: rest, taken => (List.range r.seats.length).foldl (step r q taken (giveR r rest)) none
def allR (r : Room) (l : List Nat) : Option (List Nat × Int) := if Apart r l then giveR r l [] else none
def GoodGive (r : Room) (l : List Nat) (o : Option (List Nat × Int)) : Prop := ∀ s n, o = some (s, n) → s.length = l.length ∧ 0 ≤ n ∧ n ≤ 1200 * l.length ∧ ∀ x ∈ s, x < r.seats.length
end
section
def cutoff (best : Option (List Nat × Int)) (sum : Int) : Bool := match best with | some (_, L) => decide (L ≤ sum) | none => false
def tryS (r : Room) (q : Nat) (pre : List Nat) (sum : Int) (sub : List Nat → Int → Option (List Nat × Int) → Option (List Nat × Int)) (best : Option (List Nat × Int)) (s : Nat) : Option (List Nat × Int) :=
 if s ∈ pre ∨ reason r q s ≠ 0 then best else sub (pre ++ [s]) (sum + light r q s) best
def search (r : Room) : List Nat → List Nat → Int → Option (List Nat × Int) → Option (List Nat × Int)
 | [], pre, sum, best => if cutoff best sum = true then best else some (pre, sum)
 | q :: rest, pre, sum, best => if cutoff best sum = true then best else (List.range r.seats.length).foldl (tryS r q pre sum (search r rest)) best
end
section
open Go.RowKit
def lights (r : Room) : List Value := (List.range 48).map fun n => .int .i64 (light r (n / 6) (n % 6))
def roomCells (vb vr vs vq : Value) (ls : List Value) (vl : Value) : List Value := vb :: vr :: vs :: vq :: (ls ++ [vl])
@[reducible] def ruleE (p : Int × Value) : List Value := [.int .i64 p.1, p.2]
abbrev ptr (b : Nat) : Value := .pointer (some ⟨b, 0, none⟩)
structure Num where
 room : Nat
 rdroom : Nat
 rule : Nat
 fbook : Nat
 proom : Nat
 l1 : Nat
 l2 : Nat
 l3 : Nat
 l4 : Nat
def bookFn (N : Num) (c1 : Nat) : Value := .func (.func N.l1) #[] #[ptr c1]
def ruleFns (N : Num) (c1 c8 c3 : Nat) : List (Int × Value) := [(1, .func (.func N.l2) #[] #[ptr c8, ptr c1]), (2, .func (.func N.l3) #[] #[ptr c8, ptr c1]), (3, .func (.func N.l4) #[] #[ptr c3, ptr c8])]
structure RoomX (N : Num) (F : Heap) (b c1 c8 c3 : Nat) (vb vr vs vq vl : Value) (r : Room) : Prop where
 room : RoomR F vb vr vs vq r
 blk : F b = some (bx N.room (roomCells vb vr vs vq (lights r) vl))
 box : F c1 = some (bx N.rdroom [vb, vr, vs, vq])
 bk : F c8 = some (bx N.fbook [bookFn N c1])
 me : F c3 = some (bx N.proom [ptr b])
 rules : Sl F vl 2 ruleE (ruleFns N c1 c8 c3)
theorem RoomX.mono {N : Num} {F F' : Heap} {b c1 c8 c3 : Nat} {vb vr vs vq vl : Value} {r : Room} (h : RoomX N F b c1 c8 c3 vb vr vs vq vl r) (hF : F.le F') : RoomX N F' b c1 c8 c3 vb vr vs vq vl r :=
 ⟨h.room.mono hF, hF _ _ h.blk, hF _ _ h.box, hF _ _ h.bk, hF _ _ h.me, h.rules.mono hF⟩
def Looked (N : Num) (F : Heap) (p : Value) (r : Room) : Prop := ∃ b c1 c8 c3 vb vr vs vq vl, p = ptr b ∧ RoomX N F b c1 c8 c3 vb vr vs vq vl r
theorem Looked.mono {N : Num} {F F' : Heap} {p : Value} {r : Room} (h : Looked N F p r) (hF : F.le F') : Looked N F' p r := by
 obtain ⟨b, c1, c8, c3, vb, vr, vs, vq, vl, hp, hX⟩ := h
 exact ⟨b, c1, c8, c3, vb, vr, vs, vq, vl, hp, hX.mono hF⟩
end
section
open Go.RowKit
theorem OH : ∀ (x : Nat), ∀ u ∈ natE x, u.oneCell' = true := by simp [natE, Value.oneCell']
structure GivenC (G : Heap) (o : Option (List Nat × Int)) (is : Bool) (vs : Value) (n : Int) : Prop where
 is_ : is = o.isSome
 no : o = none → vs = .slice none 0 0 ∧ n = 0
 so : ∀ l m, o = some (l, m) → n = m ∧ Nats G vs l
theorem GivenC.mono {G G' : Heap} {o : Option (List Nat × Int)} {is : Bool} {vs : Value} {n : Int} (h : GivenC G o is vs n) (hG : G.le G') : GivenC G' o is vs n :=
 ⟨h.is_, h.no, fun l m e => ⟨(h.so l m e).1, (h.so l m e).2.mono hG⟩⟩
theorem GivenC.one {G : Heap} {o : Option (List Nat × Int)} {is : Bool} {vs : Value} {n : Int} (h : GivenC G o is vs n) : vs.oneCell' = true := by
 cases o with
 | none => obtain ⟨rfl, -⟩ := h.no rfl; rfl
 | some p => exact (h.so p.1 p.2 rfl).2.plain.one
theorem GivenC.ones {G : Heap} {o : Option (List Nat × Int)} {is : Bool} {vs : Value} {n : Int} (h : GivenC G o is vs n) : ∀ u ∈ [Value.bool is, vs, .int .i64 n], u.oneCell' = true := by
 intro u hu
 simp only [List.mem_cons, List.not_mem_nil, or_false] at hu
 rcases hu with rfl | rfl | rfl
 · rfl
 · exact h.one
 rfl
theorem GivenC.none {G : Heap} : GivenC G none false (.slice none 0 0) 0 := ⟨rfl, fun _ => ⟨rfl, rfl⟩, (fun _ _ h => nomatch h)⟩
theorem GivenC.some {G : Heap} {l : List Nat} {vs : Value} {n : Int} (h : Nats G vs l) : GivenC G (some (l, n)) true vs n := ⟨rfl, (fun h => nomatch h), fun l' m e => by cases e; exact ⟨rfl, h⟩⟩
theorem GivenC.bound {G : Heap} {r : Room} {l : List Nat} {o : Option (List Nat × Int)} {is : Bool} {vs : Value} {n : Int} (h : GivenC G o is vs n) (hg : GoodGive r l o) : 0 ≤ n ∧ n ≤ 1200 * l.length := by
 cases o with
 | none => obtain ⟨-, rfl⟩ := h.no rfl; omega
 | some p =>
   obtain ⟨s, m⟩ := p
   obtain ⟨rfl, -⟩ := h.so s m rfl
   have := hg s n rfl
   omega
end
section
open Go.RowKit
structure BestC (F : Heap) (best : Option (List Nat × Int)) (vb : Value) (L : Int) : Prop where
 no : best = none → L = -1 ∧ vb = .slice none 0 0
 so : ∀ l m, best = some (l, m) → L = m ∧ Nats F vb l ∧ 0 ≤ m
theorem BestC.mono {F F' : Heap} {best : Option (List Nat × Int)} {vb : Value} {L : Int} (h : BestC F best vb L) (hF : F.le F') : BestC F' best vb L :=
 ⟨h.no, fun l m e => ⟨(h.so l m e).1, (h.so l m e).2.1.mono hF, (h.so l m e).2.2⟩⟩
theorem BestC.one {F : Heap} {best : Option (List Nat × Int)} {vb : Value} {L : Int} (h : BestC F best vb L) : vb.oneCell' = true := by
 cases best with
 | none => obtain ⟨-, rfl⟩ := h.no rfl; rfl
 | some p => exact (h.so p.1 p.2 rfl).2.1.plain.one
structure NextX (N : Num) (TS TN fn : Nat) (F : Heap) (b c1 c8 c3 : Nat) (vb vr vs vq vl : Value) (r : Room) (v : Value) (l : List Nat) (bl bb bo co d2 d3 d7 n : Nat) : Prop where
 room : RoomX N F b c1 c8 c3 vb vr vs vq vl r
 idx : Nats F v l
 own : F co = some (bx TS [.slice (some ⟨bo, 0, none⟩) n n])
 rm : F d2 = some (bx N.proom [ptr b])
 rq : F d3 = some (bx TS [v])
 nx : F d7 = some (bx TN [.func (.func fn) #[] #[ptr bl, ptr co, ptr bb, ptr d2, ptr d3, ptr d7]])
 len : l.length = n
theorem NextX.mono {N : Num} {TS TN fn : Nat} {F F' : Heap} {b c1 c8 c3 : Nat} {vb vr vs vq vl : Value} {r : Room} {v : Value} {l : List Nat} {bl bb bo co d2 d3 d7 n : Nat} (h : NextX N TS TN fn F b c1 c8 c3 vb vr vs vq vl r v l bl bb bo co d2 d3 d7 n) (hF : F.le F') : NextX N TS TN fn F' b c1 c8 c3 vb vr vs vq vl r v l bl bb bo co d2 d3 d7 n :=
 ⟨h.room.mono hF, h.idx.mono hF, hF _ _ h.own, hF _ _ h.rm, hF _ _ h.rq, hF _ _ h.nx, h.len⟩
theorem Dz {m k : Nat} : (m : Int) / 2 ^ k = ((m / 2 ^ k : Nat) : Int) := by simp
theorem C9 {m k : Nat} : decide ((((m / 2 ^ k) &&& 1 : Nat) : Int) = 1) = m.testBit k := by
 rw [Nat.testBit_eq_decide_div_mod_eq, Nat.and_one_is_mod]
 congr 1
 rw [eq_iff_iff]
 omega
theorem FB {mask k : Nat} (h : mask < 64) (hk : k < 6) : mask ||| 2 ^ k < 64 := by
 have h1 : (2 : Nat) ^ k < 2 ^ 6 := Nat.pow_lt_pow_right (by omega) hk
 exact Nat.or_lt_two_pow (n := 6) h h1
theorem Lh {k : Nat} (hk : k < 6) : (2 : Nat) ^ k < 64 := Nat.pow_lt_pow_right (n := 6) (by omega) hk
theorem N9 : ∀ {l : List Nat}, (l.flatMap natE).length = l.length := by
 intro l
 induction l with
 | nil => rfl
 | cons a l ih => simp [List.flatMap_cons, natE] at ih ⊢; omega
theorem Ux {F : Heap} {b T n : Nat} {l : List Nat} (h : F b = some (bx T (l.flatMap natE))) (hn : l.length = n) (hl : n < 281474976710656) : Nats F (.slice (some ⟨b, 0, none⟩) n n) l := by
 subst hn
 have hlen := N9 (l := l)
 refine Own.sl (E := T) (R := [(b, bx T (l.flatMap natE))]) ?_ (fun _ => rfl) (fun p hp => by simp at hp; subst hp; exact h) hl
 exact GA (by rw [hlen]; omega)
theorem Ck {b n c : Nat} (h : n ≤ c) (hn : n < 281474976710656) : Plain (.slice (some ⟨b, 0, none⟩) n c) n := ⟨_, _, rfl, fun _ x hx => by cases hx; rfl, by simp, h, hn⟩
end
section
open Go.RowKit
theorem BestC.is {F : Heap} {best : Option (List Nat × Int)} {vb : Value} {L : Int} (h : BestC F best vb L) : decide (0 ≤ L) = best.isSome := by
 cases best with
 | none => obtain ⟨rfl, -⟩ := h.no rfl; rfl
 | some p => obtain ⟨rfl, -, h0⟩ := h.so p.1 p.2 rfl; simpa using h0
theorem QZ {l : List Nat} : (l.map fun (n : Nat) => (n : Int)).map Int.toNat = l := by
 rw [List.map_map, show (Int.toNat ∘ fun (n : Nat) => (n : Int)) = id from rfl, List.map_id]
end
section
open Go
def isBid (s : Sale) (l b i : Nat) : Prop := (s.bid i).lot = (l : Int) ∧ (s.bid i).bidder = (b : Int)
instance (s : Sale) (l b i : Nat) : Decidable (isBid s l b i) := by unfold isBid; exact inferInstance
def placeTo (s : Sale) (l b : Nat) : Nat → Int
 | 0 => 0
 | k + 1 => if isBid s l b k then (k : Int) + 1 else placeTo s l b k
def mostTo (s : Sale) (l b : Nat) : Nat → Int
 | 0 => 0
 | k + 1 => if isBid s l b k then (s.bid k).most else mostTo s l b k
def placeN (s : Sale) (l b : Nat) : Int := placeTo s l b s.bids.length
def mostN (s : Sale) (l b : Nat) : Int := mostTo s l b s.bids.length
theorem JO {s : Sale} {l b : Nat} : ∀ k, (∃ i, i < k ∧ isBid s l b i ∧ placeTo s l b k = (i : Int) + 1 ∧ mostTo s l b k = (s.bid i).most) ∨ ((∀ i, i < k → ¬ isBid s l b i) ∧ placeTo s l b k = 0 ∧ mostTo s l b k = 0)
 | 0 => .inr ⟨fun i h => absurd h (by omega), rfl, rfl⟩
 | k + 1 => by
   unfold placeTo mostTo
   by_cases h : isBid s l b k
   · rw [if_pos h, if_pos h]; exact .inl ⟨k, by omega, h, rfl, rfl⟩
   rw [if_neg h, if_neg h]
   rcases JO k with ⟨i, h1, h2, h3, h4⟩ | ⟨h1, h2, h3⟩
   · exact .inl ⟨i, by omega, h2, h3, h4⟩
   refine .inr ⟨fun i hi => ?_, h2, h3⟩
   rcases Nat.lt_succ_iff_lt_or_eq.1 hi with hi | rfl
   · exact h1 i hi
   exact h
theorem H0 {s : Sale} (hv : ValidS s) {l b i j : Nat} (hi : i < s.bids.length) (hj : j < s.bids.length) (h1 : isBid s l b i) (h2 : isBid s l b j) : i = j := by
 rcases Nat.lt_trichotomy i j with h | h | h
 · exact absurd ⟨h1.2.trans h2.2.symm, h1.1.trans h2.1.symm⟩ (hv.two i j h hj)
 · exact h
 exact absurd ⟨h2.2.trans h1.2.symm, h2.1.trans h1.1.symm⟩ (hv.two j i h hi)
theorem Ju {s : Sale} (hv : ValidS s) {l b i : Nat} (hi : i < s.bids.length) (h : isBid s l b i) : placeN s l b = (i : Int) + 1 ∧ mostN s l b = (s.bid i).most := by
 rcases JO (s := s) (l := l) (b := b) s.bids.length with ⟨j, h1, h2, h3, h4⟩ | ⟨h1, -, -⟩
 · obtain rfl := H0 hv h1 hi h2 h; exact ⟨h3, h4⟩
 exact absurd h (h1 i hi)
theorem M0 {s : Sale} {l b : Nat} (h : placeN s l b ≠ 0) : ∃ i, i < s.bids.length ∧ isBid s l b i ∧ placeN s l b = (i : Int) + 1 ∧ mostN s l b = (s.bid i).most := by
 rcases JO (s := s) (l := l) (b := b) s.bids.length with h1 | ⟨-, h2, -⟩
 · exact h1
 exact absurd h2 h
theorem N3 {s : Sale} {l b k : Nat} : 0 ≤ placeTo s l b k ∧ placeTo s l b k ≤ k := by
 rcases JO (s := s) (l := l) (b := b) k with ⟨i, h1, -, h2, -⟩ | ⟨-, h2, -⟩ <;> omega
theorem Lp {s : Sale} (hv : ValidS s) {l b k : Nat} (hk : k ≤ s.bids.length) : 0 ≤ mostTo s l b k ∧ mostTo s l b k ≤ 100000 := by
 rcases JO (s := s) (l := l) (b := b) k with ⟨i, h1, -, -, h2⟩ | ⟨-, -, h2⟩
 · have := hv.bd i (by omega); omega
 omega
theorem PO {s : Sale} {l b : Nat} (h : placeN s l b = 0) : mostN s l b = 0 := by
 rcases JO (s := s) (l := l) (b := b) s.bids.length with ⟨i, h1, -, h2, -⟩ | ⟨-, -, h2⟩
 · unfold placeN at h; omega
 exact h2
def cells36 (f : Nat → Nat → Int) : List Value := (List.range 36).map fun n => .int .i64 (f (n / 6) (n % 6))
theorem BA {f : Nat → Nat → Int} : (cells36 f).length = 36 := by simp [cells36]
theorem K0 {f : Nat → Nat → Int} {l b : Nat} (hl : l < 6) (hb : b < 6) : (cells36 f)[l * 6 + b]? = some (.int .i64 (f l b)) := by
 unfold cells36
 rw [List.getElem?_map, List.getElem?_range (by omega)]
 have e1 : (l * 6 + b) / 6 = l := by omega
 have e2 : (l * 6 + b) % 6 = b := by omega
 simp [e1, e2]
theorem Kz {f g : Nat → Nat → Int} {l b : Nat} {z : Int} (_hl : l < 6) (hb : b < 6) (h1 : g l b = z) (h2 : ∀ l' b', ¬ (l' = l ∧ b' = b) → g l' b' = f l' b') : (cells36 f).set (l * 6 + b) (.int .i64 z) = cells36 g := by
 unfold cells36
 apply List.ext_getElem
 · simp
 intro n h3 h4
 rw [List.getElem_set]
 simp only [List.getElem_map, List.getElem_range]
 by_cases hn : l * 6 + b = n
 · subst hn
   have e1 : (l * 6 + b) / 6 = l := by omega
   have e2 : (l * 6 + b) % 6 = b := by omega
   rw [if_pos rfl, e1, e2, h1]
 rw [if_neg hn, h2 _ _ (by omega)]
theorem Jr {f : Nat → Nat → Int} (h : ∀ l b, f l b = 0) : cells36 f = List.replicate 36 (.int .i64 0) := by
 unfold cells36
 apply List.ext_getElem
 · simp
 intro n h1 h2
 rw [List.getElem_replicate]
 simp [h]
theorem PV {s : Sale} {k l b : Nat} (hl : l < 6) (hb : b < 6) (h1 : (s.bid k).lot = (l : Int)) (h2 : (s.bid k).bidder = (b : Int)) :
   (cells36 fun l b => mostTo s l b k).set (l * 6 + b) (.int .i64 (s.bid k).most) = cells36 fun l b => mostTo s l b (k + 1) := by
 refine Kz hl hb ?_ fun l' b' h => ?_
 · show mostTo s l b (k + 1) = _; unfold mostTo; rw [if_pos ⟨h1, h2⟩]
 show mostTo s l' b' (k + 1) = _; rw [mostTo, if_neg]; rintro ⟨a1, a2⟩; exact h ⟨by omega, by omega⟩
theorem OA {s : Sale} {k l b : Nat} (hl : l < 6) (hb : b < 6) (h1 : (s.bid k).lot = (l : Int)) (h2 : (s.bid k).bidder = (b : Int)) :
   (cells36 fun l b => placeTo s l b k).set (l * 6 + b) (.int .i64 ((k : Int) + 1)) = cells36 fun l b => placeTo s l b (k + 1) := by
 refine Kz hl hb ?_ fun l' b' h => ?_
 · show placeTo s l b (k + 1) = _; unfold placeTo; rw [if_pos ⟨h1, h2⟩]
 show placeTo s l' b' (k + 1) = _; rw [placeTo, if_neg]; rintro ⟨a1, a2⟩; exact h ⟨by omega, by omega⟩
def strongerB (s : Sale) (l b : Nat) (other : Int) : Bool :=
 if placeN s l b = 0 ∨ other < 0 then decide (0 < placeN s l b)
 else decide (mostN s l other.toNat < mostN s l b) || (decide (mostN s l b = mostN s l other.toNat) && decide (placeN s l b < placeN s l other.toNat))
def strongStep (s : Sale) (l : Nat) (mem : Nat → Bool) (best : Int) (b : Nat) : Int := if mem b = true ∧ strongerB s l b best = true then (b : Int) else best
def strongTo (s : Sale) (l : Nat) (mem : Nat → Bool) (k : Nat) : Int := (List.range k).foldl (strongStep s l mem) (-1)
def strongP (s : Sale) (l : Nat) (mem : Nat → Bool) : Int := strongTo s l mem s.bidders.length
theorem CJ {s : Sale} {l : Nat} {mem : Nat → Bool} {k : Nat} : strongTo s l mem (k + 1) = strongStep s l mem (strongTo s l mem k) k := by unfold strongTo; rw [List.range_succ, List.foldl_append]; rfl
theorem EK {s : Sale} {l : Nat} {mem : Nat → Bool} : ∀ k, (strongTo s l mem k = -1 ∧ ∀ b, b < k → mem b = true → placeN s l b = 0) ∨
   ∃ b, b < k ∧ mem b = true ∧ strongTo s l mem k = (b : Int) ∧ placeN s l b ≠ 0 ∧ ∀ c, c < k → mem c = true → placeN s l c ≠ 0 → mostN s l c < mostN s l b ∨ mostN s l c = mostN s l b ∧ placeN s l b ≤ placeN s l c
 | 0 => .inl ⟨rfl, fun b h => absurd h (by omega)⟩
 | k + 1 => by
   rw [CJ]
   have hnn := (N3 (s := s) (l := l) (b := k) (k := s.bids.length)).1
   have hkn : placeTo s l k s.bids.length = placeN s l k := rfl
   rcases EK (s := s) (l := l) (mem := mem) k with ⟨h1, h2⟩ | ⟨b, h1, h2, h3, h4, h5⟩
   · rw [h1]
     by_cases hc : mem k = true ∧ strongerB s l k (-1) = true
     · rw [show strongStep s l mem (-1) k = k from if_pos hc]
       obtain ⟨c1, c2⟩ := hc
       unfold strongerB at c2
       rw [if_pos (.inr (by omega))] at c2
       have c3 := of_decide_eq_true c2
       refine .inr ⟨k, by omega, c1, rfl, by omega, fun c hck hm hp => ?_⟩
       rcases Nat.lt_succ_iff_lt_or_eq.1 hck with hck | rfl
       · exact absurd (h2 c hck hm) hp
       exact .inr ⟨rfl, Int.le_refl _⟩
     rw [show strongStep s l mem (-1) k = -1 from if_neg hc]
     refine .inl ⟨rfl, fun b hb hm => ?_⟩
     rcases Nat.lt_succ_iff_lt_or_eq.1 hb with hb | rfl
     · exact h2 b hb hm
     have : ¬ strongerB s l b (-1) = true := fun h => hc ⟨hm, h⟩
     unfold strongerB at this
     rw [if_pos (.inr (by omega))] at this
     have h9 : ¬ 0 < placeN s l b := fun h => this (dT h)
     omega
   rw [h3]
   by_cases hc : mem k = true ∧ strongerB s l k b = true
   · rw [show strongStep s l mem b k = k from if_pos hc]
     obtain ⟨c1, c2⟩ := hc
     unfold strongerB at c2
     by_cases hp0 : placeN s l k = 0
     · rw [if_pos (.inl hp0)] at c2; have := of_decide_eq_true c2; omega
     rw [if_neg (by omega)] at c2
     simp only [Int.toNat_natCast, Bool.or_eq_true, Bool.and_eq_true, decide_eq_true_eq] at c2
     refine .inr ⟨k, by omega, c1, rfl, hp0, fun c hck hm hp => ?_⟩
     rcases Nat.lt_succ_iff_lt_or_eq.1 hck with hck | rfl
     · have := h5 c hck hm hp; omega
     exact .inr ⟨rfl, Int.le_refl _⟩
   rw [show strongStep s l mem b k = b from if_neg hc]
   refine .inr ⟨b, by omega, h2, rfl, h4, fun c hck hm hp => ?_⟩
   rcases Nat.lt_succ_iff_lt_or_eq.1 hck with hck | rfl
   · exact h5 c hck hm hp
   have : ¬ strongerB s l c b = true := fun h => hc ⟨hm, h⟩
   unfold strongerB at this
   rw [if_neg (by omega)] at this
   simp only [Int.toNat_natCast, Bool.or_eq_true, Bool.and_eq_true, decide_eq_true_eq] at this
   omega
theorem P9 {s : Sale} {lot : Int} {mem : Int → Bool} {k : Nat} : topTo s lot mem (k + 1) = topStep s lot mem (topTo s lot mem k) k := by unfold topTo; rw [List.range_succ, List.foldl_append]; rfl
theorem Fd {s : Sale} {lot : Int} {mem : Int → Bool} : ∀ k, (topTo s lot mem k = -1 ∧ ∀ i, i < k → (s.bid i).lot = lot → mem (s.bid i).bidder = true → False) ∨
   ∃ i, i < k ∧ (s.bid i).lot = lot ∧ mem (s.bid i).bidder = true ∧ topTo s lot mem k = (i : Int) ∧ ∀ j, j < k → (s.bid j).lot = lot → mem (s.bid j).bidder = true → (s.bid j).most < (s.bid i).most ∨ (s.bid j).most = (s.bid i).most ∧ i ≤ j
 | 0 => .inl ⟨rfl, fun i h => absurd h (by omega)⟩
 | k + 1 => by
   rw [P9]
   rcases Fd (s := s) (lot := lot) (mem := mem) k with ⟨h1, h2⟩ | ⟨i, h1, h2, h3, h4, h5⟩
   · rw [h1]
     by_cases hc : (s.bid k).lot = lot ∧ mem (s.bid k).bidder = true
     · rw [show topStep s lot mem (-1) k = k from if_pos ⟨hc.1, hc.2, .inl (by omega)⟩]
       refine .inr ⟨k, by omega, hc.1, hc.2, rfl, fun j hj hl hm => ?_⟩
       rcases Nat.lt_succ_iff_lt_or_eq.1 hj with hj | rfl
       · exact (h2 j hj hl hm).elim
       exact .inr ⟨rfl, Nat.le_refl _⟩
     rw [show topStep s lot mem (-1) k = -1 from if_neg fun h => hc ⟨h.1, h.2.1⟩]
     refine .inl ⟨rfl, fun i hi hl hm => ?_⟩
     rcases Nat.lt_succ_iff_lt_or_eq.1 hi with hi | rfl
     · exact h2 i hi hl hm
     exact hc ⟨hl, hm⟩
   rw [h4]
   by_cases hc : (s.bid k).lot = lot ∧ mem (s.bid k).bidder = true ∧ (s.bid i).most < (s.bid k).most
   · rw [show topStep s lot mem i k = k from if_pos ⟨hc.1, hc.2.1, .inr (by simpa using hc.2.2)⟩]
     refine .inr ⟨k, by omega, hc.1, hc.2.1, rfl, fun j hj hl hm => ?_⟩
     rcases Nat.lt_succ_iff_lt_or_eq.1 hj with hj | rfl
     · have := h5 j hj hl hm; omega
     exact .inr ⟨rfl, Nat.le_refl _⟩
   have hno : ¬ ((s.bid k).lot = lot ∧ mem (s.bid k).bidder = true ∧ ((i : Int) < 0 ∨ (s.bid (i : Int).toNat).most < (s.bid k).most)) := fun ⟨a1, a2, a3⟩ => hc ⟨a1, a2, by
     rcases a3 with a3 | a3
     · omega
     simpa using a3⟩
   rw [show topStep s lot mem i k = i from if_neg hno]
   refine .inr ⟨i, by omega, h2, h3, rfl, fun j hj hl hm => ?_⟩
   rcases Nat.lt_succ_iff_lt_or_eq.1 hj with hj | rfl
   · exact h5 j hj hl hm
   have : ¬ (s.bid i).most < (s.bid j).most := fun h => hc ⟨hl, hm, h⟩
   omega
theorem Jf {s : Sale} (hv : ValidS s) {l i : Nat} (hi : i < s.bids.length) (hl : (s.bid i).lot = (l : Int)) : ∃ b, b < s.bidders.length ∧ (s.bid i).bidder = (b : Int) ∧ isBid s l b i := by
 have := hv.bd i hi
 obtain ⟨b, hb⟩ := Int.eq_ofNat_of_zero_le this.1
 exact ⟨b, by omega, hb, hl, hb⟩
theorem Hi {s : Sale} (hv : ValidS s) {l : Nat} {mem : Nat → Bool} {memI : Int → Bool} (hm : ∀ b, b < s.bidders.length → mem b = memI (b : Int)) :
   (strongP s l mem = -1 ∧ topS s l memI = -1) ∨ ∃ b i, b < s.bidders.length ∧ i < s.bids.length ∧ strongP s l mem = (b : Int) ∧ topS s l memI = (i : Int) ∧ isBid s l b i ∧ memI b = true := by
 rcases EK (s := s) (l := l) (mem := mem) s.bidders.length with ⟨h1, h2⟩ | ⟨b, h1, h2, h3, h4, h5⟩
 · refine .inl ⟨h1, ?_⟩
   rcases Fd (s := s) (lot := l) (mem := memI) s.bids.length with ⟨g1, -⟩ | ⟨i, g1, g2, g3, g4, -⟩
   · exact g1
   obtain ⟨b, hb, he, hib⟩ := Jf hv g1 g2
   have := h2 b hb (by rw [hm b hb, ← he]; exact g3)
   have := (Ju hv g1 hib).1
   omega
 obtain ⟨i0, hi0, hib0, hp0, hm0⟩ := M0 h4
 rcases Fd (s := s) (lot := l) (mem := memI) s.bids.length with ⟨-, g2⟩ | ⟨i, g1, g2, g3, g4, g5⟩
 · exact (g2 i0 hi0 hib0.1 (by rw [hib0.2, ← hm b h1]; exact h2)).elim
 obtain ⟨c, hc, he, hib⟩ := Jf hv g1 g2
 obtain ⟨q1, q2⟩ := Ju hv g1 hib
 have r1 := h5 c hc (by rw [hm c hc, ← he]; exact g3) (by omega)
 have r2 := g5 i0 hi0 hib0.1 (by rw [hib0.2, ← hm b h1]; exact h2)
 have : i = i0 := by omega
 subst this
 exact .inr ⟨b, i, h1, g1, h3, g4, hib0, by rw [← hm b h1]; exact h2⟩
end
section
open Go
theorem EA {α : Type} {c : α → Prop} [DecidablePred c] {f : α → Int} {M : Int} : ∀ (l : List α) (a : Int), (l.foldl (fun m x => if c x then max m (f x) else m) a ≤ M ↔ a ≤ M ∧ ∀ x ∈ l, c x → f x ≤ M)
 | [], a => by simp
 | x :: l, a => by
   simp only [List.foldl_cons]
   rw [EA l]
   by_cases h : c x
   · rw [if_pos h]
     constructor
     · rintro ⟨h1, h2⟩
       refine ⟨by omega, fun y hy hc => ?_⟩
       rcases List.mem_cons.1 hy with rfl | hy
       · omega
       exact h2 y hy hc
     rintro ⟨h1, h2⟩
     have := h2 x (by simp) h
     exact ⟨by omega, fun y hy hc => h2 y (List.mem_cons_of_mem _ hy) hc⟩
   rw [if_neg h]
   constructor
   · rintro ⟨h1, h2⟩
     refine ⟨h1, fun y hy hc => ?_⟩
     rcases List.mem_cons.1 hy with rfl | hy
     · exact absurd hc h
     exact h2 y hy hc
   rintro ⟨h1, h2⟩
   exact ⟨h1, fun y hy hc => h2 y (List.mem_cons_of_mem _ hy) hc⟩
theorem DY {α : Type} {c : α → Prop} [DecidablePred c] {f : α → Int} {l : List α} {a : Int} : a ≤ l.foldl (fun m x => if c x then max m (f x) else m) a ∧ ∀ x ∈ l, c x → f x ≤ l.foldl (fun m x => if c x then max m (f x) else m) a :=
 (EA l a).1 (Int.le_refl _)
def otherOk (set : Nat) (one member : Int) (b : Nat) : Prop := (b : Int) ≠ one ∧ (set.testBit b = false ∨ (b : Int) = member)
instance (set : Nat) (one member : Int) (b : Nat) : Decidable (otherOk set one member b) := by unfold otherOk; exact inferInstance
def othersTo (s : Sale) (l set : Nat) (one member : Int) (k : Nat) : Int := (List.range k).foldl (fun m b => if otherOk set one member b then max m (mostN s l b) else m) 0
theorem DP {s : Sale} {l set : Nat} {one member : Int} {k : Nat} : othersTo s l set one member (k + 1) = if otherOk set one member k then max (othersTo s l set one member k) (mostN s l k) else othersTo s l set one member k := by
 unfold othersTo; rw [List.range_succ, List.foldl_append]; rfl
def sellP (s : Sale) (set l : Nat) : Res :=
 if strongP s l (fun _ => true) < 0 ∨ mostN s l (strongP s l fun _ => true).toNat < (s.lot l).reserve then ⟨-1, 0⟩
 else ⟨strongP s l fun _ => true, climbS s (s.lot l).reserve (othersTo s l set (strongP s l fun _ => true) (strongP s l set.testBit) s.bidders.length) (mostN s l (strongP s l fun _ => true).toNat)⟩
def sellL (s : Sale) (set k : Nat) : List Res := (List.range k).map (sellP s set)
theorem Hl {s : Sale} {set k : Nat} : sellL s set (k + 1) = sellL s set k ++ [sellP s set k] := by unfold sellL; rw [List.range_succ, List.map_append]; rfl
theorem HS {s : Sale} {set k : Nat} : (sellL s set k).length = k := by simp [sellL]
theorem Gd {s : Sale} (hv : ValidS s) {l set : Nat} {one member : Int} {k : Nat} : 0 ≤ othersTo s l set one member k ∧ othersTo s l set one member k ≤ 100000 :=
 ⟨DY.1, (EA _ _).2 ⟨by omega, fun b _ _ => (Lp hv (Nat.le_refl _)).2⟩⟩
theorem EX {s : Sale} (hv : ValidS s) {one : Int} {l : List Nat} (hl : ∀ i ∈ l, i < s.bids.length) : 0 ≤ othersL s one l ∧ othersL s one l ≤ 100000 := by
 unfold othersL
 exact ⟨DY.1, (EA _ _).2 ⟨by omega, fun i hi _ => by have := hv.bd i (hl i hi); omega⟩⟩
theorem Eb {s : Sale} {lot : Int} {ring : List Int} : ∀ i ∈ biddingL s lot ring, i < s.bids.length := fun i hi => by
 have := (List.mem_filter.1 hi).1
 simpa using this
theorem Sw {s : Sale} (hv : ValidS s) {l set : Nat} {ring : List Int} (hset : ∀ b, b < s.bidders.length → set.testBit b = inRing ring (b : Int)) {b0 i0 : Nat} (hi0 : i0 < s.bids.length) (hb0 : isBid s l b0 i0) :
   othersTo s l set b0 (strongP s l set.testBit) s.bidders.length = othersL s i0 (biddingL s l ring) := by
 apply Int.le_antisymm
 · refine (EA _ _).2 ⟨?_, fun b hb hc => ?_⟩
   · exact (EX hv Eb).1
   have hb : b < s.bidders.length := by simpa using hb
   by_cases hp : placeN s l b = 0
   · rw [PO hp]; exact (EX hv Eb).1
   obtain ⟨i, hi, hib, hp1, hm1⟩ := M0 hp
   rw [hm1]
   refine (DY (c := fun i : Nat => (i : Int) ≠ (i0 : Int)) (f := fun i => (s.bid i).most)).2 i ?_ ?_
   · unfold biddingL
     rw [List.mem_filter]
     refine ⟨by simpa using hi, ?_⟩
     unfold biddingP
     rw [hib.2, hib.1]
     rcases hc.2 with h | h
     · rw [hset b hb] at h; simp [h]
     rcases Hi hv (l := l) (mem := set.testBit) (memI := inRing ring) hset with ⟨h1, -⟩ | ⟨b', i', h1, h2, h3, h4, h5, -⟩
     · omega
     have : b' = b := by omega
     subst this
     have := H0 hv h2 hi h5 hib
     subst this
     simp [h4]
   intro he
   have : i = i0 := by omega
   subst this
   exact hc.1 (hib.2.symm.trans hb0.2)
 refine (EA (c := fun i : Nat => (i : Int) ≠ (i0 : Int)) (f := fun i => (s.bid i).most) _ _).2 ⟨?_, fun i hi hc => ?_⟩
 · exact (Gd hv).1
 have hib := Eb i hi
 have hbp := (List.mem_filter.1 hi).2
 unfold biddingP at hbp
 simp only [Bool.and_eq_true, decide_eq_true_eq, Bool.or_eq_true] at hbp
 obtain ⟨b, hb, he, hbb⟩ := Jf hv hib hbp.1
 rw [← (Ju hv hib hbb).2]
 refine (DY (c := otherOk set b0 (strongP s l set.testBit)) (f := mostN s l)).2 b (by simpa using hb) ⟨fun h => hc ?_, ?_⟩
 · have : b = b0 := by omega
   subst this
   rw [H0 hv hib hi0 hbb hb0]
 rcases hbp.2 with h | h
 · right
   rcases Hi hv (l := l) (mem := set.testBit) (memI := inRing ring) hset with ⟨-, h1⟩ | ⟨b', i', h1, h2, h3, h4, h5, -⟩
   · omega
   have : i' = i := by omega
   subst this
   rw [h3]
   have := h5.2.symm.trans hbb.2
   omega
 left
 rw [he] at h
 rw [hset b hb]
 simpa using h
theorem sell_eq {s : Sale} (hv : ValidS s) {l set : Nat} {ring : List Int} (hset : ∀ b, b < s.bidders.length → set.testBit b = inRing ring (b : Int)) : sellP s set l = soldS s l ring := by
 unfold sellP soldS
 rcases Hi hv (l := l) (mem := fun _ => true) (memI := fun _ => true) (fun _ _ => rfl) with ⟨h1, h2⟩ | ⟨b, i, h1, h2, h3, h4, h5, -⟩
 · rw [if_pos (.inl (by omega)), if_pos (.inl (by omega))]
 rw [h3, h4]
 simp only [Int.toNat_natCast]
 rw [(Ju hv h2 h5).2]
 by_cases hc : (s.bid i).most < (s.lot l).reserve
 · rw [if_pos (.inr hc), if_pos (.inr hc)]
 rw [if_neg (by omega), if_neg (by omega), Sw hv hset h2 h5, h5.2]
theorem Fe {s : Sale} (hv : ValidS s) {set : Nat} {ring : List Int} (hset : ∀ b, b < s.bidders.length → set.testBit b = inRing ring (b : Int)) : sellL s set s.lots.length = allS s ring := by
 unfold sellL allS
 exact List.map_congr_left fun l _ => sell_eq hv hset
theorem K8 {s : Sale} (hv : ValidS s) {l : Nat} (_hl : l < s.lots.length) (ring : List Int) :
   (soldS s l ring = ⟨-1, 0⟩ ∧ (topS s l (fun _ => true) < 0 ∨ (s.bid (topS s l fun _ => true).toNat).most < (s.lot l).reserve)) ∨
   ∃ i b : Nat, i < s.bids.length ∧ b < s.bidders.length ∧ topS s l (fun _ => true) = (i : Int) ∧ isBid s l b i ∧ (s.lot l).reserve ≤ (s.bid i).most ∧ soldS s l ring = ⟨b, climbS s (s.lot l).reserve (othersL s i (biddingL s l ring)) (s.bid i).most⟩ := by
 unfold soldS
 rcases Fd (s := s) (lot := l) (mem := fun _ => true) s.bids.length with ⟨h1, -⟩ | ⟨i, h1, h2, -, h4, -⟩
 · rw [show topS s l (fun _ => true) = -1 from h1]
   exact .inl ⟨by simp, .inl (by omega)⟩
 rw [show topS s l (fun _ => true) = (i : Int) from h4]
 simp only [Int.toNat_natCast]
 by_cases hc : (s.bid i).most < (s.lot l).reserve
 · rw [if_pos (.inr hc)]; exact .inl ⟨rfl, .inr hc⟩
 obtain ⟨b, hb, he, hib⟩ := Jf hv h1 h2
 rw [if_neg (by omega), he]
 exact .inr ⟨i, b, h1, hb, rfl, hib, by omega, rfl⟩
theorem Dl {s : Sale} (hv : ValidS s) {l : Nat} (hl : l < s.lots.length) (ring : List Int) : -1 ≤ (soldS s l ring).bidder ∧ (soldS s l ring).bidder < s.bidders.length ∧ 0 ≤ (soldS s l ring).price ∧ (soldS s l ring).price ≤ 100000 := by
 have hr := hv.lo l hl
 rcases K8 hv hl ring with ⟨h, -⟩ | ⟨i, b, h1, h2, h3, h4, h5, h⟩
 · rw [h]; simp; omega
 rw [h]
 have h6 := hv.bd i h1
 have := Vi hv (o := othersL s i (biddingL s l ring)) (show 0 ≤ (s.lot l).reserve by omega) h5
 have := LP hv (o := othersL s i (biddingL s l ring)) (m := (s.bid i).most) (show 0 ≤ (s.lot l).reserve by omega)
 simp only
 omega
theorem Ot {s : Sale} (hv : ValidS s) {l : Nat} (hl : l < s.lots.length) (ring : List Int) : (soldS s l ring).bidder = -1 ↔ soldS s l ring = ⟨-1, 0⟩ := by
 rcases K8 hv hl ring with ⟨h, -⟩ | ⟨i, b, h1, h2, h3, h4, h5, h⟩
 · rw [h]; exact ⟨fun _ => rfl, fun _ => rfl⟩
 rw [h]
 constructor
 · intro he; simp only at he; omega
 intro he; rw [he]
end
section
open Go.RowKit
def IsK (P : Program) (K : Nat) (v : Value) : Prop := ∃ l, keyOf P K v = some l
structure MapT (P : Program) (M K E : Nat) (z : Value) : Prop where
 under : P.underlying M = some (.map K E)
 zero : ZeroT P E z
 keyed : Go.Maps.Keyed P K
def entryO (p : (Value × Value) × Nat) : MapEntry := ⟨p.1.1, p.1.2, p.2⟩
def mapO (es : List (Value × Value)) : Obj := .map (es.zipIdx.map entryO).toArray es.length
theorem QT {es : List (Value × Value)} {j : Nat} {e : MapEntry} (h : (es.zipIdx.map entryO)[j]? = some e) : ∃ p, es[j]? = some p ∧ e = ⟨p.1, p.2, j⟩ := by
 rw [List.getElem?_map, List.getElem?_zipIdx] at h
 cases hj : es[j]? with
 | none => rw [hj] at h; simp at h
 | some p => rw [hj] at h; simp [entryO] at h; exact ⟨p, rfl, h.symm⟩
theorem U3 {es : List (Value × Value)} {e : MapEntry} (h : e ∈ es.zipIdx.map entryO) : ∃ j p, es[j]? = some p ∧ e = ⟨p.1, p.2, j⟩ := by
 obtain ⟨j, hj⟩ := List.getElem?_of_mem h
 obtain ⟨p, h1, h2⟩ := QT hj
 exact ⟨j, p, h1, h2⟩
section
variable {P : Program} {n : Nat} {B : Base} {e : Env} {σ : St} {d : Option Nat} {ty : TypeId} {pos : String} {af : Array Edge} {gd : Option (Nat × Bool)}
theorem Gn {K : Nat} (hK : Go.Maps.Keyed P K) {k : Value} (hk : IsK P K k) {es : List (Value × Value)} (hall : ∀ p ∈ es, IsK P K p.1) (w : World) :
   ((Instr.findKey K k (es.zipIdx.map entryO)).run P w = .ok none w ∧ ∀ p ∈ es, p.1 ≠ k) ∨ ∃ j u, (Instr.findKey K k (es.zipIdx.map entryO)).run P w = .ok (some (j, u)) w ∧ es[j]? = some (k, u) := by
 obtain ⟨l, hl⟩ := hk
 rcases hK.find w hl (es.zipIdx.map entryO) (fun e he => by obtain ⟨j, p, h1, rfl⟩ := U3 he; exact hall p (List.mem_of_getElem? h1)) with ⟨h1, h2⟩ | ⟨j, e0, h1, h2, h3⟩
 · refine .inl ⟨h1, fun p hp => ?_⟩
   obtain ⟨j, hj⟩ := List.getElem?_of_mem hp
   have : entryO (p, j) ∈ es.zipIdx.map entryO := by
     refine List.mem_map.2 ⟨(p, j), ?_, rfl⟩
     rw [List.mem_zipIdx_iff_getElem?]; exact hj
   exact h2 _ this
 obtain ⟨p, q1, rfl⟩ := QT h2
 refine .inr ⟨j, p.2, h1, ?_⟩
 rw [q1]
 simp only at h3
 rw [← h3]
theorem Fa {M : Nat} {K : Value → St → Prop} (hn : ∀ b, B.w0.heap.size ≤ b → σ.F b = none → K (.map (some b)) ⟨σ.F, (b, mapO []) :: σ.H⟩) : OpX P n B ⟨d, .makeMap M none, ty, pos, af, gd⟩ e σ K :=
 .run fun w hw => ⟨_, _, _, .inl (by simp [execOp, Instr.makeMap]; rfl), hw.alloc (mapO []), hn _ hw.size hw.fresh⟩
theorem DC {b : Nat} {es : List (Value × Value)} {w : World} (h : w.heap[b]? = some (mapO es)) : (Go.getObj b).run P w = .ok (mapO es) w := by
 simp only [Go.getObj, Sem.run, h]; simp [mapO]
theorem Fx {b : Nat} {es es' : List (Value × Value)} {w : World} (h : w.heap[b]? = some (mapO es)) : (Go.setObj b (mapO es')).run P w = .ok () { w with heap := w.heap.setIfInBounds b (mapO es') } := by
 simp only [Go.setObj, Sem.run, h]; simp [mapO]
theorem JD {es : List (Value × Value)} (hd : (es.map (·.1)).Nodup) {i j : Nat} {k u v : Value} (hi : es[i]? = some (k, u)) (hj : es[j]? = some (k, v)) : i = j := by
 have h1 : (es.map (·.1))[i]? = some k := by simp [hi]
 have h2 : (es.map (·.1))[j]? = some k := by simp [hj]
 have hl : i < (es.map (·.1)).length := (List.getElem?_eq_some_iff.1 h1).1
 exact (List.getElem?_inj hl hd).1 (by rw [h1, h2])
theorem Ki {M K E : Nat} {z k : Value} {b : Nat} {es : List (Value × Value)} (hT : MapT P M K E z) (hk : IsK P K k) (hall : ∀ p ∈ es, IsK P K p.1) (hno : ∀ p ∈ es, p.1 ≠ k) {w : World} (hb : w.heap[b]? = some (mapO es)) (ok : Bool) :
   (Instr.lookup M (.map (some b)) k ok).run P w = .ok (if ok then .tuple #[z, .bool false] else z) w := by
 obtain ⟨l, hl⟩ := hk
 have hc := fun em => hT.keyed.check w em hl
 have hb' := DC (P := P) hb; unfold mapO at hb'
 have hf : (Instr.findKey K k (es.zipIdx.map entryO)).run P w = .ok none w := by
   rcases Gn hT.keyed ⟨l, hl⟩ hall w with ⟨h, -⟩ | ⟨j, u, -, h⟩
   · exact h
   exact absurd rfl (hno _ (List.mem_of_getElem? h))
 cases ok <;> simp [Instr.lookup, Bo hT.under, hb', hc, hf, E0 hT.zero]
theorem Kh {M K E : Nat} {z k u : Value} {b j : Nat} {es : List (Value × Value)} (hT : MapT P M K E z) (hk : IsK P K k) (hall : ∀ p ∈ es, IsK P K p.1) (hd : (es.map (·.1)).Nodup) (hj : es[j]? = some (k, u)) {w : World} (hb : w.heap[b]? = some (mapO es)) (ok : Bool) :
   (Instr.lookup M (.map (some b)) k ok).run P w = .ok (if ok then .tuple #[u, .bool true] else u) w := by
 obtain ⟨l, hl⟩ := hk
 have hc := fun em => hT.keyed.check w em hl
 have hb' := DC (P := P) hb; unfold mapO at hb'
 have hf : (Instr.findKey K k (es.zipIdx.map entryO)).run P w = .ok (some (j, u)) w := by
   rcases Gn hT.keyed ⟨l, hl⟩ hall w with ⟨-, h⟩ | ⟨i, v, h1, h2⟩
   · exact absurd rfl (h _ (List.mem_of_getElem? hj))
   have := JD hd h2 hj
   subst this
   rw [h2] at hj
   simp only [Option.some.injEq, Prod.mk.injEq] at hj
   rw [h1, hj.2]
 cases ok <;> simp [Instr.lookup, Bo hT.under, hb', hc, hf]
theorem My {M K E i b : Nat} {x y : Operand} {z k : Value} {es : List (Value × Value)} (hT : MapT P M K E z) (hx : ev e x = .map (some b)) (hy : ev e y = k) (hi : σ.H[i]? = some (b, mapO es)) (hk : IsK P K k) (hall : ∀ p ∈ es, IsK P K p.1) (hno : ∀ p ∈ es, p.1 ≠ k) :
   OpR P B ⟨d, .lookup M x y false, ty, pos, af, gd⟩ e σ z := fun w hw => by
 have := Ki hT hk hall hno (hw.own _ (List.mem_of_getElem? hi)).1 false
 simp [execOp, hx, hy, this]
theorem JB {M K E i b j : Nat} {x y : Operand} {z k u : Value} {es : List (Value × Value)} (hT : MapT P M K E z) (hx : ev e x = .map (some b)) (hy : ev e y = k) (hi : σ.H[i]? = some (b, mapO es)) (hk : IsK P K k) (hall : ∀ p ∈ es, IsK P K p.1) (hd : (es.map (·.1)).Nodup) (hj : es[j]? = some (k, u)) :
   OpR P B ⟨d, .lookup M x y false, ty, pos, af, gd⟩ e σ u := fun w hw => by
 have := Kh hT hk hall hd hj (hw.own _ (List.mem_of_getElem? hi)).1 false
 simp [execOp, hx, hy, this]
theorem PJ {M K E i b : Nat} {x y : Operand} {z k : Value} {es : List (Value × Value)} (hT : MapT P M K E z) (hx : ev e x = .map (some b)) (hy : ev e y = k) (hi : σ.H[i]? = some (b, mapO es)) (hk : IsK P K k) (hall : ∀ p ∈ es, IsK P K p.1) (hno : ∀ p ∈ es, p.1 ≠ k) :
   OpR P B ⟨d, .lookup M x y true, ty, pos, af, gd⟩ e σ (.tuple #[z, .bool false]) := fun w hw => by
 have := Ki hT hk hall hno (hw.own _ (List.mem_of_getElem? hi)).1 true
 simp [execOp, hx, hy, this]
theorem PI {M K E i b j : Nat} {x y : Operand} {z k u : Value} {es : List (Value × Value)} (hT : MapT P M K E z) (hx : ev e x = .map (some b)) (hy : ev e y = k) (hi : σ.H[i]? = some (b, mapO es)) (hk : IsK P K k) (hall : ∀ p ∈ es, IsK P K p.1) (hd : (es.map (·.1)).Nodup) (hj : es[j]? = some (k, u)) :
   OpR P B ⟨d, .lookup M x y true, ty, pos, af, gd⟩ e σ (.tuple #[u, .bool true]) := fun w hw => by
 have := Kh hT hk hall hd hj (hw.own _ (List.mem_of_getElem? hi)).1 true
 simp [execOp, hx, hy, this]
theorem Oi {M K E i b : Nat} {x y : Operand} {z k : Value} {es : List (Value × Value)} {H' : List (Nat × Obj)} {Q : Value → St → Prop} (hT : MapT P M K E z) (hx : ev e x = .map (some b)) (hy : ev e y = k) (hi : σ.H[i]? = some (b, mapO es)) (hk : IsK P K k) (hall : ∀ p ∈ es, IsK P K p.1) (hno : ∀ p ∈ es, p.1 ≠ k)
   (hH : SetL σ.H i (b, mapO (es ++ [(k, z)])) H') (hn : Q (.tuple #[z, .int .i64 es.length]) ⟨σ.F, H'⟩) : OpX P n B ⟨d, .mapEntry M x y, ty, pos, af, gd⟩ e σ Q := .run fun w hw => by
 have hb := (hw.own _ (List.mem_of_getElem? hi)).1
 obtain ⟨l, hl⟩ := hk
 have hc := fun em => hT.keyed.check w em hl
 have hf : (Instr.findKey K k (es.zipIdx.map entryO)).run P w = .ok none w := by
   rcases Gn hT.keyed ⟨l, hl⟩ hall w with ⟨h, -⟩ | ⟨j, u, -, h⟩
   · exact h
   exact absurd rfl (hno _ (List.mem_of_getElem? h))
 have hobj : Obj.map ((es.zipIdx.map entryO).toArray.push ⟨k, z, es.length⟩) (es.length + 1) = mapO (es ++ [(k, z)]) := by
   unfold mapO
   congr 1
   · simp [List.zipIdx_append, entryO]
   simp
 rw [hH.eq.1] at hn
 refine ⟨_, _, _, .inl ?_, hw.setObj hi (o' := mapO (es ++ [(k, z)])), hn⟩
 have hg := DC (P := P) hb
 have hs := Fx (P := P) (es' := (es ++ [(k, z)])) hb
 simp only [execOp, hx, hy, Instr.mapEntry, Sem.run_bind, Bo hT.under, Result.andThen_ok, hg]
 simp only [mapO, hc, Result.andThen_ok, hf, E0 hT.zero, Sem.run_bind]
 rw [hobj, hs]
 simp [goInt, mapO]
theorem HI {M i b j : Nat} {x y s : Operand} {k v : Value} {es : List (Value × Value)} {H' : List (Nat × Obj)} {Q : Value → St → Prop} (hx : ev e x = .map (some b)) (hs : ev e s = .int .i64 j) (hy : ev e y = v) (hi : σ.H[i]? = some (b, mapO es)) (hj : (es[j]?).map (·.1) = some k)
   (hH : SetL σ.H i (b, mapO (es.set j (k, v))) H') (hn : Q undef ⟨σ.F, H'⟩) : OpX P n B ⟨d, .entryStore M x s y, ty, pos, af, gd⟩ e σ Q := .run fun w hw => by
 have hb := (hw.own _ (List.mem_of_getElem? hi)).1
 cases hj' : es[j]? with
 | none => rw [hj'] at hj; simp at hj
 | some p =>
   rw [hj'] at hj
   simp only [Option.map_some, Option.some.injEq] at hj
   have hjl := (List.getElem?_eq_some_iff.1 hj').1
   have hfi : (es.zipIdx.map entryO).toArray.findIdx? (fun e => (e.born : Int) == (j : Int)) = some j := by
     rw [List.findIdx?_toArray, List.findIdx?_eq_some_iff_getElem]
     refine ⟨by simpa using hjl, by simp [entryO], fun m hm => by simp [entryO]; omega⟩
   have hobj : Obj.map ((es.zipIdx.map entryO).toArray.modify j fun e => { e with val := v }) es.length = mapO (es.set j (k, v)) := by
     unfold mapO
     congr 1
     · apply Array.ext'
       apply List.ext_getElem?
       intro m
       rw [Array.getElem?_toList, Array.getElem?_modify]
       simp only [List.getElem?_toArray, List.getElem?_map, List.getElem?_zipIdx, List.getElem?_set]
       by_cases hm : j = m
       · subst hm; rw [if_pos rfl, hj']; simp [hjl, entryO, hj]
       rw [if_neg hm]; simp [hm]
     simp
   have hg := DC (P := P) hb
   have hst := Fx (P := P) (es' := es.set j (k, v)) hb
   rw [hH.eq.1] at hn
   refine ⟨_, _, _, .inr ⟨?_, rfl⟩, hw.setObj hi (o' := mapO (es.set j (k, v))), hn⟩
   simp only [execOp, hx, hy, hs, Instr.entryStore, Sem.run_bind, Sem.run_pure, Result.andThen_ok, hg]
   simp only [mapO, asInt, asIntOf, Sem.run_bind, Sem.run_pure, Result.andThen_ok, hfi]
   rw [hobj, hst]
   simp [mapO]
theorem OM {T d : Nat} {q : IntKind} (hu : P.underlying T = some (.int q)) {z : Int} (hz : (Lit.int q z).wf = true) : P.keyLits (d + 1) T [.int q z] = some [.int q z] := by simp [Program.keyLits, hu, hz]
theorem OQ {K d : Nat} {f0 f1 : Field} (hu : P.underlying K = some (.struct #[f0, f1])) (hk : P.keyType K = true) (hc : P.cellsOf K = 2) (c0 : P.cellsOf f0.type = 1) (c1 : P.cellsOf f1.type = 1) (hs : P.types.size = d)
   (o0 : f0.offset = 0) (o1 : f1.offset = 1) (n0 : (f0.name != "_") = true) (n1 : (f1.name != "_") = true) {a b : Value} {la lb : List Lit} (ha : P.keyLits d f0.type [a] = some la) (hb : P.keyLits d f1.type [b] = some lb) : IsK P K (.agg #[a, b]) := by
 have h : (P.keyLits (P.types.size + 1) K [a, b]) = some (la ++ lb) := by
   rw [hs]
   unfold Program.keyLits
   rw [hu]
   simp only [hc]
   have hall : (#[f0, f1] : Array Field).all (·.name != "_") = true := by simp [n0, n1]
   rw [if_pos ⟨rfl, hall⟩]
   simp [o0, o1, c0, c1, ha, hb]
 refine ⟨.string (keyBytes (la ++ lb)), ?_⟩
 unfold keyOf
 rw [hu]
 have hf : (Value.agg #[a, b]).formed P K = true := by simp [Value.formed, hu, hc]
 simp only [hk, hf, Bool.and_self, if_true]
 show (P.keyLits (P.types.size + 1) K [a, b]).map _ = _
 rw [h]; rfl
theorem wf64 {z : Int} (h1 : -9223372036854775808 ≤ z) (h2 : z ≤ 9223372036854775807) : (Lit.int .i64 z).wf = true := by
 have e1 : IntKind.i64.min = -9223372036854775808 := by decide
 have e2 : IntKind.i64.max = 9223372036854775807 := by decide
 simp [Lit.wf, e1, e2, h1, h2]
theorem NG {es : List (Value × Value)} (k : Value) : (∀ p ∈ es, p.1 ≠ k) ∨ ∃ (j : Nat) (u : Value), es[j]? = some (k, u) := by
 by_cases h : ∃ p ∈ es, p.1 = k
 · obtain ⟨p, hp, rfl⟩ := h
   obtain ⟨j, hj⟩ := List.getElem?_of_mem hp
   exact .inr ⟨j, p.2, hj⟩
 exact .inl fun p hp he => h ⟨p, hp, he⟩
theorem LZ {K : Nat} {es : List (Value × Value)} {k v : Value} (h : ∀ p ∈ es, IsK P K p.1) (hk : IsK P K k) : ∀ p ∈ es ++ [(k, v)], IsK P K p.1 := by
 intro p hp
 rcases List.mem_append.1 hp with hp | hp
 · exact h p hp
 simp at hp; subst hp; exact hk
theorem KF {es : List (Value × Value)} {k v : Value} (h : (es.map (·.1)).Nodup) (hk : ∀ p ∈ es, p.1 ≠ k) : ((es ++ [(k, v)]).map (·.1)).Nodup := by
 rw [List.map_append, List.nodup_append]
 refine ⟨h, by simp, fun a ha b hb => ?_⟩
 obtain ⟨p, hp, rfl⟩ := List.mem_map.1 ha
 simp at hb; subst hb
 exact hk p hp
theorem map_set {es : List (Value × Value)} {j : Nat} {k u v : Value} (hj : es[j]? = some (k, u)) : (es.set j (k, v)).map (·.1) = es.map (·.1) := by
 apply List.ext_getElem?
 intro m
 rw [List.getElem?_map, List.getElem?_map, List.getElem?_set]
 by_cases hm : j = m
 · subst hm; rw [if_pos rfl, hj]; simp [(List.getElem?_eq_some_iff.1 hj).1]
 rw [if_neg hm]
theorem nd_set {es : List (Value × Value)} {j : Nat} {k u v : Value} (h : (es.map (·.1)).Nodup) (hj : es[j]? = some (k, u)) : ((es.set j (k, v)).map (·.1)).Nodup := by rw [map_set hj]; exact h
theorem all_set {K : Nat} {es : List (Value × Value)} {j : Nat} {k u v : Value} (h : ∀ p ∈ es, IsK P K p.1) (hj : es[j]? = some (k, u)) : ∀ p ∈ es.set j (k, v), IsK P K p.1 := by
 intro p hp
 have : p.1 ∈ (es.set j (k, v)).map (·.1) := List.mem_map_of_mem hp
 rw [map_set hj] at this
 obtain ⟨q, hq, he⟩ := List.mem_map.1 this
 rw [← he]; exact h q hq
theorem TO {es : List (Value × Value)} {j : Nat} {k u v : Value} (hj : es[j]? = some (k, u)) : (es.set j (k, v))[j]? = some (k, v) := by
 rw [List.getElem?_set, if_pos rfl, if_pos (List.getElem?_eq_some_iff.1 hj).1]
theorem K9 {es : List (Value × Value)} {p : Value × Value} : (es ++ [p])[es.length]? = some p := by simp
theorem Ou {es : List (Value × Value)} {p q : Value × Value} : (es ++ [p]).set es.length q = es ++ [q] := by
 rw [List.set_append_right _ _ (Nat.le_refl _)]; simp
end
end
section
open Go.RowKit
section
variable {P : Program} {n : Nat} {B : Base} {e : Env} {σ : St} {d : Option Nat} {ty : TypeId} {pos : String} {af : Array Edge} {gd : Option (Nat × Bool)}
theorem Mw {x y : Operand} {a b : Int} {t u : TypeId} (hx : ev e x = .int .i64 a) (hy : ev e y = .int .i64 b) (ha : 0 ≤ a) (ha2 : a ≤ 9223372036854775807) (hb : 0 < b) :
   OpR P B ⟨d, .binOp .quo t x y u, ty, pos, af, gd⟩ e σ (.int .i64 (a / b)) := fun w _ => by
 have h0 : ¬ b = 0 := by omega
 have h1 : 0 ≤ a / b := Int.ediv_nonneg ha (by omega)
 have h2 : a / b ≤ a := Int.ediv_le_self b ha
 have h3 : IntKind.i64.wrap (a / b) = a / b := EJ (by omega) (by omega)
 simp [execOp, hx, hy, eqGuard, binOp, Op.intDiv, h0, Int.tdiv_eq_ediv_of_nonneg ha, h3]
theorem neg_shr {k : Nat} : (-1 : Int) / 2 ^ k = -1 := by
 have h : (0 : Int) < 2 ^ k := Int.pow_pos (by decide)
 have := (Int.ediv_emod_unique (a := -1) (b := 2 ^ k) (r := 2 ^ k - 1) (q := -1) h).2 ⟨by omega, by omega, by omega⟩
 exact this.1
theorem q_andm1 {x y : Operand} {t u : TypeId} (hx : ev e x = .int .i64 (-1)) (hy : ev e y = .int .i64 1) : OpR P B ⟨d, .binOp .and t x y u, ty, pos, af, gd⟩ e σ (.int .i64 1) := fun w _ => by
 have e3 : Op.intBits .and .i64 (-1) 1 = pure (.int .i64 (IntKind.i64.wrap ((BitVec.ofInt 64 (-1) &&& BitVec.ofInt 64 1).toNat : Int))) := rfl
 have e1 : (IntKind.i64.wrap ((BitVec.ofInt 64 (-1) &&& BitVec.ofInt 64 1).toNat : Int)) = 1 := by decide
 rw [e1] at e3
 simp only [execOp, hx, hy, eqGuard, binOp, e3]
 simp
theorem Pq {F : Heap} {H : List (Nat × Obj)} {b T k m c : Nat} {l : List Value} {u : Value} (i : Nat) (hi : H[i]? = some (b, bx T l)) (hc : l[c]? = some u) : Cell ⟨F, H⟩ (addc (base (.slice (some ⟨b, 0, none⟩) k m)) (c * 1)) u := by
 have := Cell.own (F := F) i hi hc
 simpa [base, addc] using this
theorem Fs {ops : Array Oper} {Q : Exit → Env → St → Prop} {l : List Oper} {H' : List (Nat × Obj)} (hp : Pick σ.H H') (h : WL P n B ops Q l e ⟨σ.F, H'⟩) : WL P n B ops Q l e σ := Wd (fun _ hw => hw.pick hp) h
theorem Holds.freezeRM {w : World} (hw : Holds B σ w) {E s k : Nat} {v : Value} {cs : List Value} {R TT : List (Nat × Obj)} {f g : List (Nat × Obj) → List (Nat × Obj)} (hM : ∀ m ∈ B.M, m ∈ keys (f (g []))) (hown : Own E s v k cs R) (hH : Hole σ.H TT f) (hR : Tail TT R g) :
   ∃ F', σ.F.le F' ∧ (∀ p ∈ R, F' p.1 = some p.2) ∧ Holds B ⟨F', f (g [])⟩ w := by
 obtain ⟨A, q1, q2⟩ := hH.eq
 obtain ⟨C, r1, r2⟩ := hR.eq
 rw [q2, r2] at hM ⊢
 simp only [List.nil_append] at hM ⊢
 match R, hown with
 | [], _ =>
   have hs : σ = ⟨σ.F, A ++ C⟩ := by
     cases σ with
     | mk F H => simp only at q1; rw [q1, r1]; simp
   exact ⟨σ.F, Heap.le_refl _, by simp, by rw [← hs]; exact hw⟩
 | [(b, o)], _ =>
   have hi : σ.H[A.length]? = some (b, o) := by rw [q1, r1]; simp
   have hm := hw.own _ (List.mem_of_getElem? hi)
   have hb : B.w0.heap.size ≤ b := by
     rcases hm.2.2 with h1 | h1
     · exact h1
     have hk := hM _ h1
     have hnd := hw.nodup
     rw [q1, r1] at hnd
     simp only [List.map_append, List.map_cons, List.map_nil] at hnd
     rw [List.nodup_append] at hnd
     obtain ⟨-, n2, n3⟩ := hnd
     have hk' : b ∈ (A ++ C).map (·.1) := hk
     rw [List.map_append] at hk'
     rcases List.mem_append.1 hk' with hk' | hk'
     · exact absurd rfl (n3 _ hk' b (by simp))
     simp at n2 hk'
     obtain ⟨x, hx⟩ := hk'
     exact absurd hx (n2.1 x)
   have hfz := hw.freeze hi hb
   have herase : σ.H.eraseIdx A.length = A ++ C := by
     rw [q1, r1, List.eraseIdx_append_of_length_le (Nat.le_refl _)]; simp
   rw [herase] at hfz
   exact ⟨_, DW hm.2.1, fun p hp => by simp at hp; subst hp; exact Dn, hfz⟩
theorem Ch {c : Code} {Q : Exit → Env → St → Prop} {E s k : Nat} {v : Value} {cs : List Value} {R TT : List (Nat × Obj)} {f g : List (Nat × Obj) → List (Nat × Obj)} (hM : ∀ m ∈ B.M, m ∈ keys (f (g []))) (hown : Own E s v k cs R) (hH : Hole σ.H TT f) (hR : Tail TT R g)
   (h : ∀ F', σ.F.le F' → (∀ p ∈ R, F' p.1 = some p.2) → WC P n B c Q e ⟨F', f (g [])⟩) : WC P n B c Q e σ := fun ds a w ha hw => by
 obtain ⟨F', k1, k2, k3⟩ := hw.freezeRM (B := B.at ds) hM hown hH hR
 exact h F' k1 k2 ds a w ha k3
theorem Ml {M K E i b : Nat} {x y y2 : Operand} {z k v : Value} {es : List (Value × Value)} {H' : List (Nat × Obj)} {Q : Value → St → Prop} (hT : MapT P M K E z) (hx : ev e x = .map (some b)) (hy : ev e y = k) (hy2 : ev e y2 = v) (hi : σ.H[i]? = some (b, mapO es)) (hk : IsK P K k) (hall : ∀ p ∈ es, IsK P K p.1) (hno : ∀ p ∈ es, p.1 ≠ k)
   (hH : SetL σ.H i (b, mapO (es ++ [(k, v)])) H') (hn : Q undef ⟨σ.F, H'⟩) : OpX P n B ⟨d, .mapUpdate M x y y2, ty, pos, af, gd⟩ e σ Q := .run fun w hw => by
 have hb := (hw.own _ (List.mem_of_getElem? hi)).1
 obtain ⟨l, hl⟩ := hk
 have hc := fun em => hT.keyed.check w em hl
 have hf : (Instr.findKey K k (es.zipIdx.map entryO)).run P w = .ok none w := by
   rcases Gn hT.keyed ⟨l, hl⟩ hall w with ⟨h, -⟩ | ⟨j, u, -, h⟩
   · exact h
   exact absurd rfl (hno _ (List.mem_of_getElem? h))
 have hobj : Obj.map ((es.zipIdx.map entryO).toArray.push ⟨k, v, es.length⟩) (es.length + 1) = mapO (es ++ [(k, v)]) := by
   unfold mapO
   congr 1
   · simp [List.zipIdx_append, entryO]
   simp
 rw [hH.eq.1] at hn
 refine ⟨_, _, _, .inr ⟨?_, rfl⟩, hw.setObj hi (o' := mapO (es ++ [(k, v)])), hn⟩
 have hg := DC (P := P) hb
 have hs := Fx (P := P) (es' := (es ++ [(k, v)])) hb
 simp only [execOp, hx, hy, hy2, Instr.mapUpdate, Sem.run_bind, Bo hT.under, Result.andThen_ok, hg]
 simp only [mapO, hc, Result.andThen_ok, hf, Sem.run_bind]
 rw [hobj, hs]
 simp [mapO]
end
end
section
open Go.RowKit
def aucCells (s : Sale) (vs vb vl vn vd : Value) (ms ps : List Value) (vk : Value) : List Value := vs :: .int .i64 s.premium :: .int .i64 s.fee :: .int .i64 s.days :: vb :: vl :: vn :: vd :: (ms ++ (ps ++ [vk]))
def mosts (s : Sale) (k : Nat) : List Value := cells36 fun l b => mostTo s l b k
def places (s : Sale) (k : Nat) : List Value := cells36 fun l b => placeTo s l b k
theorem PU {s : Sale} : mosts s 0 = List.replicate 36 (.int .i64 0) := Jr fun _ _ => rfl
theorem O8 {s : Sale} : places s 0 = List.replicate 36 (.int .i64 0) := Jr fun _ _ => rfl
theorem FN {s : Sale} {vs vb vl vn vd vk : Value} {ms ps : List Value} (h1 : ms.length = 36) (h2 : ps.length = 36) : (aucCells s vs vb vl vn vd ms ps vk).length = 81 := by simp [aucCells, h1, h2]
theorem VR {s : Sale} {vs vb vl vn vd vk : Value} {ps : List Value} {k l b : Nat} (hl : l < 6) (hb : b < 6) (h1 : (s.bid k).lot = (l : Int)) (h2 : (s.bid k).bidder = (b : Int)) :
   (aucCells s vs vb vl vn vd (mosts s k) ps vk).set (0 + 8 + l * 6 + b * 1) (.int .i64 (s.bid k).most) = aucCells s vs vb vl vn vd (mosts s (k + 1)) ps vk := by
 have : 0 + 8 + l * 6 + b * 1 = (l * 6 + b) + 1 + 1 + 1 + 1 + 1 + 1 + 1 + 1 := by omega
 unfold aucCells
 rw [this]
 simp only [List.set_cons_succ]
 rw [List.set_append_left (l * 6 + b) _ (by unfold mosts; rw [BA]; omega)]
 unfold mosts
 rw [PV hl hb h1 h2]
theorem VQ {s : Sale} {vs vb vl vn vd vk : Value} {ms : List Value} (hm : ms.length = 36) {k l b : Nat} (hl : l < 6) (hb : b < 6) (h1 : (s.bid k).lot = (l : Int)) (h2 : (s.bid k).bidder = (b : Int)) :
   (aucCells s vs vb vl vn vd ms (places s k) vk).set (0 + 44 + l * 6 + b * 1) (.int .i64 ((k : Int) + 1)) = aucCells s vs vb vl vn vd ms (places s (k + 1)) vk := by
 have : 0 + 44 + l * 6 + b * 1 = (36 + (l * 6 + b)) + 1 + 1 + 1 + 1 + 1 + 1 + 1 + 1 := by omega
 unfold aucCells
 rw [this]
 simp only [List.set_cons_succ]
 rw [List.set_append_right _ _ (by omega), hm, Nat.add_sub_cancel_left, List.set_append_left _ _ (by unfold places; rw [BA]; omega)]
 unfold places
 rw [OA hl hb h1 h2]
structure AucX (T : Nat) (F : Heap) (b : Nat) (vs vb vl vn vd : Value) (kb : Nat) (s : Sale) : Prop where
 sale : SaleR F vs vb vl vn vd s
 blk : F b = some (bx T (aucCells s vs vb vl vn vd (mosts s s.bids.length) (places s s.bids.length) (.map (some kb))))
theorem AucX.mono {T : Nat} {F F' : Heap} {b : Nat} {vs vb vl vn vd : Value} {kb : Nat} {s : Sale} (h : AucX T F b vs vb vl vn vd kb s) (hF : F.le F') : AucX T F' b vs vb vl vn vd kb s := ⟨h.sale.mono hF, hF _ _ h.blk⟩
theorem AucX.most_cell {T : Nat} {F : Heap} {b : Nat} {vs vb vl vn vd : Value} {kb : Nat} {s : Sale} (h : AucX T F b vs vb vl vn vd kb s) {l c : Nat} (hl : l < 6) (hc : c < 6) : CellF F ⟨b, 0 + 8 + l * 6 + c * 1, none⟩ (.int .i64 (mostN s l c)) :=
 CellF.own h.blk (by
   have : 0 + 8 + l * 6 + c * 1 = (l * 6 + c) + 1 + 1 + 1 + 1 + 1 + 1 + 1 + 1 := by omega
   rw [this]
   unfold aucCells
   simp only [List.getElem?_cons_succ]
   rw [List.getElem?_append_left (by unfold mosts; rw [BA]; omega)]
   exact K0 hl hc)
theorem AucX.place_cell {T : Nat} {F : Heap} {b : Nat} {vs vb vl vn vd : Value} {kb : Nat} {s : Sale} (h : AucX T F b vs vb vl vn vd kb s) {l c : Nat} (hl : l < 6) (hc : c < 6) : CellF F ⟨b, 0 + 44 + l * 6 + c * 1, none⟩ (.int .i64 (placeN s l c)) :=
 CellF.own h.blk (by
   have : 0 + 44 + l * 6 + c * 1 = (36 + (l * 6 + c)) + 1 + 1 + 1 + 1 + 1 + 1 + 1 + 1 := by omega
   rw [this]
   unfold aucCells
   simp only [List.getElem?_cons_succ]
   rw [List.getElem?_append_right (by unfold mosts; rw [BA]; omega)]
   unfold mosts
   rw [BA, Nat.add_sub_cancel_left, List.getElem?_append_left (by unfold places; rw [BA]; omega)]
   exact K0 hl hc)
theorem AucX.known_cell {T : Nat} {F : Heap} {b : Nat} {vs vb vl vn vd : Value} {kb : Nat} {s : Sale} (h : AucX T F b vs vb vl vn vd kb s) : CellF F ⟨b, 0 + 80, none⟩ (.map (some kb)) :=
 CellF.own h.blk (by
   have : 0 + 80 = 72 + 1 + 1 + 1 + 1 + 1 + 1 + 1 + 1 := by omega
   rw [this]
   unfold aucCells
   simp only [List.getElem?_cons_succ]
   rw [List.getElem?_append_right (by unfold mosts; rw [BA]; omega), List.getElem?_append_right (by unfold mosts places; rw [BA, BA]; omega)]
   unfold mosts places
   rw [BA, BA]; rfl)
structure KnownC (P : Program) (K : Nat) (F : Heap) (es : List (Value × Value)) (s : Sale) : Prop where
 keys : ∀ p ∈ es, IsK P K p.1
 nodup : (es.map (·.1)).Nodup
 vals : ∀ (j : Nat) (set : Nat) (u : Value), es[j]? = some (.int .i64 (set : Int), u) → Sl F u 2 Res.enc (sellL s set s.lots.length)
theorem KnownC.mono {P : Program} {K : Nat} {F F' : Heap} {es : List (Value × Value)} {s : Sale} (h : KnownC P K F es s) (hF : F.le F') : KnownC P K F' es s := ⟨h.keys, h.nodup, fun j set u hj => (h.vals j set u hj).mono hF⟩
theorem KnownC.nil {P : Program} {K : Nat} {F : Heap} {s : Sale} : KnownC P K F [] s := ⟨by simp, by simp, by simp⟩
theorem KnownC.snoc {P : Program} {K : Nat} {F : Heap} {es : List (Value × Value)} {s : Sale} (h : KnownC P K F es s) {set : Nat} {v : Value} (hk : IsK P K (.int .i64 (set : Int))) (hno : ∀ p ∈ es, p.1 ≠ .int .i64 (set : Int)) (hv : Sl F v 2 Res.enc (sellL s set s.lots.length)) :
   KnownC P K F (es ++ [(.int .i64 (set : Int), v)]) s :=
 ⟨LZ h.keys hk, KF h.nodup hno, fun j st u hj => by
   rcases Nat.lt_trichotomy j es.length with h1 | h1 | h1
   · rw [List.getElem?_append_left h1] at hj; exact h.vals j st u hj
   · subst h1
     rw [K9] at hj
     simp only [Option.some.injEq, Prod.mk.injEq, Value.int.injEq, true_and] at hj
     obtain ⟨hj, rfl⟩ := hj
     have : set = st := by omega
     subst this; exact hv
   rw [List.getElem?_eq_none (by simp; omega)] at hj; cases hj⟩
theorem isK_int {P : Program} {T : Nat} (hu : P.underlying T = some (.int .i64)) {z : Int} (h1 : -9223372036854775808 ≤ z) (h2 : z ≤ 9223372036854775807) : IsK P T (.int .i64 z) := by
 refine ⟨.int .i64 z, ?_⟩
 unfold keyOf mapKey
 rw [hu]
 simp [wf64 h1 h2]
end
section
set_option maxRecDepth 100000
open Go.RowKit
theorem De : ArrT Tryz.prog 157 6 3 1 := KN (by kernel_rfl)
theorem Dd : ArrT Tryz.prog 158 6 157 6 := KN (by kernel_rfl)
theorem VJ : Body Tryz.prog 117 := AE (by kernel_rfl)
theorem V1 : Body Tryz.prog 67 := AE (by kernel_rfl)
instance : FieldI Tryz.prog 161 0 0 := ⟨AU (by kernel_rfl)⟩
theorem L7 : FieldT Tryz.prog 161 1 8 := AU (by kernel_rfl)
instance : FieldI Tryz.prog 161 1 8 := ⟨L7⟩
theorem OY : FieldT Tryz.prog 161 2 44 := AU (by kernel_rfl)
instance : FieldI Tryz.prog 161 2 44 := ⟨OY⟩
theorem JQ {F : Heap} {b kb : Nat} {vs vb vl vn vd : Value} {s : Sale} (hX : AucX 161 F b vs vb vl vn vd kb s) (hv : ValidS s) {p : Int} (h0 : 0 ≤ p) (h1 : p ≤ 1000000) : Ok Tryz.prog 67 [.pointer (some ⟨b, 0, none⟩), .int .i64 p].toArray F fun r _ => r = .int .i64 (behindS s p) := by
 refine Ok.intro Tryz.func67 rfl Tryz.ntmps67 rfl fun w0 => ?_
 have hL1 := hX.sale.steps.plain.lt
 refine AD (Af 1) <| AD (Af 1) <| Ac <| Az (Af 1) fun ds => Ag rfl (Bb Aa) <| Aj (Af 2) <| Ag rfl (Ak Ht Aa (AA hX.blk rfl)) <| Ag rfl (A4 CQ Aa hX.sale.steps.plain) <| Aw (Af 1) <| Aq ?_
 refine AL [5, 7, 14, 15, 16, 17, 18, 19, 20, 21, 22, 23, 24] (fun m e σ => ∃ k : Nat, m + k = s.steps.length ∧ Fct e 14 (.int .i64 (k : Int)) ∧ Fct e 5 (.int .i64 (behindBy (s.steps.take k) p)) ∧ σ = ⟨F, []⟩) (s.steps.length) ?_ ?_
 · exact ⟨0, by omega, AX, AX, rfl⟩
 rintro m e _ ⟨k, hm, hs14, hs5, rfl⟩
 by_cases hlt : k < s.steps.length
 ·refine AD (Af 1) <| Ac <| Ai Aa (by first | rfl | exact dT (by omega)) ?_
  by_cases hf : s.steps[k].from_ ≤ p
  ·refine Al <| Ab <| Ac <| Aq <| Ac <| Am fun ds => Ag rfl (A1  CQ Aa hX.sale.steps.plain Aa rfl hlt) <| Ag rfl (AC FG Aa rfl rfl (hX.sale.steps.whole hlt)) <| A5 rfl <| AO GP rfl fun b2 hb2 nb2 => AS <| AP Kc Aa Aa (i := 0) rfl rfl rfl rfl Stp.enc_one (.here) <| Ao <| Ab <| AD (Af 4) <| Ai Aa (dT hf) <| Am fun ds => Aj (Af 3) <| Ao <| A0 <| Ab <| Bn (fun _ _ h => h.drop (kD <| .refl _)) <| Am fun ds => Ag rfl (AG Aa Aa rfl (by omega) (by omega)) <| Aj (Af 1) <| Ao ?_
   refine Ab ⟨_, m - 1, Off.eq (BR rfl <| Ca rfl <| BX rfl <| A2), by omega, ?_⟩
   exact ⟨k + 1, by omega, AX, by rw [DQ hlt, if_pos hf]; exact AX, rfl⟩
  refine Al <| Ab <| Ac <| Aq <| Ac <| Am fun ds => Ag rfl (A1  CQ Aa hX.sale.steps.plain Aa rfl hlt) <| Ag rfl (AC FG Aa rfl rfl (hX.sale.steps.whole hlt)) <| A5 rfl <| AO GP rfl fun b3 hb3 nb3 => AS <| AP Kc Aa Aa (i := 0) rfl rfl rfl rfl Stp.enc_one (.here) <| Ao <| Ab <| AD (Af 4) <| Ad Aa (dF hf) <| Al <| A0 <| Ab <| Bn (fun _ _ h => h.drop (kD <| .refl _)) <| Am fun ds => Ag rfl (AG Aa Aa rfl (by omega) (by omega)) <| Aj (Af 1) <| Ao ?_
  refine Ab ⟨_, m - 1, Off.eq (BR rfl <| BM rfl <| A2), by omega, ?_⟩
  exact ⟨k + 1, by omega, AX, by rw [DQ hlt, if_neg hf]; exact AX, rfl⟩
 refine AD (Af 1) <| Ac <| Ad Aa (by first | rfl | exact dF (by omega)) ?_
 have hb0 := Jv hv k p (by omega)
 obtain rfl : k = s.steps.length := by omega
 refine AH ?_
 refine A8 <| A8 <| AB <| Ab <| Az (Af 2) fun ds => Ag rfl (AG Aa Aa rfl (by omega) (by omega)) <| Aw (Af 1) <| At <| Ap rfl Bd ?_
 show _ = _
 unfold behindS; rw [List.take_of_length_le (Nat.le_refl _)]; rfl
theorem Ke {F : Heap} {b kb : Nat} {vs vb vl vn vd : Value} {s : Sale} (hX : AucX 161 F b vs vb vl vn vd kb s) (_hv : ValidS s) {l c : Nat} (hl : l < 6) (hc : c < 6) {other : Int} (ho : other < 6) : Ok Tryz.prog 117 [.pointer (some ⟨b, 0, none⟩), .int .i64 (l : Int), .int .i64 (c : Int), .int .i64 other].toArray F fun r _ => r = .bool (strongerB s l c other) := by
 refine Ok.intro Tryz.func117 rfl Tryz.ntmps117 rfl fun w0 => ?_
 by_cases hp : placeN s l c = 0
 ·refine AD (Af 1) <| Ac <| Az (Af 3) fun ds => Ag rfl (Bb Aa) <| Aj (Af 1) <| Ag rfl (AZ (k := l) Dd Aa Aa rfl (by omega)) <| Ag rfl (AZ (k := c) De Aa Aa rfl (by omega)) <| Ag rfl (Ak AF Aa (hX.place_cell (by omega : l < 6) (by omega : c < 6)).cell) <| Aj (Af 2) <| Ah rfl rfl Aa (.inl (congrArg Value.bool (dT hp))) rfl <| Ah rfl rfl Aa (.inl (congrArg Value.bool (dT hp))) rfl <| Ag rfl (Ar Aa (dT hp) Aa) <| Ao <| Ab <| Ai Aa rfl <| Az (Af 3) fun ds => Ag rfl (Bb Aa) <| Aj (Af 1) <| Ag rfl (AZ (k := l) Dd Aa Aa rfl (by omega)) <| Ag rfl (AZ (k := c) De Aa Aa rfl (by omega)) <| Ag rfl (Ak AF Aa (hX.place_cell (by omega : l < 6) (by omega : c < 6)).cell) <| Aw (Af 2) <| At <| Ax <| Ap rfl Bd ?_
  show _ = _
  unfold strongerB; rw [if_pos (.inl hp)]; rfl
 refine AD (Af 1) <| Ac <| Az (Af 3) fun ds => Ag rfl (Bb Aa) <| Aj (Af 1) <| Ag rfl (AZ (k := l) Dd Aa Aa rfl (by omega)) <| Ag rfl (AZ (k := c) De Aa Aa rfl (by omega)) <| Ag rfl (Ak AF Aa (hX.place_cell (by omega : l < 6) (by omega : c < 6)).cell) <| Aj (Af 2) <| Ae rfl rfl Aa (dF hp) <| Aj (Af 1) <| Ae rfl rfl Aa (dF hp) <| Aj (Af 1) <| Ag rfl (As Aa (dF hp) Aa) <| Ao <| Ab ?_
 by_cases h0 : other < 0
 ·refine Ai Aa (dT h0) <| Az (Af 3) fun ds => Ag rfl (Bb Aa) <| Aj (Af 1) <| Ag rfl (AZ (k := l) Dd Aa Aa rfl (by omega)) <| Ag rfl (AZ (k := c) De Aa Aa rfl (by omega)) <| Ag rfl (Ak AF Aa (hX.place_cell (by omega : l < 6) (by omega : c < 6)).cell) <| Aw (Af 2) <| At <| Ax <| Ap rfl Bd ?_
  show _ = _
  unfold strongerB; rw [if_pos (.inr h0)]; rfl
 obtain ⟨o, rfl⟩ := Int.eq_ofNat_of_zero_le (show 0 ≤ other by omega)
 have ho6 : o < 6 := by omega
 refine Ad Aa (dF h0) ?_
 by_cases h1 : mostN s l o < mostN s l c
 ·refine Al <| Ab <| Ac <| Bs (.inl rfl) (fun _ _ h => h) (by kernel_rfl) (by kernel_rfl) fun ds => AR (Af 3) <| AT rfl (Bb Aa) <| AR (Af 1) <| AT rfl (AZ (k := l) Dd Aa Aa rfl (by omega)) <| AT rfl (AZ (k := c) De Aa Aa rfl (by omega)) <| AT rfl (Ak AF Aa (hX.most_cell (by omega : l < 6) (by omega : c < 6)).cell) <| AR (Af 3) <| AT rfl (Bb Aa) <| AR (Af 1) <| AT rfl (AZ (k := l) Dd Aa Aa rfl (by omega)) <| AT rfl (AZ (k := o) De Aa Aa rfl (by omega)) <| AT rfl (Ak AF Aa (hX.most_cell (by omega : l < 6) (by omega : o < 6)).cell) <| AR (Af 2) <| B0 <| Ab <| Ac <| Bs (.inl rfl) (fun _ _ h => h) (by kernel_rfl) (by kernel_rfl) fun ds => AR (Af 4) <| A6 rfl rfl Aa (.inl (congrArg Value.bool (dT h1))) rfl <| A6 rfl rfl Aa (.inl (congrArg Value.bool (dT h1))) rfl <| A6 rfl rfl Aa (.inl (congrArg Value.bool (dT h1))) rfl <| A6 rfl rfl Aa (.inl (congrArg Value.bool (dT h1))) rfl <| A6 rfl rfl Aa (.inr rfl) rfl <| A6 rfl rfl Aa (.inr rfl) rfl <| A6 rfl rfl Aa (.inr rfl) rfl <| A6 rfl rfl Aa (.inr rfl) rfl <| A6 rfl rfl Aa (.inr rfl) rfl <| A6 rfl rfl Aa (.inr rfl) rfl <| A6 rfl rfl Aa (.inr rfl) rfl <| A6 rfl rfl Aa (.inr rfl) rfl <| A6 rfl rfl Aa (.inr rfl) rfl <| A6 rfl rfl Aa (.inr rfl) rfl <| A6 rfl rfl Aa (.inr rfl) rfl ?_
  refine A6 rfl rfl Aa (.inr rfl) rfl <| A6 rfl rfl Aa (.inr rfl) rfl <| A6 rfl rfl Aa (.inr rfl) rfl <| A6 rfl rfl Aa (.inr rfl) rfl <| A6 rfl rfl Aa (.inr rfl) rfl <| A6 rfl rfl Aa (.inr rfl) rfl <| A6 rfl rfl Aa (.inl (congrArg Value.bool (dT h1))) rfl <| AT rfl (Ar Aa (dT h1) Aa) <| AR (Af 1) <| B0 <| Ab <| At <| Ap rfl Bd ?_
  show _ = _
  unfold strongerB; rw [if_neg (by omega)]; simp [outOf, h1]
 refine Al <| Ab <| Ac <| Bs (.inl rfl) (fun _ _ h => h) (by kernel_rfl) (by kernel_rfl) fun ds => AR (Af 3) <| AT rfl (Bb Aa) <| AR (Af 1) <| AT rfl (AZ (k := l) Dd Aa Aa rfl (by omega)) <| AT rfl (AZ (k := c) De Aa Aa rfl (by omega)) <| AT rfl (Ak AF Aa (hX.most_cell (by omega : l < 6) (by omega : c < 6)).cell) <| AR (Af 3) <| AT rfl (Bb Aa) <| AR (Af 1) <| AT rfl (AZ (k := l) Dd Aa Aa rfl (by omega)) <| AT rfl (AZ (k := o) De Aa Aa rfl (by omega)) <| AT rfl (Ak AF Aa (hX.most_cell (by omega : l < 6) (by omega : o < 6)).cell) <| AR (Af 2) <| B0 <| Ab <| Ac <| Bs (.inl rfl) (fun _ _ h => h) (by kernel_rfl) (by kernel_rfl) fun ds => AR (Af 4) <| A3 rfl rfl Aa (dF h1) <| AR (Af 1) <| A3 rfl rfl Aa (dF h1) <| AR (Af 1) <| A3 rfl rfl Aa (dF h1) <| AR (Af 1) <| A3 rfl rfl Aa (dF h1) <| AR (Af 1) ?_
 by_cases h2 : mostN s l c = mostN s l o
 ·refine A3 rfl rfl Aa (dT h2) <| AR (Af 1) <| A3 rfl rfl Aa (dT h2) <| AR (Af 1) <| A3 rfl rfl Aa (dT h2) <| AR (Af 1) <| A3 rfl rfl Aa (dT h2) <| AT rfl (Bb Aa) <| A3 rfl rfl Aa (dT h2) <| AR (Af 1) <| A3 rfl rfl Aa (dT h2) <| AT rfl (AZ (k := l) Dd Aa Aa rfl (by omega)) <| A3 rfl rfl Aa (dT h2) <| AT rfl (AZ (k := c) De Aa Aa rfl (by omega)) <| A3 rfl rfl Aa (dT h2) <| AT rfl (Ak AF Aa (hX.place_cell (by omega : l < 6) (by omega : c < 6)).cell) <| A3 rfl rfl Aa (dT h2) <| AR (Af 1) <| A3 rfl rfl Aa (dT h2) <| AR (Af 1) <| A3 rfl rfl Aa (dT h2) <| AR (Af 1) <| A3 rfl rfl Aa (dT h2) <| AT rfl (Bb Aa) <| A3 rfl rfl Aa (dT h2) <| AR (Af 1) <| A3 rfl rfl Aa (dT h2) <| AT rfl (AZ (k := l) Dd Aa Aa rfl (by omega)) <| A3 rfl rfl Aa (dT h2) <| AT rfl (AZ (k := o) De Aa Aa rfl (by omega)) <| A3 rfl rfl Aa (dT h2) <| AT rfl (Ak AF Aa (hX.place_cell (by omega : l < 6) (by omega : o < 6)).cell) <| A3 rfl rfl Aa (dT h2) <| AR (Af 1) <| A3 rfl rfl Aa (dF h1) <| AT rfl (Ar Aa (dT h2) Aa) <| AT rfl (As Aa (dF h1) Aa) ?_
  refine AR (Af 1) <| B0 <| Ab <| At <| Ap rfl Bd ?_
  show _ = _
  unfold strongerB; rw [if_neg (by omega)]; simp [outOf, h2]
 refine A6 rfl rfl Aa (.inl (congrArg Value.bool (dF h2))) rfl <| A6 rfl rfl Aa (.inl (congrArg Value.bool (dF h2))) rfl <| A6 rfl rfl Aa (.inl (congrArg Value.bool (dF h2))) rfl <| A6 rfl rfl Aa (.inl (congrArg Value.bool (dF h2))) rfl <| A6 rfl rfl Aa (.inl (congrArg Value.bool (dF h2))) rfl <| A6 rfl rfl Aa (.inl (congrArg Value.bool (dF h2))) rfl <| A6 rfl rfl Aa (.inl (congrArg Value.bool (dF h2))) rfl <| A6 rfl rfl Aa (.inl (congrArg Value.bool (dF h2))) rfl <| A6 rfl rfl Aa (.inl (congrArg Value.bool (dF h2))) rfl <| A6 rfl rfl Aa (.inl (congrArg Value.bool (dF h2))) rfl <| A6 rfl rfl Aa (.inl (congrArg Value.bool (dF h2))) rfl <| A6 rfl rfl Aa (.inl (congrArg Value.bool (dF h2))) rfl <| A6 rfl rfl Aa (.inl (congrArg Value.bool (dF h2))) rfl <| A6 rfl rfl Aa (.inl (congrArg Value.bool (dF h2))) rfl <| A6 rfl rfl Aa (.inl (congrArg Value.bool (dF h2))) rfl <| A6 rfl rfl Aa (.inl (congrArg Value.bool (dF h2))) rfl <| A6 rfl rfl Aa (.inl (congrArg Value.bool (dF h2))) rfl <| A3 rfl rfl Aa (dF h1) <| AT rfl (As Aa (dF h2) Aa) <| AT rfl (As Aa (dF h1) Aa) <| AR (Af 1) <| B0 <| Ab <| At ?_
 refine Ap rfl Bd ?_
 show _ = _
 unfold strongerB; rw [if_neg (by omega)]; simp [outOf, h1, h2]
theorem Kf {s : Sale} {l : Nat} {mem : Nat → Bool} (k : Nat) : -1 ≤ strongTo s l mem k ∧ strongTo s l mem k < k ∨ k = 0 ∧ strongTo s l mem k = -1 := by
 rcases EK (s := s) (l := l) (mem := mem) k with ⟨h, -⟩ | ⟨b, h1, -, h, -⟩ <;> omega
theorem Me {F : Heap} {b kb : Nat} {vs vb vl vn vd : Value} {s : Sale} (hX : AucX 161 F b vs vb vl vn vd kb s) (hv : ValidS s) {l : Nat} (hl : l < 6) {set : Nat} (hset : set < 64) : Ok Tryz.prog 79 [.pointer (some ⟨b, 0, none⟩), .int .i64 (l : Int), .int .i64 (set : Int)].toArray F fun r _ => r = .int .i64 (strongP s l set.testBit) := by
 refine Ok.intro Tryz.func79 rfl Tryz.ntmps79 rfl fun w0 => ?_
 have hL1 := hX.sale.bidders.plain.lt
 have hnb := hv.nb
 refine AD (Af 1) <| AD (Af 1) <| Ac <| Az (Af 1) fun ds => Ag rfl (Bb Aa) <| Aj (Af 2) <| Ag rfl (Ak Cd Aa (AA hX.blk rfl)) <| Ag rfl (A4 BB Aa hX.sale.bidders.plain) <| Aw (Af 1) <| Aq ?_
 refine AL [7, 8, 15, 16, 17, 18, 19, 20, 21, 22, 23, 24, 25, 26, 27, 28, 29, 30, 31] (fun m e σ => ∃ k : Nat, m + k = s.bidders.length ∧ Fct e 15 (.int .i64 (k : Int)) ∧ Fct e 7 (.int .i64 (strongTo s l set.testBit k)) ∧ σ = ⟨F, []⟩) (s.bidders.length) ?_ ?_
 · exact ⟨0, by omega, AX, AX, rfl⟩
 rintro m e _ ⟨k, hm9, hs15, hs7, rfl⟩; have hst := Kf (s := s) (l := l) (mem := set.testBit) k
 by_cases hlt : k < s.bidders.length
 ·have hk6 : k < 6 := by omega
  refine AD (Af 1) <| Ac <| Ai Aa (by first | rfl | exact dT (by omega)) ?_
  by_cases hm : set.testBit k = true
  ·refine Al <| Ab <| Ac <| Aq <| AD (Af 2) <| Az (Af 2) fun ds => Ag rfl (FM Aa Aa rfl (by show k < 64; omega) Dz) <| Ag rfl (HW Aa Aa (m := set / 2 ^ k) (k := 1) rfl rfl (by have := Nat.div_le_self set (2 ^ k); omega) (by omega) rfl) <| Aj (Af 2) <| Ae rfl rfl Aa (by rw [C9]; exact hm) <| Aj (Af 1) <| Ae rfl rfl Aa (by rw [C9]; exact hm) <| Aj (Af 1) <| Ae rfl rfl Aa (by rw [C9]; exact hm) <| Aj (Af 1) <| Ae rfl rfl Aa (by rw [C9]; exact hm) <| Aj (Af 1) <| Ae rfl rfl Aa (by rw [C9]; exact hm) <| AN rfl (Ay VJ Aa AW (Ke hX hv hl hk6 (by omega)) (fun _ _ h => h)) <| Ag rfl (Ar Aa (by rw [C9]; exact hm) Aa) <| Ao <| Ab ?_
   by_cases hs : strongerB s l k (strongTo s l set.testBit k) = true
   ·refine Ai Aa hs <| Am fun ds => Aj (Af 2) <| Ao <| A0 <| Ab <| Am fun ds => Ag rfl (AG Aa Aa rfl (by omega) (by omega)) <| Aj (Af 1) <| Ao ?_
    refine Ab ⟨_, m - 1, Off.eq (B3 rfl <| BM rfl <| BX rfl <| A2), by omega, ?_⟩
    exact ⟨k + 1, by omega, AX, by rw [CJ, show strongStep s l set.testBit _ k = k from if_pos ⟨hm, hs⟩]; exact AX, rfl⟩
   replace hs : strongerB s l k (strongTo s l set.testBit k) = false := by simpa using hs
   refine Ad Aa hs <| Al <| A0 <| Ab <| Am fun ds => Ag rfl (AG Aa Aa rfl (by omega) (by omega)) <| Aj (Af 1) <| Ao ?_
   refine Ab ⟨_, m - 1, Off.eq (B3 rfl <| BX rfl <| A2), by omega, ?_⟩
   exact ⟨k + 1, by omega, AX, by rw [CJ, show strongStep s l set.testBit _ k = _ from if_neg fun h => by rw [hs] at h; exact absurd h.2 (by decide)]; exact AX, rfl⟩
  refine Al <| Ab <| Ac <| Aq <| AD (Af 2) <| Az (Af 2) fun ds => Ag rfl (FM Aa Aa rfl (by show k < 64; omega) Dz) <| Ag rfl (HW Aa Aa (m := set / 2 ^ k) (k := 1) rfl rfl (by have := Nat.div_le_self set (2 ^ k); omega) (by omega) rfl) <| Aj (Af 2) <| Ah rfl rfl Aa (.inl (congrArg Value.bool (by rw [C9]; simpa using hm))) rfl <| Ah rfl rfl Aa (.inl (congrArg Value.bool (by rw [C9]; simpa using hm))) rfl <| Ah rfl rfl Aa (.inl (congrArg Value.bool (by rw [C9]; simpa using hm))) rfl <| Ah rfl rfl Aa (.inl (congrArg Value.bool (by rw [C9]; simpa using hm))) rfl <| Ah rfl rfl Aa (.inl (congrArg Value.bool (by rw [C9]; simpa using hm))) rfl <| Ag rfl (As Aa (by rw [C9]; simpa using hm) Aa) <| Ao <| Ab <| Ad Aa rfl <| Al <| A0 <| Ab <| Am fun ds => Ag rfl (AG Aa Aa rfl (by omega) (by omega)) <| Aj (Af 1) <| Ao ?_
  refine Ab ⟨_, m - 1, Off.eq (B3 rfl <| BX rfl <| A2), by omega, ?_⟩
  exact ⟨k + 1, by omega, AX, by rw [CJ, show strongStep s l set.testBit _ k = _ from if_neg fun h => hm h.1]; exact AX, rfl⟩
 refine AD (Af 1) <| Ac <| Ad Aa (by first | rfl | exact dF (by omega)) ?_
 obtain rfl : k = s.bidders.length := by omega
 refine AH ?_
 refine A8 <| A8 <| AB <| Ab <| AD (Af 2) <| At <| Ap rfl Bd ?_
 rfl
theorem GQ {F : Heap} {b kb : Nat} {vs vb vl vn vd : Value} {s : Sale} (hX : AucX 161 F b vs vb vl vn vd kb s) (hv : ValidS s) {l : Nat} (hl : l < 6)  : Ok Tryz.prog 79 [.pointer (some ⟨b, 0, none⟩), .int .i64 (l : Int), .int .i64 (-1)].toArray F fun r _ => r = .int .i64 (strongP s l (fun _ => true)) := by
 refine Ok.intro Tryz.func79 rfl Tryz.ntmps79 rfl fun w0 => ?_
 have hL1 := hX.sale.bidders.plain.lt
 have hnb := hv.nb
 refine AD (Af 1) <| AD (Af 1) <| Ac <| Az (Af 1) fun ds => Ag rfl (Bb Aa) <| Aj (Af 2) <| Ag rfl (Ak Cd Aa (AA hX.blk rfl)) <| Ag rfl (A4 BB Aa hX.sale.bidders.plain) <| Aw (Af 1) <| Aq ?_
 refine AL [7, 8, 15, 16, 17, 18, 19, 20, 21, 22, 23, 24, 25, 26, 27, 28, 29, 30, 31] (fun m e σ => ∃ k : Nat, m + k = s.bidders.length ∧ Fct e 15 (.int .i64 (k : Int)) ∧ Fct e 7 (.int .i64 (strongTo s l (fun _ => true) k)) ∧ σ = ⟨F, []⟩) (s.bidders.length) ?_ ?_
 · exact ⟨0, by omega, AX, AX, rfl⟩
 rintro m e _ ⟨k, hm9, hs15, hs7, rfl⟩; have hst := Kf (s := s) (l := l) (mem := (fun _ => true)) k
 by_cases hlt : k < s.bidders.length
 ·have hk6 : k < 6 := by omega
  refine AD (Af 1) <| Ac <| Ai Aa (by first | rfl | exact dT (by omega)) <| Al <| Ab <| Ac <| Aq <| AD (Af 2) <| Az (Af 2) fun ds => Ag rfl (FM Aa Aa rfl (by show k < 64; omega) neg_shr) <| Ag rfl (q_andm1 Aa Aa) <| Aj (Af 2) <| Ae rfl rfl Aa (by rfl) <| Aj (Af 1) <| Ae rfl rfl Aa (by rfl) <| Aj (Af 1) <| Ae rfl rfl Aa (by rfl) <| Aj (Af 1) <| Ae rfl rfl Aa (by rfl) <| Aj (Af 1) <| Ae rfl rfl Aa (by rfl) <| AN rfl (Ay VJ Aa AW (Ke hX hv hl hk6 (by omega)) (fun _ _ h => h)) <| Ag rfl (Ar Aa (by rfl) Aa) <| Ao <| Ab ?_
  by_cases hs : strongerB s l k (strongTo s l (fun _ => true) k) = true
  ·refine Ai Aa hs <| Am fun ds => Aj (Af 2) <| Ao <| A0 <| Ab <| Am fun ds => Ag rfl (AG Aa Aa rfl (by omega) (by omega)) <| Aj (Af 1) <| Ao ?_
   refine Ab ⟨_, m - 1, Off.eq (B3 rfl <| BM rfl <| BX rfl <| A2), by omega, ?_⟩
   exact ⟨k + 1, by omega, AX, by rw [CJ, show strongStep s l (fun _ => true) _ k = k from if_pos ⟨rfl, hs⟩]; exact AX, rfl⟩
  replace hs : strongerB s l k (strongTo s l (fun _ => true) k) = false := by simpa using hs
  refine Ad Aa hs <| Al <| A0 <| Ab <| Am fun ds => Ag rfl (AG Aa Aa rfl (by omega) (by omega)) <| Aj (Af 1) <| Ao ?_
  refine Ab ⟨_, m - 1, Off.eq (B3 rfl <| BX rfl <| A2), by omega, ?_⟩
  exact ⟨k + 1, by omega, AX, by rw [CJ, show strongStep s l (fun _ => true) _ k = _ from if_neg fun h => by rw [hs] at h; exact absurd h.2 (by decide)]; exact AX, rfl⟩
 refine AD (Af 1) <| Ac <| Ad Aa (by first | rfl | exact dF (by omega)) ?_
 obtain rfl : k = s.bidders.length := by omega
 refine AH ?_
 refine A8 <| A8 <| AB <| Ab <| AD (Af 2) <| At <| Ap rfl Bd ?_
 rfl
theorem RP {s : Sale} (hv : ValidS s) {k : Nat} (h : k < s.steps.length) : 0 ≤ s.steps[k].from_ ∧ s.steps[k].from_ ≤ 100000 := by
 rw [Fw h]
 refine ⟨OV hv h, ?_⟩
 rcases Nat.eq_zero_or_pos k with rfl | h0
 · have := hv.st0; omega
 exact (hv.st k h0 h).2
theorem Uk {F : Heap} {b kb : Nat} {vs vb vl vn vd : Value} {s : Sale} (hX : AucX 161 F b vs vb vl vn vd kb s) (hv : ValidS s) {p0 others most : Int} (h0 : 0 ≤ p0) (hp0 : p0 ≤ 100000) (ho : 0 ≤ others) (ho2 : others ≤ 100000) (hm0 : 0 ≤ most) (hm2 : most ≤ 100000) : Ok Tryz.prog 80 [.pointer (some ⟨b, 0, none⟩), .int .i64 p0, .int .i64 others, .int .i64 most].toArray F fun r _ => r = .int .i64 (climbS s p0 others most) := by
 refine Ok.intro Tryz.func80 rfl Tryz.ntmps80 rfl fun w0 => ?_
 have hL1 := hX.sale.steps.plain.lt
 refine AD (Af 1) <| Ma <| Ac <| Mc <| Ab <| Ac <| Aq ?_
 refine AL [1, 9, 10, 11, 13, 14, 15, 16, 17, 18, 19, 20, 21, 22, 23, 24, 25, 26, 27, 28, 29, 30, 31, 32, 33, 34, 35, 36, 37, 38, 39, 40, 41, 42, 43, 44, 45, 46, 47, 48, 49, 50, 51, 52, 53, 54, 55, 56, 57, 58, 59, 60, 61, 62, 63, 64, 65] (fun m e σ => ∃ p : Int, (others + 1 - p).toNat ≤ m ∧ 0 ≤ p ∧ Fct e 1 (.int .i64 p) ∧ climbS s p others most = climbS s p0 others most ∧ p ≤ 200000 ∧ σ = ⟨F, []⟩) ((others + 1 - p0).toNat) ?_ ?_
 · exact ⟨p0, Nat.le_refl _, h0, AX, rfl, by omega, rfl⟩
 rintro m e _ ⟨p, hm, hp, hs1, hcl, hp2, rfl⟩
 by_cases h1 : p ≤ others
 ·refine Ac <| AD (Af 3) <| Ai Aa (by first | rfl | exact dT (by omega)) ?_
  by_cases h2 : behindS s p ≤ most
  ·refine Al <| Ab <| Aq <| Az (Af 2) fun ds => AN rfl (Ay V1 Aa AW (JQ hX hv hp (by omega)) (fun _ _ h => h)) <| Aw (Af 1) <| Ac <| AD (Af 3) <| Ad Aa (dF (by omega)) ?_
   have hbb := EF hv hp
   have hbs : behindS s p = p + behindBy s.steps p := rfl
   refine Al <| Ab <| Az (Af 2) fun ds => Ag rfl (B4 Aa Aa (show behindS s p - p = behindBy s.steps p by omega) (by omega) (by omega)) <| Aw (Af 1) <| AD (Af 2) <| Ac <| Az (Af 1) fun ds => Ag rfl (Bb Aa) <| Aj (Af 2) <| Ag rfl (Ak Ht Aa (AA hX.blk rfl)) <| Ag rfl (A4 CQ Aa hX.sale.steps.plain) <| Aw (Af 1) <| Aq ?_
   refine AL [11, 13, 34, 35, 36, 37, 38, 39, 40, 41, 42, 43, 44, 45, 46, 47] (fun m e σ => ∃ k : Nat, m + k = s.steps.length ∧ Fct e 34 (.int .i64 (k : Int)) ∧ Fct e 11 (.int .i64 (endTo s p others k)) ∧ σ = ⟨F, []⟩) (s.steps.length) ?_ ?_
   · exact ⟨0, by omega, AX, AX, rfl⟩
   rintro m2 e2 _ ⟨k, hm2, ht34, ht11, rfl⟩; have hsp := H6 (s := s) h1 k (by omega)
   by_cases hlt : k < s.steps.length
   ·have hfr := RP hv hlt
    refine AD (Af 1) <| Ac <| Ai Aa (by first | rfl | exact dT (by omega)) ?_
    by_cases hf : p < s.steps[k].from_
    ·refine Al <| Ab <| Ac <| Aq <| Ac <| Am fun ds => Ag rfl (A1  CQ Aa hX.sale.steps.plain Aa rfl hlt) <| Ag rfl (AC FG Aa rfl rfl (hX.sale.steps.whole hlt)) <| A5 rfl <| AO GP rfl fun b3 hb3 nb3 => AS <| AP Kc Aa Aa (i := 0) rfl rfl rfl rfl Stp.enc_one (.here) <| Ao <| Ab <| AD (Af 4) <| Ai Aa (dT hf) <| Am fun ds => Aj (Af 3) <| Ag rfl (B4 Aa Aa rfl (by omega) (by omega)) <| Aj (Af 2) <| Ao <| A0 <| Ab <| Bn (fun _ _ h => h.drop (kD <| .refl _)) <| Am fun ds => Ag rfl (AG Aa Aa rfl (by omega) (by omega)) <| Aj (Af 1) <| Ao ?_
     refine Ab ⟨_, m2 - 1, Off.eq (B3 rfl <| A2), by omega, ?_⟩
     exact ⟨k + 1, by omega, AX, by rw [H5 hlt, show endStep p _ _ = _ from if_pos hf]; exact AX, rfl⟩
    refine Al <| Ab <| Ac <| Aq <| Ac <| Am fun ds => Ag rfl (A1  CQ Aa hX.sale.steps.plain Aa rfl hlt) <| Ag rfl (AC FG Aa rfl rfl (hX.sale.steps.whole hlt)) <| A5 rfl <| AO GP rfl fun b4 hb4 nb4 => AS <| AP Kc Aa Aa (i := 0) rfl rfl rfl rfl Stp.enc_one (.here) <| Ao <| Ab <| AD (Af 4) <| Ad Aa (dF hf) <| Al <| A0 <| Ab <| Bn (fun _ _ h => h.drop (kD <| .refl _)) <| Am fun ds => Ag rfl (AG Aa Aa rfl (by omega) (by omega)) <| Aj (Af 1) <| Ao ?_
    refine Ab ⟨_, m2 - 1, Off.eq (BR rfl <| BM rfl <| A2), by omega, ?_⟩
    exact ⟨k + 1, by omega, AX, by rw [H5 hlt, show endStep p _ _ = _ from if_neg hf]; exact AX, rfl⟩
   refine AD (Af 1) <| Ac <| Ad Aa (by first | rfl | exact dF (by omega)) ?_
   obtain rfl : k = s.steps.length := by omega
   have hlb := Lx (e := endTo s p others s.steps.length) hbb.1 hsp.2.1 h2
   have hmul : 1 * behindBy s.steps p ≤ leapN (endTo s p others s.steps.length) p (behindBy s.steps p) most * behindBy s.steps p := Int.mul_le_mul_of_nonneg_right hlb.1 (by omega)
   have hed := Int.ediv_le_self (behindBy s.steps p) (show 0 ≤ endTo s p others s.steps.length - p by omega)
   have hed0 := Int.ediv_nonneg (show 0 ≤ endTo s p others s.steps.length - p by omega) (show 0 ≤ behindBy s.steps p by omega)
   refine AH ?_
   refine A8 <| A8 <| AB <| Ab <| Ac <| Bs (.inl rfl) (fun _ _ h => h) (by kernel_rfl) (by kernel_rfl) fun ds => AR (Af 2) <| AT rfl (B4 Aa Aa rfl (by omega) (by omega)) <| AR (Af 1) <| AT rfl (Mw Aa Aa (by omega) (by omega) (by omega)) <| AT rfl (AG Aa Aa rfl (by omega) (by omega)) <| AR (Af 2) <| AT rfl (B4 Aa Aa rfl (by omega) (by omega)) <| AR (Af 1) <| AT rfl (Mw Aa Aa (by omega) (by omega) (by omega)) <| AR (Af 3) <| B0 <| Ab <| Am fun ds => Aj (Af 3) <| Ag rfl (Mx Aa Aa (show leapN (endTo s p others s.steps.length) p (behindBy s.steps p) most * behindBy s.steps p = leapN (endTo s p others s.steps.length) p (behindBy s.steps p) most * behindBy s.steps p from rfl) (by omega) (by omega)) <| Ag rfl (AG Aa Aa rfl (by omega) (by omega)) <| Aj (Af 1) <| Ao <| A0 ?_
   refine Ab ⟨_, m - 1, Off.eq (B3 rfl <| Ca rfl <| BX rfl <| Cg rfl <| B3 rfl <| Ca rfl <| BM rfl <| BX rfl <| A2), by omega, ?_⟩
   refine ⟨p + leapN (endTo s p others s.steps.length) p (behindBy s.steps p) most * behindBy s.steps p, by omega, by omega, AX, ?_, by omega, rfl⟩
   rw [← Qu hv hp h1 h2]; exact hcl
  refine Al <| Ab <| Aq <| Az (Af 2) fun ds => AN rfl (Ay V1 Aa AW (JQ hX hv hp (by omega)) (fun _ _ h => h)) <| Aw (Af 1) <| Ac <| AD (Af 3) <| Ai Aa (dT (by omega)) <| AH ?_
  refine A8 (JM rfl (A8 (AB ?_)))
  refine Ab <| AD (Af 2) <| At <| KA <| Ap rfl Bd ?_
  show _ = _
  rw [← hcl, CX (fun h => h2 h.2)]; rfl
 refine Ac <| AD (Af 3) <| Ad Aa (by first | rfl | exact dF (by omega)) <| AH ?_
 refine A8 <| A8 <| AB <| Ab <| AD (Af 2) <| At <| KA <| Ap rfl Bd ?_
 show _ = _
 rw [← hcl, CX (fun h => h1 h.1)]; rfl
end
section
open Go.RowKit
theorem Sh {s : Sale} {ring : List Int} (h : (ring.any fun z => !(inB 0 (s.bidders.length - 1) z)) = true) : ringErr s ring = 4 := if_pos h
theorem Sj {s : Sale} {ring : List Int} (h : (ring.any fun z => !(inB 0 (s.bidders.length - 1) z)) = false) (h2 : notAsc ring = true) : ringErr s ring = 2 := by unfold ringErr; rw [if_neg (by rw [h]; decide), if_pos h2]
theorem Si {s : Sale} {ring : List Int} (h : (ring.any fun z => !(inB 0 (s.bidders.length - 1) z)) = false) (h2 : notAsc ring = false) (h3 : ring.length = 1) : ringErr s ring = 3 := by unfold ringErr; rw [if_neg (by rw [h]; decide), if_neg (by rw [h2]; decide), if_pos h3]
theorem Sk {s : Sale} {ring : List Int} (h : (ring.any fun z => !(inB 0 (s.bidders.length - 1) z)) = false) (h2 : notAsc ring = false) (h3 : ¬ ring.length = 1) : ringErr s ring = 0 := by unfold ringErr; rw [if_neg (by rw [h]; decide), if_neg (by rw [h2]; decide), if_neg h3]
theorem La {s : Sale} {ring : List Int} (h : ringErr s ring = 0) : (ring.any fun z => !(inB 0 (s.bidders.length - 1) z)) = false ∧ notAsc ring = false ∧ ¬ ring.length = 1 := by
 unfold ringErr at h
 split at h
 · cases h
 rename_i h1
 split at h
 · cases h
 rename_i h2
 split at h
 · cases h
 rename_i h3; exact ⟨by simpa using h1, by simpa using h2, h3⟩
end
section
open Go.RowKit
theorem FR : ZeroT Tryz.prog 57 (.agg #[.int .i64 0, .int .i64 0]) := Br (by kernel_rfl)
theorem Do : AggT Tryz.prog 57 2 := Cu (by kernel_rfl)
instance : AggI Tryz.prog 57 2 := ⟨Do⟩
theorem Pr : BuildT Tryz.prog 57 [.int .i64 0, .int .i64 0] [(0, 1), (1, 1)] := BD FR (by kernel_rfl) (by decide)
theorem Di : ElemT Tryz.prog 3 1 8 (.int .i64 0) := D6 (by kernel_rfl) rfl (by decide)
theorem Oq : SizeT Tryz.prog 57 2 := Bx (by kernel_rfl)
theorem JG {s : Sale} (hv : ValidS s) {l : Nat} (h : l < s.lots.length) : s.lots[l] = s.lot l ∧ 1 ≤ (s.lot l).reserve ∧ (s.lot l).reserve ≤ 100000 ∧ 0 ≤ (s.lot l).seller ∧ (s.lot l).seller < s.sellers.length := by
 have := hv.lo l h
 exact ⟨Hw h, this.2.2.1, this.2.2.2, this.1, this.2.1⟩
end
section
open Go.RowKit
theorem Vb : ElemT Tryz.prog 57 2 16 (.agg #[.int .i64 0, .int .i64 0]) := D6 (by kernel_rfl) rfl (by decide)
theorem BQ : SliceT Tryz.prog 48 57 2 := Ci (by kernel_rfl)
instance : SliceI Tryz.prog 48 := ⟨_, _, BQ⟩
theorem Sy {s : Sale} {p : Int} (h : (checkS s).2.2 ≠ 0) : nextE s p = (0, (checkS s).2.2) := if_pos h
theorem OG {s : Sale} {p : Int} (h : (checkS s).2.2 = 0) (h2 : inB 0 100000 p = false) : nextE s p = (0, 7) := by unfold nextE; rw [if_neg (fun k => k h), if_pos h2]
theorem Uw {s : Sale} {p : Int} (h : (checkS s).2.2 = 0) (h2 : inB 0 100000 p = true) : nextE s p = (behindS s p, 0) := by unfold nextE; rw [if_neg (fun k => k h), if_neg (by rw [h2]; decide)]
theorem GH {lo hi z : Int} (h : inB lo hi z = true) : lo ≤ z ∧ z ≤ hi := by simpa [inB] using h
theorem LH {s : Sale} {ring : List Int} (h : (checkS s).2.2 ≠ 0) : enterErr s ring = (checkS s).2.2 := if_pos h
theorem Ea {s : Sale} {ring : List Int} (h : (checkS s).2.2 = 0) : enterErr s ring = ringErr s ring := if_neg (fun k => k h)
theorem Fk {s : Sale} {ring : List Int} (h : enterErr s ring = 0) : (checkS s).2.2 = 0 ∧ ringErr s ring = 0 := by
 by_cases h0 : (checkS s).2.2 = 0
 · rw [Ea h0] at h; exact ⟨h0, h⟩
 rw [LH h0] at h; exact absurd h h0
def sellE (s : Sale) (ring : List Int) : List Res × Int := if enterErr s ring ≠ 0 then ([], enterErr s ring) else (allS s ring, 0)
theorem RV {s : Sale} {ring : List Int} {e : Int} (h : enterErr s ring = e) (he : e ≠ 0) : sellE s ring = ([], e) := by subst h; exact if_pos he
theorem Ov {s : Sale} {ring : List Int} (h : enterErr s ring = 0) : sellE s ring = (allS s ring, 0) := if_neg (fun k => k h)
def SellR (F : Heap) (u : Value) (p : List Res × Int) : Prop := ∃ v, u = .tuple #[v, .int .i64 p.2] ∧ Sl F v 2 Res.enc p.1
theorem SellR.mono {F F' : Heap} {u : Value} {p : List Res × Int} (h : SellR F u p) (hF : F.le F') : SellR F' u p := by obtain ⟨v, h1, h2⟩ := h; exact ⟨v, h1, h2.mono hF⟩
end
section
set_option maxRecDepth 100000
open Go.RowKit
theorem zr_161 : ZeroT Tryz.prog 161 (.agg #[.slice none 0 0, .int .i64 0, .int .i64 0, .int .i64 0, .slice none 0 0, .slice none 0 0, .slice none 0 0, .slice none 0 0, .int .i64 0, .int .i64 0, .int .i64 0, .int .i64 0, .int .i64 0, .int .i64 0, .int .i64 0, .int .i64 0, .int .i64 0, .int .i64 0, .int .i64 0, .int .i64 0, .int .i64 0, .int .i64 0, .int .i64 0, .int .i64 0, .int .i64 0, .int .i64 0, .int .i64 0, .int .i64 0, .int .i64 0, .int .i64 0, .int .i64 0, .int .i64 0, .int .i64 0, .int .i64 0, .int .i64 0, .int .i64 0, .int .i64 0, .int .i64 0, .int .i64 0, .int .i64 0, .int .i64 0, .int .i64 0, .int .i64 0, .int .i64 0, .int .i64 0, .int .i64 0, .int .i64 0, .int .i64 0, .int .i64 0, .int .i64 0, .int .i64 0, .int .i64 0, .int .i64 0, .int .i64 0, .int .i64 0, .int .i64 0, .int .i64 0, .int .i64 0, .int .i64 0, .int .i64 0, .int .i64 0, .int .i64 0, .int .i64 0, .int .i64 0, .int .i64 0, .int .i64 0, .int .i64 0, .int .i64 0, .int .i64 0, .int .i64 0, .int .i64 0, .int .i64 0, .int .i64 0, .int .i64 0, .int .i64 0, .int .i64 0, .int .i64 0, .int .i64 0, .int .i64 0, .int .i64 0, .map none]) := Br (by kernel_rfl)
theorem bd_97 : Body Tryz.prog 97 := AE (by kernel_rfl)
theorem K3 : Body Tryz.prog 66 := AE (by kernel_rfl)
theorem bt_161 : BuildT Tryz.prog 161 [.slice none 0 0, .int .i64 0, .int .i64 0, .int .i64 0, .slice none 0 0, .slice none 0 0, .slice none 0 0, .slice none 0 0, .int .i64 0, .int .i64 0, .int .i64 0, .int .i64 0, .int .i64 0, .int .i64 0, .int .i64 0, .int .i64 0, .int .i64 0, .int .i64 0, .int .i64 0, .int .i64 0, .int .i64 0, .int .i64 0, .int .i64 0, .int .i64 0, .int .i64 0, .int .i64 0, .int .i64 0, .int .i64 0, .int .i64 0, .int .i64 0, .int .i64 0, .int .i64 0, .int .i64 0, .int .i64 0, .int .i64 0, .int .i64 0, .int .i64 0, .int .i64 0, .int .i64 0, .int .i64 0, .int .i64 0, .int .i64 0, .int .i64 0, .int .i64 0, .int .i64 0, .int .i64 0, .int .i64 0, .int .i64 0, .int .i64 0, .int .i64 0, .int .i64 0, .int .i64 0, .int .i64 0, .int .i64 0, .int .i64 0, .int .i64 0, .int .i64 0, .int .i64 0, .int .i64 0, .int .i64 0, .int .i64 0, .int .i64 0, .int .i64 0, .int .i64 0, .int .i64 0, .int .i64 0, .int .i64 0, .int .i64 0, .int .i64 0, .int .i64 0, .int .i64 0, .int .i64 0, .int .i64 0, .int .i64 0, .int .i64 0, .int .i64 0, .int .i64 0, .int .i64 0, .int .i64 0, .int .i64 0, .map none] [(0, 8), (8, 36), (44, 36), (80, 1)] := BD zr_161 (by kernel_rfl) (by decide)
theorem DA : SizeT Tryz.prog 3 1 := Bx (by kernel_rfl)
theorem JE {s : Sale} {k : Nat} : (mosts s k).length = 36 := BA
theorem Ll {s : Sale} {k : Nat} : (places s k).length = 36 := BA
def LookR (F : Heap) (u : Value) (Hn : List (Nat × Obj)) (vs vb vl vn vd : Value) (s : Sale) : Prop := ∃ b kb, u = .tuple #[.pointer (some ⟨b, 0, none⟩), .int .i64 0] ∧ AucX 161 F b vs vb vl vn vd kb s ∧ Hn = [(kb, mapO [])]
theorem Ja {F : Heap} {vs vb vl vn vd : Value} {s : Sale} (hr : SaleR F vs vb vl vn vd s) (hv : ValidS s) (h0 : (checkS s).2.2 = 0) : OkN Tryz.prog 66 [.agg #[vs, .int .i64 s.premium, .int .i64 s.fee, .int .i64 s.days, vb, vl, vn, vd]].toArray F fun u F' Hn => LookR F' u Hn vs vb vl vn vd s := by
 refine OkN.intro Tryz.func66 rfl Tryz.ntmps66 rfl fun w0 => ?_
 have hnb := hv.nb
 have hnl := hv.nl
 have hnd := hv.nd
 have hL1 := hr.bids.plain.lt
 have hL2 := hr.bidders.plain.lt
 have hL3 := hr.lots.plain.lt
 refine Ac <| Am fun ds => A5 rfl <| Bg Aa rfl fun b1 hb1 nb1 => Aw (Af 2) <| Ac <| Az (Af 1) fun ds => AN rfl (Ay bd_97 Aa AW (MW hr) (fun _ _ h => h)) <| Aw (Af 7) <| AD (Af 2) <| Ad Aa (dF (fun h => h h0)) <| Al <| Ab <| Az (Af 1) fun ds => A5 rfl <| Fa fun b2 hb2 nb2 => Ag rfl (Bm bt_161 (.cons Aa rfl (.cons Aa rfl .nil)) (.cons rfl rfl (Nat.le_of_ble_eq_true rfl) (.cons (.here) (.cons (.next <| .here) (.cons (.next <| .next <| .here) (.cons (.next <| .next <| .next <| .here) (.cons (.next <| .next <| .next <| .next <| .here) (.cons (.next <| .next <| .next <| .next <| .next <| .here) (.cons (.next <| .next <| .next <| .next <| .next <| .next <| .here) (.cons (.next <| .next <| .next <| .next <| .next <| .next <| .next <| .here) .nil)))))))) (.cons rfl rfl (Nat.le_of_ble_eq_true rfl) (.cons (.next <| .next <| .next <| .next <| .next <| .next <| .next <| .next <| .next <| .next <| .next <| .next <| .next <| .next <| .next <| .next <| .next <| .next <| .next <| .next <| .next <| .next <| .next <| .next <| .next <| .next <| .next <| .next <| .next <| .next <| .next <| .next <| .next <| .next <| .next <| .next <| .next <| .next <| .next <| .next <| .next <| .next <| .next <| .next <| .next <| .next <| .next <| .next <| .next <| .next <| .next <| .next <| .next <| .next <| .next <| .next <| .next <| .next <| .next <| .next <| .next <| .next <| .next <| .next <| .next <| .next <| .next <| .next <| .next <| .next <| .next <| .next <| .next <| .next <| .next <| .next <| .next <| .next <| .next <| .next <| .here) .nil) .nil))) ?_
 refine A5 rfl <| Bg Aa rfl fun b3 hb3 nb3 => Aw (Af 1) <| Ac <| Az (Af 2) fun ds => Ag rfl (A4 CT Aa hr.bids.plain) <| Aw (Af 1) <| Aq ?_
 refine AL [8, 9, 26, 27, 28, 29, 30, 31, 32, 33, 34, 35, 36, 37, 38, 39, 40, 41, 42, 43, 44, 45, 46, 47, 48, 49, 50, 51, 52, 53] (fun m e σ => ∃ k : Nat, m + k = s.bids.length ∧ Fct e 26 (.int .i64 (k : Int)) ∧ σ = ⟨F, [(b3, bx 161 (aucCells s vs vb vl vn vd (mosts s k) (places s k) (.map (some b2)))), (b2, mapO []), (b1, bx 33 [vs, .int .i64 s.premium, .int .i64 s.fee, .int .i64 s.days, vb, vl, vn, vd])]⟩) (s.bids.length) ?_ ?_
 · (refine ⟨0, by omega, AX, ?_⟩; rw [PU, O8]; rfl)
 rintro m e _ ⟨k, hm9, hs26, rfl⟩
 by_cases hlt : k < s.bids.length
 ·have hbd := hv.bd k hlt
  obtain ⟨l, hl⟩ := Int.eq_ofNat_of_zero_le hbd.2.2.1
  obtain ⟨c, hc⟩ := Int.eq_ofNat_of_zero_le hbd.1
  have hl6 : l < 6 := by omega
  have hc6 : c < 6 := by omega
  refine AD (Af 1) <| Ac <| Ai Aa (by first | rfl | exact dT (by omega)) <| Al <| Ab <| Ac <| Aq <| Az (Af 1) fun ds => Ag rfl (A1  CT Aa hr.bids.plain Aa rfl hlt) <| Ag rfl (AC Ep Aa rfl rfl (hr.bids.whole hlt)) <| A5 rfl <| AO FS rfl fun b5 hb5 nb5 => Aj (Af 1) <| AS <| AP J7 Aa Aa (i := 0) rfl rfl rfl rfl Bid.enc_one (.here) <| Ao <| Ab <| BO (.inl rfl) (fun _ _ h => h) (kK <| kD <| kK <| kK <| .refl _) [23] (by kernel_rfl) fun ds => Au 0 rfl (kK <| kD <| kK <| kK <| .refl _) (AI Aa) <| Au 1 rfl (kK <| kD <| kK <| kK <| .refl _) (AV LA Aa) <| Au 2 rfl (kK <| kD <| kK <| kK <| .refl _) (Ak AF Aa (Cell.own 0 rfl rfl)) <| Au 3 rfl (kK <| kD <| kK <| kK <| .refl _) (AV LB Aa) <| Au 4 rfl (kK <| kD <| kK <| kK <| .refl _) (Ak AF Aa (Cell.own 0 rfl rfl)) ?_
  refine Au 5 rfl (kK <| kD <| kK <| kK <| .refl _) (AI Aa) <| Au 6 rfl (kK <| kD <| kK <| kK <| .refl _) (AV LA Aa) <| Au 7 rfl (kK <| kD <| kK <| kK <| .refl _) (Ak AF Aa (Cell.own 0 rfl rfl)) <| Au 8 rfl (kK <| kD <| kK <| kK <| .refl _) (AV LB Aa) <| Au 9 rfl (kK <| kD <| kK <| kK <| .refl _) (Ak AF Aa (Cell.own 0 rfl rfl)) <| Au 10 rfl (kK <| kD <| kK <| kK <| .refl _) (AV OZ Aa) <| Au 11 rfl (kK <| kD <| kK <| kK <| .refl _) (Ak AF Aa (Cell.own 0 rfl rfl)) ?_
  refine Au 12 rfl (kK <| kD <| kK <| kK <| .refl _) (AI Aa) <| Au 13 rfl (kK <| kD <| kK <| kK <| .refl _) (AG Aa Aa rfl (by omega) (by omega)) <| Au 14 rfl (kK <| kD <| kK <| kK <| .refl _) (Bb Aa) <| Au 15 rfl (kK <| kD <| kK <| kK <| .refl _) (AV L7 Aa) <| Au 16 rfl (kK <| kD <| kK <| kK <| .refl _) (AZ (k := l) Dd Aa Aa (by rw [Gv hlt]; exact hl) hl6) <| Au 17 rfl (kK <| kD <| kK <| kK <| .refl _) (AZ (k := c) De Aa Aa (by rw [Gv hlt]; exact hc) hc6) <| Au 19 rfl (kK <| kD <| kK <| kK <| .refl _) (Bb Aa) ?_
  refine Au 20 rfl (kK <| kD <| kK <| kK <| .refl _) (AV OY Aa) <| Au 21 rfl (kK <| kD <| kK <| kK <| .refl _) (AZ (k := l) Dd Aa Aa (by rw [Gv hlt]; exact hl) hl6) ?_
  refine Eg 18 rfl (by kernel_rfl) (Df DA Aa rfl Aa (i := 1) rfl (by simp only [FN JE Ll]; omega) rfl (.next <| .here) ⟨fun _ _ => (fun _ h => h.drop (kK <| kD <| kK <| kK <| .refl _)), ?_⟩)
  refine Au 22 rfl (kK <| kD <| kK <| kK <| .refl _) (AZ (k := c) De Aa Aa (by rw [Gv hlt]; exact hc) hc6) ?_
  refine Eg 23 rfl (by kernel_rfl) (Df DA Aa rfl Aa (i := 1) rfl (by simp only [List.length_set, FN JE Ll]; omega) rfl (.next <| .here) ⟨(fun h => nomatch h), ?_⟩)
  refine BC (by kernel_rfl) ?_ _
  refine A0 <| Ab <| Bn (fun _ _ h => h.drop (kD <| kK <| kK <| kK <| .refl _)) <| Am fun ds => Ag rfl (AG Aa Aa rfl (by omega) (by omega)) <| Aj (Af 1) <| Ao ?_
  refine Ab ⟨_, m - 1, Off.eq (B3 rfl <| BR rfl <| Ca rfl <| BM rfl <| A2), by omega, ?_⟩
  refine ⟨k + 1, by omega, AX, ?_⟩
  rw [← VQ JE hl6 hc6 hl hc, ← VR hl6 hc6 hl hc, ← Gv hlt]
 refine AD (Af 1) <| Ac <| Ad Aa (by first | rfl | exact dF (by omega)) ?_
 obtain rfl : k = s.bids.length := by omega
 refine AH ?_
 refine A8 <| A8 <| AB <| Ab <| Ac <| AK (i := 0) rfl hb3 (.here) fun F6 hF7 hz => ?_
 replace hr := hr.mono hF7
 refine Am fun ds => Aw (Af 3) <| At <| BK rfl Bd (kK <| kD <| .refl _) ?_
 exact ⟨_, _, rfl, ⟨hr, hz⟩, rfl⟩
theorem Ls {F : Heap} {vs vb vl vn vd : Value} {s : Sale} (hr : SaleR F vs vb vl vn vd s) (h0 : (checkS s).2.2 ≠ 0) : Ok Tryz.prog 66 [.agg #[vs, .int .i64 s.premium, .int .i64 s.fee, .int .i64 s.days, vb, vl, vn, vd]].toArray F fun u _ => u = .tuple #[.pointer none, .int .i64 (checkS s).2.2] := by
 refine Ok.intro Tryz.func66 rfl Tryz.ntmps66 rfl fun w0 => Ac <| Am fun ds => A5 rfl <| Bg Aa rfl fun b1 hb1 nb1 => Aw (Af 2) <| Ac <| Az (Af 1) fun ds => AN rfl (Ay bd_97 Aa AW (MW hr) (fun _ _ h => h)) <| Aw (Af 7) <| AD (Af 2) <| Ai Aa (dT h0) <| AD (Af 3) <| At <| Ax <| Ap rfl Bd ?_
 rfl
theorem next_ok {F : Heap} {vs vb vl vn vd : Value} {s : Sale} (hr : SaleR F vs vb vl vn vd s) (p : Int) : Ok Tryz.prog 33 [.agg #[vs, .int .i64 s.premium, .int .i64 s.fee, .int .i64 s.days, vb, vl, vn, vd], .int .i64 p].toArray F fun u _ => u = .tuple #[.int .i64 (nextE s p).1, .int .i64 (nextE s p).2] := by
 refine Ok.intro Tryz.func33 rfl Tryz.ntmps33 rfl fun w0 => ?_
 by_cases h0 : (checkS s).2.2 = 0
 ·refine Ac <| Am fun ds => A5 rfl <| Bg Aa rfl fun b1 hb1 nb1 => Aw (Af 2) <| Az (Af 1) fun ds => A5 rfl <| BY K3 Aa AW (Ja hr (BV h0) h0) fun v2 F3 R6 hr4 hF5 => ?_
  obtain ⟨ba, kb, rfl, hX, rfl⟩ := hr4
  refine Aw (Af 5) <| Ac <| Aq <| AD (Af 3) <| Ad Aa (by decide) ?_
  by_cases hp : inB 0 100000 p = true
  ·refine Az (Af 1) fun ds => A5 rfl <| AM A9 B2 rfl (.cons Aa .nil) rfl rfl (by decide) (by simp [Value.oneCell']) fun b7 hb7 nb7 => AJ (i := 0) rfl hb7 .here fun F8 hF9 hz10 => ?_
   replace hX := hX.mono hF9
   have hsl11 := Bh hz10
   refine AN rfl (Ay Cc Aa AW (Bj _ _ hsl11) (fun _ _ h => h)) <| Aw (Af 1) <| Ad Aa (by simp [hp]) ?_
   have hpb := GH hp
   refine Al <| A0 <| Ab <| Az (Af 2) fun ds => AN rfl (Ay V1 Aa AW (JQ hX (BV h0) hpb.1 (by omega)) (fun _ _ h => h)) <| Aw (Af 2) <| At <| Ap rfl Bd ?_
   show _ = _
   rw [Uw h0 hp]; rfl
  replace hp : inB 0 100000 p = false := by simpa using hp
  refine Az (Af 1) fun ds => A5 rfl <| AM A9 B2 rfl (.cons Aa .nil) rfl rfl (by decide) (by simp [Value.oneCell']) fun b12 hb12 nb12 => AJ (i := 0) rfl hb12 .here fun F13 hF14 hz15 => ?_
  have hsl16 := Bh hz15
  refine AN rfl (Ay Cc Aa AW (Bj _ _ hsl16) (fun _ _ h => h)) <| Aw (Af 1) <| Ai Aa (by simp [hp]) <| AD (Af 2) <| At <| A7 <| Ax <| Ap rfl Bd ?_
  show _ = _
  rw [OG h0 hp]; rfl
 refine Ac <| Am fun ds => A5 rfl <| Bg Aa rfl fun b17 hb17 nb17 => Aw (Af 2) <| Az (Af 1) fun ds => AN rfl (Ay K3 Aa AW (Ls hr h0) (fun _ _ h => h)) <| Aw (Af 5) <| Ac <| Aq <| AD (Af 3) <| Ai Aa (dT h0) <| AD (Af 3) <| At <| A7 <| Ax <| Ap rfl Bd ?_
 show _ = _
 rw [Sy h0]; rfl
end
section
open Go.RowKit
theorem JI {xs : List Int} {lo hi : Int} (h : (xs.any fun z => !(inB lo hi z)) = false) {k : Nat} (hk : k < xs.length) : inB lo hi xs[k] = true := by
 rw [List.any_eq_false] at h
 simpa using h _ (List.getElem_mem hk)
end
section
open Go.RowKit
def cmpZ (a b : Int) : Int := if a < b then -1 else if b < a then 1 else 0
def cmpL : List Nat → List Nat → Int
 | [], [] => 0
 | [], _ :: _ => -1
 | _ :: _, [] => 1
 | a :: as1, b :: bs => if a < b then -1 else if b < a then 1 else cmpL as1 bs
theorem MM {a : Nat} {as1 bs : List Nat} : cmpL (a :: as1) (a :: bs) = cmpL as1 bs := by
 simp [cmpL]
theorem GO : ∀ (k : Nat) {xs ys : List Nat}, k ≤ xs.length → k ≤ ys.length → xs.take k = ys.take k → cmpL xs ys = cmpL (xs.drop k) (ys.drop k)
 | 0, _, _, _, _, _ => rfl
 | k + 1, [], _, h, _, _ => by simp at h
 | k + 1, _ :: _, [], _, h, _ => by simp at h
 | k + 1, x :: xs, y :: ys, h1, h2, h => by
   simp only [List.take_succ_cons, List.cons.injEq] at h
   obtain ⟨rfl, h⟩ := h
   rw [MM, GO k (by simpa using h1) (by simpa using h2) h]
   rfl
theorem SU {k : Nat} {xs ys : List Nat} (h1 : k < xs.length) (h2 : ys.length = k) (h : xs.take k = ys.take k) : cmpL xs ys = 1 := by
 rw [GO k (by omega) (by omega) h, List.drop_eq_getElem_cons h1, show ys.drop k = [] from List.drop_of_length_le (by omega)]
 rfl
theorem MO {xs ys : List Nat} (h1 : xs.length ≤ ys.length) (h : xs.take xs.length = ys.take xs.length) : cmpL xs ys = if xs.length < ys.length then -1 else 0 := by
 rw [GO xs.length (by omega) h1 h, List.drop_of_length_le (Nat.le_refl _)]
 by_cases h2 : xs.length < ys.length
 · rw [if_pos h2, List.drop_eq_getElem_cons h2]; rfl
 rw [if_neg h2, List.drop_of_length_le (by omega)]; rfl
theorem cmpL_at {k : Nat} {xs ys : List Nat} (h1 : k < xs.length) (h2 : k < ys.length) (h : xs.take k = ys.take k) (hne : cmpZ xs[k] ys[k] ≠ 0) : cmpL xs ys = cmpZ xs[k] ys[k] := by
 rw [GO k (by omega) (by omega) h, List.drop_eq_getElem_cons h1, List.drop_eq_getElem_cons h2]
 show (if xs[k] < ys[k] then (-1 : Int) else if ys[k] < xs[k] then 1 else _) = _
 unfold cmpZ at hne ⊢
 by_cases ha : xs[k] < ys[k]
 · rw [if_pos ha, if_pos (by omega)]
 rw [if_neg ha]
 rw [if_neg (show ¬ (xs[k] : Int) < ys[k] by omega)] at hne ⊢
 by_cases hb : ys[k] < xs[k]
 · rw [if_pos hb, if_pos (by omega)]
 rw [if_neg (show ¬ (ys[k] : Int) < xs[k] by omega)] at hne; exact absurd rfl hne
theorem ST {a b : Int} (h : cmpZ a b = 0) : a = b := by
 unfold cmpZ at h
 split at h
 · cases h
 split at h
 · cases h
 omega
theorem Fv {α : Type} {k : Nat} {xs ys : List α} (h1 : k < xs.length) (h2 : k < ys.length) (h : xs.take k = ys.take k) (he : xs[k] = ys[k]) : xs.take (k + 1) = ys.take (k + 1) := by
 rw [List.take_succ_eq_append_getElem h1, List.take_succ_eq_append_getElem h2, h, he]
theorem LF {α : Type} {xs ys : List α} (hl : xs.length = ys.length) (h : xs.take xs.length = ys.take xs.length) : xs = ys := by
 rw [List.take_length] at h
 rw [h, hl, List.take_length]
theorem ne_at {α : Type} {k : Nat} {xs ys : List α} (h1 : k < xs.length) (h2 : k < ys.length) (he : xs[k] ≠ ys[k]) : xs ≠ ys := by
 rintro rfl; exact he rfl
def bitsL (set : Nat) : List Nat := (List.range 8).filter fun i => set.testBit i
def bitsTo (set k : Nat) : List Nat := (List.range k).filter fun i => set.testBit i
theorem Gu {set k : Nat} : bitsTo set (k + 1) = if set.testBit k = true then bitsTo set k ++ [k] else bitsTo set k := by
 unfold bitsTo
 rw [List.range_succ, List.filter_append]
 by_cases h : set.testBit k = true
 · rw [if_pos h]; simp [h]
 rw [if_neg h]; simp [h]
theorem Ha {set k : Nat} : (bitsTo set k).length ≤ k := by
 unfold bitsTo
 have := List.length_filter_le (fun i => set.testBit i) (List.range k)
 simpa using this
theorem Q1 {set k : Nat} (hk : k ≤ 8) (h : set < 2 ^ k) : bitsTo set k = bitsL set := by
 have key : ∀ j, k ≤ j → bitsTo set j = bitsTo set k := by
   intro j hj
   induction j with
   | zero => have : k = 0 := by omega
             rw [this]
   | succ j ih =>
     by_cases hjk : k = j + 1
     · rw [hjk]
     rw [Gu, if_neg, ih (by omega)]
     have : set < 2 ^ j := Nat.lt_of_lt_of_le h (Nat.pow_le_pow_right (by omega) (by omega))
     simp [Nat.testBit_lt_two_pow this]
 exact (key 8 hk).symm
end
section
open Go.RowKit
theorem Td {set : Nat} : (bitsL set).length ≤ 8 := by
 unfold bitsL
 have := List.length_filter_le (fun i => set.testBit i) (List.range 8)
 simpa using this
end
section
open Go.RowKit
theorem O3 {k j : Nat} : List.range' k (j + 1) = List.range' k j ++ [k + j] := by
 rw [List.range'_concat]; simp
end
section
open Go.RowKit
theorem Gh {mask s : Nat} {xs : List Int} (h : ∀ t : Nat, mask.testBit t = decide ((t : Int) ∈ xs)) : ∀ t : Nat, (mask ||| 2 ^ s).testBit t = decide ((t : Int) ∈ xs ++ [(s : Int)]) := fun t => by
 rw [Nat.testBit_or, Nat.testBit_two_pow, h]
 by_cases hk : s = t
 · subst hk; simp
 have : ¬ (t : Int) = (s : Int) := fun e => hk (by omega)
 simp [hk, this]
end
section
set_option maxRecDepth 100000
open Go.RowKit
theorem Oa {xs : List Int} (h : notAsc xs = false) {i : Nat} (hi : i < xs.length) (h0 : 0 < i) : ¬ xs[i] ≤ xs[i - 1] := fun hle => by rw [M3 h0 hi hle] at h; cases h
def SetOf (set : Nat) (ring : List Int) : Prop := ∀ t : Nat, set.testBit t = decide ((t : Int) ∈ ring)
def EnterR (F : Heap) (u : Value) (Hn : List (Nat × Obj)) (vs vb vl vn vd : Value) (s : Sale) (ring : List Int) : Prop := ∃ b kb set, u = .tuple #[.pointer (some ⟨b, 0, none⟩), .int .i64 ((set : Nat) : Int), .int .i64 0] ∧ AucX 161 F b vs vb vl vn vd kb s ∧ set < 64 ∧ SetOf set ring ∧ Hn = [(kb, mapO [])]
theorem O0 {s : Sale} (hv : ValidS s) {ring : List Int} (h : (ring.any fun z => !(inB 0 (s.bidders.length - 1) z)) = false) {k : Nat} (hk : k < ring.length) : ∃ c : Nat, ring[k] = (c : Int) ∧ c < s.bidders.length ∧ c < 6 := by
 have := GH (JI h hk)
 obtain ⟨c, hc⟩ := Int.eq_ofNat_of_zero_le this.1
 have := hv.nb
 exact ⟨c, hc, by omega, by omega⟩
theorem LG {F : Heap} {vs vb vl vn vd : Value} {s : Sale} (hr : SaleR F vs vb vl vn vd s) {vr : Value} {ring : List Int} (hx : Ints F vr ring) (hok : enterErr s ring = 0) : OkN Tryz.prog 44 [.agg #[vs, .int .i64 s.premium, .int .i64 s.fee, .int .i64 s.days, vb, vl, vn, vd], vr].toArray F fun u F' Hn => EnterR F' u Hn vs vb vl vn vd s ring := by
 refine OkN.intro Tryz.func44 rfl Tryz.ntmps44 rfl fun w0 => ?_
 obtain ⟨h0, h1⟩ := Fk hok
 obtain ⟨hany, hna, hl1⟩ := La h1
 have hL2 := hr.bidders.plain.lt
 have hlen := hx.plain.lt
 refine Ac <| Am fun ds => A5 rfl <| Bg Aa rfl fun b1 hb1 nb1 => Aw (Af 3) <| Ac <| Az (Af 1) fun ds => A5 rfl <| BY K3 Aa AW (Ja hr (BV h0) h0) fun v2 F3 R6 hr4 hF5 => ?_
 replace hr := hr.mono hF5
 replace hx := hx.mono hF5
 obtain ⟨ba, kb, rfl, hX, rfl⟩ := hr4
 refine Aw (Af 5) <| AD (Af 2) <| Ad Aa (by decide) <| Al <| Ab <| Ac <| Az (Af 2) fun ds => Ag rfl (A4 BB Aa hr.bidders.plain) <| Ag rfl (B4 Aa Aa rfl (by omega) (by omega)) <| Aj (Af 1) <| AN rfl (Ay Cc Aa AW (Bj _ _ hx) (fun _ _ h => h)) <| Ao <| Ab <| Ad Aa hany <| Al <| Ab <| Ac <| Az (Af 1) fun ds => Ag rfl (A4 A9 Aa hx.plain) <| Aw (Af 1) <| Aq ?_
 refine AL [4, 5, 6, 7, 8, 25, 26, 27, 28, 29, 30, 31, 32, 33, 34, 35, 36, 37, 38, 39, 40, 41, 42, 43, 44, 45] (fun m e σ => ∃ (k mset : Nat), m + k = ring.length ∧ Fct e 25 (.int .i64 (k : Int)) ∧ Fct e 5 (.int .i64 (mset : Int)) ∧ Fct e 4 (.pointer (some ⟨ba, 0, none⟩)) ∧ mset < 64 ∧ SetOf mset (ring.take k) ∧ (∀ i (hi : i < ring.length), i < k → 0 < i → ¬ ring[i] ≤ ring[i - 1]) ∧ σ = ⟨F3, [(b1, bx 33 [vs, .int .i64 s.premium, .int .i64 s.fee, .int .i64 s.days, vb, vl, vn, vd]), (kb, mapO [])]⟩) (ring.length) ?_ ?_
 · exact ⟨0, 0, by omega, AX, AX, AX, by omega, fun t => by simp, fun i hi h h0 => absurd h (by omega), rfl⟩
 rintro m e _ ⟨k, mset, hm9, hs25, hs5, hs4, hm64, hbits, hasc, rfl⟩
 by_cases hlt : k < ring.length
 ·obtain ⟨c, hc, hcb, hc6⟩ := O0 (BV h0) hany hlt
  have hcp := Lh hc6
  refine AD (Af 1) <| Ac <| Ai Aa (by first | rfl | exact dT (by omega)) ?_
  by_cases hk0 : 0 < k
  ·refine Al <| Ab <| Ac <| Aq <| Az (Af 1) fun ds => Ag rfl (A1  A9 Aa hx.plain Aa rfl hlt) <| Ag rfl (Ak AF Aa (hx.cell1 hlt rfl)) <| Aw (Af 2) <| Ac <| Az (Af 3) fun ds => Ae rfl rfl Aa (dT (by omega)) <| Aj (Af 1) <| Ae rfl rfl Aa (dT (by omega)) <| Aj (Af 1) <| Ae rfl rfl Aa (dT (by omega)) <| Aj (Af 1) <| Ae rfl rfl Aa (dT (by omega)) <| Ag rfl (B4 Aa Aa rfl (by omega) (by omega)) <| Ae rfl rfl Aa (dT (by omega)) <| Ag rfl (A1 (k := k - 1) A9 Aa hx.plain Aa (by omega) (by omega)) <| Ae rfl rfl Aa (dT (by omega)) <| Ag rfl (Ak AF Aa (hx.cell1 (by omega) rfl)) <| Ae rfl rfl Aa (dT (by omega)) <| Aj (Af 1) <| Ag rfl (Ar Aa (dT (by omega)) Aa) <| Ao <| Ab <| Ad Aa (dF (Oa hna hlt (by omega))) <| Al <| Ab <| Am fun ds => Aj (Af 2) <| Ag rfl (Lg Aa Aa (k := c) hc (by omega) (show (1 : Int) * 2 ^ c = ((2 ^ c : Nat) : Int) by simp) (Int.le_trans (by decide) (Int.natCast_nonneg _)) (by omega)) <| Ag rfl (PH Aa Aa (m := mset) (k := 2 ^ c) rfl rfl (by omega) (by omega) rfl) <| Aj (Af 1) <| Ao <| A0 <| Ab <| Am fun ds => Ag rfl (AG Aa Aa rfl (by omega) (by omega)) <| Aj (Af 1) <| Ao ?_
   refine Ab ⟨_, m - 1, Off.eq (B3 rfl <| BR rfl <| A2), by omega, ?_⟩
   refine ⟨k + 1, mset ||| 2 ^ c, by omega, AX, AX, AX, FB hm64 hc6, ?_, ?_, rfl⟩
   · rw [List.take_succ_eq_append_getElem hlt, hc]; exact Gh hbits
   intro i hi hik h0
   rcases Nat.lt_succ_iff_lt_or_eq.1 hik with hik | rfl
   · exact hasc i hi hik h0
   exact Oa hna hi h0
  refine Al <| Ab <| Ac <| Aq <| Az (Af 1) fun ds => Ag rfl (A1  A9 Aa hx.plain Aa rfl hlt) <| Ag rfl (Ak AF Aa (hx.cell1 hlt rfl)) <| Aw (Af 2) <| Ac <| Az (Af 3) fun ds => Ah rfl rfl Aa (.inl (congrArg Value.bool (dF (by omega)))) rfl <| Ah rfl rfl Aa (.inl (congrArg Value.bool (dF (by omega)))) rfl <| Ah rfl rfl Aa (.inl (congrArg Value.bool (dF (by omega)))) rfl <| Ah rfl rfl Aa (.inl (congrArg Value.bool (dF (by omega)))) rfl <| Ah rfl rfl Aa (.inl (congrArg Value.bool (dF (by omega)))) rfl <| Ah rfl rfl Aa (.inl (congrArg Value.bool (dF (by omega)))) rfl <| Ah rfl rfl Aa (.inl (congrArg Value.bool (dF (by omega)))) rfl <| Ag rfl (As Aa (dF (by omega)) Aa) <| Ao <| Ab <| Ad Aa rfl <| Al <| Ab <| Am fun ds => Aj (Af 2) <| Ag rfl (Lg Aa Aa (k := c) hc (by omega) (show (1 : Int) * 2 ^ c = ((2 ^ c : Nat) : Int) by simp) (Int.le_trans (by decide) (Int.natCast_nonneg _)) (by omega)) <| Ag rfl (PH Aa Aa (m := mset) (k := 2 ^ c) rfl rfl (by omega) (by omega) rfl) <| Aj (Af 1) <| Ao <| A0 <| Ab <| Am fun ds => Ag rfl (AG Aa Aa rfl (by omega) (by omega)) <| Aj (Af 1) <| Ao ?_
  refine Ab ⟨_, m - 1, Off.eq (B3 rfl <| BR rfl <| A2), by omega, ?_⟩
  refine ⟨k + 1, mset ||| 2 ^ c, by omega, AX, AX, AX, FB hm64 hc6, ?_, ?_, rfl⟩
  · rw [List.take_succ_eq_append_getElem hlt, hc]; exact Gh hbits
  intro i hi hik h0
  exact absurd h0 (by omega)
 refine AD (Af 1) <| Ac <| Ad Aa (by first | rfl | exact dF (by omega)) <| AH ?_
 refine A8 <| A8 <| AB <| Ab <| Ac <| Az (Af 1) fun ds => Ag rfl (A4 A9 Aa hx.plain) <| Aw (Af 1) <| Ad Aa (dF (by omega)) <| Al <| Ab <| AD (Af 5) <| At <| BK rfl Bd (kD <| .refl _) ?_
 exact ⟨_, _, _, rfl, hX, hm64, by rw [List.take_of_length_le (by omega)] at hbits; exact hbits, rfl⟩
theorem JN {F : Heap} {vs vb vl vn vd : Value} {s : Sale} (hr : SaleR F vs vb vl vn vd s) {vr : Value} {ring : List Int} (hx : Ints F vr ring) (hbad : enterErr s ring ≠ 0) : Ok Tryz.prog 44 [.agg #[vs, .int .i64 s.premium, .int .i64 s.fee, .int .i64 s.days, vb, vl, vn, vd], vr].toArray F fun u _ => u = .tuple #[.pointer none, .int .i64 0, .int .i64 (enterErr s ring)] := by
 refine Ok.intro Tryz.func44 rfl Tryz.ntmps44 rfl fun w0 => ?_
 have hL2 := hr.bidders.plain.lt
 have hlen := hx.plain.lt
 by_cases h0 : (checkS s).2.2 = 0
 ·refine Ac <| Am fun ds => A5 rfl <| Bg Aa rfl fun b1 hb1 nb1 => Aw (Af 3) <| Ac <| Az (Af 1) fun ds => A5 rfl <| BY K3 Aa AW (Ja hr (BV h0) h0) fun v2 F3 R6 hr4 hF5 => ?_
  replace hr := hr.mono hF5
  replace hx := hx.mono hF5
  obtain ⟨ba, kb, rfl, hX, rfl⟩ := hr4
  refine Aw (Af 5) <| AD (Af 2) <| Ad Aa (by decide) ?_
  by_cases hany : (ring.any fun z => !(inB 0 (s.bidders.length - 1) z)) = true
  ·refine Al <| Ab <| Ac <| Az (Af 2) fun ds => Ag rfl (A4 BB Aa hr.bidders.plain) <| Ag rfl (B4 Aa Aa rfl (by omega) (by omega)) <| Aj (Af 1) <| AN rfl (Ay Cc Aa AW (Bj _ _ hx) (fun _ _ h => h)) <| Ao <| Ab <| Ai Aa hany <| AD (Af 3) <| At <| Ax <| Ap rfl Bd ?_
   rw [Ea h0, Sh hany]; rfl
  replace hany : (ring.any fun z => !(inB 0 (s.bidders.length - 1) z)) = false := by simpa using hany
  refine Al <| Ab <| Ac <| Az (Af 2) fun ds => Ag rfl (A4 BB Aa hr.bidders.plain) <| Ag rfl (B4 Aa Aa rfl (by omega) (by omega)) <| Aj (Af 1) <| AN rfl (Ay Cc Aa AW (Bj _ _ hx) (fun _ _ h => h)) <| Ao <| Ab <| Ad Aa hany <| Al <| Ab <| Ac <| Az (Af 1) fun ds => Ag rfl (A4 A9 Aa hx.plain) <| Aw (Af 1) <| Aq ?_
  refine AL [4, 5, 6, 7, 8, 25, 26, 27, 28, 29, 30, 31, 32, 33, 34, 35, 36, 37, 38, 39, 40, 41, 42, 43, 44, 45] (fun m e σ => ∃ (k mset : Nat), m + k = ring.length ∧ Fct e 25 (.int .i64 (k : Int)) ∧ Fct e 5 (.int .i64 (mset : Int)) ∧ Fct e 4 (.pointer (some ⟨ba, 0, none⟩)) ∧ mset < 64 ∧ SetOf mset (ring.take k) ∧ (∀ i (hi : i < ring.length), i < k → 0 < i → ¬ ring[i] ≤ ring[i - 1]) ∧ σ = ⟨F3, [(b1, bx 33 [vs, .int .i64 s.premium, .int .i64 s.fee, .int .i64 s.days, vb, vl, vn, vd]), (kb, mapO [])]⟩) (ring.length) ?_ ?_
  · exact ⟨0, 0, by omega, AX, AX, AX, by omega, fun t => by simp, fun i hi h h0 => absurd h (by omega), rfl⟩
  rintro m e _ ⟨k, mset, hm9, hs25, hs5, hs4, hm64, hbits, hasc, rfl⟩
  by_cases hlt : k < ring.length
  ·obtain ⟨c, hc, hcb, hc6⟩ := O0 (BV h0) hany hlt
   have hcp := Lh hc6
   refine AD (Af 1) <| Ac <| Ai Aa (by first | rfl | exact dT (by omega)) ?_
   by_cases hk0 : 0 < k
   ·refine Al <| Ab <| Ac <| Aq <| Az (Af 1) fun ds => Ag rfl (A1  A9 Aa hx.plain Aa rfl hlt) <| Ag rfl (Ak AF Aa (hx.cell1 hlt rfl)) <| Aw (Af 2) <| Ac <| Az (Af 3) fun ds => Ae rfl rfl Aa (dT (by omega)) <| Aj (Af 1) <| Ae rfl rfl Aa (dT (by omega)) <| Aj (Af 1) <| Ae rfl rfl Aa (dT (by omega)) <| Aj (Af 1) <| Ae rfl rfl Aa (dT (by omega)) <| Ag rfl (B4 Aa Aa rfl (by omega) (by omega)) <| Ae rfl rfl Aa (dT (by omega)) <| Ag rfl (A1 (k := k - 1) A9 Aa hx.plain Aa (by omega) (by omega)) <| Ae rfl rfl Aa (dT (by omega)) <| Ag rfl (Ak AF Aa (hx.cell1 (by omega) rfl)) <| Ae rfl rfl Aa (dT (by omega)) <| Aj (Af 1) <| Ag rfl (Ar Aa (dT (by omega)) Aa) <| Ao <| Ab ?_
    by_cases hle : ring[k] ≤ ring[k - 1]
    ·refine Ai Aa (dT hle) <| AD (Af 3) <| At ?_
     refine Ax (A7 (Ax (Ax (A7 (Ax ?_)))))
     refine Ap rfl Bd ?_
     rw [Ea h0, Sj hany (M3 (by omega) hlt hle)]; rfl
    refine Ad Aa (dF hle) <| Al <| Ab <| Am fun ds => Aj (Af 2) <| Ag rfl (Lg Aa Aa (k := c) hc (by omega) (show (1 : Int) * 2 ^ c = ((2 ^ c : Nat) : Int) by simp) (Int.le_trans (by decide) (Int.natCast_nonneg _)) (by omega)) <| Ag rfl (PH Aa Aa (m := mset) (k := 2 ^ c) rfl rfl (by omega) (by omega) rfl) <| Aj (Af 1) <| Ao <| A0 <| Ab <| Am fun ds => Ag rfl (AG Aa Aa rfl (by omega) (by omega)) <| Aj (Af 1) <| Ao ?_
    refine Ab ⟨_, m - 1, Off.eq (B3 rfl <| BR rfl <| A2), by omega, ?_⟩
    refine ⟨k + 1, mset ||| 2 ^ c, by omega, AX, AX, AX, FB hm64 hc6, ?_, ?_, rfl⟩
    · rw [List.take_succ_eq_append_getElem hlt, hc]; exact Gh hbits
    intro i hi hik h0
    rcases Nat.lt_succ_iff_lt_or_eq.1 hik with hik | rfl
    · exact hasc i hi hik h0
    exact hle
   refine Al <| Ab <| Ac <| Aq <| Az (Af 1) fun ds => Ag rfl (A1  A9 Aa hx.plain Aa rfl hlt) <| Ag rfl (Ak AF Aa (hx.cell1 hlt rfl)) <| Aw (Af 2) <| Ac <| Az (Af 3) fun ds => Ah rfl rfl Aa (.inl (congrArg Value.bool (dF (by omega)))) rfl <| Ah rfl rfl Aa (.inl (congrArg Value.bool (dF (by omega)))) rfl <| Ah rfl rfl Aa (.inl (congrArg Value.bool (dF (by omega)))) rfl <| Ah rfl rfl Aa (.inl (congrArg Value.bool (dF (by omega)))) rfl <| Ah rfl rfl Aa (.inl (congrArg Value.bool (dF (by omega)))) rfl <| Ah rfl rfl Aa (.inl (congrArg Value.bool (dF (by omega)))) rfl <| Ah rfl rfl Aa (.inl (congrArg Value.bool (dF (by omega)))) rfl <| Ag rfl (As Aa (dF (by omega)) Aa) <| Ao <| Ab <| Ad Aa rfl <| Al <| Ab <| Am fun ds => Aj (Af 2) <| Ag rfl (Lg Aa Aa (k := c) hc (by omega) (show (1 : Int) * 2 ^ c = ((2 ^ c : Nat) : Int) by simp) (Int.le_trans (by decide) (Int.natCast_nonneg _)) (by omega)) <| Ag rfl (PH Aa Aa (m := mset) (k := 2 ^ c) rfl rfl (by omega) (by omega) rfl) <| Aj (Af 1) <| Ao <| A0 <| Ab <| Am fun ds => Ag rfl (AG Aa Aa rfl (by omega) (by omega)) <| Aj (Af 1) <| Ao ?_
   refine Ab ⟨_, m - 1, Off.eq (B3 rfl <| BR rfl <| A2), by omega, ?_⟩
   refine ⟨k + 1, mset ||| 2 ^ c, by omega, AX, AX, AX, FB hm64 hc6, ?_, ?_, rfl⟩
   · rw [List.take_succ_eq_append_getElem hlt, hc]; exact Gh hbits
   intro i hi hik h0
   exact absurd h0 (by omega)
  refine AD (Af 1) <| Ac <| Ad Aa (by first | rfl | exact dF (by omega)) ?_
  by_cases h1 : ring.length = 1
  ·refine AH ?_
   refine A8 <| A8 <| AB <| Ab <| Ac <| Az (Af 1) fun ds => Ag rfl (A4 A9 Aa hx.plain) <| Aw (Af 1) <| Ai Aa (dT (by omega)) <| AD (Af 3) <| At <| Ax <| Ap rfl Bd ?_
   rw [Ea h0, Si hany (VS fun i hi h0 => hasc i hi (by omega) h0) h1]; rfl
  refine AH ?_
  refine A8 <| A8 <| AB <| Ab <| Ac <| Az (Af 1) fun ds => Ag rfl (A4 A9 Aa hx.plain) <| Aw (Af 1) <| Ad Aa (dF (by omega)) <| Al <| Ab <| AD (Af 5) <| At <| Ap rfl Bd ?_
  exact absurd ((Ea h0).trans (Sk hany (VS fun i hi h0 => hasc i hi (by omega) h0) h1)) hbad
 refine Ac <| Am fun ds => A5 rfl <| Bg Aa rfl fun b8 hb8 nb8 => Aw (Af 3) <| Ac <| Az (Af 1) fun ds => AN rfl (Ay K3 Aa AW (Ls hr h0) (fun _ _ h => h)) <| Aw (Af 5) <| AD (Af 2) <| Ai Aa (dT h0) <| AD (Af 4) <| At <| Ax <| Ap rfl Bd ?_
 rw [LH h0]; rfl
end
section
set_option maxRecDepth 100000
open Go.RowKit
theorem V0 : Body Tryz.prog 79 := AE (by kernel_rfl)
theorem bd_80 : Body Tryz.prog 80 := AE (by kernel_rfl)
instance : FieldI Tryz.prog 161 3 80 := ⟨AU (by kernel_rfl)⟩
theorem KE : OneT Tryz.prog 159 := BE (by kernel_rfl)
instance : OneI Tryz.prog 159 := ⟨KE⟩
theorem mapK : MapT Tryz.prog 159 3 48 (.slice none 0 0) := ⟨Tryz.underlying159, Br (by kernel_rfl), Go.Maps.int_keyed Tryz.underlying3⟩
theorem isKn {z : Nat} (h : z < 64) : IsK Tryz.prog 3 (.int .i64 (z : Int)) := isK_int Tryz.underlying3 (by omega) (by omega)
theorem CB {m k : Nat} : decide ((((m / 2 ^ k) &&& 1 : Nat) : Int) = 0) = !(m.testBit k) := by
 rw [← C9]
 have : (m / 2 ^ k) &&& 1 = 0 ∨ (m / 2 ^ k) &&& 1 = 1 := by
   have := Nat.and_one_is_mod (m / 2 ^ k); omega
 rcases this with h | h <;> rw [h] <;> rfl
theorem RO {s : Sale} {l : Nat} {mem : Nat → Bool} : strongP s l mem = -1 ∨ ∃ o : Nat, o < s.bidders.length ∧ strongP s l mem = (o : Int) := by
 rcases EK (s := s) (l := l) (mem := mem) s.bidders.length with ⟨h, -⟩ | ⟨b, h1, -, h, -⟩
 · exact .inl h
 exact .inr ⟨b, h1, h⟩
theorem PE {s : Sale} {set l : Nat} (h : strongP s l (fun _ => true) = -1) : sellP s set l = ⟨-1, 0⟩ := if_pos (.inl (by omega))
theorem RU {s : Sale} {set l o : Nat} (h : strongP s l (fun _ => true) = (o : Int)) (h2 : mostN s l o < (s.lot l).reserve) : sellP s set l = ⟨-1, 0⟩ := by
 unfold sellP; rw [h]; exact if_pos (.inr (by simpa using h2))
theorem TP {s : Sale} {set l o : Nat} (h : strongP s l (fun _ => true) = (o : Int)) (h2 : ¬ mostN s l o < (s.lot l).reserve) : sellP s set l = ⟨o, climbS s (s.lot l).reserve (othersTo s l set o (strongP s l set.testBit) s.bidders.length) (mostN s l o)⟩ := by
 unfold sellP; rw [h]; simp only [Int.toNat_natCast]; exact if_neg (by omega)
def SoldR (F : Heap) (H' : List (Nat × Obj)) (u : Value) (kb : Nat) (s : Sale) (set : Nat) : Prop := ∃ es, H' = [(kb, mapO es)] ∧ KnownC Tryz.prog 3 F es s ∧ Sl F u 2 Res.enc (sellL s set s.lots.length)
theorem G5 {F : Heap} {b kb : Nat} {vs vb vl vn vd : Value} {s : Sale} (hX : AucX 161 F b vs vb vl vn vd kb s) (hv : ValidS s) {es : List (Value × Value)} (hK : KnownC Tryz.prog 3 F es s) {set : Nat} (hset : set < 64) : OkM Tryz.prog 45 [.pointer (some ⟨b, 0, none⟩), .int .i64 (set : Int)].toArray F [(kb, mapO es)] fun u F' H' => SoldR F' H' u kb s set := by
 refine OkM.intro Tryz.func45 rfl Tryz.ntmps45 rfl fun w0 => ?_
 have hL1 := hX.sale.lots.plain.lt
 have hL2 := hX.sale.bidders.plain.lt
 have hnl := hv.nl
 have hnb := hv.nb
 rcases NG (es := es) (.int .i64 (set : Int)) with hno | ⟨j, u, hj⟩
 ·refine AD (Af 1) <| Az (Af 1) fun ds => Ag rfl (Bb Aa) <| Aj (Af 1) <| Ag rfl (Ak KE Aa hX.known_cell.cell) <| Aj (Af 1) <| Ag rfl (PJ mapK Aa Aa (i := 0) rfl (isKn hset) hK.keys hno) <| Aw (Af 5) <| Ac <| AD (Af 1) <| Ad Aa rfl <| Al <| Ab <| Ac <| Az (Af 1) fun ds => Ag rfl (Bb Aa) <| Aj (Af 2) <| Ag rfl (Ak Dm Aa (AA hX.blk rfl)) <| Ag rfl (A4 BN Aa hX.sale.lots.plain) <| Aw (Af 1) <| Aq ?_
  refine AL [5, 7, 8, 9, 10, 11, 12, 30, 31, 32, 33, 34, 35, 36, 37, 38, 39, 40, 41, 42, 43, 44, 45, 46, 47, 48, 49, 50, 51, 52, 53, 54, 55, 56, 57, 58, 59, 60, 61, 62, 63, 64, 65, 66, 67, 68, 69, 70, 71, 72, 73, 74, 75, 76, 77, 78, 79, 80, 81, 82, 83, 84, 85, 86, 87, 88, 89, 90, 91, 92, 93, 94, 95, 96, 97, 98, 99, 100, 101, 102, 103, 104, 105, 106, 107, 108, 109, 110, 111, 112, 113, 114] (fun m e σ => ∃ k : Nat, m + k = s.lots.length ∧ Fct e 30 (.int .i64 (k : Int)) ∧ ∃ v R, Fct e 5 v ∧ Own 57 2 v (sellL s set k).length ((sellL s set k).flatMap Res.enc) R ∧ σ = ⟨F, (kb, mapO es) :: R⟩) (s.lots.length) ?_ ?_
  · exact ⟨0, by omega, AX, _, _, AX, Own.nil, rfl⟩
  rintro m e _ ⟨k, hm9, hs30, v5, R5, hs5, ho, rfl⟩; have hsl := HS (s := s) (set := set) (k := k)
  by_cases hlt : k < s.lots.length
  ·have hk6 : k < 6 := by omega
   obtain ⟨e1, e2, e3, e4, e5⟩ := JG hv hlt
   refine AD (Af 1) <| Ac <| Ai Aa (by first | rfl | exact dT (by omega)) ?_
   rcases RO (s := s) (l := k) (mem := fun _ => true) with hso | ⟨o, hob, hso⟩
   ·refine Al <| Ab <| Ac <| Aq <| Az (Af 1) fun ds => Ag rfl (A1 (k := k) BN Aa hX.sale.lots.plain Aa rfl hlt) <| Ag rfl (AC HF Aa rfl rfl (hX.sale.lots.whole hlt)) <| A5 rfl <| AO Mk rfl fun b2 hb2 nb2 => Aj (Af 1) <| AS <| AP QF Aa Aa (i := 0) rfl rfl rfl rfl Lot.enc_one (.here) <| Ao <| Ab <| Az (Af 2) fun ds => AN rfl (Ay V0 Aa AW (GQ hX hv hk6) (fun _ _ h => h.trans (by rw [hso]))) <| Aw (Af 1) <| Ac <| Ac <| Bs (.inl rfl) (fun _ _ h => h) (by kernel_rfl) (by kernel_rfl) fun ds => AR (Af 3) <| A6 rfl rfl Aa (.inl (congrArg Value.bool (by decide))) rfl <| A6 rfl rfl Aa (.inl (congrArg Value.bool (by decide))) rfl <| A6 rfl rfl Aa (.inl (congrArg Value.bool (by decide))) rfl <| A6 rfl rfl Aa (.inl (congrArg Value.bool (by decide))) rfl <| A6 rfl rfl Aa (.inl (congrArg Value.bool (by decide))) rfl <| A6 rfl rfl Aa (.inl (congrArg Value.bool (by decide))) rfl <| A6 rfl rfl Aa (.inl (congrArg Value.bool (by decide))) rfl <| A6 rfl rfl Aa (.inl (congrArg Value.bool (by decide))) rfl <| A6 rfl rfl Aa (.inl (congrArg Value.bool (by decide))) rfl <| A6 rfl rfl Aa (.inl (congrArg Value.bool (by decide))) rfl <| A6 rfl rfl Aa (.inl (congrArg Value.bool (by decide))) rfl <| AT rfl (Ar Aa (by decide) Aa) <| B0 <| Ab <| Ai Aa rfl ?_
    have hP := PE (set := set) hso
    refine Az (Af 1) fun ds => Ag rfl (Bm Pr (.cons Aa rfl .nil) (.cons rfl rfl (Nat.le_of_ble_eq_true rfl) (.cons (.here) .nil) .nil)) <| A5 rfl <| B5 (offs := [(0, 2)]) (zl := [.int .i64 0, .int .i64 0]) BQ FR rfl (.cons Aa rfl .nil) (by intro i p h; rcases i with _ | i <;> simp at h <;> subst h <;> rfl) (.cons rfl rfl (Nat.le_of_ble_eq_true rfl) (.cons (.here) (.cons (.next <| .here) .nil)) .nil) (by decide) (by decide) fun b3 hb3 nb3 => A5 rfl <| Bp BQ Vb Aa ho Aa (B1 (s := 2) 0 rfl rfl (by simp [Value.oneCell'])) (by omega) (by omega) (.s <| .s <| .s <| .z) .last fun v4 R5 ho6 => ?_
    have ho2 := ho6.snoc (x := sellP s set k) rfl (by rw [hP]; first | done | rfl)
    refine Aw (Af 1) <| AH <| A8 <| AB <| Ab <| Bn (fun _ _ h => h.drop (kD <| kD <| kK <| .refl _)) <| Am fun ds => Ag rfl (AG Aa Aa rfl (by omega) (by omega)) <| Aj (Af 1) <| Ao ?_
    refine Ab ⟨_, m - 1, Off.eq (DT rfl <| A2), by omega, ?_⟩
    refine ⟨k + 1, by omega, AX, _, _, AX, by rw [Hl]; exact ho2, rfl⟩
   have ho6 : o < 6 := by omega
   refine Al <| Ab <| Ac <| Aq <| Az (Af 1) fun ds => Ag rfl (A1 (k := k) BN Aa hX.sale.lots.plain Aa rfl hlt) <| Ag rfl (AC HF Aa rfl rfl (hX.sale.lots.whole hlt)) <| A5 rfl <| AO Mk rfl fun b7 hb7 nb7 => Aj (Af 1) <| AS <| AP QF Aa Aa (i := 0) rfl rfl rfl rfl Lot.enc_one (.here) <| Ao <| Ab <| Az (Af 2) fun ds => AN rfl (Ay V0 Aa AW (GQ hX hv hk6) (fun _ _ h => h.trans (by rw [hso]))) <| Aw (Af 1) <| Ac <| Ac <| Bs (.inl rfl) (fun _ _ h => h) (by kernel_rfl) (by kernel_rfl) fun ds => AR (Af 3) <| A3 rfl rfl Aa (dF (by omega)) <| AR (Af 1) <| A3 rfl rfl Aa (dF (by omega)) <| AR (Af 1) <| A3 rfl rfl Aa (dF (by omega)) <| AR (Af 1) <| A3 rfl rfl Aa (dF (by omega)) <| AT rfl (Bb Aa) <| A3 rfl rfl Aa (dF (by omega)) <| AR (Af 1) <| A3 rfl rfl Aa (dF (by omega)) <| AT rfl (AZ (k := k) Dd Aa Aa rfl (by omega)) <| A3 rfl rfl Aa (dF (by omega)) <| AT rfl (AZ (k := o) De Aa Aa rfl (by omega)) <| A3 rfl rfl Aa (dF (by omega)) <| AT rfl (Ak AF Aa (hX.most_cell (by omega : k < 6) (by omega : o < 6)).cell) <| A3 rfl rfl Aa (dF (by omega)) <| AR (Af 1) <| A3 rfl rfl Aa (dF (by omega)) <| AR (Af 1) <| A3 rfl rfl Aa (dF (by omega)) ?_
   refine AR (Af 1) <| AT rfl (As Aa (dF (by omega)) Aa) <| B0 <| Ab ?_
   by_cases hlow : mostN s k o < (s.lot k).reserve
   ·refine Ai Aa (dT (by rw [e1]; exact hlow)) ?_
    have hP := RU (set := set) hso hlow
    refine Az (Af 1) fun ds => Ag rfl (Bm Pr (.cons Aa rfl .nil) (.cons rfl rfl (Nat.le_of_ble_eq_true rfl) (.cons (.here) .nil) .nil)) <| A5 rfl <| B5 (offs := [(0, 2)]) (zl := [.int .i64 0, .int .i64 0]) BQ FR rfl (.cons Aa rfl .nil) (by intro i p h; rcases i with _ | i <;> simp at h <;> subst h <;> rfl) (.cons rfl rfl (Nat.le_of_ble_eq_true rfl) (.cons (.here) (.cons (.next <| .here) .nil)) .nil) (by decide) (by decide) fun b8 hb8 nb8 => A5 rfl <| Bp BQ Vb Aa ho Aa (B1 (s := 2) 0 rfl rfl (by simp [Value.oneCell'])) (by omega) (by omega) (.s <| .s <| .s <| .z) .last fun v9 R10 ho11 => ?_
    have ho2 := ho11.snoc (x := sellP s set k) rfl (by rw [hP]; first | done | rfl)
    refine Aw (Af 1) <| AH <| A8 <| AB <| Ab <| Bn (fun _ _ h => h.drop (kD <| kD <| kK <| .refl _)) <| Am fun ds => Ag rfl (AG Aa Aa rfl (by omega) (by omega)) <| Aj (Af 1) <| Ao ?_
    refine Ab ⟨_, m - 1, Off.eq (DT rfl <| A2), by omega, ?_⟩
    refine ⟨k + 1, by omega, AX, _, _, AX, by rw [Hl]; exact ho2, rfl⟩
   refine Ad Aa (dF (by rw [e1]; exact hlow)) <| Al <| Ab <| AD (Af 1) <| Az (Af 3) fun ds => AN rfl (Ay V0 Aa AW (Me hX hv hk6 hset) (fun _ _ h => h)) <| Aw (Af 1) <| Ac <| Az (Af 1) fun ds => Ag rfl (Bb Aa) <| Aj (Af 2) <| Ag rfl (Ak Cd Aa (AA hX.blk rfl)) <| Ag rfl (A4 BB Aa hX.sale.bidders.plain) <| Aw (Af 1) <| Aq ?_
   refine AL [10, 12, 67, 68, 69, 70, 71, 72, 73, 74, 75, 76, 77, 78, 79, 80, 81, 82, 83, 84, 85, 86, 87, 88, 89, 90, 91, 92, 93, 94, 95] (fun m e σ => ∃ c : Nat, m + c = s.bidders.length ∧ Fct e 67 (.int .i64 (c : Int)) ∧ Fct e 10 (.int .i64 (othersTo s k set (o : Int) (strongP s k set.testBit) c)) ∧ σ = ⟨F, (b7, bx 47 s.lots[k].enc) :: (kb, mapO es) :: R5⟩) (s.bidders.length) ?_ ?_
   · exact ⟨0, by omega, AX, AX, rfl⟩
   rintro m2 e2 _ ⟨c, hm2, ht67, ht10, rfl⟩
   by_cases hlc : c < s.bidders.length
   ·have hc6 : c < 6 := by omega
    refine AD (Af 1) <| Ac <| Ai Aa (by first | rfl | exact dT (by omega)) ?_
    by_cases hne : (c : Int) ≠ o
    ·refine Al <| Ab <| Ac <| Aq <| AD (Af 2) <| Az (Af 4) fun ds => Ae rfl rfl Aa (dT hne) <| Aj (Af 1) <| Ae rfl rfl Aa (dT hne) <| Aj (Af 1) <| Ae rfl rfl Aa (dT hne) <| Ag rfl (FM Aa Aa rfl (by show c < 64; omega) Dz) <| Ae rfl rfl Aa (dT hne) <| Ag rfl (HW Aa Aa (m := set / 2 ^ c) (k := 1) rfl rfl (by have := Nat.div_le_self set (2 ^ c); omega) (by omega) rfl) <| Ae rfl rfl Aa (dT hne) <| Aj (Af 1) <| Ae rfl rfl Aa (dT hne) <| Aj (Af 1) ?_
     by_cases hbit : set.testBit c = true
     ·refine Ae rfl rfl Aa (by first | (rw [CB, hbit]; done) | (rw [CB, hbit]; rfl)) <| Aj (Af 1) <| Ae rfl rfl Aa (by first | (rw [CB, hbit]; done) | (rw [CB, hbit]; rfl)) <| Aj (Af 1) <| Ae rfl rfl Aa (by first | (rw [CB, hbit]; done) | (rw [CB, hbit]; rfl)) <| Aj (Af 1) <| Ae rfl rfl Aa (dT hne) <| Ag rfl (As Aa (by first | (rw [CB, hbit]; done) | (rw [CB, hbit]; rfl)) Aa) <| Ag rfl (Ar Aa (dT hne) Aa) <| Ao <| Ab ?_
      by_cases hm : (c : Int) = (strongP s k set.testBit)
      ·refine Ai Aa (dT hm) <| Am fun ds => Aj (Af 4) <| Ag rfl (Bb Aa) <| Aj (Af 1) <| Ag rfl (AZ (k := k) Dd Aa Aa rfl (by omega)) <| Ag rfl (AZ (k := c) De Aa Aa rfl (by omega)) <| Ag rfl (Ak AF Aa (hX.most_cell (by omega : k < 6) (by omega : c < 6)).cell) <| Aj (Af 2) <| Ao <| A0 <| Ab <| Am fun ds => Ag rfl (AG Aa Aa rfl (by omega) (by omega)) <| Aj (Af 1) <| Ao ?_
       refine Ab ⟨_, m2 - 1, Off.eq (B3 rfl <| BR rfl <| Ca rfl <| BM rfl <| BX rfl <| A2), by omega, ?_⟩
       exact ⟨c + 1, by omega, AX, by rw [DP, if_pos (show otherOk set o (strongP s k set.testBit) c from ⟨hne, .inr hm⟩)]; exact AX, rfl⟩
      refine Ad Aa (dF hm) <| Al <| A0 <| Ab <| Am fun ds => Ag rfl (AG Aa Aa rfl (by omega) (by omega)) <| Aj (Af 1) <| Ao ?_
      refine Ab ⟨_, m2 - 1, Off.eq (B3 rfl <| Ca rfl <| A2), by omega, ?_⟩
      exact ⟨c + 1, by omega, AX, by rw [DP, if_neg (show ¬ otherOk set o (strongP s k set.testBit) c from fun h => h.2.elim (fun h => by rw [hbit] at h; cases h) hm)]; exact AX, rfl⟩
     replace hbit : set.testBit c = false := by simpa using hbit
     refine Ah rfl rfl Aa (.inl (congrArg Value.bool (by first | (rw [CB, hbit]; done) | (rw [CB, hbit]; rfl)))) rfl <| Ah rfl rfl Aa (.inl (congrArg Value.bool (by first | (rw [CB, hbit]; done) | (rw [CB, hbit]; rfl)))) rfl <| Ah rfl rfl Aa (.inl (congrArg Value.bool (by first | (rw [CB, hbit]; done) | (rw [CB, hbit]; rfl)))) rfl <| Ae rfl rfl Aa (dT hne) <| Ag rfl (Ar Aa (by first | (rw [CB, hbit]; done) | (rw [CB, hbit]; rfl)) Aa) <| Ag rfl (Ar Aa (dT hne) Aa) <| Ao <| Ab <| Ai Aa rfl <| Am fun ds => Aj (Af 4) <| Ag rfl (Bb Aa) <| Aj (Af 1) <| Ag rfl (AZ (k := k) Dd Aa Aa rfl (by omega)) <| Ag rfl (AZ (k := c) De Aa Aa rfl (by omega)) <| Ag rfl (Ak AF Aa (hX.most_cell (by omega : k < 6) (by omega : c < 6)).cell) <| Aj (Af 2) <| Ao <| A0 <| Ab <| Am fun ds => Ag rfl (AG Aa Aa rfl (by omega) (by omega)) <| Aj (Af 1) <| Ao ?_
     refine Ab ⟨_, m2 - 1, Off.eq (B3 rfl <| BR rfl <| Ca rfl <| BM rfl <| BX rfl <| A2), by omega, ?_⟩
     exact ⟨c + 1, by omega, AX, by rw [DP, if_pos (show otherOk set o (strongP s k set.testBit) c from ⟨hne, .inl hbit⟩)]; exact AX, rfl⟩
    refine Al <| Ab <| Ac <| Aq <| AD (Af 2) <| Az (Af 4) fun ds => Ah rfl rfl Aa (.inl (congrArg Value.bool (dF hne))) rfl <| Ah rfl rfl Aa (.inl (congrArg Value.bool (dF hne))) rfl <| Ah rfl rfl Aa (.inl (congrArg Value.bool (dF hne))) rfl <| Ah rfl rfl Aa (.inl (congrArg Value.bool (dF hne))) rfl <| Ah rfl rfl Aa (.inl (congrArg Value.bool (dF hne))) rfl <| Ah rfl rfl Aa (.inl (congrArg Value.bool (dF hne))) rfl <| Ah rfl rfl Aa (.inr rfl) rfl <| Ah rfl rfl Aa (.inr rfl) rfl <| Ah rfl rfl Aa (.inr rfl) rfl <| Ah rfl rfl Aa (.inl (congrArg Value.bool (dF hne))) rfl <| Ag rfl (As Aa (dF hne) Aa) <| Ao <| Ab <| Ad Aa rfl <| Al <| A0 <| Ab <| Am fun ds => Ag rfl (AG Aa Aa rfl (by omega) (by omega)) <| Aj (Af 1) <| Ao ?_
    refine Ab ⟨_, m2 - 1, Off.eq (B3 rfl <| Ca rfl <| A2), by omega, ?_⟩
    exact ⟨c + 1, by omega, AX, by rw [DP, if_neg (show ¬ otherOk set o (strongP s k set.testBit) c from fun h => hne h.1)]; exact AX, rfl⟩
   refine AD (Af 1) <| Ac <| Ad Aa (by first | rfl | exact dF (by omega)) ?_
   obtain rfl : c = s.bidders.length := by omega
   have hob := Gd hv (l := k) (set := set) (one := (o : Int)) (member := (strongP s k set.testBit)) (k := s.bidders.length)
   have hmb := Lp hv (l := k) (b := o) (Nat.le_refl _)
   refine AH ?_
   refine A8 <| A8 <| AB <| Ab <| BO (.inl rfl) (fun _ _ h => h) (kK <| kK <| List.nil_sublist _) [] (by kernel_rfl) fun ds => Au 0 rfl (kK <| kK <| List.nil_sublist _) (AI Aa) <| Au 1 rfl (kK <| kK <| List.nil_sublist _) (AI Aa) <| Au 2 rfl (kK <| kK <| List.nil_sublist _) (AI Aa) <| Au 3 rfl (kK <| kK <| List.nil_sublist _) (AV Rg Aa) <| Au 4 rfl (kK <| kK <| List.nil_sublist _) (Ak AF Aa (Cell.own 0 rfl rfl)) <| Au 5 rfl (kK <| kK <| List.nil_sublist _) (AI Aa) <| Au 6 rfl (kK <| kK <| List.nil_sublist _) (AI Aa) ?_
   refine Au 7 rfl (kK <| kK <| List.nil_sublist _) (AI Aa) <| Au 8 rfl (kK <| kK <| List.nil_sublist _) (AI Aa) <| Au 9 rfl (kK <| kK <| List.nil_sublist _) (Bb Aa) <| Au 10 rfl (kK <| kK <| List.nil_sublist _) (AV L7 Aa) <| Au 11 rfl (kK <| kK <| List.nil_sublist _) (AZ (k := k) Dd Aa Aa rfl (by omega)) <| Au 12 rfl (kK <| kK <| List.nil_sublist _) (AZ (k := o) De Aa Aa rfl (by omega)) <| Au 13 rfl (kK <| kK <| List.nil_sublist _) (Ak AF Aa (hX.most_cell (by omega : k < 6) (by omega : o < 6)).cell) ?_
   refine BU 14 rfl (by kernel_rfl) rfl (Be (Ay bd_80 Aa AW (Uk hX hv (by rw [e1]; omega) (by rw [e1]; omega) hob.1 hob.2 hmb.1 hmb.2) (fun _ _ h => h)) ⟨fun _ _ => (fun _ h => h.drop (kK <| kK <| List.nil_sublist _)), ?_⟩)
   refine Au 15 rfl (kK <| kK <| List.nil_sublist _) (Bm Pr (.cons Aa rfl (.cons Aa rfl .nil)) (.cons rfl rfl (Nat.le_of_ble_eq_true rfl) (.cons (.here) .nil) (.cons rfl rfl (Nat.le_of_ble_eq_true rfl) (.cons (.next <| .here) .nil) .nil))) ?_
   refine BU 16 rfl (by kernel_rfl) rfl (B5 (offs := [(0, 2)]) (zl := [.int .i64 0, .int .i64 0]) BQ FR rfl (.cons Aa rfl .nil) (by intro i p h; rcases i with _ | i <;> simp at h <;> subst h <;> rfl) (.cons rfl rfl (Nat.le_of_ble_eq_true rfl) (.cons (.here) (.cons (.next <| .here) .nil)) .nil) (by decide) (by decide) fun b13 hb13 nb13 => ⟨fun _ _ => (fun _ h => h.drop (kD <| kK <| kK <| List.nil_sublist _)), ?_⟩)
   refine BU 17 rfl (by kernel_rfl) rfl (Bp BQ Vb Aa ho Aa (B1 (s := 2) 0 rfl rfl (by simp [Value.oneCell'])) (by omega) (by omega) (.s <| .s <| .s <| .z) .last fun v14 R15 ho16 => ⟨fun _ _ => (fun _ h => h.drop (kD <| kK <| kK <| List.nil_sublist _)), ?_⟩)
   have ho3 := ho16.snoc (x := sellP s set k) rfl (by rw [TP hso hlow, ← e1]; first | done | rfl)
   refine Au 18 rfl (kD <| kK <| kK <| List.nil_sublist _) (Bk Aa) ?_
   refine BC (by kernel_rfl) ?_ _
   refine A0 <| Ab <| Bn (fun _ _ h => h.drop (kD <| kD <| kK <| .refl _)) <| Am fun ds => Ag rfl (AG Aa Aa rfl (by omega) (by omega)) <| Aj (Af 1) <| Ao ?_
   refine Ab ⟨_, m - 1, Off.eq (B3 rfl <| Ca rfl <| BM rfl <| Cg rfl <| DT rfl <| Ca rfl <| BM rfl <| A2), by omega, ?_⟩
   refine ⟨k + 1, by omega, AX, _, _, AX, by rw [Hl]; exact ho3, rfl⟩
  refine AD (Af 1) <| Ac <| Ad Aa (by first | rfl | exact dF (by omega)) ?_
  obtain rfl : k = s.lots.length := by omega
  refine Ch (σ := ⟨_, _⟩) (fun m hm => hm) ho (.s <| .z) .last fun F17 hF18 hz19 => ?_
  replace hX := hX.mono hF18
  replace hK := hK.mono hF18
  have hn2 := ho.sl (fun _ => rfl) hz19 (by have := HS (s := s) (set := set) (k := s.lots.length); omega)
  refine AH ?_
  refine A8 <| A8 <| AB <| Ab <| Az (Af 1) fun ds => Ag rfl (Bb Aa) <| Aj (Af 1) <| Ag rfl (Ak KE Aa hX.known_cell.cell) <| Aj (Af 2) <| AS <| Ml mapK Aa Aa Aa (i := 0) rfl (isKn hset) hK.keys hno (.here) <| Ao <| Ab <| AD (Af 2) <| At <| Dq rfl Bd (.cons (.here) <| .nil) rfl ?_
  exact ⟨_, rfl, hK.snoc (isKn hset) hno hn2, hn2⟩
 refine AD (Af 1) <| Az (Af 1) fun ds => Ag rfl (Bb Aa) <| Aj (Af 1) <| Ag rfl (Ak KE Aa hX.known_cell.cell) <| Aj (Af 1) <| Ag rfl (PI mapK Aa Aa (i := 0) rfl (isKn hset) hK.keys hK.nodup hj) <| Aw (Af 5) <| Ac <| AD (Af 1) <| Ai Aa rfl <| AD (Af 2) <| At <| Ax <| Dq rfl Bd (.cons (.here) <| .nil) rfl ?_
 exact ⟨es, rfl, hK, hK.vals _ _ _ hj⟩
end
section
open Go
theorem TE {s : Sale} {lot : Int} {mem : Int → Bool} {i : Nat} (hi : i < s.bids.length) (h1 : (s.bid i).lot = lot) (h2 : mem (s.bid i).bidder = true)
   (h3 : ∀ j, j < s.bids.length → (s.bid j).lot = lot → mem (s.bid j).bidder = true → (s.bid j).most < (s.bid i).most ∨ (s.bid j).most = (s.bid i).most ∧ i ≤ j) : topS s lot mem = (i : Int) := by
 rcases Fd (s := s) (lot := lot) (mem := mem) s.bids.length with ⟨-, g⟩ | ⟨k, g1, g2, g3, g4, g5⟩
 · exact (g i hi h1 h2).elim
 have r1 := g5 i hi h1 h2
 have r2 := h3 k g1 g2 g3
 have : k = i := by omega
 subst this; exact g4
theorem top_lt {s : Sale} {lot : Int} {mem : Int → Bool} {i : Nat} (h : topS s lot mem = (i : Int)) : i < s.bids.length ∧ (s.bid i).lot = lot ∧ mem (s.bid i).bidder = true ∧ ∀ j, j < s.bids.length → (s.bid j).lot = lot → mem (s.bid j).bidder = true → (s.bid j).most < (s.bid i).most ∨ (s.bid j).most = (s.bid i).most ∧ i ≤ j := by
 rcases Fd (s := s) (lot := lot) (mem := mem) s.bids.length with ⟨g, -⟩ | ⟨k, g1, g2, g3, g4, g5⟩
 · unfold topS at h; omega
 have : k = i := by unfold topS at h; omega
 subst this; exact ⟨g1, g2, g3, g5⟩
theorem NR {s : Sale} {l : Int} {r r' : List Int} (hsub : ∀ b, inRing r b = true → inRing r' b = true) : ∀ i ∈ biddingL s l r', i ∈ biddingL s l r := fun i hi => by
 have hlt := Eb i hi
 have hp := (List.mem_filter.1 hi).2
 unfold biddingP at hp
 simp only [Bool.and_eq_true, decide_eq_true_eq, Bool.or_eq_true] at hp
 unfold biddingL
 rw [List.mem_filter]
 refine ⟨by simpa using hlt, ?_⟩
 unfold biddingP
 simp only [Bool.and_eq_true, decide_eq_true_eq, Bool.or_eq_true]
 refine ⟨hp.1, ?_⟩
 by_cases hb : inRing r (s.bid i).bidder = true
 · left
   have hb' := hsub _ hb
   rcases hp.2 with h | h
   · obtain ⟨-, -, -, h5⟩ := top_lt h.symm
     exact (TE hlt hp.1 hb fun j hj hl hm => h5 j hj hl (hsub _ hm)).symm
   rw [hb'] at h; cases h
 right; simpa using hb
theorem OD {s : Sale} (hv : ValidS s) {l : Int} {one : Int} {r r' : List Int} (hsub : ∀ b, inRing r b = true → inRing r' b = true) : othersL s one (biddingL s l r') ≤ othersL s one (biddingL s l r) := by
 refine (EA (c := fun i : Nat => (i : Int) ≠ one) (f := fun i => (s.bid i).most) _ _).2 ⟨(EX hv Eb).1, fun i hi hc => ?_⟩
 exact (DY (c := fun i : Nat => (i : Int) ≠ one) (f := fun i => (s.bid i).most)).2 i (NR hsub i hi) hc
theorem RQ {s : Sale} (hv : ValidS s) {l : Nat} (hl : l < s.lots.length) {r r' : List Int} (hsub : ∀ b, inRing r b = true → inRing r' b = true) : (soldS s l r').bidder = (soldS s l r).bidder ∧ (soldS s l r').price ≤ (soldS s l r).price := by
 have hr := hv.lo l hl
 rcases K8 hv hl r with ⟨h, h0⟩ | ⟨i, b, h1, h2, h3, h4, h5, h⟩
 · rw [h, show soldS s l r' = ⟨-1, 0⟩ from if_pos h0]; exact ⟨rfl, Int.le_refl _⟩
 rcases K8 hv hl r' with ⟨h', h0'⟩ | ⟨i', b', h1', h2', h3', h4', h5', h'⟩
 · rw [h3] at h0'; simp only [Int.toNat_natCast] at h0'; omega
 have : i' = i := by omega
 subst this
 have : b' = b := by have := h4.2; have := h4'.2; omega
 subst this
 rw [h, h']
 refine ⟨rfl, ?_⟩
 have ho := OD hv (l := l) (one := (i' : Int)) hsub
 refine LO hv (by omega) fun q q1 q2 q3 => ⟨by omega, q3⟩
theorem Qi {b : Int} : inRing [] b = true → False := by simp [inRing]
def partP (p m : Int) : Int := (p * m + 500) / 1000
theorem Kl {p m : Int} (h0 : 0 ≤ p) (hm0 : 0 ≤ m) (hm : m ≤ 500) : 0 ≤ partP p m ∧ partP p m ≤ p := by
 unfold partP
 have h1 : 0 ≤ p * m := Int.mul_nonneg h0 hm0
 have h2 : p * m ≤ p * 500 := Int.mul_le_mul_of_nonneg_left hm h0
 omega
def backB (rs : List Back) (i : Nat) : Bool := rs.any fun y => decide (y.lot = (i : Int))
def liveB (s : Sale) (ring : List Int) (rs : List Back) (i : Nat) : Bool := decide ((soldS s i ring).bidder ≠ -1) && !(backB rs i)
def payTo (s : Sale) (ring : List Int) (rs : List Back) (b : Nat) : Nat → Int
 | 0 => 0
 | k + 1 => if liveB s ring rs k = true ∧ (soldS s k ring).bidder = (b : Int) then payTo s ring rs b k + ((soldS s k ring).price + partP (soldS s k ring).price s.premium) else payTo s ring rs b k
def getTo (s : Sale) (ring : List Int) (rs : List Back) (c : Nat) : Nat → Int
 | 0 => 0
 | k + 1 => if liveB s ring rs k = true ∧ (s.lot k).seller = (c : Int) then getTo s ring rs c k + ((soldS s k ring).price - partP (soldS s k ring).price s.fee) else getTo s ring rs c k
def houseTo (s : Sale) (ring : List Int) (rs : List Back) : Nat → Int
 | 0 => 0
 | k + 1 => if liveB s ring rs k = true then houseTo s ring rs k + (partP (soldS s k ring).price s.premium + partP (soldS s k ring).price s.fee) else houseTo s ring rs k
theorem Hs {s : Sale} (hv : ValidS s) (ring : List Int) {k : Nat} (hk : k < s.lots.length) : 0 ≤ (soldS s k ring).price ∧ (soldS s k ring).price ≤ 100000 ∧ 0 ≤ partP (soldS s k ring).price s.premium ∧ partP (soldS s k ring).price s.premium ≤ (soldS s k ring).price ∧ 0 ≤ partP (soldS s k ring).price s.fee ∧ partP (soldS s k ring).price s.fee ≤ (soldS s k ring).price := by
 have h := Dl hv hk ring
 have h1 := Kl h.2.2.1 hv.pre.1 hv.pre.2
 have h2 := Kl h.2.2.1 hv.fee.1 hv.fee.2
 omega
theorem Fo {s : Sale} (hv : ValidS s) {ring : List Int} {rs : List Back} {b : Nat} : ∀ k, k ≤ s.lots.length → 0 ≤ payTo s ring rs b k ∧ payTo s ring rs b k ≤ 200000 * k ∧ 0 ≤ getTo s ring rs b k ∧ getTo s ring rs b k ≤ 100000 * k ∧ 0 ≤ houseTo s ring rs k ∧ houseTo s ring rs k ≤ 200000 * k
 | 0, _ => by simp [payTo, getTo, houseTo]
 | k + 1, hk => by
   have ih := Fo hv (ring := ring) (rs := rs) (b := b) k (by omega)
   have hf := Hs hv ring (k := k) (by omega)
   unfold payTo getTo houseTo
   refine ⟨?_, ?_, ?_, ?_, ?_, ?_⟩ <;> split <;> omega
def ivals (f : Nat → Int) (n : Nat) : List Value := (List.range n).map fun b => .int .i64 (f b)
theorem FE {f : Nat → Int} {n : Nat} : (ivals f n).length = n := by simp [ivals]
theorem MC {f : Nat → Int} {n b : Nat} (h : b < n) : (ivals f n)[b]? = some (.int .i64 (f b)) := by simp [ivals, h]
theorem MB {f g : Nat → Int} {n b : Nat} {z : Int} (h1 : g b = z) (h2 : ∀ c, c ≠ b → g c = f c) : (ivals f n).set b (.int .i64 z) = ivals g n := by
 unfold ivals
 apply List.ext_getElem
 · simp
 intro i h3 h4
 rw [List.getElem_set]
 simp only [List.getElem_map, List.getElem_range]
 by_cases hi : b = i
 · subst hi; rw [if_pos rfl, h1]
 rw [if_neg hi, h2 _ (Ne.symm hi)]
theorem CV {n : Nat} {f : Nat → Int} (h : ∀ b, f b = 0) : List.replicate n (.int .i64 0) = ivals f n := by
 unfold ivals
 apply List.ext_getElem
 · simp
 intro i h1 h2; simp [h]
theorem pay_set {s : Sale} {ring : List Int} {rs : List Back} {k b n : Nat} (hl : liveB s ring rs k = true) (hb : (soldS s k ring).bidder = (b : Int)) :
   (ivals (fun b => payTo s ring rs b k) n).set b (.int .i64 (payTo s ring rs b k + ((soldS s k ring).price + partP (soldS s k ring).price s.premium))) = ivals (fun b => payTo s ring rs b (k + 1)) n :=
 MB (by show payTo s ring rs b (k + 1) = _; rw [payTo, if_pos ⟨hl, hb⟩]) fun c hc => by show payTo s ring rs c (k + 1) = _; rw [payTo, if_neg]; rintro ⟨-, h⟩; exact hc (by omega)
theorem get_set {s : Sale} {ring : List Int} {rs : List Back} {k b n : Nat} (hl : liveB s ring rs k = true) (hb : (s.lot k).seller = (b : Int)) :
   (ivals (fun b => getTo s ring rs b k) n).set b (.int .i64 (getTo s ring rs b k + ((soldS s k ring).price - partP (soldS s k ring).price s.fee))) = ivals (fun b => getTo s ring rs b (k + 1)) n :=
 MB (by show getTo s ring rs b (k + 1) = _; rw [getTo, if_pos ⟨hl, hb⟩]) fun c hc => by show getTo s ring rs c (k + 1) = _; rw [getTo, if_neg]; rintro ⟨-, h⟩; exact hc (by omega)
theorem Qj {s : Sale} {ring : List Int} {rs : List Back} {k : Nat} (hl : liveB s ring rs k = true) : houseTo s ring rs (k + 1) = houseTo s ring rs k + (partP (soldS s k ring).price s.premium + partP (soldS s k ring).price s.fee) := by rw [houseTo, if_pos hl]
theorem Pz {s : Sale} {ring : List Int} {rs : List Back} {k : Nat} (hl : liveB s ring rs k = false) : (∀ n, ivals (fun b => payTo s ring rs b (k + 1)) n = ivals (fun b => payTo s ring rs b k) n) ∧ (∀ n, ivals (fun b => getTo s ring rs b (k + 1)) n = ivals (fun b => getTo s ring rs b k) n) ∧ houseTo s ring rs (k + 1) = houseTo s ring rs k := by
 refine ⟨fun n => ?_, fun n => ?_, ?_⟩
 · congr 1; funext b; rw [payTo, if_neg (by rw [hl]; simp)]
 · congr 1; funext b; rw [getTo, if_neg (by rw [hl]; simp)]
 rw [houseTo, if_neg (by rw [hl]; simp)]
def retErrAt (s : Sale) (ring : List Int) (rs : List Back) (i : Nat) : Int := match rs[i]? with
 | none => 0
 | some x => if inB 0 (s.lots.length - 1) x.lot = false then 4 else if (rs.take i).any (fun y => decide (y.lot = x.lot)) = true then 5 else if inB 0 s.days x.day = false then 7
   else if (s.lot x.lot.toNat).defect = false ∨ (soldS s x.lot.toNat ring).bidder = -1 then 9 else 0
theorem CU {s : Sale} {ring : List Int} {rs : List Back} {k : Nat} (h : k < rs.length) : retErrAt s ring rs k = if inB 0 (s.lots.length - 1) rs[k].lot = false then 4 else if (rs.take k).any (fun y => decide (y.lot = rs[k].lot)) = true then 5 else if inB 0 s.days rs[k].day = false then 7
   else if (s.lot rs[k].lot.toNat).defect = false ∨ (soldS s rs[k].lot.toNat ring).bidder = -1 then 9 else 0 := by unfold retErrAt; rw [List.getElem?_eq_getElem h]
def retErr (s : Sale) (ring : List Int) (rs : List Back) : Int := match firstBad rs.length (retErrAt s ring rs) with
 | none => 0
 | some i => retErrAt s ring rs i
theorem DD {s : Sale} {ring : List Int} {rs : List Back} {k : Nat} {e : Int} (hk : k < rs.length) (hb : ∀ j, j < k → retErrAt s ring rs j = 0) (he : retErrAt s ring rs k = e) (hne : e ≠ 0) : retErr s ring rs = e := by
 unfold retErr; rw [GU hk (by rw [he]; exact hne) hb]; exact he
theorem JA {s : Sale} {ring : List Int} {rs : List Back} (hb : ∀ j, j < rs.length → retErrAt s ring rs j = 0) : retErr s ring rs = 0 := by
 unfold retErr; rw [GV hb]
abbrev Acc := List Int × List Int × Int × Int
def accE (s : Sale) (ring : List Int) (rs : List Back) : Acc :=
 if enterErr s ring ≠ 0 then ([], [], 0, enterErr s ring) else if retErr s ring rs ≠ 0 then ([], [], 0, retErr s ring rs)
 else ((List.range s.bidders.length).map (fun b => payTo s ring rs b s.lots.length), (List.range s.sellers.length).map (fun c => getTo s ring rs c s.lots.length), houseTo s ring rs s.lots.length, 0)
theorem Wb {s : Sale} {ring : List Int} {rs : List Back} (h : enterErr s ring ≠ 0) : accE s ring rs = ([], [], 0, enterErr s ring) := if_pos h
theorem Fq {s : Sale} {ring : List Int} {rs : List Back} {e : Int} (h : enterErr s ring = 0) (he : retErr s ring rs = e) (hne : e ≠ 0) : accE s ring rs = ([], [], 0, e) := by subst he; unfold accE; rw [if_neg (fun k => k h), if_pos hne]
theorem Og {s : Sale} {ring : List Int} {rs : List Back} (h : enterErr s ring = 0) (he : retErr s ring rs = 0) : accE s ring rs = ((List.range s.bidders.length).map (fun b => payTo s ring rs b s.lots.length), (List.range s.sellers.length).map (fun c => getTo s ring rs c s.lots.length), houseTo s ring rs s.lots.length, 0) := by
 unfold accE; rw [if_neg (fun k => k h), if_neg (fun k => k he)]
def AccR (F : Heap) (u : Value) (p : Acc) : Prop := ∃ v w, u = .tuple #[v, w, .int .i64 p.2.2.1, .int .i64 p.2.2.2] ∧ Ints F v p.1 ∧ Ints F w p.2.1
theorem AccR.mono {F F' : Heap} {u : Value} {p : Acc} (h : AccR F u p) (hF : F.le F') : AccR F' u p := by obtain ⟨v, w, h1, h2, h3⟩ := h; exact ⟨v, w, h1, h2.mono hF, h3.mono hF⟩
theorem BF {s : Sale} {ring : List Int} : (allS s ring).length = s.lots.length := by simp [allS]
theorem ET {s : Sale} {ring : List Int} {k : Nat} (h : k < (allS s ring).length) : (allS s ring)[k] = soldS s k ring := by simp [allS]
theorem Q3 {rs : List Back} {k t : Nat} (hk : k < rs.length) : backB (rs.take (k + 1)) t = (backB (rs.take k) t || decide (rs[k].lot = (t : Int))) := by
 unfold backB; rw [List.take_succ_eq_append_getElem hk, List.any_append]; simp
theorem S2 {rs : List Back} {k l mask : Nat} (hk : k < rs.length) (hl : rs[k].lot = (l : Int)) (h : ∀ t : Nat, mask.testBit t = backB (rs.take k) t) : ∀ t : Nat, (mask ||| 2 ^ l).testBit t = backB (rs.take (k + 1)) t := fun t => by
 rw [Nat.testBit_or, Nat.testBit_two_pow, h, Q3 hk, hl]
 congr 1
 rw [Bool.eq_iff_iff]; simp; omega
def savedTo (s : Sale) (ring : List Int) : Nat → Int
 | 0 => 0
 | k + 1 => if (soldS s k ring).bidder ≠ -1 ∧ inRing ring (soldS s k ring).bidder = true then savedTo s ring k + ((soldS s k []).price - (soldS s k ring).price) else savedTo s ring k
def savedS (s : Sale) (ring : List Int) : Int := savedTo s ring s.lots.length
theorem FU {s : Sale} (hv : ValidS s) {ring : List Int} : ∀ k, k ≤ s.lots.length → 0 ≤ savedTo s ring k ∧ savedTo s ring k ≤ 100000 * k
 | 0, _ => by simp [savedTo]
 | k + 1, hk => by
   have ih := FU hv (ring := ring) k (by omega)
   have h1 := (RQ hv (l := k) (by omega) (r := []) (r' := ring) fun b hb => (Qi hb).elim).2
   have h2 := Dl hv (l := k) (by omega) ring
   have h3 := Dl hv (l := k) (by omega) []
   unfold savedTo
   split <;> omega
def shareN (saved n : Int) (i : Nat) : Int := saved / n + if (i : Int) < saved % n then 1 else 0
def shareTo (saved : Int) (n k : Nat) : List Int := (List.range k).map (shareN saved n)
theorem HR {saved : Int} {n k : Nat} : shareTo saved n (k + 1) = shareTo saved n k ++ [shareN saved n k] := by unfold shareTo; rw [List.range_succ, List.map_append]; rfl
theorem FT {saved : Int} {n k : Nat} : (shareTo saved n k).length = k := by simp [shareTo]
def shareE (s : Sale) (ring : List Int) : List Int × Int := if enterErr s ring ≠ 0 then ([], enterErr s ring) else (shareTo (savedS s ring) ring.length ring.length, 0)
theorem PC {s : Sale} {ring : List Int} {e : Int} (h : enterErr s ring = e) (he : e ≠ 0) : shareE s ring = ([], e) := by subst h; exact if_pos he
theorem RR {s : Sale} {ring : List Int} (h : enterErr s ring = 0) : shareE s ring = (shareTo (savedS s ring) ring.length ring.length, 0) := if_neg (fun k => k h)
def IntsR (F : Heap) (u : Value) (p : List Int × Int) : Prop := ∃ v, u = .tuple #[v, .int .i64 p.2] ∧ Ints F v p.1
theorem IntsR.mono {F F' : Heap} {u : Value} {p : List Int × Int} (h : IntsR F u p) (hF : F.le F') : IntsR F' u p := by obtain ⟨v, h1, h2⟩ := h; exact ⟨v, h1, h2.mono hF⟩
end
section
set_option maxRecDepth 100000
open Go.RowKit
theorem KQ : ZeroT Tryz.prog 54 (.agg #[.int .i64 0, .int .i64 0]) := Br (by kernel_rfl)
theorem Q7 : AggT Tryz.prog 54 2 := Cu (by kernel_rfl)
instance : AggI Tryz.prog 54 2 := ⟨Q7⟩
theorem KJ : FieldT Tryz.prog 57 0 0 := AU (by kernel_rfl)
instance : FieldI Tryz.prog 57 0 0 := ⟨KJ⟩
instance : FieldI Tryz.prog 47 3 3 := ⟨AU (by kernel_rfl)⟩
instance : FieldI Tryz.prog 54 0 0 := ⟨AU (by kernel_rfl)⟩
instance : FieldI Tryz.prog 54 1 1 := ⟨AU (by kernel_rfl)⟩
theorem Uu : OneT Tryz.prog 4 := BE (by kernel_rfl)
instance : OneI Tryz.prog 4 := ⟨Uu⟩
theorem Kg : SliceT Tryz.prog 55 54 2 := Ci (by kernel_rfl)
instance : SliceI Tryz.prog 55 := ⟨_, _, Kg⟩
theorem sz_54 : SizeT Tryz.prog 54 2 := Bx (by kernel_rfl)
theorem QN {F : Heap} {p m : Int} (h0 : 0 ≤ p) (h1 : p ≤ 100000) (hm0 : 0 ≤ m) (hm : m ≤ 500) : Ok Tryz.prog 47 [.int .i64 p, .int .i64 m].toArray F fun r _ => r = .int .i64 (partP p m) := by
 refine Ok.intro Tryz.func47 rfl Tryz.ntmps47 rfl fun w0 => ?_
 have hm1 : 0 ≤ p * m := Int.mul_nonneg h0 hm0
 have hm2 : p * m ≤ 100000 * m := Int.mul_le_mul_of_nonneg_right h1 hm0
 refine AD (Af 1) <| Az (Af 2) fun ds => Ag rfl (Mx Aa Aa rfl (by omega) (by omega)) <| Ag rfl (AG Aa Aa rfl (by omega) (by omega)) <| Ag rfl (Mw Aa Aa (by omega) (by omega) (by omega)) <| Aw (Af 1) <| At <| Ap rfl Bd ?_
 rfl
theorem Ld {F : Heap} {p m : Int} (h0 : 0 ≤ p) (h1 : p ≤ 100000) (hm0 : 0 ≤ m) (hm : m ≤ 500) : Ok Tryz.prog 12 [.int .i64 p, .int .i64 m].toArray F fun r _ => r = .int .i64 (partP p m) := by
 refine Ok.intro Tryz.func12 rfl Tryz.ntmps12 rfl fun w0 => ?_
 have hm1 : 0 ≤ p * m := Int.mul_nonneg h0 hm0
 have hm2 : p * m ≤ 100000 * m := Int.mul_le_mul_of_nonneg_right h1 hm0
 have hm3 : 2 * p * m = 2 * (p * m) := Int.mul_assoc _ _ _
 refine AD (Af 1) <| Az (Af 1) fun ds => Ag rfl (Mx Aa Aa rfl (by omega) (by omega)) <| Aj (Af 1) <| Ag rfl (Mx Aa Aa rfl (by omega) (by omega)) <| Ag rfl (AG Aa Aa rfl (by omega) (by omega)) <| Ag rfl (Mw Aa Aa (by omega) (by omega) (by omega)) <| Aw (Af 1) <| At <| Ap rfl Bd ?_
 show _ = _
 have hq : (2 * p * m + 1000) / 2000 = partP p m := by unfold partP; rw [hm3]; omega
 rw [← hq]; rfl
end
section
open Go.RowKit
theorem OkN.ok {P : Program} {f : FuncId} {args : Array Value} {F : Heap} {R : Value → Heap → List (Nat × Obj) → Prop} {R' : Value → Heap → Prop} (h : OkN P f args F R)
   (hr : ∀ v F' F2 Hn, F'.le F2 → (∀ p ∈ Hn, F2 p.1 = some p.2) → R v F' Hn → R' v F2) : Ok P f args F R' := by
 intro w hs _ _
 refine (h w hs).mono fun r w' hq => ?_
 obtain ⟨v, F', Hn, rfl, hg, hH, hnd, hR⟩ := hq
 have hin : ∀ p ∈ Hn, joined ⟨F', Hn⟩ p.1 = some p.2 := fun p hp => by
   have hex : ∃ q ∈ (⟨F', Hn⟩ : St).H, q.1 = p.1 := ⟨p, hp, rfl⟩
   unfold joined
   rw [dif_pos hex]
   have h1 := Classical.choose_spec hex
   have h2 := (hH _ h1.1).1
   rw [h1.2, (hH p hp).1] at h2
   exact h2.symm
 have hout : ∀ b, (∀ p ∈ Hn, p.1 ≠ b) → joined ⟨F', Hn⟩ b = F' b := fun b hb => by
   unfold joined
   rw [dif_neg]
   rintro ⟨q, hq, rfl⟩
   exact hb q hq rfl
 have hle : F'.le (joined ⟨F', Hn⟩) := fun b o hb => by
   rw [hout b]
   · exact hb
   intro p hp he
   rw [← he, (hH p hp).2.1] at hb
   cases hb
 refine ⟨v, joined ⟨F', Hn⟩, [], rfl, ⟨hg.os, hg.tape, hg.output, hg.size, hg.old, Heap.le_trans hg.le hle, fun b o hb => ?_, fun b hb => ?_⟩, rfl, (fun p hp => nomatch hp), hr v F' _ Hn hle hin hR⟩
 · by_cases hex : ∃ p ∈ Hn, p.1 = b
   · obtain ⟨p, hp, rfl⟩ := hex
     rw [hin p hp] at hb
     rw [← hb]; exact (hH p hp).1
   rw [hout b (fun p hp he => hex ⟨p, hp, he⟩)] at hb
   exact hg.sub b o hb
 rw [hout b]
 · exact hg.ext b hb
 intro p hp he
 have := (hH p hp).2.2
 omega
theorem Qe {f : Nat → Int} {n : Nat} : ((List.range n).map f).flatMap intE = ivals f n := by
 unfold ivals
 rw [List.flatMap_map]
 generalize List.range n = l
 induction l with
 | nil => rfl
 | cons a l ih => rw [List.flatMap_cons, ih]; rfl
theorem M1 {E b n : Nat} {f : Nat → Int} : Own E 1 (.slice (some ⟨b, 0, none⟩) n n) ((List.range n).map f).length (((List.range n).map f).flatMap intE) [(b, bx E (ivals f n))] := by
 rw [Qe, List.length_map, List.length_range]
 exact GA (by rw [FE, Nat.mul_one])
def AccN (E : Nat) (u : Value) (Hn : List (Nat × Obj)) (p : Acc) : Prop := ∃ (v w : Value) (R1 R2 : List (Nat × Obj)), u = .tuple #[v, w, .int .i64 p.2.2.1, .int .i64 p.2.2.2] ∧ Own E 1 v p.1.length (p.1.flatMap intE) R1 ∧ Own E 1 w p.2.1.length (p.2.1.flatMap intE) R2 ∧ Hn = R1 ++ R2 ∧ p.1.length ≤ 6 ∧ p.2.1.length ≤ 6
theorem Fp {E : Nat} {a b : Int} : AccN E (.tuple #[.slice none 0 0, .slice none 0 0, .int .i64 a, .int .i64 b]) [] ([], [], a, b) := ⟨_, _, [], [], rfl, BZ, BZ, rfl, by simp, by simp⟩
theorem accN_R {E : Nat} {u : Value} {Hn : List (Nat × Obj)} {p : Acc} {F : Heap} (h : AccN E u Hn p) (hH : ∀ q ∈ Hn, F q.1 = some q.2) : AccR F u p := by
 obtain ⟨v, w, R1, R2, h1, h2, h3, rfl, h4, h5⟩ := h
 exact ⟨v, w, h1, h2.sl (fun _ => rfl) (fun q hq => hH q (List.mem_append_left _ hq)) (by omega), h3.sl (fun _ => rfl) (fun q hq => hH q (List.mem_append_right _ hq)) (by omega)⟩
end
section
set_option maxRecDepth 100000
open Go.RowKit
theorem Ng : Body Tryz.prog 44 := AE (by kernel_rfl)
theorem Nf : Body Tryz.prog 45 := AE (by kernel_rfl)
theorem bd_47 : Body Tryz.prog 47 := AE (by kernel_rfl)
theorem NK : FieldT Tryz.prog 57 1 1 := AU (by kernel_rfl)
instance : FieldI Tryz.prog 57 1 1 := ⟨NK⟩
theorem PA : Tryz.prog.stoodInHeld 57 = false := by kernel_rfl
theorem Qm : Tryz.prog.eqGuardType Tryz.prog.depth 57 = false := by kernel_rfl
theorem PS : OneT Tryz.prog 3 := BE (by kernel_rfl)
instance : OneI Tryz.prog 3 := ⟨PS⟩
theorem PG {s : Sale} (hv : ValidS s) {l : Nat} (hl : l < s.lots.length) {ring : List Int} (h : (soldS s l ring).bidder = -1) : (soldS s l ring).price = 0 := by rw [(Ot hv hl ring).1 h]
theorem K4 {F : Heap} {vs vb vl vn vd : Value} {s : Sale} (hr : SaleR F vs vb vl vn vd s) {vr : Value} {ring : List Int} (hx : Ints F vr ring) {vq : Value} {rs : List Back} (hq : Sl F vq 2 Back.enc rs) : OkN Tryz.prog 11 [.agg #[vs, .int .i64 s.premium, .int .i64 s.fee, .int .i64 s.days, vb, vl, vn, vd], vr, vq].toArray F fun u _ Hn => AccN 3 u Hn (accE s ring rs) := by
 refine OkN.intro Tryz.func11 rfl Tryz.ntmps11 rfl fun w0 => ?_
 have hL1 := hr.lots.plain.lt
 have hL2 := hr.bidders.plain.lt
 have hL3 := hr.sellers.plain.lt
 have hL4 := hq.plain.lt
 by_cases hok : enterErr s ring = 0
 ·have hv := BV (Fk hok).1
  have hnl := hv.nl
  have hnb := hv.nb
  have hnse := hv.nse
  refine Ac <| Am fun ds => A5 rfl <| Bg Aa rfl fun b1 hb1 nb1 => Aw (Af 4) <| Az (Af 2) fun ds => A5 rfl <| BY Ng Aa AW (LG hr hx hok) fun v2 F3 R6 hr4 hF5 => ?_
  obtain ⟨ba, kb, set, rfl, hX, hset, hsof, rfl⟩ := hr4
  refine Aw (Af 7) <| Ac <| AD (Af 2) <| Ad Aa (by decide) <| Al <| Ab <| Az (Af 2) fun ds => Fs (.cons (.next <| .here) <| .cons (.here) <| .nil) <| A5 rfl <| Eh Nf Aa AW rfl (G5 hX hv KnownC.nil (set := set) hset) fun v11 F12 H15 hr13 hF14 => ?_
  have hU36 := Heap.le_trans hF5 hF14
  replace hr := hr.mono hU36
  replace hq := hq.mono hU36
  obtain ⟨es2, rfl, hK2, hal⟩ := hr13
  rw [Fe hv (fun b _ => hsof b)] at hal
  refine Aw (Af 1) <| AD (Af 1) <| Ac <| Az (Af 1) fun ds => Ag rfl (A4 Kg Aa hq.plain) <| Aw (Af 1) <| Aq ?_
  refine AL [6, 7, 8, 9, 13, 15, 35, 36, 37, 38, 39, 40, 41, 42, 43, 44, 45, 46, 47, 48, 49, 50, 51, 52, 53, 54, 55, 56, 57, 58, 59, 60, 61, 62, 63, 64, 65, 66, 67, 68, 69, 70, 71, 72, 73, 74, 75, 76, 77, 78, 79, 80, 81, 82, 83, 84, 85] (fun m e σ => ∃ G, F12.le G ∧ ∃ k mask : Nat, m + k = rs.length ∧ Fct e 35 (.int .i64 (k : Int)) ∧ Fct e 13 (.int .i64 (mask : Int)) ∧ Fct e 8 (.int .i64 0) ∧ mask < 64 ∧ (∀ t : Nat, mask.testBit t = backB (rs.take k) t) ∧ (∀ j, j < k → retErrAt s ring rs j = 0) ∧ σ = ⟨G, [(kb, mapO es2), (b1, bx 33 [vs, .int .i64 s.premium, .int .i64 s.fee, .int .i64 s.days, vb, vl, vn, vd])]⟩) (rs.length) ?_ ?_
  · exact ⟨_, Heap.le_refl _, 0, 0, by omega, AX, AX, AX, by omega, fun t => by simp [backB], fun j h => absurd h (by omega), rfl⟩
  rintro m e _ ⟨G, hFG, k, mask, hm9, hs35, hs13, hs8, hm64, hbits, hno, rfl⟩; replace hr := hr.mono hFG; replace hq := hq.mono hFG; replace hal := hal.mono hFG
  by_cases hlt : k < rs.length
  ·refine AD (Af 1) <| Ac <| Ai Aa (by first | rfl | exact dT (by omega)) ?_
   by_cases h1 : inB 0 (s.lots.length - 1) rs[k].lot = true
   ·obtain ⟨l, hl, hll⟩ := QY h1
    obtain ⟨e1, -⟩ := JG hv hll
    have hll2 : l < (allS s ring).length := by rw [BF]; exact hll
    have hl6 : l < 6 := by omega
    have hlp := Lh hl6
    have hln : rs[k].lot.toNat = l := by rw [hl]; rfl
    have hbe : (rs.take k).any (fun y => decide (y.lot = rs[k].lot)) = mask.testBit l := by rw [hbits, hl]; rfl
    refine Al <| Ab <| Ac <| Aq <| Ac <| Am fun ds => Ag rfl (A1  Kg Aa hq.plain Aa rfl hlt) <| Ag rfl (AC Q7 Aa rfl rfl (hq.whole hlt)) <| A5 rfl <| AO KQ rfl fun b17 hb17 nb17 => AS <| AP sz_54 Aa Aa (i := 0) rfl rfl rfl rfl Back.enc_one (.here) <| Ao <| Ab <| Ac <| Aq <| Az (Af 2) fun ds => Ag rfl (A4 BN Aa hr.lots.plain) <| Ag rfl (B4 Aa Aa rfl (by omega) (by omega)) <| Aj (Af 2) <| A5 rfl <| AM A9 B2 rfl (.cons Aa .nil) rfl rfl (by decide) (by simp [Value.oneCell']) fun b18 hb18 nb18 => AJ (i := 0) rfl hb18 .here fun F19 hF20 hz21 => ?_
    replace hr := hr.mono hF20
    replace hal := hal.mono hF20
    replace hFG := Heap.le_trans hFG hF20
    have hsl22 := Bh hz21
    refine AN rfl (Ay Cc Aa AW (Bj _ _ hsl22) (fun _ _ h => h)) <| Aw (Af 1) <| Ad Aa (by simp [h1]) ?_
    by_cases hany : (rs.take k).any (fun y => decide (y.lot = rs[k].lot)) = true
    ·refine Az (Af 3) fun ds => Ag rfl (FM Aa Aa (k := l) hl (by show l < 64; omega) Dz) <| Ag rfl (HW Aa Aa (m := mask / 2 ^ l) (k := 1) rfl rfl (by have := Nat.div_le_self mask (2 ^ l); omega) (by omega) rfl) <| Aw (Af 2) <| Ai Aa (by rw [C9, ← hbe]; exact hany) <| AD (Af 4) <| At ?_
     refine A7 (Ax (A7 (Ax (Ax (A7 (Ax ?_))))))
     refine BK rfl Bd (List.nil_sublist _) ?_
     rw [Fq hok (DD hlt hno (show retErrAt s ring rs k = 5 by rw [CU hlt]; simp [h1, hany]) (by decide)) (by decide)]
     exact Fp
    replace hany : (rs.take k).any (fun y => decide (y.lot = rs[k].lot)) = false := by simpa using hany
    refine Az (Af 3) fun ds => Ag rfl (FM Aa Aa (k := l) hl (by show l < 64; omega) Dz) <| Ag rfl (HW Aa Aa (m := mask / 2 ^ l) (k := 1) rfl rfl (by have := Nat.div_le_self mask (2 ^ l); omega) (by omega) rfl) <| Aw (Af 2) <| Ad Aa (by rw [C9, ← hbe]; exact hany) ?_
    by_cases h3 : inB 0 s.days rs[k].day = true
    ·refine Az (Af 4) fun ds => A5 rfl <| AM A9 B2 rfl (.cons Aa .nil) rfl rfl (by decide) (by simp [Value.oneCell']) fun b23 hb23 nb23 => AJ (i := 0) rfl hb23 .here fun F24 hF25 hz26 => ?_
     replace hr := hr.mono hF25
     replace hal := hal.mono hF25
     replace hFG := Heap.le_trans hFG hF25
     have hsl27 := Bh hz26
     refine AN rfl (Ay Cc Aa AW (Bj _ _ hsl27) (fun _ _ h => h)) <| Aw (Af 1) <| Ad Aa (by simp [h3]) ?_
     by_cases hd : (s.lot l).defect = true
     ·refine Az (Af 4) fun ds => Ag rfl (A1 (k := l) BN Aa hr.lots.plain Aa hl hll) <| Aj (Af 1) <| Ag rfl (Ak Uu Aa (hr.lots.cell hll rfl)) <| Aj (Af 2) <| Ae rfl rfl Aa (by first | (rw [e1, hd]; done) | (rw [e1, hd]; rfl)) <| Aj (Af 1) <| Ae rfl rfl Aa (by first | (rw [e1, hd]; done) | (rw [e1, hd]; rfl)) <| Aj (Af 1) <| Ae rfl rfl Aa (by first | (rw [e1, hd]; done) | (rw [e1, hd]; rfl)) <| Aj (Af 1) <| Ae rfl rfl Aa (by first | (rw [e1, hd]; done) | (rw [e1, hd]; rfl)) <| Ag rfl (A1 (k := l) BQ Aa hal.plain Aa hl hll2) <| Ae rfl rfl Aa (by first | (rw [e1, hd]; done) | (rw [e1, hd]; rfl)) <| Ag rfl (AC Do Aa rfl rfl (hal.whole hll2)) <| Ae rfl rfl Aa (by first | (rw [e1, hd]; done) | (rw [e1, hd]; rfl)) <| Ag rfl (Bm Pr (.cons Aa rfl .nil) (.cons rfl rfl (Nat.le_of_ble_eq_true rfl) (.cons (.here) .nil) .nil)) <| Ae rfl rfl Aa (by first | (rw [e1, hd]; done) | (rw [e1, hd]; rfl)) <| Ag rfl (QL Tryz.underlying57 PA Qm (by decide) (by decide) rfl rfl Tryz.underlying3 Tryz.underlying3 PS PS Aa Aa) <| Ag rfl (As Aa (by first | (rw [e1, hd]; done) | (rw [e1, hd]; rfl)) Aa) <| Aw (Af 1) ?_
      by_cases hbid : (soldS s l ring).bidder = -1
      ·have hpr := PG hv hll hbid
       refine Ai Aa (by rw [ET]; simp [hbid, hpr]) <| AD (Af 4) <| At ?_
       refine A7 (Ax (A7 (Ax (Ax (A7 (Ax ?_))))))
       refine BK rfl Bd (List.nil_sublist _) ?_
       rw [Fq hok (DD hlt hno (show retErrAt s ring rs k = 9 by rw [CU hlt]; simp [h1, hany, h3, hln, hd, hbid]) (by decide)) (by decide)]
       exact Fp
      refine Ad Aa (by rw [ET]; simp [hbid]) <| Al <| A0 <| Ab <| Am fun ds => Aj (Af 3) <| Ag rfl (Lg Aa Aa (k := l) hl (by omega) (show (1 : Int) * 2 ^ l = ((2 ^ l : Nat) : Int) by simp) (Int.le_trans (by decide) (Int.natCast_nonneg _)) (by omega)) <| Ag rfl (PH Aa Aa (m := mask) (k := 2 ^ l) rfl rfl (by omega) (by omega) rfl) <| Aj (Af 1) <| Ao <| A0 <| Ab <| Bn (fun _ _ h => h.drop (kD <| kK <| kK <| .refl _)) <| Am fun ds => Ag rfl (AG Aa Aa rfl (by omega) (by omega)) <| Aj (Af 1) <| Ao ?_
      refine Ab ⟨_, m - 1, Off.eq (DT rfl <| B3 rfl <| Ca rfl <| BX rfl <| A2), by omega, ?_⟩
      refine ⟨_, hFG, k + 1, mask ||| 2 ^ l, by omega, AX, AX, AX, FB hm64 (by omega), S2 hlt hl hbits, fun j hjk => ?_, rfl⟩
      rcases Nat.lt_succ_iff_lt_or_eq.1 hjk with hjk | rfl
      · exact hno j hjk
      rw [CU hlt]; simp [h1, hany, h3, hln, hd, hbid]
     replace hd : (s.lot l).defect = false := by simpa using hd
     refine Az (Af 4) fun ds => Ag rfl (A1 (k := l) BN Aa hr.lots.plain Aa hl hll) <| Aj (Af 1) <| Ag rfl (Ak Uu Aa (hr.lots.cell hll rfl)) <| Aj (Af 2) <| Ah rfl rfl Aa (.inl (congrArg Value.bool (by first | (rw [e1, hd]; done) | (rw [e1, hd]; rfl)))) rfl <| Ah rfl rfl Aa (.inl (congrArg Value.bool (by first | (rw [e1, hd]; done) | (rw [e1, hd]; rfl)))) rfl <| Ah rfl rfl Aa (.inl (congrArg Value.bool (by first | (rw [e1, hd]; done) | (rw [e1, hd]; rfl)))) rfl <| Ah rfl rfl Aa (.inl (congrArg Value.bool (by first | (rw [e1, hd]; done) | (rw [e1, hd]; rfl)))) rfl <| Ah rfl rfl Aa (.inl (congrArg Value.bool (by first | (rw [e1, hd]; done) | (rw [e1, hd]; rfl)))) rfl <| Ah rfl rfl Aa (.inl (congrArg Value.bool (by first | (rw [e1, hd]; done) | (rw [e1, hd]; rfl)))) rfl <| Ah rfl rfl Aa (.inl (congrArg Value.bool (by first | (rw [e1, hd]; done) | (rw [e1, hd]; rfl)))) rfl <| Ag rfl (Ar Aa (by first | (rw [e1, hd]; done) | (rw [e1, hd]; rfl)) Aa) <| Aw (Af 1) <| Ai Aa rfl <| AD (Af 4) <| At ?_
     refine A7 (Ax (A7 (Ax (Ax (A7 (Ax ?_))))))
     refine BK rfl Bd (List.nil_sublist _) ?_
     rw [Fq hok (DD hlt hno (show retErrAt s ring rs k = 9 by rw [CU hlt]; simp [h1, hany, h3, hln, hd]) (by decide)) (by decide)]
     exact Fp
    replace h3 : inB 0 s.days rs[k].day = false := by simpa using h3
    refine Az (Af 4) fun ds => A5 rfl <| AM A9 B2 rfl (.cons Aa .nil) rfl rfl (by decide) (by simp [Value.oneCell']) fun b28 hb28 nb28 => AJ (i := 0) rfl hb28 .here fun F29 hF30 hz31 => ?_
    have hsl32 := Bh hz31
    refine AN rfl (Ay Cc Aa AW (Bj _ _ hsl32) (fun _ _ h => h)) <| Aw (Af 1) <| Ai Aa (by simp [h3]) <| AD (Af 4) <| At ?_
    refine A7 (Ax (A7 (Ax (Ax (A7 (Ax ?_))))))
    refine BK rfl Bd (List.nil_sublist _) ?_
    rw [Fq hok (DD hlt hno (show retErrAt s ring rs k = 7 by rw [CU hlt]; simp [h1, hany, h3]) (by decide)) (by decide)]
    exact Fp
   replace h1 : inB 0 (s.lots.length - 1) rs[k].lot = false := by simpa using h1
   refine Al <| Ab <| Ac <| Aq <| Ac <| Am fun ds => Ag rfl (A1  Kg Aa hq.plain Aa rfl hlt) <| Ag rfl (AC Q7 Aa rfl rfl (hq.whole hlt)) <| A5 rfl <| AO KQ rfl fun b33 hb33 nb33 => AS <| AP sz_54 Aa Aa (i := 0) rfl rfl rfl rfl Back.enc_one (.here) <| Ao <| Ab <| Ac <| Aq <| Az (Af 2) fun ds => Ag rfl (A4 BN Aa hr.lots.plain) <| Ag rfl (B4 Aa Aa rfl (by omega) (by omega)) <| Aj (Af 2) <| A5 rfl <| AM A9 B2 rfl (.cons Aa .nil) rfl rfl (by decide) (by simp [Value.oneCell']) fun b34 hb34 nb34 => AJ (i := 0) rfl hb34 .here fun F35 hF36 hz37 => ?_
   have hsl38 := Bh hz37
   refine AN rfl (Ay Cc Aa AW (Bj _ _ hsl38) (fun _ _ h => h)) <| Aw (Af 1) <| Ai Aa (by simp [h1]) <| AD (Af 4) <| At ?_
   refine A7 (Ax (A7 (Ax (Ax (A7 (Ax ?_))))))
   refine BK rfl Bd (List.nil_sublist _) ?_
   rw [Fq hok (DD hlt hno (show retErrAt s ring rs k = 4 by rw [CU hlt]; simp [h1]) (by decide)) (by decide)]
   exact Fp
  refine AD (Af 1) <| Ac <| Ad Aa (by first | rfl | exact dF (by omega)) ?_
  have hret := JA (s := s) (ring := ring) (rs := rs) (fun j hj => hno j (by omega))
  replace hbits : ∀ t : Nat, mask.testBit t = backB rs t := by rw [List.take_of_length_le (by omega)] at hbits; exact hbits
  refine AH ?_
  refine A8 <| A8 <| AB <| Ab <| Ac ?_
  refine HG [6, 7, 86, 87, 88, 89, 90, 91, 92, 93] (fun st σ => ∃ p6 p7, Fct st 6 (.slice (some ⟨p6, 0, none⟩) s.bidders.length s.bidders.length) ∧ Fct st 7 (.slice (some ⟨p7, 0, none⟩) s.sellers.length s.sellers.length) ∧ σ = ⟨G, [(p6, bx 3 (ivals (fun b => payTo s ring rs b 0) s.bidders.length)), (p7, bx 3 (ivals (fun b => getTo s ring rs b 0) s.sellers.length)), (kb, mapO es2), (b1, bx 33 [vs, .int .i64 s.premium, .int .i64 s.fee, .int .i64 s.days, vb, vl, vn, vd])]⟩) ?_ ?_
  ·refine BO (.inl rfl) (fun _ _ h => h) (kK <| kK <| .refl _) [] (by kernel_rfl) fun ds => Au 0 rfl (kK <| kK <| .refl _) (AV GL Aa) <| Au 1 rfl (kK <| kK <| .refl _) (Ak Cd Aa (Cell.own 1 rfl rfl)) <| Au 2 rfl (kK <| kK <| .refl _) (A4 BB Aa hr.bidders.plain) <| Au 4 rfl (kK <| kK <| .refl _) (AV GK Aa) <| Au 5 rfl (kK <| kK <| .refl _) (Ak Cd Aa (Cell.own 1 rfl rfl)) <| Au 6 rfl (kK <| kK <| .refl _) (A4 BB Aa hr.sellers.plain) ?_
   refine D9 [3, 7] (by kernel_rfl) (by decide) (UH ?_ ?_)
   ·refine C0 rfl rfl (Ft (k := s.bidders.length) A9 Di rfl rfl Aa Aa rfl (by omega) (by omega) fun b39 hb39 nb39 => ⟨fun _ _ => (fun _ h => h.drop (kD <| kK <| kK <| .refl _)), ?_⟩)
    refine Au 8 rfl (kD <| kK <| kK <| .refl _) (Bk Aa) ?_
    refine BU 7 rfl (by kernel_rfl) rfl (Ft (k := s.sellers.length) A9 Di rfl rfl Aa Aa rfl (by omega) (by omega) fun b40 hb40 nb40 => ⟨fun _ _ => (fun _ h => h.drop (kD <| kD <| kK <| kK <| .refl _)), ?_⟩)
    refine Au 9 rfl (kD <| kD <| kK <| kK <| .refl _) (Bk Aa) <| P0 (.cons (.next <| .here) <| .cons (.here) <| .cons (.here) <| .cons (.here) <| .nil) ?_
    refine BC (by kernel_rfl) ?_ _
    refine Ab ⟨_, Off.eq (BR rfl <| BM rfl <| Cb), ?_⟩
    exact ⟨_, _, AX, AX, (by first | (rw [CV (f := fun b => payTo s ring rs b 0) (fun _ => rfl), CV (f := fun b => getTo s ring rs b 0) (fun _ => rfl)]; done) | (rw [CV (f := fun b => payTo s ring rs b 0) (fun _ => rfl), CV (f := fun b => getTo s ring rs b 0) (fun _ => rfl)]; rfl))⟩
   refine C0 rfl rfl (Ft (k := s.sellers.length) A9 Di rfl rfl Aa Aa rfl (by omega) (by omega) fun b41 hb41 nb41 => ⟨fun _ _ => (fun _ h => h.drop (kD <| kK <| kK <| .refl _)), ?_⟩)
   refine BU 3 rfl (by kernel_rfl) rfl (Ft (k := s.bidders.length) A9 Di rfl rfl Aa Aa rfl (by omega) (by omega) fun b42 hb42 nb42 => ⟨fun _ _ => (fun _ h => h.drop (kD <| kD <| kK <| kK <| .refl _)), ?_⟩)
   refine Au 8 rfl (kD <| kD <| kK <| kK <| .refl _) (Bk Aa) <| Au 9 rfl (kD <| kD <| kK <| kK <| .refl _) (Bk Aa) <| P0 (.cons (.here) <| .cons (.here) <| .cons (.here) <| .cons (.here) <| .nil) ?_
   refine BC (by kernel_rfl) ?_ _
   refine Ab ⟨_, Off.eq (BR rfl <| BM rfl <| Cb), ?_⟩
   exact ⟨_, _, AX, AX, (by first | (rw [CV (f := fun b => payTo s ring rs b 0) (fun _ => rfl), CV (f := fun b => getTo s ring rs b 0) (fun _ => rfl)]; done) | (rw [CV (f := fun b => payTo s ring rs b 0) (fun _ => rfl), CV (f := fun b => getTo s ring rs b 0) (fun _ => rfl)]; rfl))⟩
  rintro e9 _ ⟨p6, p7, hc6, hc7, rfl⟩
  refine Ac <| Az (Af 1) fun ds => Ag rfl (A4 BQ Aa hal.plain) <| Aw (Af 1) <| Aq ?_
  refine AL [8, 16, 17, 18, 19, 96, 97, 98, 99, 100, 101, 102, 103, 104, 105, 106, 107, 108, 109, 110, 111, 112, 113, 114, 115, 116, 117, 118, 119, 120, 121, 122, 123, 124, 125, 126, 127, 128, 129, 130, 131, 132, 133, 134, 135, 136, 137, 138, 139, 140, 141, 142, 143, 144, 145, 146, 147, 148, 149, 150, 151, 152] (fun m e σ => ∃ k : Nat, m + k = (allS s ring).length ∧ Fct e 96 (.int .i64 (k : Int)) ∧ Fct e 8 (.int .i64 (houseTo s ring rs k)) ∧ σ = ⟨G, [(p6, bx 3 (ivals (fun b => payTo s ring rs b k) s.bidders.length)), (p7, bx 3 (ivals (fun b => getTo s ring rs b k) s.sellers.length)), (kb, mapO es2), (b1, bx 33 [vs, .int .i64 s.premium, .int .i64 s.fee, .int .i64 s.days, vb, vl, vn, vd])]⟩) ((allS s ring).length) ?_ ?_
  · exact ⟨0, by omega, AX, AX, rfl⟩
  rintro m e _ ⟨k, hm9, hu96, hu8, rfl⟩
  by_cases hlt : k < (allS s ring).length
  ·refine AD (Af 1) <| Ac <| Ai Aa (by first | rfl | exact dT (by omega)) ?_
   have hkl : k < s.lots.length := by rw [← BF (s := s) (ring := ring)]; exact hlt
   have hel : (allS s ring)[k] = soldS s k ring := ET hlt
   have hf := Hs hv ring hkl
   have hsb := Dl hv hkl ring
   have hab := fun b => Fo hv (ring := ring) (rs := rs) (b := b) k (by omega)
   obtain ⟨e1, e2, e3, e4, e5⟩ := JG hv hkl
   rw [← hel] at hf hsb
   by_cases hne : (allS s ring)[k].bidder = -1
   ·refine Al <| Ab <| Ac <| Aq <| Az (Af 1) fun ds => Ag rfl (A1  BQ Aa hal.plain Aa rfl hlt) <| Ag rfl (AC Do Aa rfl rfl (hal.whole hlt)) <| A5 rfl <| AO FR rfl fun b44 hb44 nb44 => Aj (Af 1) <| AS <| AP Oq Aa Aa (i := 0) rfl rfl rfl rfl Res.enc_one (.here) <| Ao <| Ab <| Ac <| Az (Af 4) fun ds => Ah rfl rfl Aa (.inl (congrArg Value.bool (dT hne))) rfl <| Ah rfl rfl Aa (.inl (congrArg Value.bool (dT hne))) rfl <| Ah rfl rfl Aa (.inl (congrArg Value.bool (dT hne))) rfl <| Ah rfl rfl Aa (.inl (congrArg Value.bool (dT hne))) rfl <| Ah rfl rfl Aa (.inl (congrArg Value.bool (dT hne))) rfl <| Ag rfl (Ar Aa (dT hne) Aa) <| Ao <| Ab <| Ai Aa rfl ?_
    have hdead : liveB s ring rs k = false := by unfold liveB; rw [← hel]; simp [hne]
    obtain ⟨d1, d2, d3⟩ := Pz hdead
    refine AH <| A8 <| AB <| Ab <| Bn (fun _ _ h => h.drop (kD <| kK <| kK <| kK <| kK <| .refl _)) <| Am fun ds => Ag rfl (AG Aa Aa rfl (by omega) (by omega)) <| Aj (Af 1) <| Ao ?_
    refine Ab ⟨_, m - 1, Off.eq (B3 rfl <| BM rfl <| A2), by omega, ?_⟩
    exact ⟨k + 1, by omega, AX, by rw [d3]; exact AX, by rw [d1, d2]⟩
   refine Al <| Ab <| Ac <| Aq <| Az (Af 1) fun ds => Ag rfl (A1  BQ Aa hal.plain Aa rfl hlt) <| Ag rfl (AC Do Aa rfl rfl (hal.whole hlt)) <| A5 rfl <| AO FR rfl fun b45 hb45 nb45 => Aj (Af 1) <| AS <| AP Oq Aa Aa (i := 0) rfl rfl rfl rfl Res.enc_one (.here) <| Ao <| Ab <| Ac <| Az (Af 4) fun ds => Ae rfl rfl Aa (dF hne) <| Aj (Af 1) <| Ae rfl rfl Aa (dF hne) <| Aj (Af 1) <| Ae rfl rfl Aa (dF hne) <| Ag rfl (FM Aa Aa rfl (by show k < 64; omega) Dz) <| Ae rfl rfl Aa (dF hne) <| Ag rfl (HW Aa Aa (m := mask / 2 ^ k) (k := 1) rfl rfl (by have := Nat.div_le_self mask (2 ^ k); omega) (by omega) rfl) <| Ae rfl rfl Aa (dF hne) <| Aj (Af 1) <| Ag rfl (As Aa (dF hne) Aa) <| Ao <| Ab ?_
   by_cases hbk : backB rs k = true
   ·refine Ai Aa (by rw [C9, hbits]; exact hbk) ?_
    have hdead : liveB s ring rs k = false := by unfold liveB; rw [← hel]; simp [hbk]
    obtain ⟨d1, d2, d3⟩ := Pz hdead
    refine AH <| A8 <| AB <| Ab <| Bn (fun _ _ h => h.drop (kD <| kK <| kK <| kK <| kK <| .refl _)) <| Am fun ds => Ag rfl (AG Aa Aa rfl (by omega) (by omega)) <| Aj (Af 1) <| Ao ?_
    refine Ab ⟨_, m - 1, Off.eq (B3 rfl <| BM rfl <| A2), by omega, ?_⟩
    exact ⟨k + 1, by omega, AX, by rw [d3]; exact AX, by rw [d1, d2]⟩
   replace hbk : backB rs k = false := by simpa using hbk
   refine Ad Aa (by rw [C9, hbits]; exact hbk) ?_
   obtain ⟨c, hc⟩ := Int.eq_ofNat_of_zero_le (show 0 ≤ (allS s ring)[k].bidder by omega)
   obtain ⟨d, hd⟩ := Int.eq_ofNat_of_zero_le e4
   have hcb : c < s.bidders.length := by omega
   have hds : d < s.sellers.length := by omega
   have habc := hab c
   have habd := hab d
   have hlive : liveB s ring rs k = true := by unfold liveB; rw [← hel]; simp [hne, hbk]
   refine Al <| Ab <| Ac <| Bs (.inl rfl) (fun _ _ h => h) (by kernel_rfl) (by kernel_rfl) fun ds => AR (Af 4) <| FJ rfl (Ay bd_47 Aa AW (QN (by omega) (by omega) hv.pre.1 hv.pre.2) (fun _ _ h => h)) <| AR (Af 4) <| FJ rfl (Ay bd_47 Aa AW (QN (by omega) (by omega) hv.fee.1 hv.fee.2) (fun _ _ h => h)) <| AR (Af 2) <| B0 <| Ab <| Ac <| BO (.inl rfl) (fun _ _ h => h) (kK <| kK <| kK <| kK <| kK <| .refl _) [11] (by kernel_rfl) fun ds => Au 0 rfl (kK <| kK <| kK <| kK <| kK <| .refl _) (AI Aa) <| Au 1 rfl (kK <| kK <| kK <| kK <| kK <| .refl _) (AV KJ Aa) <| Au 2 rfl (kK <| kK <| kK <| kK <| kK <| .refl _) (Ak AF Aa (Cell.own 0 rfl rfl)) <| Au 3 rfl (kK <| kK <| kK <| kK <| kK <| .refl _) (A1 (k := c) A9 Aa (Ck (Nat.le_refl _) (by omega)) Aa hc hcb) ?_
   refine Au 4 rfl (kK <| kK <| kK <| kK <| kK <| .refl _) (Ak AF Aa (Pq 1 rfl (MC hcb))) <| Au 5 rfl (kK <| kK <| kK <| kK <| kK <| .refl _) (AV NK Aa) <| Au 6 rfl (kK <| kK <| kK <| kK <| kK <| .refl _) (Ak AF Aa (Cell.own 0 rfl rfl)) <| Au 7 rfl (kK <| kK <| kK <| kK <| kK <| .refl _) (AI Aa) <| Au 8 rfl (kK <| kK <| kK <| kK <| kK <| .refl _) (AG Aa Aa rfl (by omega) (by omega)) <| Au 9 rfl (kK <| kK <| kK <| kK <| kK <| .refl _) (AG Aa Aa rfl (by omega) (by omega)) ?_
   refine Au 10 rfl (kK <| kK <| kK <| kK <| kK <| .refl _) (A1 (k := c) A9 Aa (Ck (Nat.le_refl _) (by omega)) Aa hc hcb) ?_
   refine Eg 11 rfl (by kernel_rfl) (Df DA Aa (by simp [base, addc] : addc (base (.slice (some ⟨p6, 0, none⟩) s.bidders.length s.bidders.length)) (c * 1) = ⟨p6, c, none⟩) Aa (i := 1) rfl (by rw [FE]; omega) rfl (.next <| .here) ⟨(fun h => nomatch h), ?_⟩)
   refine BC (by kernel_rfl) ?_ _
   refine Ab <| Ac <| BO (.inl rfl) (fun _ _ h => h) (kK <| kK <| kK <| kK <| kK <| .refl _) [15] (by kernel_rfl) fun ds => Au 0 rfl (kK <| kK <| kK <| kK <| kK <| .refl _) (AI Aa) <| Au 1 rfl (kK <| kK <| kK <| kK <| kK <| .refl _) (AV Jl Aa) <| Au 2 rfl (kK <| kK <| kK <| kK <| kK <| .refl _) (Ak Dm Aa (Cell.own 4 rfl rfl)) <| Au 3 rfl (kK <| kK <| kK <| kK <| kK <| .refl _) (AI Aa) <| Au 4 rfl (kK <| kK <| kK <| kK <| kK <| .refl _) (A1 (k := k) BN Aa hr.lots.plain Aa rfl hkl) <| Au 5 rfl (kK <| kK <| kK <| kK <| kK <| .refl _) (CE KK Aa) ?_
   refine Au 6 rfl (kK <| kK <| kK <| kK <| kK <| .refl _) (Ak AF Aa (hr.lots.cell hkl rfl)) <| Au 7 rfl (kK <| kK <| kK <| kK <| kK <| .refl _) (A1 (k := d) A9 Aa (Ck (Nat.le_refl _) (by omega)) Aa (by rw [e1]; exact hd) hds) <| Au 8 rfl (kK <| kK <| kK <| kK <| kK <| .refl _) (Ak AF Aa (Pq 2 rfl (MC hds))) <| Au 9 rfl (kK <| kK <| kK <| kK <| kK <| .refl _) (AV NK Aa) <| Au 10 rfl (kK <| kK <| kK <| kK <| kK <| .refl _) (Ak AF Aa (Cell.own 0 rfl rfl)) <| Au 11 rfl (kK <| kK <| kK <| kK <| kK <| .refl _) (AI Aa) ?_
   refine Au 12 rfl (kK <| kK <| kK <| kK <| kK <| .refl _) (B4 Aa Aa rfl (by omega) (by omega)) <| Au 13 rfl (kK <| kK <| kK <| kK <| kK <| .refl _) (AG Aa Aa rfl (by omega) (by omega)) <| Au 14 rfl (kK <| kK <| kK <| kK <| kK <| .refl _) (A1 (k := d) A9 Aa (Ck (Nat.le_refl _) (by omega)) Aa (by rw [e1]; exact hd) hds) ?_
   refine Eg 15 rfl (by kernel_rfl) (Df DA Aa (by simp [base, addc] : addc (base (.slice (some ⟨p7, 0, none⟩) s.sellers.length s.sellers.length)) (d * 1) = ⟨p7, d, none⟩) Aa (i := 2) rfl (by rw [FE]; omega) rfl (.next <| .next <| .here) ⟨(fun h => nomatch h), ?_⟩)
   refine BC (by kernel_rfl) ?_ _
   refine Ab <| Am fun ds => Aj (Af 3) <| Ag rfl (AG Aa Aa rfl (by omega) (by omega)) <| Ag rfl (AG Aa Aa rfl (by omega) (by omega)) <| Aj (Af 1) <| Ao <| A0 <| Ab <| Bn (fun _ _ h => h.drop (kD <| kK <| kK <| kK <| kK <| .refl _)) <| Am fun ds => Ag rfl (AG Aa Aa rfl (by omega) (by omega)) <| Aj (Af 1) <| Ao ?_
   refine Ab ⟨_, m - 1, Off.eq (DT rfl <| B3 rfl <| BR rfl <| Ca rfl <| BM rfl <| A2), by omega, ?_⟩
   refine ⟨k + 1, by omega, AX, by rw [Qj hlive, ← hel]; exact AX, ?_⟩
   rw [← pay_set hlive (hel ▸ hc), ← get_set hlive hd, hel]
  refine AD (Af 1) <| Ac <| Ad Aa (by first | rfl | exact dF (by omega)) ?_
  obtain rfl : k = (allS s ring).length := by omega
  refine AH ?_
  refine A8 <| A8 <| AB <| Ab <| AD (Af 7) <| At <| BK rfl Bd (kK (kK (List.nil_sublist _))) ?_
  rw [Og hok hret, BF]
  exact ⟨_, _, [_], [_], rfl, M1, M1, rfl, by simpa using hnb, by have := hnse; simp; omega⟩
 refine Ac <| Am fun ds => A5 rfl <| Bg Aa rfl fun b50 hb50 nb50 => Aw (Af 4) <| Az (Af 2) fun ds => AN rfl (Ay Ng Aa AW (JN hr hx hok) (fun _ _ h => h)) <| Aw (Af 7) <| Ac <| AD (Af 2) <| Ai Aa (dT hok) <| AD (Af 5) <| At <| Ax <| BK rfl Bd (List.nil_sublist _) ?_
 rw [Wb hok]
 exact Fp
theorem FI {F : Heap} {vs vb vl vn vd : Value} {s : Sale} (hr : SaleR F vs vb vl vn vd s) {vr : Value} {ring : List Int} (hx : Ints F vr ring) {vq : Value} {rs : List Back} (hq : Sl F vq 2 Back.enc rs) : Ok Tryz.prog 11 [.agg #[vs, .int .i64 s.premium, .int .i64 s.fee, .int .i64 s.days, vb, vl, vn, vd], vr, vq].toArray F fun u F' => AccR F' u (accE s ring rs) := (K4 hr hx hq).ok fun _ _ _ _ _ hH h => accN_R h hH
end
section
open Go.RowKit
theorem TV {s : Sale} (hv : ValidS s) {ring : List Int} (h1 : ringErr s ring = 0) : ring.length ≤ 6 := by
 obtain ⟨ha, hn, -⟩ := La h1
 have key : ∀ k (hk : k < ring.length), (k : Int) ≤ ring[k] := by
   intro k
   induction k with
   | zero => intro hk; exact (GH (JI ha hk)).1
   | succ k ih =>
     intro hk
     have h2 := ih (by omega)
     have h3 := Oa hn hk (by omega)
     simp only [Nat.add_sub_cancel] at h3
     omega
 have hnb := hv.nb
 rcases Nat.eq_zero_or_pos ring.length with h | h
 · omega
 have h2 := key (ring.length - 1) (by omega)
 have h3 := (GH (JI ha (k := ring.length - 1) (by omega))).2
 omega
end
section
open Go.RowKit
section
variable {P : Program} {n : Nat} {B : Base} {e : Env} {σ : St} {d : Option Nat} {ty : TypeId} {pos : String} {af : Array Edge} {gd : Option (Nat × Bool)}
theorem KC {T : Nat} {x y : Operand} {a0 b0 a1 b1 : Int} {u : TypeId} {f0 f1 : Field} {k0 k1 : IntKind} (hu : P.underlying T = some (.struct #[f0, f1])) (hst : P.stoodInHeld T = false) (hg : P.eqGuardType P.depth T = false)
   (n0 : f0.name ≠ "_") (n1 : f1.name ≠ "_") (o0 : f0.offset = 0) (o1 : f1.offset = 1) (h0 : P.underlying f0.type = some (.int k0)) (h1 : P.underlying f1.type = some (.int k1)) (s0 : OneT P f0.type) (s1 : OneT P f1.type)
   (hx : ev e x = .agg #[.int .i64 a0, .int .i64 a1]) (hy : ev e y = .agg #[.int .i64 b0, .int .i64 b1]) :
   OpR P B ⟨d, .binOp .neq T x y u, ty, pos, af, gd⟩ e σ (.bool (!((a0 == b0) && (a1 == b1)))) := fun w _ => by
 have hf : P.fieldsOf T = #[f0, f1] := by simp [Program.fieldsOf, hu]
 have hu' : P.underlying T = some (.struct (P.fieldsOf T)) := by rw [hf]; exact hu
 have p0 : ∀ cs : Array Value, ∀ v, cs[0]? = some v → (part f0.type cs f0.offset).run P w = .ok v w := fun cs v hv => by simp [part, Ej s0, o0, hv]
 have p1 : ∀ cs : Array Value, ∀ v, cs[1]? = some v → (part f1.type cs f1.offset).run P w = .ok v w := fun cs v hv => by simp [part, Ej s1, o1, hv]
 have he := run_neq_struct (P := P) w T #[.int .i64 a0, .int .i64 a1] #[.int .i64 b0, .int .i64 b1]
 rw [run_equalIn_struct w 9999 T _ _ hu' hst, hf] at he
 have hgd := run_eqGuard_agg (P := P) w .neq T x y #[.int .i64 a0, .int .i64 a1] #[.int .i64 b0, .int .i64 b1] hg
 simp only [execOp, hx, hy, Sem.run_bind, hgd, Result.andThen_ok, he]
 simp only [Op.eqFields, ne_eq, n0, n1, not_false_eq_true, if_true, Sem.run_bind, p0 _ _ (show (#[Value.int .i64 a0, Value.int .i64 a1] : Array Value)[0]? = some (.int .i64 a0) from rfl), p0 _ _ (show (#[Value.int .i64 b0, Value.int .i64 b1] : Array Value)[0]? = some (.int .i64 b0) from rfl), Result.andThen_ok, run_equalIn_int w 9998 f0.type .i64 k0 a0 b0 h0]
 cases hab : (a0 == b0) with
 | false => simp
 | true =>
   simp [p1 _ _ (show (#[Value.int .i64 a0, Value.int .i64 a1] : Array Value)[1]? = some (.int .i64 a1) from rfl), p1 _ _ (show (#[Value.int .i64 b0, Value.int .i64 b1] : Array Value)[1]? = some (.int .i64 b1) from rfl), run_equalIn_int w 9998 f1.type .i64 k1 a1 b1 h1]
   by_cases hc : a1 = b1 <;> simp [hc]
end
end
section
set_option maxRecDepth 100000
open Go.RowKit
theorem Hk {F : Heap} {vs vb vl vn vd : Value} {s : Sale} (hr : SaleR F vs vb vl vn vd s) {vr : Value} {ring : List Int} (hx : Ints F vr ring) : Ok Tryz.prog 10 [.agg #[vs, .int .i64 s.premium, .int .i64 s.fee, .int .i64 s.days, vb, vl, vn, vd], vr].toArray F fun u F' => SellR F' u (sellE s ring) := by
 refine Ok.intro Tryz.func10 rfl Tryz.ntmps10 rfl fun w0 => ?_
 by_cases hok : enterErr s ring = 0
 ·have hv := BV (Fk hok).1
  refine Ac <| Am fun ds => A5 rfl <| Bg Aa rfl fun b1 hb1 nb1 => Aw (Af 2) <| Az (Af 2) fun ds => A5 rfl <| BY Ng Aa AW (LG hr hx hok) fun v2 F3 R6 hr4 hF5 => ?_
  obtain ⟨ba, kb, set, rfl, hX, hset, hsof, rfl⟩ := hr4
  refine Aw (Af 7) <| Ac <| AD (Af 2) <| Ad Aa (by decide) <| Al <| Ab <| Az (Af 2) fun ds => Fs (.cons (.next <| .here) <| .cons (.here) <| .nil) <| A5 rfl <| Eh Nf Aa AW rfl (G5 hX hv KnownC.nil (set := set) hset) fun v11 F12 H15 hr13 hF14 => ?_
  have hU18 := Heap.le_trans hF5 hF14
  obtain ⟨es2, rfl, hK2, hal⟩ := hr13
  rw [Fe hv (fun b _ => hsof b)] at hal
  refine Aw (Af 2) <| At <| Ap rfl Bd ?_
  rw [Ov hok]
  exact ⟨_, rfl, hal⟩
 refine Ac <| Am fun ds => A5 rfl <| Bg Aa rfl fun b16 hb16 nb16 => Aw (Af 2) <| Az (Af 2) fun ds => AN rfl (Ay Ng Aa AW (JN hr hx hok) (fun _ _ h => h)) <| Aw (Af 7) <| Ac <| AD (Af 2) <| Ai Aa (dT hok) <| AD (Af 3) <| At <| Ax <| Ap rfl Bd ?_
 rw [RV rfl hok]
 exact ⟨_, rfl, Sl.nil⟩
theorem TM {F : Heap} {vs vb vl vn vd : Value} {s : Sale} (hr : SaleR F vs vb vl vn vd s) {vr : Value} {ring : List Int} (hx : Ints F vr ring) : Ok Tryz.prog 34 [.agg #[vs, .int .i64 s.premium, .int .i64 s.fee, .int .i64 s.days, vb, vl, vn, vd], vr].toArray F fun u F' => IntsR F' u (shareE s ring) := by
 refine Ok.intro Tryz.func34 rfl Tryz.ntmps34 rfl fun w0 => ?_
 have hlen := hx.plain.lt
 by_cases hok : enterErr s ring = 0
 ·have hv := BV (Fk hok).1
  have hnl := hv.nl
  have hnb := hv.nb
  have hrl := TV hv (Fk hok).2
  have hsv0 : 0 ≤ savedS s ring ∧ savedS s ring ≤ 100000 * s.lots.length := FU hv _ (Nat.le_refl _)
  refine Ac <| Am fun ds => A5 rfl <| Bg Aa rfl fun b1 hb1 nb1 => Aw (Af 2) <| Az (Af 2) fun ds => A5 rfl <| BY Ng Aa AW (LG hr hx hok) fun v2 F3 R6 hr4 hF5 => ?_
  obtain ⟨ba, kb, set, rfl, hX, hset, hsof, rfl⟩ := hr4
  refine Aw (Af 7) <| Ac <| AD (Af 2) <| Ad Aa (by decide) <| Al <| Ab <| AD (Af 1) <| Az (Af 1) fun ds => Fs (.cons (.next <| .here) <| .cons (.here) <| .nil) <| A5 rfl <| Eh Nf Aa AW rfl (G5 hX hv KnownC.nil (set := 0) (by decide)) fun v11 F12 H15 hr13 hF14 => ?_
  replace hX := hX.mono hF14
  obtain ⟨es2, rfl, hK2, hal0⟩ := hr13
  rw [Fe (ring := []) hv (fun b _ => by simp [inRing])] at hal0
  refine Aw (Af 1) <| Ac <| Az (Af 2) fun ds => A5 rfl <| Eh Nf Aa AW rfl (G5 hX hv hK2 (set := set) hset) fun v20 F21 H24 hr22 hF23 => ?_
  have hU52 := Heap.le_trans hF5 (Heap.le_trans hF14 hF23)
  replace hx := hx.mono hU52
  replace hal0 := hal0.mono hF23
  obtain ⟨es3, rfl, hK3, hal⟩ := hr22
  rw [Fe hv (fun b _ => hsof b)] at hal
  refine Ag rfl (A4 BQ Aa hal.plain) <| Aw (Af 1) <| Aq ?_
  refine AL [8, 10, 11, 30, 31, 32, 33, 34, 35, 36, 37, 38, 39, 40, 41, 42, 43, 44, 45, 46, 47, 48, 49, 50, 51, 52, 53, 54, 55, 56] (fun m e σ => ∃ k : Nat, m + k = (allS s ring).length ∧ Fct e 30 (.int .i64 (k : Int)) ∧ Fct e 8 (.int .i64 (savedTo s ring k)) ∧ σ = ⟨F21, [(kb, mapO es3), (b1, bx 33 [vs, .int .i64 s.premium, .int .i64 s.fee, .int .i64 s.days, vb, vl, vn, vd])]⟩) ((allS s ring).length) ?_ ?_
  · exact ⟨0, by omega, AX, AX, rfl⟩
  rintro m e _ ⟨k, hm, hs30, hs8, rfl⟩
  by_cases hlt : k < (allS s ring).length
  ·refine AD (Af 1) <| Ac <| Ai Aa (by first | rfl | exact dT (by omega)) ?_
   have hk1 : k < s.lots.length := by rw [← BF (s := s) (ring := ring)]; exact hlt
   have hk2 : k < (allS s []).length := by rw [BF]; exact hk1
   have ha1 : (allS s ring)[k] = soldS s k ring := ET hlt
   have ha2 : (allS s [])[k] = soldS s k [] := ET hk2
   have hb1 := Dl hv hk1 ring
   have hb2 := Dl hv hk1 []
   have hsb := FU hv (ring := ring) k (by omega)
   rw [← ha1] at hb1
   rw [← ha2] at hb2
   by_cases hne : 0 ≤ (allS s ring)[k].bidder
   ·obtain ⟨c, hc⟩ := Int.eq_ofNat_of_zero_le hne
    have hc6 : c < 6 := by omega
    have hne2 : (soldS s k ring).bidder ≠ -1 := by rw [← ha1]; omega
    refine Al <| Ab <| Ac <| Aq <| Az (Af 1) fun ds => Ag rfl (A1  BQ Aa hal.plain Aa rfl hlt) <| Ag rfl (AC Do Aa rfl rfl (hal.whole hlt)) <| A5 rfl <| AO FR rfl fun b26 hb26 nb26 => Aj (Af 1) <| AS <| AP Oq Aa Aa (i := 0) rfl rfl rfl rfl Res.enc_one (.here) <| Ao <| Ab <| Az (Af 4) fun ds => Ae rfl rfl Aa (dT hne) <| Aj (Af 1) <| Ae rfl rfl Aa (dT hne) <| Aj (Af 1) <| Ae rfl rfl Aa (dT hne) <| Aj (Af 1) <| Ae rfl rfl Aa (dT hne) <| Ag rfl (FM Aa Aa (k := c) hc (by show c < 64; omega) Dz) <| Ae rfl rfl Aa (dT hne) <| Ag rfl (HW Aa Aa (m := set / 2 ^ c) (k := 1) rfl rfl (by have := Nat.div_le_self set (2 ^ c); omega) (by omega) rfl) <| Ae rfl rfl Aa (dT hne) <| Aj (Af 1) <| Ag rfl (Ar Aa (dT hne) Aa) <| Ao <| Ab ?_
    by_cases hin : inRing ring (soldS s k ring).bidder = true
    ·have hbc : set.testBit c = true := by rw [hsof c, ← hc, ha1]; exact hin
     refine Ai Aa (by rw [C9]; exact hbc) <| Bs (.inl rfl) (fun _ _ h => h) (by kernel_rfl) (by kernel_rfl) fun ds => AR (Af 3) <| AT rfl (A1  BQ Aa hal0.plain Aa rfl hk2) <| AR (Af 1) <| AT rfl (Ak AF Aa (hal0.cell hk2 rfl)) <| AR (Af 2) <| AT rfl (B4 Aa Aa rfl (by omega) (by omega)) <| AT rfl (AG Aa Aa rfl (by omega) (by omega)) <| AR (Af 1) <| B0 <| A0 <| Ab <| Bn (fun _ _ h => h.drop (kD <| kK <| kK <| .refl _)) <| Am fun ds => Ag rfl (AG Aa Aa rfl (by omega) (by omega)) <| Aj (Af 1) <| Ao ?_
     refine Ab ⟨_, m - 1, Off.eq (B3 rfl <| BR rfl <| Ca rfl <| BM rfl <| A2), by omega, ?_⟩
     exact ⟨k + 1, by omega, AX, by rw [savedTo, if_pos ⟨hne2, hin⟩, ← ha1, ← ha2]; exact AX, rfl⟩
    replace hin : inRing ring (soldS s k ring).bidder = false := by simpa using hin
    have hbc : set.testBit c = false := by rw [hsof c, ← hc, ha1]; exact hin
    refine Ad Aa (by rw [C9]; exact hbc) <| Al <| A0 <| Ab <| Bn (fun _ _ h => h.drop (kD <| kK <| kK <| .refl _)) <| Am fun ds => Ag rfl (AG Aa Aa rfl (by omega) (by omega)) <| Aj (Af 1) <| Ao ?_
    refine Ab ⟨_, m - 1, Off.eq (B3 rfl <| BM rfl <| BX rfl <| A2), by omega, ?_⟩
    exact ⟨k + 1, by omega, AX, by rw [savedTo, if_neg (fun h => by rw [hin] at h; exact absurd h.2 (by decide))]; exact AX, rfl⟩
   have hne2 : ¬ (soldS s k ring).bidder ≠ -1 := by rw [← ha1]; omega
   refine Al <| Ab <| Ac <| Aq <| Az (Af 1) fun ds => Ag rfl (A1  BQ Aa hal.plain Aa rfl hlt) <| Ag rfl (AC Do Aa rfl rfl (hal.whole hlt)) <| A5 rfl <| AO FR rfl fun b27 hb27 nb27 => Aj (Af 1) <| AS <| AP Oq Aa Aa (i := 0) rfl rfl rfl rfl Res.enc_one (.here) <| Ao <| Ab <| Az (Af 4) fun ds => Ah rfl rfl Aa (.inl (congrArg Value.bool (dF hne))) rfl <| Ah rfl rfl Aa (.inl (congrArg Value.bool (dF hne))) rfl <| Ah rfl rfl Aa (.inl (congrArg Value.bool (dF hne))) rfl <| Ah rfl rfl Aa (.inl (congrArg Value.bool (dF hne))) rfl <| Ah rfl rfl Aa (.inl (congrArg Value.bool (dF hne))) rfl <| Ah rfl rfl Aa (.inl (congrArg Value.bool (dF hne))) rfl <| Ag rfl (As Aa (dF hne) Aa) <| Ao <| Ab <| Ad Aa rfl <| Al <| A0 <| Ab <| Bn (fun _ _ h => h.drop (kD <| kK <| kK <| .refl _)) <| Am fun ds => Ag rfl (AG Aa Aa rfl (by omega) (by omega)) <| Aj (Af 1) <| Ao ?_
   refine Ab ⟨_, m - 1, Off.eq (B3 rfl <| BM rfl <| BX rfl <| A2), by omega, ?_⟩
   exact ⟨k + 1, by omega, AX, by rw [savedTo, if_neg (fun h => hne2 h.1)]; exact AX, rfl⟩
  refine AD (Af 1) <| Ac <| Ad Aa (by first | rfl | exact dF (by omega)) ?_
  obtain rfl : k = (allS s ring).length := by omega
  have hsE : savedTo s ring (allS s ring).length = savedS s ring := by rw [BF]; rfl
  refine AH ?_
  refine A8 <| A8 <| AB <| Ab <| Ac <| Az (Af 1) fun ds => Ag rfl (A4 A9 Aa hx.plain) <| Aw (Af 1) <| Aq ?_
  refine AL [4, 12, 13, 59, 60, 61, 62, 63, 64, 65, 66, 67, 68, 69, 70, 71, 72, 73, 74, 75, 76, 77, 78] (fun m e σ => ∃ k : Nat, m + k = ring.length ∧ Fct e 59 (.int .i64 (k : Int)) ∧ Fcu e 8 (.int .i64 (savedTo s ring (allS s ring).length)) ∧ ∃ v R, Fct e 4 v ∧ Own 3 1 v (shareTo (savedS s ring) ring.length k).length ((shareTo (savedS s ring) ring.length k).flatMap intE) R ∧ σ = ⟨F21, (kb, mapO es3) :: (b1, bx 33 [vs, .int .i64 s.premium, .int .i64 s.fee, .int .i64 s.days, vb, vl, vn, vd]) :: R⟩) (ring.length) ?_ ?_
  · exact ⟨0, by omega, AX, AX, _, _, AX, Own.nil, rfl⟩
  rintro m e _ ⟨k, hm, ht59, ht8, v4, R4, ht4, ho, rfl⟩; have hsl := FT (saved := savedS s ring) (n := ring.length) (k := k); have hdq : 0 ≤ savedS s ring / ring.length := Int.ediv_nonneg hsv0.1 (by omega); have hdq2 := Int.ediv_le_self (ring.length : Int) hsv0.1
  by_cases hlt : k < ring.length
  ·refine AD (Af 1) <| Ac <| Ai Aa (by first | rfl | exact dT (by omega)) ?_
   by_cases hkr : (k : Int) < savedS s ring % ring.length
   ·have hxn : shareN (savedS s ring) ring.length k = savedS s ring / ring.length + 1 := by unfold shareN; rw [if_pos hkr]
    refine Al <| Ab <| Ac <| Aq <| AD (Af 2) <| Az (Af 2) fun ds => Ag rfl (A4 A9 Aa hx.plain) <| Ag rfl (Mw Aa Aa (by rw [hsE]; omega) (by rw [hsE]; omega) (by omega)) <| Aw (Af 1) <| Ac <| Az (Af 3) fun ds => Ag rfl (A4 A9 Aa hx.plain) <| Ag rfl (HV Aa Aa (by rw [hsE]; omega) (by omega)) <| Aw (Af 1) <| Ai Aa (dT (by rw [hsE]; exact hkr)) <| Am fun ds => Aj (Af 1) <| Ag rfl (AG Aa Aa rfl (by rw [hsE]; omega) (by rw [hsE]; omega)) <| Aw (Af 1) <| Am fun ds => Aj (Af 2) <| A5 rfl <| AM A9 B2 rfl (.cons Aa .nil) rfl rfl (by decide) (by simp [Value.oneCell']) fun b29 hb29 nb29 => A5 rfl <| Bp A9 Di Aa ho Aa (B1 (s := 1) 0 rfl rfl (by simp [Value.oneCell'])) (by omega) (by omega) (.s <| .s <| .s <| .z) .last fun v30 R31 ho32 => ?_
    have ho2 := ho32.snoc (x := shareN (savedS s ring) ring.length k) rfl (by rw [hxn, ← hsE]; first | done | rfl)
    refine Aj (Af 1) <| Ao <| A0 <| Ab <| Bn (fun _ _ h => h.drop (kD <| kK <| kK <| .refl _)) <| Am fun ds => Ag rfl (AG Aa Aa rfl (by omega) (by omega)) <| Aj (Af 1) <| Ao ?_
    refine Ab ⟨_, m - 1, Off.eq (B3 rfl <| BR rfl <| A2), by omega, ?_⟩
    refine ⟨k + 1, by omega, AX, AX, _, _, AX, by rw [HR]; exact ho2, rfl⟩
   have hxn : shareN (savedS s ring) ring.length k = savedS s ring / ring.length := by unfold shareN; rw [if_neg hkr]; omega
   refine Al <| Ab <| Ac <| Aq <| AD (Af 2) <| Az (Af 2) fun ds => Ag rfl (A4 A9 Aa hx.plain) <| Ag rfl (Mw Aa Aa (by rw [hsE]; omega) (by rw [hsE]; omega) (by omega)) <| Aw (Af 1) <| Ac <| Az (Af 3) fun ds => Ag rfl (A4 A9 Aa hx.plain) <| Ag rfl (HV Aa Aa (by rw [hsE]; omega) (by omega)) <| Aw (Af 1) <| Ad Aa (dF (by rw [hsE]; exact hkr)) <| Al <| Ab <| Am fun ds => Aj (Af 2) <| A5 rfl <| AM A9 B2 rfl (.cons Aa .nil) rfl rfl (by decide) (by simp [Value.oneCell']) fun b33 hb33 nb33 => A5 rfl <| Bp A9 Di Aa ho Aa (B1 (s := 1) 0 rfl rfl (by simp [Value.oneCell'])) (by omega) (by omega) (.s <| .s <| .s <| .z) .last fun v34 R35 ho36 => ?_
   have ho2 := ho36.snoc (x := shareN (savedS s ring) ring.length k) rfl (by rw [hxn, ← hsE]; first | done | rfl)
   refine Aj (Af 1) <| Ao <| A0 <| Ab <| Bn (fun _ _ h => h.drop (kD <| kK <| kK <| .refl _)) <| Am fun ds => Ag rfl (AG Aa Aa rfl (by omega) (by omega)) <| Aj (Af 1) <| Ao ?_
   refine Ab ⟨_, m - 1, Off.eq (B3 rfl <| Ca rfl <| BX rfl <| A2), by omega, ?_⟩
   refine ⟨k + 1, by omega, AX, AX, _, _, AX, by rw [HR]; exact ho2, rfl⟩
  refine AD (Af 1) <| Ac <| Ad Aa (by first | rfl | exact dF (by omega)) ?_
  obtain rfl : k = ring.length := by omega
  refine BJ (σ := ⟨_, _⟩) (by rfl) ho (.s <| .s <| .z) .last fun F37 hF38 hz39 => ?_
  have hn2 := ho.sl (fun _ => rfl) hz39 (by have := FT (saved := savedS s ring) (n := ring.length) (k := ring.length); omega)
  refine AH ?_
  refine A8 <| A8 <| AB <| Ab <| AD (Af 3) <| At <| Ap rfl Bd ?_
  rw [RR hok]
  exact ⟨_, rfl, hn2⟩
 refine Ac <| Am fun ds => A5 rfl <| Bg Aa rfl fun b40 hb40 nb40 => Aw (Af 2) <| Az (Af 2) fun ds => AN rfl (Ay Ng Aa AW (JN hr hx hok) (fun _ _ h => h)) <| Aw (Af 7) <| Ac <| AD (Af 2) <| Ai Aa (dT hok) <| AD (Af 3) <| At <| Ax <| Ap rfl Bd ?_
 rw [PC rfl hok]
 exact ⟨_, rfl, Sl.nil⟩
theorem BH {F : Heap} {v u : Value} {xs ys : List Int} (hx : Ints F v xs) (hy : Ints F u ys) : Ok Tryz.prog 13 [v, u].toArray F fun r _ => r = .bool (decide (xs = ys)) := by
 refine Ok.intro Tryz.func13 rfl Tryz.ntmps13 rfl fun w0 => ?_
 have hlen := hx.plain.lt
 have hlen2 := hy.plain.lt
 refine AD (Af 1) <| Az (Af 1) fun ds => Ag rfl (A4 A9 Aa hx.plain) <| Aj (Af 1) <| Ag rfl (A4 A9 Aa hy.plain) <| Aw (Af 2) <| Ac <| AD (Af 1) <| Aq ?_
 refine AL [5, 6, 12, 13, 14, 15, 16, 17, 18, 19, 20, 21, 22, 23, 24, 25, 26, 27, 28, 29] (fun m e σ => ∃ (k : Nat) (ok : Bool), m + k = xs.length + 1 ∧ Fct e 6 (.int .i64 (k : Int)) ∧ Fct e 5 (.bool ok) ∧ σ = ⟨F, []⟩ ∧ (ok = true → k ≤ xs.length ∧ xs.length = ys.length ∧ xs.take k = ys.take k) ∧ (ok = false → xs ≠ ys)) (xs.length + 1) ?_ ?_
 · refine ⟨0, _, by omega, AX, AX, rfl, fun h => ⟨by omega, by have := of_decide_eq_true h; omega, rfl⟩, fun h he => ?_⟩; subst he; exact absurd rfl (of_decide_eq_false h)
 rintro m e _ ⟨k, ok, hm, hs6, hs5, rfl, hT, hF⟩
 cases ok
 ·refine Ac <| Az (Af 2) fun ds => Ah rfl rfl Aa (.inl (congrArg Value.bool rfl)) rfl <| Ah rfl rfl Aa (.inl (congrArg Value.bool rfl)) rfl <| Ah rfl rfl Aa (.inl (congrArg Value.bool rfl)) rfl <| Ah rfl rfl Aa (.inl (congrArg Value.bool rfl)) rfl <| Ag rfl (As Aa rfl C4) <| Ao <| Ab <| Ad Aa rfl <| AH ?_
  refine A8 <| A8 <| AB <| Ab <| AD (Af 2) <| At <| Ap rfl Bd ?_
  show _ = _
  rw [dF (hF rfl)]; rfl
 obtain ⟨hk, hll, htk⟩ := hT rfl
 refine Ac <| Az (Af 2) fun ds => Ae rfl rfl Aa rfl <| Aj (Af 1) <| Ae rfl rfl Aa rfl <| Aj (Af 1) <| Ae rfl rfl Aa rfl <| Ag rfl (A4 A9 Aa hx.plain) <| Ae rfl rfl Aa rfl <| Aj (Af 1) <| Ag rfl (Ar Aa rfl Aa) <| Ao <| Ab ?_
 by_cases hlt : k < xs.length
 ·refine Ai Aa (by first | rfl | exact dT (by omega)) <| Al <| Ab <| Ac <| Aq <| Bs (.inl rfl) (fun _ _ h => h) (by kernel_rfl) (by kernel_rfl) fun ds => AR (Af 2) <| AT rfl (A1  A9 Aa hx.plain Aa rfl hlt) <| AT rfl (Ak AF Aa (hx.cell1 hlt rfl)) <| AR (Af 2) <| AT rfl (A1  A9 Aa hy.plain Aa rfl (by omega)) <| AT rfl (Ak AF Aa (hy.cell1 (by omega) rfl)) <| AR (Af 2) <| B0 <| A0 <| Ab <| Am fun ds => Aj (Af 1) <| Ag rfl (AG Aa Aa rfl (by omega) (by omega)) <| Aj (Af 1) <| Ao ?_
  refine Ab ⟨_, m - 1, Off.eq (B3 rfl <| Ca rfl <| A2), by omega, ?_⟩
  have hlt2 : k < ys.length := by omega
  refine ⟨k + 1, _, by omega, AX, AX, rfl, fun h => ⟨by omega, hll, Fv hlt hlt2 htk (of_decide_eq_true h)⟩, fun h => ne_at hlt hlt2 (of_decide_eq_false h)⟩
 refine Ad Aa (by first | rfl | exact dF (by omega)) <| AH ?_
 refine A8 <| A8 <| AB <| Ab <| AD (Af 2) <| At <| Ap rfl Bd ?_
 show _ = _
 obtain rfl : k = xs.length := by omega
 rw [dT (LF hll htk)]; rfl
theorem same_at {xs ys : List Res} {k : Nat} (h1 : k < xs.length) (h2 : k < ys.length) : (!((xs[k].bidder == ys[k].bidder) && (xs[k].price == ys[k].price))) = decide (xs[k] ≠ ys[k]) := by
 rw [Bool.eq_iff_iff]
 simp only [Bool.not_eq_true', Bool.and_eq_false_iff, decide_eq_true_eq, beq_eq_false_iff_ne]
 constructor
 · rintro (h | h) he <;> rw [he] at h <;> exact h rfl
 intro h
 by_cases hb : xs[k].bidder = ys[k].bidder
 · right; intro hp; apply h
   cases hx : xs[k]; cases hy : ys[k]; rw [hx, hy] at hb hp; simp at hb hp; rw [hb, hp]
 left; exact hb
theorem Lc {F : Heap} {v u : Value} {xs ys : List Res} (hx : Sl F v 2 Res.enc xs) (hy : Sl F u 2 Res.enc ys) : Ok Tryz.prog 39 [v, u].toArray F fun r _ => r = .bool (decide (xs = ys)) := by
 refine Ok.intro Tryz.func39 rfl Tryz.ntmps39 rfl fun w0 => ?_
 have hlen := hx.plain.lt
 have hlen2 := hy.plain.lt
 by_cases hll : xs.length = ys.length
 ·refine AD (Af 1) <| Ac <| Az (Af 1) fun ds => Ag rfl (A4 BQ Aa hx.plain) <| Aj (Af 1) <| Ag rfl (A4 BQ Aa hy.plain) <| Aw (Af 1) <| Ad Aa (dF (by omega)) <| Al <| Ab <| Ac <| AD (Af 1) <| Aq ?_
  refine AL [4, 5, 11, 12, 13, 14, 15, 16, 17, 18, 19, 20, 21, 22, 23, 24, 25] (fun m e σ => ∃ k : Nat, m + k = xs.length ∧ Fct e 5 (.int .i64 (k : Int)) ∧ σ = ⟨F, []⟩ ∧ xs.take k = ys.take k) (xs.length) ?_ ?_
  · exact ⟨0, by omega, AX, rfl, rfl⟩
  rintro m e _ ⟨k, hm, hs5, rfl, htk⟩
  by_cases hlt : k < xs.length
  ·have hlt2 : k < ys.length := by omega
   have hsa := same_at hlt hlt2
   refine Ac <| Az (Af 2) fun ds => Ag rfl (A4 BQ Aa hx.plain) <| Aw (Af 1) <| Ai Aa (by first | rfl | exact dT (by omega)) ?_
   by_cases hne : xs[k] ≠ ys[k]
   ·refine Al <| Ab <| Ac <| Aq <| Ac <| Bs (.inl rfl) (fun _ _ h => h) (by kernel_rfl) (by kernel_rfl) fun ds => AR (Af 2) <| AT rfl (A1  BQ Aa hx.plain Aa rfl hlt) <| AT rfl (AC Do Aa rfl rfl (hx.whole hlt)) <| AR (Af 2) <| AT rfl (A1  BQ Aa hy.plain Aa rfl hlt2) <| AT rfl (AC Do Aa rfl rfl (hy.whole hlt2)) <| AT rfl (KC Tryz.underlying57 PA Qm (by decide) (by decide) rfl rfl Tryz.underlying3 Tryz.underlying3 PS PS Aa Aa) <| B0 <| Ab <| Ai Aa (hsa.trans (dT hne)) <| AD (Af 1) <| At ?_
    refine A7 (Ax (Ax (A7 (Ax ?_))))
    refine Ap rfl Bd ?_
    show _ = _
    rw [dF (ne_at hlt hlt2 hne)]; rfl
   refine Al <| Ab <| Ac <| Aq <| Ac <| Bs (.inl rfl) (fun _ _ h => h) (by kernel_rfl) (by kernel_rfl) fun ds => AR (Af 2) <| AT rfl (A1  BQ Aa hx.plain Aa rfl hlt) <| AT rfl (AC Do Aa rfl rfl (hx.whole hlt)) <| AR (Af 2) <| AT rfl (A1  BQ Aa hy.plain Aa rfl hlt2) <| AT rfl (AC Do Aa rfl rfl (hy.whole hlt2)) <| AT rfl (KC Tryz.underlying57 PA Qm (by decide) (by decide) rfl rfl Tryz.underlying3 Tryz.underlying3 PS PS Aa Aa) <| B0 <| Ab <| Ad Aa (hsa.trans (dF hne)) <| Al <| A0 <| Ab <| Am fun ds => Aj (Af 1) <| Ag rfl (AG Aa Aa rfl (by omega) (by omega)) <| Aj (Af 1) <| Ao ?_
   refine Ab ⟨_, m - 1, Off.eq (B3 rfl <| A2), by omega, ?_⟩
   exact ⟨k + 1, by omega, AX, rfl, Fv hlt hlt2 htk (Classical.not_not.1 hne)⟩
  refine Ac <| Az (Af 2) fun ds => Ag rfl (A4 BQ Aa hx.plain) <| Aw (Af 1) <| Ad Aa (by first | rfl | exact dF (by omega)) ?_
  obtain rfl : k = xs.length := by omega
  refine AH ?_
  refine A8 <| A8 <| AB <| Ab <| AD (Af 1) <| At <| Ap rfl Bd ?_
  show _ = _
  rw [dT (LF hll htk)]; rfl
 refine AD (Af 1) <| Ac <| Az (Af 1) fun ds => Ag rfl (A4 BQ Aa hx.plain) <| Aj (Af 1) <| Ag rfl (A4 BQ Aa hy.plain) <| Aw (Af 1) <| Ai Aa (dT (by omega)) <| AD (Af 1) <| At <| Ax <| Ap rfl Bd ?_
 show _ = _
 rw [dF (fun h : xs = ys => hll (by rw [h]))]; rfl
end
section
open Go.RowKit
section
variable {P : Program} {n : Nat} {B : Base} {e : Env} {σ : St} {ty : TypeId} {pos : String} {af : Array Edge}
theorem Tz {d : Option Nat} {g : FuncId} {f : Operand} {fs cs vs : List Value} {xs : List Operand} {at_ : Array TypeId} {Hc Hr : List (Nat × Obj)}
   {R : Value → Heap → List (Nat × Obj) → Prop} {K : Value → St → Prop} (hg : Body P g) (hf : ev e f = .func (.func g) fs.toArray cs.toArray) (hx : Av e xs vs) (hH : σ.H = Hc ++ Hr)
   (hok : OkM P g (fs ++ vs ++ cs).toArray σ.F Hc R) (hn : ∀ v F' H', R v F' H' → σ.F.le F' → K v ⟨F', H' ++ Hr⟩) :
   OpX P n B ⟨d, .call ⟨.value f, xs.toArray, at_⟩, ty, pos, af, none⟩ e σ K := by
 intro a w ha hw next Qx hnext
 unfold Oper.wp
 rw [ha.ev, PF hg hf hx, Oper.upon_enter]
 refine (hok w hw.sub (fun p hp => ?_) ?_).mono fun r w' hq => ?_
 · obtain ⟨h1, h2, -⟩ := hw.own p (by rw [hH]; exact List.mem_append_left _ hp)
   exact ⟨h1, h2⟩
 · have := hw.nodup
   rw [hH, List.map_append] at this
   exact (List.nodup_append.1 this).1
 obtain ⟨v, F', H', rfl, hg', hk, hH', hR⟩ := hq
 exact hnext v _ w' (hn v F' H' hR hg'.le) (hw.grow hH hg' hk hH')
variable {ops : Array Oper}
end
end
end Go.Proofs.YtkjfmibiinfhfacGreat
