/-
  A part of a proof: SaleMore returns true of any sale, bid and lot by bits and sum, and leaves what it is handed as it was. No conditions.
-/
import Derived.Test.YtaikojfonleccaaPaa
import Derived.Test.YtaikojfonleccaaRows
import Derived.WalkKit
import Derived.OpenShut
import Derived.ShutString
import Derived.ChangeOld
import Derived.Below
import Derived.Test.YtaikojfonleccaaProg
namespace Go.Proofs.Ytaikojfonleccaa
theorem D5 {ss : List Stp} (h : 0 < ss.length) : stepErr ss 0 = if inB 0 0 ss[0].from_ = false then 7 else if inB 1 100000 ss[0].by_ = false then 7 else 0 := by
 unfold stepErr
 rw [List.getElem?_eq_getElem h]
 have : decide (ss[0].from_ = 0) = inB 0 0 ss[0].from_ := by
   unfold inB
   rw [Bool.eq_iff_iff]
   simp; omega
 simp only [if_pos, this]
theorem Do {ss : List Stp} {k : Nat} (h0 : 0 < k) (h : k < ss.length) : stepErr ss k = if inB ((ss[k - 1]'(by omega)).from_ + 1) 100000 ss[k].from_ = false then 7 else if inB 1 100000 ss[k].by_ = false then 7 else 0 := by
 unfold stepErr
 rw [List.getElem?_eq_getElem h, List.getElem?_eq_getElem (show k - 1 < ss.length by omega)]
 simp only [if_neg (show ¬ k = 0 by omega)]
 rfl
theorem step_most {ss : List Stp} {k : Nat} (h : k < ss.length) (he : stepErr ss k = 0) : 0 ≤ ss[k].from_ ∨ True → ss[k].from_ ≤ 100000 := fun _ => by
 by_cases h0 : k = 0
 · subst h0
   rw [D5 h] at he
   split at he
   · cases he
   · rename_i h1; simp [inB] at h1; omega
 · rw [Do (by omega) h] at he
   split at he
   · cases he
   · rename_i h1; simp [inB] at h1; omega
theorem step_least {ss : List Stp} : ∀ {k : Nat} (h : k < ss.length), (∀ j, j ≤ k → stepErr ss j = 0) → 0 ≤ ss[k].from_
 | 0, h, he => by
   have := he 0 (by omega)
   rw [D5 h] at this
   split at this
   · cases this
   · rename_i h1; simp [inB] at h1; omega
 | k + 1, h, he => by
   have ih := step_least (k := k) (by omega) (fun j hj => he j (by omega))
   have := he (k + 1) (by omega)
   rw [Do (by omega) h] at this
   split at this
   · cases this
   · rename_i h1; simp [inB] at h1; omega
theorem nameErr_at {ns : List ByteArray} {k : Nat} (h : k < ns.length) : nameErr ns k = if nameOk ns[k] = false then 6 else if (ns.take k).any (fun x => sameS x ns[k]) = true then 5 else 0 := by
 unfold nameErr; rw [List.getElem?_eq_getElem h]; rfl
theorem lotErr_at {s : Sale} {k : Nat} (h : k < s.lots.length) : lotErr s k = if nameOk s.lots[k].name = false then 6 else if (s.lots.take k).any (fun y => sameS y.name s.lots[k].name) = true then 5
   else if inB 0 (s.sellers.length - 1) s.lots[k].seller = false then 4 else if inB 1 100000 s.lots[k].reserve = false then 7 else 0 := by
 unfold lotErr; rw [List.getElem?_eq_getElem h]
theorem D6 {s : Sale} {k : Nat} (h : k < s.bids.length) : bidErr s k = if (inB 0 (s.bidders.length - 1) s.bids[k].bidder && inB 0 (s.lots.length - 1) s.bids[k].lot) = false then 4
   else if inB 1 100000 s.bids[k].most = false then 7 else if (s.bids.take k).any (fun y => decide (y.bidder = s.bids[k].bidder) && decide (y.lot = s.bids[k].lot)) = true then 5 else 0 := by
 unfold bidErr; rw [List.getElem?_eq_getElem h]
theorem Cg {lo hi y z : Int} : ([y, z].any fun z => !(inB lo hi z)) = !(inB lo hi y && inB lo hi z) := by simp [Bool.not_and]
theorem E1 {s : Sale} {i e : Int} (h : stepsE s.steps = some (i, e)) : checkSV s = .tuple #[.int .i64 1, .int .i64 i, .int .i64 e] := by unfold checkSV checkS; rw [h]
theorem checkS_v2 {s : Sale} (h1 : stepsE s.steps = none) (h : ((inB 0 500 s.premium && inB 0 500 s.fee) && inB 0 60 s.days) = false) : checkSV s = .tuple #[.int .i64 2, .int .i64 0, .int .i64 7] := by unfold checkSV checkS; rw [h1]; simp only [h, if_true]
theorem checkS_v3 {s : Sale} {i e : Int} (h1 : stepsE s.steps = none) (h2 : ((inB 0 500 s.premium && inB 0 500 s.fee) && inB 0 60 s.days) = true) (h : firstE s.bidders.length 6 (nameErr s.bidders) = some (i, e)) : checkSV s = .tuple #[.int .i64 3, .int .i64 i, .int .i64 e] := by
 unfold checkSV checkS; rw [h1]; simp only [h2, h]; rfl
theorem checkS_v4 {s : Sale} {i e : Int} (h1 : stepsE s.steps = none) (h2 : ((inB 0 500 s.premium && inB 0 500 s.fee) && inB 0 60 s.days) = true) (h3 : firstE s.bidders.length 6 (nameErr s.bidders) = none) (h : firstE s.sellers.length 4 (nameErr s.sellers) = some (i, e)) : checkSV s = .tuple #[.int .i64 4, .int .i64 i, .int .i64 e] := by
 unfold checkSV checkS; rw [h1]; simp only [h2, h3, h]; rfl
theorem checkS_v5 {s : Sale} {i e : Int} (h1 : stepsE s.steps = none) (h2 : ((inB 0 500 s.premium && inB 0 500 s.fee) && inB 0 60 s.days) = true) (h3 : firstE s.bidders.length 6 (nameErr s.bidders) = none) (h4 : firstE s.sellers.length 4 (nameErr s.sellers) = none) (h : firstE s.lots.length 6 (lotErr s) = some (i, e)) : checkSV s = .tuple #[.int .i64 5, .int .i64 i, .int .i64 e] := by
 unfold checkSV checkS; rw [h1]; simp only [h2, h3, h4, h]; rfl
theorem checkS_v6 {s : Sale} {i e : Int} (h1 : stepsE s.steps = none) (h2 : ((inB 0 500 s.premium && inB 0 500 s.fee) && inB 0 60 s.days) = true) (h3 : firstE s.bidders.length 6 (nameErr s.bidders) = none) (h4 : firstE s.sellers.length 4 (nameErr s.sellers) = none) (h5 : firstE s.lots.length 6 (lotErr s) = none) (h : firstE s.bids.length 16 (bidErr s) = some (i, e)) : checkSV s = .tuple #[.int .i64 6, .int .i64 i, .int .i64 e] := by
 unfold checkSV checkS; rw [h1]; simp only [h2, h3, h4, h5, h]; rfl
theorem checkS_v0 {s : Sale} (h1 : stepsE s.steps = none) (h2 : ((inB 0 500 s.premium && inB 0 500 s.fee) && inB 0 60 s.days) = true) (h3 : firstE s.bidders.length 6 (nameErr s.bidders) = none) (h4 : firstE s.sellers.length 4 (nameErr s.sellers) = none) (h5 : firstE s.lots.length 6 (lotErr s) = none) (h : firstE s.bids.length 16 (bidErr s) = none) : checkSV s = .tuple #[.int .i64 0, .int .i64 0, .int .i64 0] := by
 unfold checkSV checkS; rw [h1]; simp only [h2, h3, h4, h5, h]; rfl
theorem D1 {n most : Nat} {f : Nat → Int} {i e : Int} (h : firstE n most f = some (i, e)) : e ≠ 0 := by
 unfold firstE at h
 split at h
 · simp at h; omega
 · rw [Option.map_eq_some_iff] at h
   obtain ⟨k, hk, h2⟩ := h
   simp at h2
   unfold firstBad at hk
   have := List.find?_some hk
   simp at this
   rw [← h2.2]; exact this
end Go.Proofs.Ytaikojfonleccaa
namespace Go.Proofs.Ytaikojfonleccaa
theorem nameErr_fresh {ns : List ByteArray} {k : Nat} (h : k < ns.length) : nameErr ns k = freshE ns[k] (ns.take k) := by unfold nameErr; rw [List.getElem?_eq_getElem h]
def lnames (s : Sale) (k : Nat) : List ByteArray := (s.lots.take k).map (·.name)
theorem lnames_succ {s : Sale} {k : Nat} (h : k < s.lots.length) : lnames s (k + 1) = lnames s k ++ [s.lots[k].name] := by unfold lnames; rw [List.take_succ_eq_append_getElem h, List.map_append]; rfl
theorem lnames_len {s : Sale} {k : Nat} (h : k ≤ s.lots.length) : (lnames s k).length = k := by simp [lnames]; omega
theorem lotErr_fresh {s : Sale} {k : Nat} (h : k < s.lots.length) : lotErr s k = if freshE s.lots[k].name (lnames s k) ≠ 0 then freshE s.lots[k].name (lnames s k) else if inB 0 (s.sellers.length - 1) s.lots[k].seller = false then 4 else if inB 1 100000 s.lots[k].reserve = false then 7 else 0 := by
 rw [lotErr_at h]
 have hany : (lnames s k).any (fun x => sameS x s.lots[k].name) = (s.lots.take k).any fun y => sameS y.name s.lots[k].name := by unfold lnames; rw [List.any_map]; rfl
 unfold freshE
 rw [hany]
 cases nameOk s.lots[k].name <;> cases (s.lots.take k).any (fun y => sameS y.name s.lots[k].name) <;> simp
end Go.Proofs.Ytaikojfonleccaa
namespace Go.Proofs.Ytaikojfonleccaa
theorem behindBy_take {ss : List Stp} {k : Nat} (hk : k < ss.length) (p : Int) : behindBy (ss.take (k + 1)) p = if ss[k].from_ ≤ p then ss[k].by_ else behindBy (ss.take k) p := by
 unfold behindBy
 rw [List.take_succ_eq_append_getElem hk, List.foldl_append]
 rfl
theorem behindBy_congr {p q : Int} : ∀ (ss : List Stp) (b : Int), (∀ x ∈ ss, (x.from_ ≤ p ↔ x.from_ ≤ q)) → ss.foldl (fun b x => if x.from_ ≤ p then x.by_ else b) b = ss.foldl (fun b x => if x.from_ ≤ q then x.by_ else b) b
 | [], _, _ => rfl
 | x :: ss, b, h => by
   have hx := h x (by simp)
   simp only [List.foldl_cons]
   rw [show (if x.from_ ≤ p then x.by_ else b) = if x.from_ ≤ q then x.by_ else b by
     by_cases h1 : x.from_ ≤ p
     · rw [if_pos h1, if_pos (hx.1 h1)]
     · rw [if_neg h1, if_neg fun h2 => h1 (hx.2 h2)]]
   exact behindBy_congr ss _ fun y hy => h y (List.mem_cons_of_mem _ hy)
theorem from_lt {s : Sale} (hv : ValidS s) {i : Nat} : ∀ {j : Nat}, i < j → j < s.steps.length → (s.stp i).from_ < (s.stp j).from_
 | 0, h, _ => absurd h (by omega)
 | j + 1, h, hj => by
   have h1 := (hv.st (j + 1) (by omega) hj).1
   simp only [Nat.add_sub_cancel] at h1
   rcases Nat.lt_succ_iff_lt_or_eq.1 h with h2 | rfl
   · have := from_lt hv h2 (by omega); omega
   · exact h1
theorem from_nonneg {s : Sale} (hv : ValidS s) {i : Nat} (hi : i < s.steps.length) : 0 ≤ (s.stp i).from_ := by
 have h0 := hv.st0
 rcases Nat.eq_zero_or_pos i with rfl | h
 · omega
 · have := from_lt hv h hi; omega
/-- The step that tells the price behind 'p'. -/
theorem behind_step {s : Sale} (hv : ValidS s) {p : Int} (hp : 0 ≤ p) : ∀ k, 0 < k → k ≤ s.steps.length → ∃ i, i < k ∧ (s.stp i).from_ ≤ p ∧ (∀ j, i < j → j < k → p < (s.stp j).from_) ∧ behindBy (s.steps.take k) p = (s.stp i).by_
 | 0, h, _ => absurd h (by omega)
 | k + 1, _, hk => by
   have hk' : k < s.steps.length := hk
   rw [behindBy_take hk', stp_at hk']
   by_cases h1 : (s.stp k).from_ ≤ p
   · exact ⟨k, by omega, h1, fun j h2 h3 => absurd h2 (by omega), by rw [if_pos h1]⟩
   · rw [if_neg h1]
     rcases Nat.eq_zero_or_pos k with rfl | h0
     · have := hv.st0; omega
     · obtain ⟨i, a1, a2, a3, a4⟩ := behind_step hv hp k h0 (by omega)
       refine ⟨i, by omega, a2, fun j h2 h3 => ?_, a4⟩
       rcases Nat.lt_succ_iff_lt_or_eq.1 h3 with h3 | rfl
       · exact a3 j h2 h3
       · omega
theorem behindBy_all {s : Sale} (hv : ValidS s) {p : Int} (hp : 0 ≤ p) : ∃ i, i < s.steps.length ∧ (s.stp i).from_ ≤ p ∧ (∀ j, i < j → j < s.steps.length → p < (s.stp j).from_) ∧ behindBy s.steps p = (s.stp i).by_ := by
 have := behind_step hv hp s.steps.length (by have := hv.nst; omega) (Nat.le_refl _)
 rwa [List.take_of_length_le (Nat.le_refl _)] at this
theorem behindBy_bound {s : Sale} (hv : ValidS s) {p : Int} (hp : 0 ≤ p) : 1 ≤ behindBy s.steps p ∧ behindBy s.steps p ≤ 100000 := by
 obtain ⟨i, h1, -, -, h2⟩ := behindBy_all hv hp
 rw [h2]; exact hv.by_ i h1
theorem behindBy_any {s : Sale} (hv : ValidS s) : ∀ (k : Nat) (p : Int), k ≤ s.steps.length → 0 ≤ behindBy (s.steps.take k) p ∧ behindBy (s.steps.take k) p ≤ 100000
 | 0, p, _ => by simp [behindBy]
 | k + 1, p, hk => by
   have hk' : k < s.steps.length := hk
   rw [behindBy_take hk', stp_at hk']
   split
   · have := hv.by_ k hk'; omega
   · exact behindBy_any hv k p (by omega)
/-- In one stretch the steps are the same. -/
theorem behindBy_same {s : Sale} {p q : Int} (hpq : p ≤ q) (h : ∀ i, i < s.steps.length → p < (s.stp i).from_ → q < (s.stp i).from_) : behindBy s.steps q = behindBy s.steps p := by
 unfold behindBy
 refine (behindBy_congr s.steps 0 fun x hx => ?_).symm
 obtain ⟨i, hi, rfl⟩ := List.getElem_of_mem hx
 rw [stp_at hi]
 have := h i hi
 constructor
 · intro h1; omega
 · intro h1; by_cases h2 : p < (s.stp i).from_
   · have := this h2; omega
   · omega
theorem behindS_lt {s : Sale} (hv : ValidS s) {p : Int} (hp : 0 ≤ p) : p < behindS s p := by
 have := (behindBy_bound hv hp).1; unfold behindS; omega
theorem climb_fuel {s : Sale} (hv : ValidS s) {others most : Int} : ∀ (f f' : Nat) (p : Int), 0 ≤ p → (others + 1 - p).toNat ≤ f → (others + 1 - p).toNat ≤ f' → climbTo s others most f p = climbTo s others most f' p
 | 0, 0, p, _, _, _ => rfl
 | 0, f' + 1, p, _, h1, _ => by
   have : ¬ (p ≤ others ∧ behindS s p ≤ most) := by omega
   simp [climbTo, this]
 | f + 1, 0, p, _, _, h2 => by
   have : ¬ (p ≤ others ∧ behindS s p ≤ most) := by omega
   simp [climbTo, this]
 | f + 1, f' + 1, p, hp, h1, h2 => by
   unfold climbTo
   have := behindS_lt hv hp
   split
   · exact climb_fuel hv f f' _ (by omega) (by omega) (by omega)
   · rfl
theorem Eh {s : Sale} {p others most : Int} (h : ¬ (p ≤ others ∧ behindS s p ≤ most)) : climbS s p others most = p := by
 unfold climbS
 generalize (others + 1 - p).toNat = f
 cases f with
 | zero => rfl
 | succ f => simp [climbTo, h]
theorem climb_step {s : Sale} (hv : ValidS s) {p others most : Int} (hp : 0 ≤ p) (h1 : p ≤ others) (h2 : behindS s p ≤ most) : climbS s p others most = climbS s (behindS s p) others most := by
 have hlt := behindS_lt hv hp
 unfold climbS
 obtain ⟨f, hf⟩ : ∃ f, (others + 1 - p).toNat = f + 1 := ⟨(others - p).toNat, by omega⟩
 rw [hf]
 show (if p ≤ others ∧ behindS s p ≤ most then climbTo s others most f (behindS s p) else p) = _
 rw [if_pos ⟨h1, h2⟩]
 exact climb_fuel hv f (others + 1 - behindS s p).toNat (behindS s p) (by omega) (by omega) (Nat.le_refl _)
theorem climb_many {s : Sale} (hv : ValidS s) {p b others most : Int} (hp : 0 ≤ p) (hb : 1 ≤ b) : ∀ n : Nat, (∀ j : Nat, j < n → p + j * b ≤ others ∧ p + j * b + b ≤ most ∧ behindBy s.steps (p + j * b) = b) → climbS s p others most = climbS s (p + n * b) others most
 | 0, _ => by simp
 | n + 1, h => by
   rw [climb_many hv hp hb n fun j hj => h j (by omega)]
   obtain ⟨h1, h2, h3⟩ := h n (by omega)
   have hn : 0 ≤ (n : Int) * b := Int.mul_nonneg (by omega) (by omega)
   rw [climb_step hv (by omega) h1 (by unfold behindS; rw [h3]; exact h2)]
   unfold behindS
   rw [h3, show p + (n : Int) * b + b = p + ((n + 1 : Nat) : Int) * b by rw [Int.natCast_succ, Int.add_mul]; omega]
theorem climb_geF {s : Sale} (hv : ValidS s) {o m : Int} : ∀ (f : Nat) (p : Int), 0 ≤ p → (o + 1 - p).toNat ≤ f → p ≤ climbS s p o m
 | 0, p, hp, hf => by rw [Eh (show ¬ (p ≤ o ∧ behindS s p ≤ m) by omega)]; exact Int.le_refl _
 | f + 1, p, hp, hf => by
   by_cases h : p ≤ o ∧ behindS s p ≤ m
   · have hlt := behindS_lt hv hp
     rw [climb_step hv hp h.1 h.2]
     have := climb_geF hv (o := o) (m := m) f (behindS s p) (by omega) (by omega)
     omega
   · rw [Eh h]; exact Int.le_refl _
theorem climb_ge {s : Sale} (hv : ValidS s) {o m p : Int} (hp : 0 ≤ p) : p ≤ climbS s p o m := climb_geF hv (o + 1 - p).toNat p hp (Nat.le_refl _)
/-- The same for every way of going on. -/
theorem climb_mono {s : Sale} (hv : ValidS s) {o m o' m' : Int} (hq : ∀ q, 0 ≤ q → q ≤ o → behindS s q ≤ m → q ≤ o' ∧ behindS s q ≤ m') : ∀ (f : Nat) (p : Int), 0 ≤ p → (o + 1 - p).toNat ≤ f → climbS s p o m ≤ climbS s p o' m'
 | 0, p, hp, hf => by
   rw [Eh (show ¬ (p ≤ o ∧ behindS s p ≤ m) by omega)]
   exact climb_ge hv hp
 | f + 1, p, hp, hf => by
   by_cases h : p ≤ o ∧ behindS s p ≤ m
   · have h2 := hq p hp h.1 h.2
     have hlt := behindS_lt hv hp
     rw [climb_step hv hp h.1 h.2, climb_step hv hp h2.1 h2.2]
     exact climb_mono hv hq f (behindS s p) (by omega) (by omega)
   · rw [Eh h]
     exact climb_ge hv hp
theorem climb_le_climb {s : Sale} (hv : ValidS s) {o m o' m' p : Int} (hp : 0 ≤ p) (hq : ∀ q, 0 ≤ q → q ≤ o → behindS s q ≤ m → q ≤ o' ∧ behindS s q ≤ m') : climbS s p o m ≤ climbS s p o' m' := climb_mono hv hq _ p hp (Nat.le_refl _)
/-- Where it ends. -/
theorem climb_end {s : Sale} (hv : ValidS s) {o m : Int} : ∀ (f : Nat) (p : Int), 0 ≤ p → (o + 1 - p).toNat ≤ f → p ≤ m → climbS s p o m ≤ m ∧ ¬ (climbS s p o m ≤ o ∧ behindS s (climbS s p o m) ≤ m)
 | 0, p, hp, hf, hm => by rw [Eh (show ¬ (p ≤ o ∧ behindS s p ≤ m) by omega)]; exact ⟨hm, by omega⟩
 | f + 1, p, hp, hf, hm => by
   by_cases h : p ≤ o ∧ behindS s p ≤ m
   · have hlt := behindS_lt hv hp
     rw [climb_step hv hp h.1 h.2]
     exact climb_end hv f (behindS s p) (by omega) (by omega) h.2
   · rw [Eh h]; exact ⟨hm, h⟩
theorem climb_le {s : Sale} (hv : ValidS s) {o m p : Int} (hp : 0 ≤ p) (hm : p ≤ m) : climbS s p o m ≤ m := (climb_end hv _ p hp (Nat.le_refl _) hm).1
def endStep (p : Int) (e : Int) (x : Stp) : Int := if p < x.from_ then min e (x.from_ - 1) else e
def endTo (s : Sale) (p others : Int) (k : Nat) : Int := (s.steps.take k).foldl (endStep p) others
theorem endTo_succ {s : Sale} {p o : Int} {k : Nat} (hk : k < s.steps.length) : endTo s p o (k + 1) = endStep p (endTo s p o k) s.steps[k] := by
 unfold endTo; rw [List.take_succ_eq_append_getElem hk, List.foldl_append]; rfl
theorem endTo_spec {s : Sale} {p o : Int} (hpo : p ≤ o) : ∀ k, k ≤ s.steps.length → endTo s p o k ≤ o ∧ p ≤ endTo s p o k ∧ ∀ i, i < k → p < (s.stp i).from_ → endTo s p o k < (s.stp i).from_
 | 0, _ => by simp [endTo, hpo]
 | k + 1, hk => by
   have hk' : k < s.steps.length := hk
   obtain ⟨h1, h2, h3⟩ := endTo_spec (s := s) hpo k (by omega)
   rw [endTo_succ hk', stp_at hk']
   unfold endStep
   split
   · rename_i h4
     refine ⟨by omega, by omega, fun i hi hp => ?_⟩
     rcases Nat.lt_succ_iff_lt_or_eq.1 hi with hi | rfl
     · have := h3 i hi hp; omega
     · omega
   · rename_i h4
     refine ⟨h1, h2, fun i hi hp => ?_⟩
     rcases Nat.lt_succ_iff_lt_or_eq.1 hi with hi | rfl
     · exact h3 i hi hp
     · omega
def leapN (e p by_ most : Int) : Int := max 1 (min ((e - p) / by_ + 1) ((most - p) / by_))
theorem leap_bound {e p b most : Int} (hb : 1 ≤ b) (hpe : p ≤ e) (h2 : p + b ≤ most) : 1 ≤ leapN e p b most ∧ p + leapN e p b most * b ≤ most ∧ p + (leapN e p b most - 1) * b ≤ e := by
 have a1 : (e - p) / b * b ≤ e - p := Int.ediv_mul_le _ (by omega)
 have a2 : (most - p) / b * b ≤ most - p := Int.ediv_mul_le _ (by omega)
 have a3 : 0 ≤ (e - p) / b := Int.ediv_nonneg (by omega) (by omega)
 have a4 : 1 ≤ (most - p) / b := (Int.le_ediv_iff_mul_le (by omega)).2 (by omega)
 unfold leapN
 refine ⟨by omega, ?_, ?_⟩
 · have : max 1 (min ((e - p) / b + 1) ((most - p) / b)) ≤ (most - p) / b := by omega
   have := Int.mul_le_mul_of_nonneg_right this (show 0 ≤ b by omega)
   omega
 · have : max 1 (min ((e - p) / b + 1) ((most - p) / b)) - 1 ≤ (e - p) / b := by omega
   have := Int.mul_le_mul_of_nonneg_right this (show 0 ≤ b by omega)
   omega
theorem climb_leap {s : Sale} (hv : ValidS s) {p others most : Int} (hp : 0 ≤ p) (h1 : p ≤ others) (h2 : behindS s p ≤ most) :
   climbS s p others most = climbS s (p + leapN (endTo s p others s.steps.length) p (behindBy s.steps p) most * behindBy s.steps p) others most := by
 obtain ⟨e1, e2, e3⟩ := endTo_spec (s := s) h1 s.steps.length (Nat.le_refl _)
 have hb := (behindBy_bound hv hp).1
 obtain ⟨n1, n2, n3⟩ := leap_bound (e := endTo s p others s.steps.length) hb e2 h2
 generalize hn : leapN (endTo s p others s.steps.length) p (behindBy s.steps p) most = n at *
 obtain ⟨m, rfl⟩ := Int.eq_ofNat_of_zero_le (show 0 ≤ n by omega)
 refine climb_many hv hp hb m fun j hj => ?_
 have g1 : (j : Int) * behindBy s.steps p ≤ ((m : Int) - 1) * behindBy s.steps p := Int.mul_le_mul_of_nonneg_right (by omega) (by omega)
 have g2 : ((j : Int) + 1) * behindBy s.steps p ≤ (m : Int) * behindBy s.steps p := Int.mul_le_mul_of_nonneg_right (by omega) (by omega)
 have g3 : 0 ≤ (j : Int) * behindBy s.steps p := Int.mul_nonneg (by omega) (by omega)
 rw [Int.add_mul] at g2
 refine ⟨by omega, by omega, ?_⟩
 exact behindBy_same (by omega) fun i hi hpi => by have := e3 i hi hpi; omega
end Go.Proofs.Ytaikojfonleccaa
namespace Go.Proofs.Ytaikojfonleccaa
/-- No two have the same reader, or the same book. -/
def Two (r : Room) (a b : Nat) : Prop := r.reader a ≠ r.reader b ∧ r.book a ≠ r.book b
instance {r : Room} : DecidableRel (Two r) := fun _ _ => inferInstanceAs (Decidable (_ ∧ _))
def Apart (r : Room) (l : List Nat) : Prop := l.Pairwise (Two r)
instance {r : Room} {l : List Nat} : Decidable (Apart r l) := inferInstanceAs (Decidable (List.Pairwise _ _))
theorem Two.symm {r : Room} {a b : Nat} (h : Two r a b) : Two r b a := ⟨fun e => h.1 e.symm, fun e => h.2 e.symm⟩
/-- One more seat tried for the first request. -/
def step (r : Room) (q : Nat) (taken : List Nat) (sub : List Nat → Option (List Nat × Int)) (best : Option (List Nat × Int)) (s : Nat) : Option (List Nat × Int) :=
 if s ∈ taken ∨ reason r q s ≠ 0 then best
 else match sub (taken ++ [s]) with
   | none => best
   | some (l, n) => match best with
     | none => some (s :: l, n + light r q s)
     | some (_, m) => if n + light r q s < m then some (s :: l, n + light r q s) else best
/-- The first seats with the least light, but for those that are taken. -/
def giveR (r : Room) : List Nat → List Nat → Option (List Nat × Int)
 | [], _ => some ([], 0)
 | q :: rest, taken => (List.range r.seats.length).foldl (step r q taken (giveR r rest)) none
def allR (r : Room) (l : List Nat) : Option (List Nat × Int) := if Apart r l then giveR r l [] else none
end Go.Proofs.Ytaikojfonleccaa
namespace Go.Proofs.Ytaikojfonleccaa
open Go.RowKit
def lights (r : Room) : List Value := (List.range 48).map fun n => .int .i64 (light r (n / 6) (n % 6))
def roomCells (vb vr vs vq : Value) (ls : List Value) (vl : Value) : List Value := vb :: vr :: vs :: vq :: (ls ++ [vl])
/-- A rule: why, and the function that tells whether it is so. -/
def ruleE (p : Int × Value) : List Value := [.int .i64 p.1, p.2]
abbrev ptr (b : Nat) : Value := .pointer (some ⟨b, 0, none⟩)
/-- The types and functions that a room that is looked at names, by their numbers in the program. -/
structure Num where
 room : Nat
 rdroom : Nat
 rule : Nat
 fbook : Nat
 proom : Nat
 l1 : Nat
 l2 : Nat
 l3 : Nat
 l4 : Nat
def bookFn (N : Num) (c1 : Nat) : Value := .func (.func N.l1) #[] #[ptr c1]
def ruleFns (N : Num) (c1 c8 c3 : Nat) : List (Int × Value) := [(1, .func (.func N.l2) #[] #[ptr c8, ptr c1]), (2, .func (.func N.l3) #[] #[ptr c8, ptr c1]), (3, .func (.func N.l4) #[] #[ptr c3, ptr c8])]
structure RoomX (N : Num) (F : Heap) (b c1 c8 c3 : Nat) (vb vr vs vq vl : Value) (r : Room) : Prop where
 room : RoomR F vb vr vs vq r
 blk : F b = some (bx N.room (roomCells vb vr vs vq (lights r) vl))
 box : F c1 = some (bx N.rdroom [vb, vr, vs, vq])
 bk : F c8 = some (bx N.fbook [bookFn N c1])
 me : F c3 = some (bx N.proom [ptr b])
 rules : Sl F vl 2 ruleE (ruleFns N c1 c8 c3)
theorem RoomX.mono {N : Num} {F F' : Heap} {b c1 c8 c3 : Nat} {vb vr vs vq vl : Value} {r : Room} (h : RoomX N F b c1 c8 c3 vb vr vs vq vl r) (hF : F.le F') : RoomX N F' b c1 c8 c3 vb vr vs vq vl r :=
 ⟨h.room.mono hF, hF _ _ h.blk, hF _ _ h.box, hF _ _ h.bk, hF _ _ h.me, h.rules.mono hF⟩
def Looked (N : Num) (F : Heap) (p : Value) (r : Room) : Prop := ∃ b c1 c8 c3 vb vr vs vq vl, p = ptr b ∧ RoomX N F b c1 c8 c3 vb vr vs vq vl r
theorem Looked.mono {N : Num} {F F' : Heap} {p : Value} {r : Room} (h : Looked N F p r) (hF : F.le F') : Looked N F' p r := by
 obtain ⟨b, c1, c8, c3, vb, vr, vs, vq, vl, hp, hX⟩ := h
 exact ⟨b, c1, c8, c3, vb, vr, vs, vq, vl, hp, hX.mono hF⟩
end Go.Proofs.Ytaikojfonleccaa
namespace Go.Proofs.Ytaikojfonleccaa
open Go.RowKit
theorem natE_one : ∀ (x : Nat), ∀ u ∈ natE x, u.oneCell' = true := by simp [natE, Value.oneCell']
structure GivenC (G : Heap) (o : Option (List Nat × Int)) (is : Bool) (vs : Value) (n : Int) : Prop where
 is_ : is = o.isSome
 no : o = none → vs = .slice none 0 0 ∧ n = 0
 so : ∀ l m, o = some (l, m) → n = m ∧ Nats G vs l
theorem GivenC.mono {G G' : Heap} {o : Option (List Nat × Int)} {is : Bool} {vs : Value} {n : Int} (h : GivenC G o is vs n) (hG : G.le G') : GivenC G' o is vs n :=
 ⟨h.is_, h.no, fun l m e => ⟨(h.so l m e).1, (h.so l m e).2.mono hG⟩⟩
theorem GivenC.one {G : Heap} {o : Option (List Nat × Int)} {is : Bool} {vs : Value} {n : Int} (h : GivenC G o is vs n) : vs.oneCell' = true := by
 cases o with
 | none => obtain ⟨rfl, -⟩ := h.no rfl; rfl
 | some p => exact (h.so p.1 p.2 rfl).2.plain.one
theorem GivenC.ones {G : Heap} {o : Option (List Nat × Int)} {is : Bool} {vs : Value} {n : Int} (h : GivenC G o is vs n) : ∀ u ∈ [Value.bool is, vs, .int .i64 n], u.oneCell' = true := by
 intro u hu
 simp only [List.mem_cons, List.not_mem_nil, or_false] at hu
 rcases hu with rfl | rfl | rfl
 · rfl
 · exact h.one
 · rfl
theorem GivenC.none {G : Heap} : GivenC G none false (.slice none 0 0) 0 := ⟨rfl, fun _ => ⟨rfl, rfl⟩, (fun _ _ h => nomatch h)⟩
theorem GivenC.some {G : Heap} {l : List Nat} {vs : Value} {n : Int} (h : Nats G vs l) : GivenC G (some (l, n)) true vs n := ⟨rfl, (fun h => nomatch h), fun l' m e => by cases e; exact ⟨rfl, h⟩⟩
end Go.Proofs.Ytaikojfonleccaa
namespace Go.Proofs.Ytaikojfonleccaa
open Go.RowKit
structure BestC (F : Heap) (best : Option (List Nat × Int)) (vb : Value) (L : Int) : Prop where
 no : best = none → L = -1 ∧ vb = .slice none 0 0
 so : ∀ l m, best = some (l, m) → L = m ∧ Nats F vb l ∧ 0 ≤ m
theorem BestC.mono {F F' : Heap} {best : Option (List Nat × Int)} {vb : Value} {L : Int} (h : BestC F best vb L) (hF : F.le F') : BestC F' best vb L :=
 ⟨h.no, fun l m e => ⟨(h.so l m e).1, (h.so l m e).2.1.mono hF, (h.so l m e).2.2⟩⟩
theorem BestC.one {F : Heap} {best : Option (List Nat × Int)} {vb : Value} {L : Int} (h : BestC F best vb L) : vb.oneCell' = true := by
 cases best with
 | none => obtain ⟨-, rfl⟩ := h.no rfl; rfl
 | some p => exact (h.so p.1 p.2 rfl).2.1.plain.one
structure NextX (N : Num) (TS TN fn : Nat) (F : Heap) (b c1 c8 c3 : Nat) (vb vr vs vq vl : Value) (r : Room) (v : Value) (l : List Nat) (bl bb bo co d2 d3 d7 n : Nat) : Prop where
 room : RoomX N F b c1 c8 c3 vb vr vs vq vl r
 idx : Nats F v l
 own : F co = some (bx TS [.slice (some ⟨bo, 0, none⟩) n n])
 rm : F d2 = some (bx N.proom [ptr b])
 rq : F d3 = some (bx TS [v])
 nx : F d7 = some (bx TN [.func (.func fn) #[] #[ptr bl, ptr co, ptr bb, ptr d2, ptr d3, ptr d7]])
 len : l.length = n
theorem NextX.mono {N : Num} {TS TN fn : Nat} {F F' : Heap} {b c1 c8 c3 : Nat} {vb vr vs vq vl : Value} {r : Room} {v : Value} {l : List Nat} {bl bb bo co d2 d3 d7 n : Nat} (h : NextX N TS TN fn F b c1 c8 c3 vb vr vs vq vl r v l bl bb bo co d2 d3 d7 n) (hF : F.le F') : NextX N TS TN fn F' b c1 c8 c3 vb vr vs vq vl r v l bl bb bo co d2 d3 d7 n :=
 ⟨h.room.mono hF, h.idx.mono hF, hF _ _ h.own, hF _ _ h.rm, hF _ _ h.rq, hF _ _ h.nx, h.len⟩
theorem shr_nat {m k : Nat} : (m : Int) / 2 ^ k = ((m / 2 ^ k : Nat) : Int) := by simp
theorem Dw {m k : Nat} : decide ((((m / 2 ^ k) &&& 1 : Nat) : Int) = 1) = m.testBit k := by
 rw [Nat.testBit_eq_decide_div_mod_eq, Nat.and_one_is_mod]
 congr 1
 rw [eq_iff_iff]
 omega
theorem mask_lt {mask k : Nat} (h : mask < 64) (hk : k < 6) : mask ||| 2 ^ k < 64 := by
 have h1 : (2 : Nat) ^ k < 2 ^ 6 := Nat.pow_lt_pow_right (by omega) hk
 exact Nat.or_lt_two_pow (n := 6) h h1
theorem pow_lt {k : Nat} (hk : k < 6) : (2 : Nat) ^ k < 64 := Nat.pow_lt_pow_right (n := 6) (by omega) hk
theorem take_set {own : List Value} {i k : Nat} {pre : List Nat} (hi : i < own.length) (_hp : pre.length = i) (h : own.take i = pre.flatMap natE) : (own.set i (.int .i64 k)).take (i + 1) = (pre ++ [k]).flatMap natE := by
 rw [List.take_succ_eq_append_getElem (by simpa using hi), List.take_set_of_le (Nat.le_refl _), h]
 simp [natE]
theorem natsE_length : ∀ {l : List Nat}, (l.flatMap natE).length = l.length := by
 intro l
 induction l with
 | nil => rfl
 | cons a l ih => simp [List.flatMap_cons, natE] at ih ⊢; omega
theorem nats_box {F : Heap} {b T n : Nat} {l : List Nat} (h : F b = some (bx T (l.flatMap natE))) (hn : l.length = n) (hl : n < 281474976710656) : Nats F (.slice (some ⟨b, 0, none⟩) n n) l := by
 subst hn
 have hlen := natsE_length (l := l)
 refine Own.sl (E := T) (R := [(b, bx T (l.flatMap natE))]) ?_ (fun _ => rfl) (fun p hp => by simp at hp; subst hp; exact h) hl
 exact own_box (by rw [hlen]; omega)
theorem plain_row {b n c : Nat} (h : n ≤ c) (hn : n < 281474976710656) : Plain (.slice (some ⟨b, 0, none⟩) n c) n := ⟨_, _, rfl, fun _ x hx => by cases hx; rfl, by simp, h, hn⟩
end Go.Proofs.Ytaikojfonleccaa
namespace Go.Proofs.Ytaikojfonleccaa
open Go.RowKit
theorem BestC.is {F : Heap} {best : Option (List Nat × Int)} {vb : Value} {L : Int} (h : BestC F best vb L) : decide (0 ≤ L) = best.isSome := by
 cases best with
 | none => obtain ⟨rfl, -⟩ := h.no rfl; rfl
 | some p => obtain ⟨rfl, -, h0⟩ := h.so p.1 p.2 rfl; simpa using h0
theorem idx_map {l : List Nat} : (l.map fun (n : Nat) => (n : Int)).map Int.toNat = l := by
 rw [List.map_map, show (Int.toNat ∘ fun (n : Nat) => (n : Int)) = id from rfl, List.map_id]
end Go.Proofs.Ytaikojfonleccaa
namespace Go.Proofs.Ytaikojfonleccaa
open Go
def isBid (s : Sale) (l b i : Nat) : Prop := (s.bid i).lot = (l : Int) ∧ (s.bid i).bidder = (b : Int)
instance (s : Sale) (l b i : Nat) : Decidable (isBid s l b i) := by unfold isBid; exact inferInstance
def placeTo (s : Sale) (l b : Nat) : Nat → Int
 | 0 => 0
 | k + 1 => if isBid s l b k then (k : Int) + 1 else placeTo s l b k
def mostTo (s : Sale) (l b : Nat) : Nat → Int
 | 0 => 0
 | k + 1 => if isBid s l b k then (s.bid k).most else mostTo s l b k
def placeN (s : Sale) (l b : Nat) : Int := placeTo s l b s.bids.length
def mostN (s : Sale) (l b : Nat) : Int := mostTo s l b s.bids.length
theorem bid_or {s : Sale} {l b : Nat} : ∀ k, (∃ i, i < k ∧ isBid s l b i ∧ placeTo s l b k = (i : Int) + 1 ∧ mostTo s l b k = (s.bid i).most) ∨ ((∀ i, i < k → ¬ isBid s l b i) ∧ placeTo s l b k = 0 ∧ mostTo s l b k = 0)
 | 0 => .inr ⟨fun i h => absurd h (by omega), rfl, rfl⟩
 | k + 1 => by
   unfold placeTo mostTo
   by_cases h : isBid s l b k
   · rw [if_pos h, if_pos h]; exact .inl ⟨k, by omega, h, rfl, rfl⟩
   · rw [if_neg h, if_neg h]
     rcases bid_or k with ⟨i, h1, h2, h3, h4⟩ | ⟨h1, h2, h3⟩
     · exact .inl ⟨i, by omega, h2, h3, h4⟩
     · refine .inr ⟨fun i hi => ?_, h2, h3⟩
       rcases Nat.lt_succ_iff_lt_or_eq.1 hi with hi | rfl
       · exact h1 i hi
       · exact h
theorem isBid_uniq {s : Sale} (hv : ValidS s) {l b i j : Nat} (hi : i < s.bids.length) (hj : j < s.bids.length) (h1 : isBid s l b i) (h2 : isBid s l b j) : i = j := by
 rcases Nat.lt_trichotomy i j with h | h | h
 · exact absurd ⟨h1.2.trans h2.2.symm, h1.1.trans h2.1.symm⟩ (hv.two i j h hj)
 · exact h
 · exact absurd ⟨h2.2.trans h1.2.symm, h2.1.trans h1.1.symm⟩ (hv.two j i h hi)
/-- The bid 'i' is what its bidder gives for its lot. -/
theorem bid_most {s : Sale} (hv : ValidS s) {l b i : Nat} (hi : i < s.bids.length) (h : isBid s l b i) : placeN s l b = (i : Int) + 1 ∧ mostN s l b = (s.bid i).most := by
 rcases bid_or (s := s) (l := l) (b := b) s.bids.length with ⟨j, h1, h2, h3, h4⟩ | ⟨h1, -, -⟩
 · obtain rfl := isBid_uniq hv h1 hi h2 h; exact ⟨h3, h4⟩
 · exact absurd h (h1 i hi)
theorem place_pos {s : Sale} {l b : Nat} (h : placeN s l b ≠ 0) : ∃ i, i < s.bids.length ∧ isBid s l b i ∧ placeN s l b = (i : Int) + 1 ∧ mostN s l b = (s.bid i).most := by
 rcases bid_or (s := s) (l := l) (b := b) s.bids.length with h1 | ⟨-, h2, -⟩
 · exact h1
 · exact absurd h2 h
theorem place_nonneg {s : Sale} {l b k : Nat} : 0 ≤ placeTo s l b k ∧ placeTo s l b k ≤ k := by
 rcases bid_or (s := s) (l := l) (b := b) k with ⟨i, h1, -, h2, -⟩ | ⟨-, h2, -⟩ <;> omega
theorem most_bound {s : Sale} (hv : ValidS s) {l b k : Nat} (hk : k ≤ s.bids.length) : 0 ≤ mostTo s l b k ∧ mostTo s l b k ≤ 100000 := by
 rcases bid_or (s := s) (l := l) (b := b) k with ⟨i, h1, -, -, h2⟩ | ⟨-, -, h2⟩
 · have := hv.bd i (by omega); omega
 · omega
theorem place_zero {s : Sale} {l b : Nat} (h : placeN s l b = 0) : mostN s l b = 0 := by
 rcases bid_or (s := s) (l := l) (b := b) s.bids.length with ⟨i, h1, -, h2, -⟩ | ⟨-, -, h2⟩
 · unfold placeN at h; omega
 · exact h2
/-- The cells of an array of arrays. -/
def cells36 (f : Nat → Nat → Int) : List Value := (List.range 36).map fun n => .int .i64 (f (n / 6) (n % 6))
theorem Cn {f : Nat → Nat → Int} : (cells36 f).length = 36 := by simp [cells36]
theorem cells36_get {f : Nat → Nat → Int} {l b : Nat} (hl : l < 6) (hb : b < 6) : (cells36 f)[l * 6 + b]? = some (.int .i64 (f l b)) := by
 unfold cells36
 rw [List.getElem?_map, List.getElem?_range (by omega)]
 have e1 : (l * 6 + b) / 6 = l := by omega
 have e2 : (l * 6 + b) % 6 = b := by omega
 simp [e1, e2]
theorem cells36_set {f g : Nat → Nat → Int} {l b : Nat} {z : Int} (_hl : l < 6) (hb : b < 6) (h1 : g l b = z) (h2 : ∀ l' b', ¬ (l' = l ∧ b' = b) → g l' b' = f l' b') : (cells36 f).set (l * 6 + b) (.int .i64 z) = cells36 g := by
 unfold cells36
 apply List.ext_getElem
 · simp
 · intro n h3 h4
   rw [List.getElem_set]
   simp only [List.getElem_map, List.getElem_range]
   by_cases hn : l * 6 + b = n
   · subst hn
     have e1 : (l * 6 + b) / 6 = l := by omega
     have e2 : (l * 6 + b) % 6 = b := by omega
     rw [if_pos rfl, e1, e2, h1]
   · rw [if_neg hn, h2 _ _ (by omega)]
theorem cells36_zero {f : Nat → Nat → Int} (h : ∀ l b, f l b = 0) : cells36 f = List.replicate 36 (.int .i64 0) := by
 unfold cells36
 apply List.ext_getElem
 · simp
 · intro n h1 h2
   rw [List.getElem_replicate]
   simp [h]
theorem mostTo_set {s : Sale} {k l b : Nat} (hl : l < 6) (hb : b < 6) (h1 : (s.bid k).lot = (l : Int)) (h2 : (s.bid k).bidder = (b : Int)) :
   (cells36 fun l b => mostTo s l b k).set (l * 6 + b) (.int .i64 (s.bid k).most) = cells36 fun l b => mostTo s l b (k + 1) := by
 refine cells36_set hl hb ?_ fun l' b' h => ?_
 · show mostTo s l b (k + 1) = _; unfold mostTo; rw [if_pos ⟨h1, h2⟩]
 · show mostTo s l' b' (k + 1) = _; rw [mostTo, if_neg]; rintro ⟨a1, a2⟩; exact h ⟨by omega, by omega⟩
theorem placeTo_set {s : Sale} {k l b : Nat} (hl : l < 6) (hb : b < 6) (h1 : (s.bid k).lot = (l : Int)) (h2 : (s.bid k).bidder = (b : Int)) :
   (cells36 fun l b => placeTo s l b k).set (l * 6 + b) (.int .i64 ((k : Int) + 1)) = cells36 fun l b => placeTo s l b (k + 1) := by
 refine cells36_set hl hb ?_ fun l' b' h => ?_
 · show placeTo s l b (k + 1) = _; unfold placeTo; rw [if_pos ⟨h1, h2⟩]
 · show placeTo s l' b' (k + 1) = _; rw [placeTo, if_neg]; rintro ⟨a1, a2⟩; exact h ⟨by omega, by omega⟩
def strongerB (s : Sale) (l b : Nat) (other : Int) : Bool :=
 if placeN s l b = 0 ∨ other < 0 then decide (0 < placeN s l b)
 else decide (mostN s l other.toNat < mostN s l b) || (decide (mostN s l b = mostN s l other.toNat) && decide (placeN s l b < placeN s l other.toNat))
def strongStep (s : Sale) (l : Nat) (mem : Nat → Bool) (best : Int) (b : Nat) : Int := if mem b = true ∧ strongerB s l b best = true then (b : Int) else best
def strongTo (s : Sale) (l : Nat) (mem : Nat → Bool) (k : Nat) : Int := (List.range k).foldl (strongStep s l mem) (-1)
def strongP (s : Sale) (l : Nat) (mem : Nat → Bool) : Int := strongTo s l mem s.bidders.length
theorem D4 {s : Sale} {l : Nat} {mem : Nat → Bool} {k : Nat} : strongTo s l mem (k + 1) = strongStep s l mem (strongTo s l mem k) k := by unfold strongTo; rw [List.range_succ, List.foldl_append]; rfl
theorem strong_spec {s : Sale} {l : Nat} {mem : Nat → Bool} : ∀ k, (strongTo s l mem k = -1 ∧ ∀ b, b < k → mem b = true → placeN s l b = 0) ∨
   ∃ b, b < k ∧ mem b = true ∧ strongTo s l mem k = (b : Int) ∧ placeN s l b ≠ 0 ∧ ∀ c, c < k → mem c = true → placeN s l c ≠ 0 → mostN s l c < mostN s l b ∨ mostN s l c = mostN s l b ∧ placeN s l b ≤ placeN s l c
 | 0 => .inl ⟨rfl, fun b h => absurd h (by omega)⟩
 | k + 1 => by
   rw [D4]
   have hnn := (place_nonneg (s := s) (l := l) (b := k) (k := s.bids.length)).1
   have hkn : placeTo s l k s.bids.length = placeN s l k := rfl
   rcases strong_spec (s := s) (l := l) (mem := mem) k with ⟨h1, h2⟩ | ⟨b, h1, h2, h3, h4, h5⟩
   · rw [h1]
     by_cases hc : mem k = true ∧ strongerB s l k (-1) = true
     · rw [show strongStep s l mem (-1) k = k from if_pos hc]
       obtain ⟨c1, c2⟩ := hc
       unfold strongerB at c2
       rw [if_pos (.inr (by omega))] at c2
       have c3 := of_decide_eq_true c2
       refine .inr ⟨k, by omega, c1, rfl, by omega, fun c hck hm hp => ?_⟩
       rcases Nat.lt_succ_iff_lt_or_eq.1 hck with hck | rfl
       · exact absurd (h2 c hck hm) hp
       · exact .inr ⟨rfl, Int.le_refl _⟩
     · rw [show strongStep s l mem (-1) k = -1 from if_neg hc]
       refine .inl ⟨rfl, fun b hb hm => ?_⟩
       rcases Nat.lt_succ_iff_lt_or_eq.1 hb with hb | rfl
       · exact h2 b hb hm
       · have : ¬ strongerB s l b (-1) = true := fun h => hc ⟨hm, h⟩
         unfold strongerB at this
         rw [if_pos (.inr (by omega))] at this
         have h9 : ¬ 0 < placeN s l b := fun h => this (decide_eq_true h)
         omega
   · rw [h3]
     by_cases hc : mem k = true ∧ strongerB s l k b = true
     · rw [show strongStep s l mem b k = k from if_pos hc]
       obtain ⟨c1, c2⟩ := hc
       unfold strongerB at c2
       by_cases hp0 : placeN s l k = 0
       · rw [if_pos (.inl hp0)] at c2; have := of_decide_eq_true c2; omega
       · rw [if_neg (by omega)] at c2
         simp only [Int.toNat_natCast, Bool.or_eq_true, Bool.and_eq_true, decide_eq_true_eq] at c2
         refine .inr ⟨k, by omega, c1, rfl, hp0, fun c hck hm hp => ?_⟩
         rcases Nat.lt_succ_iff_lt_or_eq.1 hck with hck | rfl
         · have := h5 c hck hm hp; omega
         · exact .inr ⟨rfl, Int.le_refl _⟩
     · rw [show strongStep s l mem b k = b from if_neg hc]
       refine .inr ⟨b, by omega, h2, rfl, h4, fun c hck hm hp => ?_⟩
       rcases Nat.lt_succ_iff_lt_or_eq.1 hck with hck | rfl
       · exact h5 c hck hm hp
       · have : ¬ strongerB s l c b = true := fun h => hc ⟨hm, h⟩
         unfold strongerB at this
         rw [if_neg (by omega)] at this
         simp only [Int.toNat_natCast, Bool.or_eq_true, Bool.and_eq_true, decide_eq_true_eq] at this
         omega
theorem topTo_succ {s : Sale} {lot : Int} {mem : Int → Bool} {k : Nat} : topTo s lot mem (k + 1) = topStep s lot mem (topTo s lot mem k) k := by unfold topTo; rw [List.range_succ, List.foldl_append]; rfl
theorem Eq {s : Sale} {lot : Int} {mem : Int → Bool} : ∀ k, (topTo s lot mem k = -1 ∧ ∀ i, i < k → (s.bid i).lot = lot → mem (s.bid i).bidder = true → False) ∨
   ∃ i, i < k ∧ (s.bid i).lot = lot ∧ mem (s.bid i).bidder = true ∧ topTo s lot mem k = (i : Int) ∧ ∀ j, j < k → (s.bid j).lot = lot → mem (s.bid j).bidder = true → (s.bid j).most < (s.bid i).most ∨ (s.bid j).most = (s.bid i).most ∧ i ≤ j
 | 0 => .inl ⟨rfl, fun i h => absurd h (by omega)⟩
 | k + 1 => by
   rw [topTo_succ]
   rcases Eq (s := s) (lot := lot) (mem := mem) k with ⟨h1, h2⟩ | ⟨i, h1, h2, h3, h4, h5⟩
   · rw [h1]
     by_cases hc : (s.bid k).lot = lot ∧ mem (s.bid k).bidder = true
     · rw [show topStep s lot mem (-1) k = k from if_pos ⟨hc.1, hc.2, .inl (by omega)⟩]
       refine .inr ⟨k, by omega, hc.1, hc.2, rfl, fun j hj hl hm => ?_⟩
       rcases Nat.lt_succ_iff_lt_or_eq.1 hj with hj | rfl
       · exact (h2 j hj hl hm).elim
       · exact .inr ⟨rfl, Nat.le_refl _⟩
     · rw [show topStep s lot mem (-1) k = -1 from if_neg fun h => hc ⟨h.1, h.2.1⟩]
       refine .inl ⟨rfl, fun i hi hl hm => ?_⟩
       rcases Nat.lt_succ_iff_lt_or_eq.1 hi with hi | rfl
       · exact h2 i hi hl hm
       · exact hc ⟨hl, hm⟩
   · rw [h4]
     by_cases hc : (s.bid k).lot = lot ∧ mem (s.bid k).bidder = true ∧ (s.bid i).most < (s.bid k).most
     · rw [show topStep s lot mem i k = k from if_pos ⟨hc.1, hc.2.1, .inr (by simpa using hc.2.2)⟩]
       refine .inr ⟨k, by omega, hc.1, hc.2.1, rfl, fun j hj hl hm => ?_⟩
       rcases Nat.lt_succ_iff_lt_or_eq.1 hj with hj | rfl
       · have := h5 j hj hl hm; omega
       · exact .inr ⟨rfl, Nat.le_refl _⟩
     · have hno : ¬ ((s.bid k).lot = lot ∧ mem (s.bid k).bidder = true ∧ ((i : Int) < 0 ∨ (s.bid (i : Int).toNat).most < (s.bid k).most)) := fun ⟨a1, a2, a3⟩ => hc ⟨a1, a2, by
         rcases a3 with a3 | a3
         · omega
         · simpa using a3⟩
       rw [show topStep s lot mem i k = i from if_neg hno]
       refine .inr ⟨i, by omega, h2, h3, rfl, fun j hj hl hm => ?_⟩
       rcases Nat.lt_succ_iff_lt_or_eq.1 hj with hj | rfl
       · exact h5 j hj hl hm
       · have : ¬ (s.bid i).most < (s.bid j).most := fun h => hc ⟨hl, hm, h⟩
         omega
theorem isBid_of {s : Sale} (hv : ValidS s) {l i : Nat} (hi : i < s.bids.length) (hl : (s.bid i).lot = (l : Int)) : ∃ b, b < s.bidders.length ∧ (s.bid i).bidder = (b : Int) ∧ isBid s l b i := by
 have := hv.bd i hi
 obtain ⟨b, hb⟩ := Int.eq_ofNat_of_zero_le this.1
 exact ⟨b, by omega, hb, hl, hb⟩
/-- By bidders or by bids: the same one. -/
theorem strong_top {s : Sale} (hv : ValidS s) {l : Nat} {mem : Nat → Bool} {memI : Int → Bool} (hm : ∀ b, b < s.bidders.length → mem b = memI (b : Int)) :
   (strongP s l mem = -1 ∧ topS s l memI = -1) ∨ ∃ b i, b < s.bidders.length ∧ i < s.bids.length ∧ strongP s l mem = (b : Int) ∧ topS s l memI = (i : Int) ∧ isBid s l b i ∧ memI b = true := by
 rcases strong_spec (s := s) (l := l) (mem := mem) s.bidders.length with ⟨h1, h2⟩ | ⟨b, h1, h2, h3, h4, h5⟩
 · refine .inl ⟨h1, ?_⟩
   rcases Eq (s := s) (lot := l) (mem := memI) s.bids.length with ⟨g1, -⟩ | ⟨i, g1, g2, g3, g4, -⟩
   · exact g1
   · obtain ⟨b, hb, he, hib⟩ := isBid_of hv g1 g2
     have := h2 b hb (by rw [hm b hb, ← he]; exact g3)
     have := (bid_most hv g1 hib).1
     omega
 · obtain ⟨i0, hi0, hib0, hp0, hm0⟩ := place_pos h4
   rcases Eq (s := s) (lot := l) (mem := memI) s.bids.length with ⟨-, g2⟩ | ⟨i, g1, g2, g3, g4, g5⟩
   · exact (g2 i0 hi0 hib0.1 (by rw [hib0.2, ← hm b h1]; exact h2)).elim
   · obtain ⟨c, hc, he, hib⟩ := isBid_of hv g1 g2
     obtain ⟨q1, q2⟩ := bid_most hv g1 hib
     have r1 := h5 c hc (by rw [hm c hc, ← he]; exact g3) (by omega)
     have r2 := g5 i0 hi0 hib0.1 (by rw [hib0.2, ← hm b h1]; exact h2)
     have : i = i0 := by omega
     subst this
     exact .inr ⟨b, i, h1, g1, h3, g4, hib0, by rw [← hm b h1]; exact h2⟩
end Go.Proofs.Ytaikojfonleccaa
namespace Go.Proofs.Ytaikojfonleccaa
open Go
theorem fold_max {α : Type} {c : α → Prop} [DecidablePred c] {f : α → Int} {M : Int} : ∀ (l : List α) (a : Int), (l.foldl (fun m x => if c x then max m (f x) else m) a ≤ M ↔ a ≤ M ∧ ∀ x ∈ l, c x → f x ≤ M)
 | [], a => by simp
 | x :: l, a => by
   simp only [List.foldl_cons]
   rw [fold_max l]
   by_cases h : c x
   · rw [if_pos h]
     constructor
     · rintro ⟨h1, h2⟩
       refine ⟨by omega, fun y hy hc => ?_⟩
       rcases List.mem_cons.1 hy with rfl | hy
       · omega
       · exact h2 y hy hc
     · rintro ⟨h1, h2⟩
       have := h2 x (by simp) h
       exact ⟨by omega, fun y hy hc => h2 y (List.mem_cons_of_mem _ hy) hc⟩
   · rw [if_neg h]
     constructor
     · rintro ⟨h1, h2⟩
       refine ⟨h1, fun y hy hc => ?_⟩
       rcases List.mem_cons.1 hy with rfl | hy
       · exact absurd hc h
       · exact h2 y hy hc
     · rintro ⟨h1, h2⟩
       exact ⟨h1, fun y hy hc => h2 y (List.mem_cons_of_mem _ hy) hc⟩
theorem Eg {α : Type} {c : α → Prop} [DecidablePred c] {f : α → Int} {l : List α} {a : Int} : a ≤ l.foldl (fun m x => if c x then max m (f x) else m) a ∧ ∀ x ∈ l, c x → f x ≤ l.foldl (fun m x => if c x then max m (f x) else m) a :=
 (fold_max l a).1 (Int.le_refl _)
def otherOk (set : Nat) (one member : Int) (b : Nat) : Prop := (b : Int) ≠ one ∧ (set.testBit b = false ∨ (b : Int) = member)
instance (set : Nat) (one member : Int) (b : Nat) : Decidable (otherOk set one member b) := by unfold otherOk; exact inferInstance
def othersTo (s : Sale) (l set : Nat) (one member : Int) (k : Nat) : Int := (List.range k).foldl (fun m b => if otherOk set one member b then max m (mostN s l b) else m) 0
theorem othersTo_succ {s : Sale} {l set : Nat} {one member : Int} {k : Nat} : othersTo s l set one member (k + 1) = if otherOk set one member k then max (othersTo s l set one member k) (mostN s l k) else othersTo s l set one member k := by
 unfold othersTo; rw [List.range_succ, List.foldl_append]; rfl
def sellP (s : Sale) (set l : Nat) : Res :=
 if strongP s l (fun _ => true) < 0 ∨ mostN s l (strongP s l fun _ => true).toNat < (s.lot l).reserve then ⟨-1, 0⟩
 else ⟨strongP s l fun _ => true, climbS s (s.lot l).reserve (othersTo s l set (strongP s l fun _ => true) (strongP s l set.testBit) s.bidders.length) (mostN s l (strongP s l fun _ => true).toNat)⟩
def sellL (s : Sale) (set k : Nat) : List Res := (List.range k).map (sellP s set)
theorem sellL_succ {s : Sale} {set k : Nat} : sellL s set (k + 1) = sellL s set k ++ [sellP s set k] := by unfold sellL; rw [List.range_succ, List.map_append]; rfl
theorem sellL_length {s : Sale} {set k : Nat} : (sellL s set k).length = k := by simp [sellL]
theorem othersTo_bound {s : Sale} (hv : ValidS s) {l set : Nat} {one member : Int} {k : Nat} : 0 ≤ othersTo s l set one member k ∧ othersTo s l set one member k ≤ 100000 :=
 ⟨Eg.1, (fold_max _ _).2 ⟨by omega, fun b _ _ => (most_bound hv (Nat.le_refl _)).2⟩⟩
theorem othersL_bound {s : Sale} (hv : ValidS s) {one : Int} {l : List Nat} (hl : ∀ i ∈ l, i < s.bids.length) : 0 ≤ othersL s one l ∧ othersL s one l ≤ 100000 := by
 unfold othersL
 exact ⟨Eg.1, (fold_max _ _).2 ⟨by omega, fun i hi _ => by have := hv.bd i (hl i hi); omega⟩⟩
theorem biddingL_lt {s : Sale} {lot : Int} {ring : List Int} : ∀ i ∈ biddingL s lot ring, i < s.bids.length := fun i hi => by
 have := (List.mem_filter.1 hi).1
 simpa using this
theorem others_eq {s : Sale} (hv : ValidS s) {l set : Nat} {ring : List Int} (hset : ∀ b, b < s.bidders.length → set.testBit b = inRing ring (b : Int)) {b0 i0 : Nat} (hi0 : i0 < s.bids.length) (hb0 : isBid s l b0 i0) :
   othersTo s l set b0 (strongP s l set.testBit) s.bidders.length = othersL s i0 (biddingL s l ring) := by
 apply Int.le_antisymm
 · refine (fold_max _ _).2 ⟨?_, fun b hb hc => ?_⟩
   · exact (othersL_bound hv biddingL_lt).1
   · have hb : b < s.bidders.length := by simpa using hb
     by_cases hp : placeN s l b = 0
     · rw [place_zero hp]; exact (othersL_bound hv biddingL_lt).1
     · obtain ⟨i, hi, hib, hp1, hm1⟩ := place_pos hp
       rw [hm1]
       refine (Eg (c := fun i : Nat => (i : Int) ≠ (i0 : Int)) (f := fun i => (s.bid i).most)).2 i ?_ ?_
       · unfold biddingL
         rw [List.mem_filter]
         refine ⟨by simpa using hi, ?_⟩
         unfold biddingP
         rw [hib.2, hib.1]
         rcases hc.2 with h | h
         · rw [hset b hb] at h; simp [h]
         · rcases strong_top hv (l := l) (mem := set.testBit) (memI := inRing ring) hset with ⟨h1, -⟩ | ⟨b', i', h1, h2, h3, h4, h5, -⟩
           · omega
           · have : b' = b := by omega
             subst this
             have := isBid_uniq hv h2 hi h5 hib
             subst this
             simp [h4]
       · intro he
         have : i = i0 := by omega
         subst this
         exact hc.1 (hib.2.symm.trans hb0.2)
 · refine (fold_max (c := fun i : Nat => (i : Int) ≠ (i0 : Int)) (f := fun i => (s.bid i).most) _ _).2 ⟨?_, fun i hi hc => ?_⟩
   · exact (othersTo_bound hv).1
   · have hib := biddingL_lt i hi
     have hbp := (List.mem_filter.1 hi).2
     unfold biddingP at hbp
     simp only [Bool.and_eq_true, decide_eq_true_eq, Bool.or_eq_true] at hbp
     obtain ⟨b, hb, he, hbb⟩ := isBid_of hv hib hbp.1
     rw [← (bid_most hv hib hbb).2]
     refine (Eg (c := otherOk set b0 (strongP s l set.testBit)) (f := mostN s l)).2 b (by simpa using hb) ⟨fun h => hc ?_, ?_⟩
     · have : b = b0 := by omega
       subst this
       rw [isBid_uniq hv hib hi0 hbb hb0]
     · rcases hbp.2 with h | h
       · right
         rcases strong_top hv (l := l) (mem := set.testBit) (memI := inRing ring) hset with ⟨-, h1⟩ | ⟨b', i', h1, h2, h3, h4, h5, -⟩
         · omega
         · have : i' = i := by omega
           subst this
           rw [h3]
           have := h5.2.symm.trans hbb.2
           omega
       · left
         rw [he] at h
         rw [hset b hb]
         simpa using h
theorem sell_eq {s : Sale} (hv : ValidS s) {l set : Nat} {ring : List Int} (hset : ∀ b, b < s.bidders.length → set.testBit b = inRing ring (b : Int)) : sellP s set l = soldS s l ring := by
 unfold sellP soldS
 rcases strong_top hv (l := l) (mem := fun _ => true) (memI := fun _ => true) (fun _ _ => rfl) with ⟨h1, h2⟩ | ⟨b, i, h1, h2, h3, h4, h5, -⟩
 · rw [if_pos (.inl (by omega)), if_pos (.inl (by omega))]
 · rw [h3, h4]
   simp only [Int.toNat_natCast]
   rw [(bid_most hv h2 h5).2]
   by_cases hc : (s.bid i).most < (s.lot l).reserve
   · rw [if_pos (.inr hc), if_pos (.inr hc)]
   · rw [if_neg (by omega), if_neg (by omega), others_eq hv hset h2 h5, h5.2]
theorem sellL_eq {s : Sale} (hv : ValidS s) {set : Nat} {ring : List Int} (hset : ∀ b, b < s.bidders.length → set.testBit b = inRing ring (b : Int)) : sellL s set s.lots.length = allS s ring := by
 unfold sellL allS
 exact List.map_congr_left fun l _ => sell_eq hv hset
theorem sold_or {s : Sale} (hv : ValidS s) {l : Nat} (_hl : l < s.lots.length) (ring : List Int) :
   (soldS s l ring = ⟨-1, 0⟩ ∧ (topS s l (fun _ => true) < 0 ∨ (s.bid (topS s l fun _ => true).toNat).most < (s.lot l).reserve)) ∨
   ∃ i b : Nat, i < s.bids.length ∧ b < s.bidders.length ∧ topS s l (fun _ => true) = (i : Int) ∧ isBid s l b i ∧ (s.lot l).reserve ≤ (s.bid i).most ∧ soldS s l ring = ⟨b, climbS s (s.lot l).reserve (othersL s i (biddingL s l ring)) (s.bid i).most⟩ := by
 unfold soldS
 rcases Eq (s := s) (lot := l) (mem := fun _ => true) s.bids.length with ⟨h1, -⟩ | ⟨i, h1, h2, -, h4, -⟩
 · rw [show topS s l (fun _ => true) = -1 from h1]
   exact .inl ⟨by simp, .inl (by omega)⟩
 · rw [show topS s l (fun _ => true) = (i : Int) from h4]
   simp only [Int.toNat_natCast]
   by_cases hc : (s.bid i).most < (s.lot l).reserve
   · rw [if_pos (.inr hc)]; exact .inl ⟨rfl, .inr hc⟩
   · obtain ⟨b, hb, he, hib⟩ := isBid_of hv h1 h2
     rw [if_neg (by omega), he]
     exact .inr ⟨i, b, h1, hb, rfl, hib, by omega, rfl⟩
theorem sold_bound {s : Sale} (hv : ValidS s) {l : Nat} (hl : l < s.lots.length) (ring : List Int) : -1 ≤ (soldS s l ring).bidder ∧ (soldS s l ring).bidder < s.bidders.length ∧ 0 ≤ (soldS s l ring).price ∧ (soldS s l ring).price ≤ 100000 := by
 have hr := hv.lo l hl
 rcases sold_or hv hl ring with ⟨h, -⟩ | ⟨i, b, h1, h2, h3, h4, h5, h⟩
 · rw [h]; simp; omega
 · rw [h]
   have h6 := hv.bd i h1
   have := climb_le hv (o := othersL s i (biddingL s l ring)) (show 0 ≤ (s.lot l).reserve by omega) h5
   have := climb_ge hv (o := othersL s i (biddingL s l ring)) (m := (s.bid i).most) (show 0 ≤ (s.lot l).reserve by omega)
   simp only
   omega
/-- Nobody gives nothing. -/
theorem sold_nobody {s : Sale} (hv : ValidS s) {l : Nat} (hl : l < s.lots.length) (ring : List Int) : (soldS s l ring).bidder = -1 ↔ soldS s l ring = ⟨-1, 0⟩ := by
 rcases sold_or hv hl ring with ⟨h, -⟩ | ⟨i, b, h1, h2, h3, h4, h5, h⟩
 · rw [h]; exact ⟨fun _ => rfl, fun _ => rfl⟩
 · rw [h]
   constructor
   · intro he; simp only at he; omega
   · intro he; rw [he]
end Go.Proofs.Ytaikojfonleccaa
namespace Go.Proofs.Ytaikojfonleccaa
open Go
theorem top_uniq {s : Sale} {lot : Int} {mem : Int → Bool} {i : Nat} (hi : i < s.bids.length) (h1 : (s.bid i).lot = lot) (h2 : mem (s.bid i).bidder = true)
   (h3 : ∀ j, j < s.bids.length → (s.bid j).lot = lot → mem (s.bid j).bidder = true → (s.bid j).most < (s.bid i).most ∨ (s.bid j).most = (s.bid i).most ∧ i ≤ j) : topS s lot mem = (i : Int) := by
 rcases Eq (s := s) (lot := lot) (mem := mem) s.bids.length with ⟨-, g⟩ | ⟨k, g1, g2, g3, g4, g5⟩
 · exact (g i hi h1 h2).elim
 · have r1 := g5 i hi h1 h2
   have r2 := h3 k g1 g2 g3
   have : k = i := by omega
   subst this; exact g4
theorem top_lt {s : Sale} {lot : Int} {mem : Int → Bool} {i : Nat} (h : topS s lot mem = (i : Int)) : i < s.bids.length ∧ (s.bid i).lot = lot ∧ mem (s.bid i).bidder = true ∧ ∀ j, j < s.bids.length → (s.bid j).lot = lot → mem (s.bid j).bidder = true → (s.bid j).most < (s.bid i).most ∨ (s.bid j).most = (s.bid i).most ∧ i ≤ j := by
 rcases Eq (s := s) (lot := lot) (mem := mem) s.bids.length with ⟨g, -⟩ | ⟨k, g1, g2, g3, g4, g5⟩
 · unfold topS at h; omega
 · have : k = i := by unfold topS at h; omega
   subst this; exact ⟨g1, g2, g3, g5⟩
theorem bidding_more {s : Sale} {l : Int} {r r' : List Int} (hsub : ∀ b, inRing r b = true → inRing r' b = true) : ∀ i ∈ biddingL s l r', i ∈ biddingL s l r := fun i hi => by
 have hlt := biddingL_lt i hi
 have hp := (List.mem_filter.1 hi).2
 unfold biddingP at hp
 simp only [Bool.and_eq_true, decide_eq_true_eq, Bool.or_eq_true] at hp
 unfold biddingL
 rw [List.mem_filter]
 refine ⟨by simpa using hlt, ?_⟩
 unfold biddingP
 simp only [Bool.and_eq_true, decide_eq_true_eq, Bool.or_eq_true]
 refine ⟨hp.1, ?_⟩
 by_cases hb : inRing r (s.bid i).bidder = true
 · left
   have hb' := hsub _ hb
   rcases hp.2 with h | h
   · obtain ⟨-, -, -, h5⟩ := top_lt h.symm
     exact (top_uniq hlt hp.1 hb fun j hj hl hm => h5 j hj hl (hsub _ hm)).symm
   · rw [hb'] at h; cases h
 · right; simpa using hb
theorem others_more {s : Sale} (hv : ValidS s) {l : Int} {one : Int} {r r' : List Int} (hsub : ∀ b, inRing r b = true → inRing r' b = true) : othersL s one (biddingL s l r') ≤ othersL s one (biddingL s l r) := by
 refine (fold_max (c := fun i : Nat => (i : Int) ≠ one) (f := fun i => (s.bid i).most) _ _).2 ⟨(othersL_bound hv biddingL_lt).1, fun i hi hc => ?_⟩
 exact (Eg (c := fun i : Nat => (i : Int) ≠ one) (f := fun i => (s.bid i).most)).2 i (bidding_more hsub i hi) hc
theorem sold_more {s : Sale} (hv : ValidS s) {l : Nat} (hl : l < s.lots.length) {r r' : List Int} (hsub : ∀ b, inRing r b = true → inRing r' b = true) : (soldS s l r').bidder = (soldS s l r).bidder ∧ (soldS s l r').price ≤ (soldS s l r).price := by
 have hr := hv.lo l hl
 rcases sold_or hv hl r with ⟨h, h0⟩ | ⟨i, b, h1, h2, h3, h4, h5, h⟩
 · rw [h, show soldS s l r' = ⟨-1, 0⟩ from if_pos h0]; exact ⟨rfl, Int.le_refl _⟩
 · rcases sold_or hv hl r' with ⟨h', h0'⟩ | ⟨i', b', h1', h2', h3', h4', h5', h'⟩
   · rw [h3] at h0'; simp only [Int.toNat_natCast] at h0'; omega
   · have : i' = i := by omega
     subst this
     have : b' = b := by have := h4.2; have := h4'.2; omega
     subst this
     rw [h, h']
     refine ⟨rfl, ?_⟩
     have ho := others_more hv (l := l) (one := (i' : Int)) hsub
     refine climb_le_climb hv (by omega) fun q q1 q2 q3 => ⟨by omega, q3⟩
theorem inRing_nil {b : Int} : inRing [] b = true → False := by simp [inRing]
def partP (p m : Int) : Int := (p * m + 500) / 1000
theorem partP_bound {p m : Int} (h0 : 0 ≤ p) (hm0 : 0 ≤ m) (hm : m ≤ 500) : 0 ≤ partP p m ∧ partP p m ≤ p := by
 unfold partP
 have h1 : 0 ≤ p * m := Int.mul_nonneg h0 hm0
 have h2 : p * m ≤ p * 500 := Int.mul_le_mul_of_nonneg_left hm h0
 omega
def backB (rs : List Back) (i : Nat) : Bool := rs.any fun y => decide (y.lot = (i : Int))
def liveB (s : Sale) (ring : List Int) (rs : List Back) (i : Nat) : Bool := decide ((soldS s i ring).bidder ≠ -1) && !(backB rs i)
def payTo (s : Sale) (ring : List Int) (rs : List Back) (b : Nat) : Nat → Int
 | 0 => 0
 | k + 1 => if liveB s ring rs k = true ∧ (soldS s k ring).bidder = (b : Int) then payTo s ring rs b k + ((soldS s k ring).price + partP (soldS s k ring).price s.premium) else payTo s ring rs b k
def getTo (s : Sale) (ring : List Int) (rs : List Back) (c : Nat) : Nat → Int
 | 0 => 0
 | k + 1 => if liveB s ring rs k = true ∧ (s.lot k).seller = (c : Int) then getTo s ring rs c k + ((soldS s k ring).price - partP (soldS s k ring).price s.fee) else getTo s ring rs c k
def houseTo (s : Sale) (ring : List Int) (rs : List Back) : Nat → Int
 | 0 => 0
 | k + 1 => if liveB s ring rs k = true then houseTo s ring rs k + (partP (soldS s k ring).price s.premium + partP (soldS s k ring).price s.fee) else houseTo s ring rs k
theorem part_facts {s : Sale} (hv : ValidS s) (ring : List Int) {k : Nat} (hk : k < s.lots.length) : 0 ≤ (soldS s k ring).price ∧ (soldS s k ring).price ≤ 100000 ∧ 0 ≤ partP (soldS s k ring).price s.premium ∧ partP (soldS s k ring).price s.premium ≤ (soldS s k ring).price ∧ 0 ≤ partP (soldS s k ring).price s.fee ∧ partP (soldS s k ring).price s.fee ≤ (soldS s k ring).price := by
 have h := sold_bound hv hk ring
 have h1 := partP_bound h.2.2.1 hv.pre.1 hv.pre.2
 have h2 := partP_bound h.2.2.1 hv.fee.1 hv.fee.2
 omega
theorem acc_bound {s : Sale} (hv : ValidS s) {ring : List Int} {rs : List Back} {b : Nat} : ∀ k, k ≤ s.lots.length → 0 ≤ payTo s ring rs b k ∧ payTo s ring rs b k ≤ 200000 * k ∧ 0 ≤ getTo s ring rs b k ∧ getTo s ring rs b k ≤ 100000 * k ∧ 0 ≤ houseTo s ring rs k ∧ houseTo s ring rs k ≤ 200000 * k
 | 0, _ => by simp [payTo, getTo, houseTo]
 | k + 1, hk => by
   have ih := acc_bound hv (ring := ring) (rs := rs) (b := b) k (by omega)
   have hf := part_facts hv ring (k := k) (by omega)
   unfold payTo getTo houseTo
   refine ⟨?_, ?_, ?_, ?_, ?_, ?_⟩ <;> split <;> omega
def ivals (f : Nat → Int) (n : Nat) : List Value := (List.range n).map fun b => .int .i64 (f b)
theorem ivals_length {f : Nat → Int} {n : Nat} : (ivals f n).length = n := by simp [ivals]
theorem ivals_get {f : Nat → Int} {n b : Nat} (h : b < n) : (ivals f n)[b]? = some (.int .i64 (f b)) := by simp [ivals, h]
theorem ivals_set {f g : Nat → Int} {n b : Nat} {z : Int} (h1 : g b = z) (h2 : ∀ c, c ≠ b → g c = f c) : (ivals f n).set b (.int .i64 z) = ivals g n := by
 unfold ivals
 apply List.ext_getElem
 · simp
 · intro i h3 h4
   rw [List.getElem_set]
   simp only [List.getElem_map, List.getElem_range]
   by_cases hi : b = i
   · subst hi; rw [if_pos rfl, h1]
   · rw [if_neg hi, h2 _ (Ne.symm hi)]
theorem Ef {n : Nat} {f : Nat → Int} (h : ∀ b, f b = 0) : List.replicate n (.int .i64 0) = ivals f n := by
 unfold ivals
 apply List.ext_getElem
 · simp
 · intro i h1 h2; simp [h]
theorem ivals_ints {F : Heap} {b T n : Nat} {f : Nat → Int} (h : F b = some (bx T (ivals f n))) (hn : n < 281474976710656) : Ints F (.slice (some ⟨b, 0, none⟩) n n) ((List.range n).map f) :=
 Sl.box h (by simp) (Nat.le_refl _) hn fun i hi j u hu => by
   match j, hu with
   | 0, hu =>
     have hi' : i < n := by simpa using hi
     rw [show i * 1 + 0 = i by omega, ivals_get hi']
     simpa [intE] using hu
   | j + 1, hu => simp [intE] at hu
theorem pay_set {s : Sale} {ring : List Int} {rs : List Back} {k b n : Nat} (hl : liveB s ring rs k = true) (hb : (soldS s k ring).bidder = (b : Int)) :
   (ivals (fun b => payTo s ring rs b k) n).set b (.int .i64 (payTo s ring rs b k + ((soldS s k ring).price + partP (soldS s k ring).price s.premium))) = ivals (fun b => payTo s ring rs b (k + 1)) n :=
 ivals_set (by show payTo s ring rs b (k + 1) = _; rw [payTo, if_pos ⟨hl, hb⟩]) fun c hc => by show payTo s ring rs c (k + 1) = _; rw [payTo, if_neg]; rintro ⟨-, h⟩; exact hc (by omega)
theorem get_set {s : Sale} {ring : List Int} {rs : List Back} {k b n : Nat} (hl : liveB s ring rs k = true) (hb : (s.lot k).seller = (b : Int)) :
   (ivals (fun b => getTo s ring rs b k) n).set b (.int .i64 (getTo s ring rs b k + ((soldS s k ring).price - partP (soldS s k ring).price s.fee))) = ivals (fun b => getTo s ring rs b (k + 1)) n :=
 ivals_set (by show getTo s ring rs b (k + 1) = _; rw [getTo, if_pos ⟨hl, hb⟩]) fun c hc => by show getTo s ring rs c (k + 1) = _; rw [getTo, if_neg]; rintro ⟨-, h⟩; exact hc (by omega)
theorem house_live {s : Sale} {ring : List Int} {rs : List Back} {k : Nat} (hl : liveB s ring rs k = true) : houseTo s ring rs (k + 1) = houseTo s ring rs k + (partP (soldS s k ring).price s.premium + partP (soldS s k ring).price s.fee) := by rw [houseTo, if_pos hl]
theorem acc_dead {s : Sale} {ring : List Int} {rs : List Back} {k : Nat} (hl : liveB s ring rs k = false) : (∀ n, ivals (fun b => payTo s ring rs b (k + 1)) n = ivals (fun b => payTo s ring rs b k) n) ∧ (∀ n, ivals (fun b => getTo s ring rs b (k + 1)) n = ivals (fun b => getTo s ring rs b k) n) ∧ houseTo s ring rs (k + 1) = houseTo s ring rs k := by
 refine ⟨fun n => ?_, fun n => ?_, ?_⟩
 · congr 1; funext b; rw [payTo, if_neg (by rw [hl]; simp)]
 · congr 1; funext b; rw [getTo, if_neg (by rw [hl]; simp)]
 · rw [houseTo, if_neg (by rw [hl]; simp)]
def retErrAt (s : Sale) (ring : List Int) (rs : List Back) (i : Nat) : Int := match rs[i]? with
 | none => 0
 | some x => if inB 0 (s.lots.length - 1) x.lot = false then 4 else if (rs.take i).any (fun y => decide (y.lot = x.lot)) = true then 5 else if inB 0 s.days x.day = false then 7
   else if (s.lot x.lot.toNat).defect = false ∨ (soldS s x.lot.toNat ring).bidder = -1 then 9 else 0
theorem Ez {s : Sale} {ring : List Int} {rs : List Back} {k : Nat} (h : k < rs.length) : retErrAt s ring rs k = if inB 0 (s.lots.length - 1) rs[k].lot = false then 4 else if (rs.take k).any (fun y => decide (y.lot = rs[k].lot)) = true then 5 else if inB 0 s.days rs[k].day = false then 7
   else if (s.lot rs[k].lot.toNat).defect = false ∨ (soldS s rs[k].lot.toNat ring).bidder = -1 then 9 else 0 := by unfold retErrAt; rw [List.getElem?_eq_getElem h]
def retErr (s : Sale) (ring : List Int) (rs : List Back) : Int := match firstBad rs.length (retErrAt s ring rs) with
 | none => 0
 | some i => retErrAt s ring rs i
theorem retErr_bad {s : Sale} {ring : List Int} {rs : List Back} {k : Nat} {e : Int} (hk : k < rs.length) (hb : ∀ j, j < k → retErrAt s ring rs j = 0) (he : retErrAt s ring rs k = e) (hne : e ≠ 0) : retErr s ring rs = e := by
 unfold retErr; rw [firstBad_some hk (by rw [he]; exact hne) hb]; exact he
theorem retErr_ok {s : Sale} {ring : List Int} {rs : List Back} (hb : ∀ j, j < rs.length → retErrAt s ring rs j = 0) : retErr s ring rs = 0 := by
 unfold retErr; rw [firstBad_none hb]
abbrev Acc := List Int × List Int × Int × Int
def accE (s : Sale) (ring : List Int) (rs : List Back) : Acc :=
 if enterErr s ring ≠ 0 then ([], [], 0, enterErr s ring) else if retErr s ring rs ≠ 0 then ([], [], 0, retErr s ring rs)
 else ((List.range s.bidders.length).map (fun b => payTo s ring rs b s.lots.length), (List.range s.sellers.length).map (fun c => getTo s ring rs c s.lots.length), houseTo s ring rs s.lots.length, 0)
theorem accE_bad {s : Sale} {ring : List Int} {rs : List Back} (h : enterErr s ring ≠ 0) : accE s ring rs = ([], [], 0, enterErr s ring) := if_pos h
theorem accE_ret {s : Sale} {ring : List Int} {rs : List Back} {e : Int} (h : enterErr s ring = 0) (he : retErr s ring rs = e) (hne : e ≠ 0) : accE s ring rs = ([], [], 0, e) := by subst he; unfold accE; rw [if_neg (fun k => k h), if_pos hne]
theorem accE_ok {s : Sale} {ring : List Int} {rs : List Back} (h : enterErr s ring = 0) (he : retErr s ring rs = 0) : accE s ring rs = ((List.range s.bidders.length).map (fun b => payTo s ring rs b s.lots.length), (List.range s.sellers.length).map (fun c => getTo s ring rs c s.lots.length), houseTo s ring rs s.lots.length, 0) := by
 unfold accE; rw [if_neg (fun k => k h), if_neg (fun k => k he)]
def AccR (F : Heap) (u : Value) (p : Acc) : Prop := ∃ v w, u = .tuple #[v, w, .int .i64 p.2.2.1, .int .i64 p.2.2.2] ∧ Ints F v p.1 ∧ Ints F w p.2.1
theorem AccR.mono {F F' : Heap} {u : Value} {p : Acc} (h : AccR F u p) (hF : F.le F') : AccR F' u p := by obtain ⟨v, w, h1, h2, h3⟩ := h; exact ⟨v, w, h1, h2.mono hF, h3.mono hF⟩
theorem D3 {s : Sale} {ring : List Int} : (allS s ring).length = s.lots.length := by simp [allS]
theorem En {s : Sale} {ring : List Int} {k : Nat} (h : k < (allS s ring).length) : (allS s ring)[k] = soldS s k ring := by simp [allS]
theorem backB_succ {rs : List Back} {k t : Nat} (hk : k < rs.length) : backB (rs.take (k + 1)) t = (backB (rs.take k) t || decide (rs[k].lot = (t : Int))) := by
 unfold backB; rw [List.take_succ_eq_append_getElem hk, List.any_append]; simp
theorem mask_back {rs : List Back} {k l mask : Nat} (hk : k < rs.length) (hl : rs[k].lot = (l : Int)) (h : ∀ t : Nat, mask.testBit t = backB (rs.take k) t) : ∀ t : Nat, (mask ||| 2 ^ l).testBit t = backB (rs.take (k + 1)) t := fun t => by
 rw [Nat.testBit_or, Nat.testBit_two_pow, h, backB_succ hk, hl]
 congr 1
 rw [Bool.eq_iff_iff]; simp; omega
def savedTo (s : Sale) (ring : List Int) : Nat → Int
 | 0 => 0
 | k + 1 => if (soldS s k ring).bidder ≠ -1 ∧ inRing ring (soldS s k ring).bidder = true then savedTo s ring k + ((soldS s k []).price - (soldS s k ring).price) else savedTo s ring k
def savedS (s : Sale) (ring : List Int) : Int := savedTo s ring s.lots.length
theorem saved_bound {s : Sale} (hv : ValidS s) {ring : List Int} : ∀ k, k ≤ s.lots.length → 0 ≤ savedTo s ring k ∧ savedTo s ring k ≤ 100000 * k
 | 0, _ => by simp [savedTo]
 | k + 1, hk => by
   have ih := saved_bound hv (ring := ring) k (by omega)
   have h1 := (sold_more hv (l := k) (by omega) (r := []) (r' := ring) fun b hb => (inRing_nil hb).elim).2
   have h2 := sold_bound hv (l := k) (by omega) ring
   have h3 := sold_bound hv (l := k) (by omega) []
   unfold savedTo
   split <;> omega
def shareN (saved n : Int) (i : Nat) : Int := saved / n + if (i : Int) < saved % n then 1 else 0
def shareTo (saved : Int) (n k : Nat) : List Int := (List.range k).map (shareN saved n)
theorem shareTo_succ {saved : Int} {n k : Nat} : shareTo saved n (k + 1) = shareTo saved n k ++ [shareN saved n k] := by unfold shareTo; rw [List.range_succ, List.map_append]; rfl
theorem shareTo_length {saved : Int} {n k : Nat} : (shareTo saved n k).length = k := by simp [shareTo]
def shareE (s : Sale) (ring : List Int) : List Int × Int := if enterErr s ring ≠ 0 then ([], enterErr s ring) else (shareTo (savedS s ring) ring.length ring.length, 0)
theorem shareE_bad {s : Sale} {ring : List Int} {e : Int} (h : enterErr s ring = e) (he : e ≠ 0) : shareE s ring = ([], e) := by subst h; exact if_pos he
theorem shareE_ok {s : Sale} {ring : List Int} (h : enterErr s ring = 0) : shareE s ring = (shareTo (savedS s ring) ring.length ring.length, 0) := if_neg (fun k => k h)
def IntsR (F : Heap) (u : Value) (p : List Int × Int) : Prop := ∃ v, u = .tuple #[v, .int .i64 p.2] ∧ Ints F v p.1
theorem IntsR.mono {F F' : Heap} {u : Value} {p : List Int × Int} (h : IntsR F u p) (hF : F.le F') : IntsR F' u p := by obtain ⟨v, h1, h2⟩ := h; exact ⟨v, h1, h2.mono hF⟩
end Go.Proofs.Ytaikojfonleccaa
namespace Go.Proofs.Ytaikojfonleccaa
open Go.RowKit
theorem in_of_any {xs : List Int} {lo hi : Int} (h : (xs.any fun z => !(inB lo hi z)) = false) {k : Nat} (hk : k < xs.length) : inB lo hi xs[k] = true := by
 rw [List.any_eq_false] at h
 simpa using h _ (List.getElem_mem hk)
end Go.Proofs.Ytaikojfonleccaa
namespace Go.Proofs.Ytaikojfonleccaa
open Go.RowKit
def cmpZ (a b : Int) : Int := if a < b then -1 else if b < a then 1 else 0
/-- Lists in their order: as words in a dictionary. -/
def cmpL : List Nat → List Nat → Int
 | [], [] => 0
 | [], _ :: _ => -1
 | _ :: _, [] => 1
 | a :: as1, b :: bs => if a < b then -1 else if b < a then 1 else cmpL as1 bs
theorem cmpL_same {a : Nat} {as1 bs : List Nat} : cmpL (a :: as1) (a :: bs) = cmpL as1 bs := by
 simp [cmpL]
theorem cmpL_drop : ∀ (k : Nat) {xs ys : List Nat}, k ≤ xs.length → k ≤ ys.length → xs.take k = ys.take k → cmpL xs ys = cmpL (xs.drop k) (ys.drop k)
 | 0, _, _, _, _, _ => rfl
 | k + 1, [], _, h, _, _ => by simp at h
 | k + 1, _ :: _, [], _, h, _ => by simp at h
 | k + 1, x :: xs, y :: ys, h1, h2, h => by
   simp only [List.take_succ_cons, List.cons.injEq] at h
   obtain ⟨rfl, h⟩ := h
   rw [cmpL_same, cmpL_drop k (by simpa using h1) (by simpa using h2) h]
   rfl
theorem cmpL_end1 {k : Nat} {xs ys : List Nat} (h1 : k < xs.length) (h2 : ys.length = k) (h : xs.take k = ys.take k) : cmpL xs ys = 1 := by
 rw [cmpL_drop k (by omega) (by omega) h, List.drop_eq_getElem_cons h1, show ys.drop k = [] from List.drop_of_length_le (by omega)]
 rfl
theorem cmpL_end0 {xs ys : List Nat} (h1 : xs.length ≤ ys.length) (h : xs.take xs.length = ys.take xs.length) : cmpL xs ys = if xs.length < ys.length then -1 else 0 := by
 rw [cmpL_drop xs.length (by omega) h1 h, List.drop_of_length_le (Nat.le_refl _)]
 by_cases h2 : xs.length < ys.length
 · rw [if_pos h2, List.drop_eq_getElem_cons h2]; rfl
 · rw [if_neg h2, List.drop_of_length_le (by omega)]; rfl
theorem cmpL_at {k : Nat} {xs ys : List Nat} (h1 : k < xs.length) (h2 : k < ys.length) (h : xs.take k = ys.take k) (hne : cmpZ xs[k] ys[k] ≠ 0) : cmpL xs ys = cmpZ xs[k] ys[k] := by
 rw [cmpL_drop k (by omega) (by omega) h, List.drop_eq_getElem_cons h1, List.drop_eq_getElem_cons h2]
 show (if xs[k] < ys[k] then (-1 : Int) else if ys[k] < xs[k] then 1 else _) = _
 unfold cmpZ at hne ⊢
 by_cases ha : xs[k] < ys[k]
 · rw [if_pos ha, if_pos (by omega)]
 · rw [if_neg ha]
   rw [if_neg (show ¬ (xs[k] : Int) < ys[k] by omega)] at hne ⊢
   by_cases hb : ys[k] < xs[k]
   · rw [if_pos hb, if_pos (by omega)]
   · rw [if_neg (show ¬ (ys[k] : Int) < xs[k] by omega)] at hne; exact absurd rfl hne
theorem cmpZ_zero {a b : Int} (h : cmpZ a b = 0) : a = b := by
 unfold cmpZ at h
 split at h
 · cases h
 · split at h
   · cases h
   · omega
theorem take_succ_eq {α : Type} {k : Nat} {xs ys : List α} (h1 : k < xs.length) (h2 : k < ys.length) (h : xs.take k = ys.take k) (he : xs[k] = ys[k]) : xs.take (k + 1) = ys.take (k + 1) := by
 rw [List.take_succ_eq_append_getElem h1, List.take_succ_eq_append_getElem h2, h, he]
theorem eq_of_take {α : Type} {xs ys : List α} (hl : xs.length = ys.length) (h : xs.take xs.length = ys.take xs.length) : xs = ys := by
 rw [List.take_length] at h
 rw [h, hl, List.take_length]
theorem ne_at {α : Type} {k : Nat} {xs ys : List α} (h1 : k < xs.length) (h2 : k < ys.length) (he : xs[k] ≠ ys[k]) : xs ≠ ys := by
 rintro rfl; exact he rfl
/-- The numbers of a set that is told by bits. -/
def bitsL (set : Nat) : List Nat := (List.range 8).filter fun i => set.testBit i
def bitsTo (set k : Nat) : List Nat := (List.range k).filter fun i => set.testBit i
theorem bitsTo_succ {set k : Nat} : bitsTo set (k + 1) = if set.testBit k = true then bitsTo set k ++ [k] else bitsTo set k := by
 unfold bitsTo
 rw [List.range_succ, List.filter_append]
 by_cases h : set.testBit k = true
 · rw [if_pos h]; simp [h]
 · rw [if_neg h]; simp [h]
theorem bitsTo_length {set k : Nat} : (bitsTo set k).length ≤ k := by
 unfold bitsTo
 have := List.length_filter_le (fun i => set.testBit i) (List.range k)
 simpa using this
theorem bitsTo_all {set k : Nat} (hk : k ≤ 8) (h : set < 2 ^ k) : bitsTo set k = bitsL set := by
 have key : ∀ j, k ≤ j → bitsTo set j = bitsTo set k := by
   intro j hj
   induction j with
   | zero => have : k = 0 := by omega
             rw [this]
   | succ j ih =>
     by_cases hjk : k = j + 1
     · rw [hjk]
     · rw [bitsTo_succ, if_neg, ih (by omega)]
       have : set < 2 ^ j := Nat.lt_of_lt_of_le h (Nat.pow_le_pow_right (by omega) (by omega))
       simp [Nat.testBit_lt_two_pow this]
 exact (key 8 hk).symm
end Go.Proofs.Ytaikojfonleccaa
namespace Go.Proofs.Ytaikojfonleccaa
open Go.RowKit
theorem bitsL_len {set : Nat} : (bitsL set).length ≤ 8 := by
 unfold bitsL
 have := List.length_filter_le (fun i => set.testBit i) (List.range 8)
 simpa using this
end Go.Proofs.Ytaikojfonleccaa
namespace Go.Proofs.Ytaikojfonleccaa
open Go.RowKit
theorem range'_snoc {k j : Nat} : List.range' k (j + 1) = List.range' k j ++ [k + j] := by
 rw [List.range'_concat]; simp
end Go.Proofs.Ytaikojfonleccaa
namespace Go.Proofs.Ytaikojfonleccaa
open Go.RowKit
theorem mask_orI {mask s : Nat} {xs : List Int} (h : ∀ t : Nat, mask.testBit t = decide ((t : Int) ∈ xs)) : ∀ t : Nat, (mask ||| 2 ^ s).testBit t = decide ((t : Int) ∈ xs ++ [(s : Int)]) := fun t => by
 rw [Nat.testBit_or, Nat.testBit_two_pow, h]
 by_cases hk : s = t
 · subst hk; simp
 · have : ¬ (t : Int) = (s : Int) := fun e => hk (by omega)
   simp [hk, this]
end Go.Proofs.Ytaikojfonleccaa
namespace Go.Proofs.Ytaikojfonleccaa
open Go.RowKit
def canB (r : Room) (l : List Nat) : Bool := (allR r l).isSome
variable {r : Room} {l : List Nat} {x : Int} {q : Nat}
end Go.Proofs.Ytaikojfonleccaa
namespace Go.Proofs.Ytaikojfonleccaa
open Go.RowKit
theorem RoomR.ones {F : Heap} {vb vr vs vq : Value} {r : Room} (h : RoomR F vb vr vs vq r) : ∀ u ∈ [vb, vr, vs, vq], u.oneCell' = true := by
 intro u hu
 simp only [List.mem_cons, List.not_mem_nil, or_false] at hu
 rcases hu with rfl | rfl | rfl | rfl
 · exact h.books.plain.one
 · exact h.readers.plain.one
 · exact h.seats.plain.one
 · exact h.reqs.plain.one
section
variable {P : Program} {n : Nat} {B : Base} {e : Env} {σ : St}
end
end Go.Proofs.Ytaikojfonleccaa
namespace Go.Proofs.Ytaikojfonleccaa
open Go.RowKit
def slE (p : Value × List Nat) : List Value := [p.1]
def Lsts (F : Heap) (v : Value) (ls : List (List Nat)) : Prop := ∃ ps : List (Value × List Nat), Sl F v 1 slE ps ∧ (∀ p ∈ ps, Nats F p.1 p.2) ∧ ps.map (·.2) = ls
theorem Lsts.mono {F F' : Heap} {v : Value} {ls : List (List Nat)} (h : Lsts F v ls) (hF : F.le F') : Lsts F' v ls := by
 obtain ⟨ps, h1, h2, h3⟩ := h
 exact ⟨ps, h1.mono hF, fun p hp => (h2 p hp).mono hF, h3⟩
def AllN (F : Heap) (ps : List (Value × List Nat)) : Prop := ∀ p ∈ ps, Nats F p.1 p.2
theorem AllN.mono {F F' : Heap} {ps : List (Value × List Nat)} (h : AllN F ps) (hF : F.le F') : AllN F' ps := fun p hp => (h p hp).mono hF
def listsR : Nat → Nat → Nat → List (List Nat)
 | 0, _, _ => [[]]
 | m + 1, lo, hi => (List.range' lo (hi - m - lo)).flatMap fun i => (listsR m (i + 1) hi).map (i :: ·)
def listsTo (m lo hi j : Nat) : List (List Nat) := (List.range' lo j).flatMap fun i => (listsR m (i + 1) hi).map (i :: ·)
theorem listsTo_succ {m lo hi j : Nat} : listsTo m lo hi (j + 1) = listsTo m lo hi j ++ (listsR m (lo + j + 1) hi).map ((lo + j) :: ·) := by
 unfold listsTo; rw [range'_snoc, List.flatMap_append]; simp
theorem lists_mem : ∀ {m lo hi : Nat} {p : List Nat}, p ∈ listsR m lo hi → p.length = m ∧ ∀ i ∈ p, lo ≤ i ∧ i < hi
 | 0, lo, hi, p, h => by
   simp [listsR] at h; subst h; simp
 | m + 1, lo, hi, p, h => by
   unfold listsR at h
   obtain ⟨i, hi1, h⟩ := List.mem_flatMap.1 h
   obtain ⟨s, hs, rfl⟩ := List.mem_map.1 h
   have ih := lists_mem hs
   rw [List.mem_range'_1] at hi1
   refine ⟨by simp [ih.1], fun x hx => ?_⟩
   rcases List.mem_cons.1 hx with rfl | hx
   · omega
   · have := ih.2 x hx; omega
theorem lists_bound {hi : Nat} (hh : hi ≤ 8) : ∀ (m lo : Nat), (listsR m lo hi).length ≤ 8 ^ m
 | 0, lo => by simp [listsR]
 | m + 1, lo => by
   have ih := lists_bound hh m
   have key : ∀ j, (listsTo m lo hi j).length ≤ j * 8 ^ m := by
     intro j
     induction j with
     | zero => simp [listsTo]
     | succ j hj =>
       rw [listsTo_succ, List.length_append, List.length_map, Nat.add_mul]
       have := ih (lo + j + 1)
       omega
   have h1 := key (hi - m - lo)
   have h2 : (hi - m - lo) * 8 ^ m ≤ 8 * 8 ^ m := Nat.mul_le_mul_right _ (by omega)
   have h3 : 8 ^ (m + 1) = 8 * 8 ^ m := by rw [Nat.pow_succ, Nat.mul_comm]
   show (listsTo m lo hi (hi - m - lo)).length ≤ _
   omega
theorem lists_bound8 {hi m lo : Nat} (hh : hi ≤ 8) (hm : m ≤ 8) : (listsR m lo hi).length ≤ 16777216 :=
 Nat.le_trans (lists_bound hh m lo) (Nat.pow_le_pow_right (n := 8) (by omega) hm)
def picked (l p : List Nat) : List Nat := p.map fun i => l[i]?.getD 0
variable {r : Room} {l : List Nat} {x : Int} {q : Nat}
end Go.Proofs.Ytaikojfonleccaa
namespace Go.Proofs.Ytaikojfonleccaa
open Go
def castL (l : List Nat) : List Int := l.map fun (n : Nat) => (n : Int)
theorem flatMap_same {α β : Type} {f g : α → List β} : ∀ (l : List α), (∀ x ∈ l, f x = g x) → l.flatMap f = l.flatMap g
 | [], _ => rfl
 | x :: l, h => by rw [List.flatMap_cons, List.flatMap_cons, h x (by simp), flatMap_same l fun y hy => h y (List.mem_cons_of_mem _ hy)]
def everyR (n : Nat) : List (List Nat) := [] :: (List.range' 2 (n - 1)).flatMap fun m => listsR m 0 n
/-- By how many there are, from none on, without just one. -/
def everyTo (n k : Nat) : List (List Nat) := (List.range k).flatMap fun m => if m = 1 then [] else listsR m 0 n
theorem everyTo_succ {n k : Nat} : everyTo n (k + 1) = everyTo n k ++ if k = 1 then [] else listsR k 0 n := by unfold everyTo; rw [List.range_succ, List.flatMap_append]; simp
theorem everyTo_all {n : Nat} (hn : 1 ≤ n) : everyTo n (n + 1) = everyR n := by
 obtain ⟨k, rfl⟩ : ∃ k, n = k + 1 := ⟨n - 1, by omega⟩
 unfold everyTo everyR
 rw [List.range_eq_range', show k + 1 + 1 = 2 + k by omega, ← List.range'_append_1]
 rw [List.flatMap_append]
 simp only [show List.range' 0 2 = [0, 1] from rfl, List.flatMap_cons, List.flatMap_nil, Nat.zero_add]
 simp only [listsR, if_true, List.append_nil]
 rw [if_neg (by omega)]
 show [[]] ++ _ = _
 rw [show k + 1 - 1 = k by omega]
 rw [List.cons_append, List.nil_append]
 congr 1
 refine flatMap_same _ fun m hm => ?_
 have := (List.mem_range'_1.1 hm).1
 rw [if_neg (by omega)]
theorem everyTo_zero : everyTo 0 1 = everyR 0 := by simp [everyTo, everyR, listsR]
theorem everyTo_end {n : Nat} : everyTo n (n + 1) = everyR n := by
 cases n with
 | zero => exact everyTo_zero
 | succ n => exact everyTo_all (by omega)
theorem lists_none : ∀ {m lo hi : Nat}, 0 < m → hi < lo + m → listsR m lo hi = []
 | 0, _, _, h, _ => absurd h (by omega)
 | m + 1, lo, hi, _, h => by
   unfold listsR
   rw [show hi - m - lo = 0 by omega]; rfl
theorem listsTo_all {m lo hi : Nat} : listsTo m lo hi (hi - lo) = listsR (m + 1) lo hi := by
 unfold listsTo
 show _ = (List.range' lo (hi - m - lo)).flatMap _
 by_cases h : hi - m - lo = hi - lo
 · rw [h]
 · have h1 : hi - lo = (hi - m - lo) + (hi - lo - (hi - m - lo)) := by omega
   rw [h1, ← List.range'_append_1, List.flatMap_append]
   have h2 : (List.range' (lo + (hi - m - lo)) (hi - lo - (hi - m - lo))).flatMap (fun i => (listsR m (i + 1) hi).map (i :: ·)) = [] := by
     rw [List.flatMap_eq_nil_iff]
     intro i hi'
     have := List.mem_range'_1.1 hi'
     rw [lists_none (by omega) (by omega)]; rfl
   rw [h2, List.append_nil]
theorem listsTo_split {m lo hi j : Nat} (hj : j < hi - lo) : ∃ rest, listsR (m + 1) lo hi = listsTo m lo hi j ++ (listsR m (lo + j + 1) hi).map ((lo + j) :: ·) ++ rest := by
 rw [← listsTo_all]
 unfold listsTo
 rw [show hi - lo = j + (hi - lo - j) by omega, ← List.range'_append_1, List.flatMap_append]
 obtain ⟨r, hr⟩ : ∃ r, hi - lo - j = r + 1 := ⟨hi - lo - j - 1, by omega⟩
 rw [hr, List.range'_succ, List.flatMap_cons]
 exact ⟨_, (List.append_assoc _ _ _).symm⟩
theorem everyR_mem {n : Nat} {l : List Nat} (h : l ∈ everyR n) : (∀ b ∈ l, b < n) ∧ l.length ≠ 1 ∧ l.length ≤ n := by
 unfold everyR at h
 rcases List.mem_cons.1 h with rfl | h
 · simp
 · obtain ⟨m, hm, hl⟩ := List.mem_flatMap.1 h
   have hm := List.mem_range'_1.1 hm
   obtain ⟨h1, h2⟩ := lists_mem hl
   exact ⟨fun b hb => (h2 b hb).2, by omega, by omega⟩
theorem flatMap_len_le {α β : Type} {f : α → List β} {c : Nat} : ∀ (l : List α), (∀ x ∈ l, (f x).length ≤ c) → (l.flatMap f).length ≤ l.length * c
 | [], _ => by simp
 | x :: l, h => by
   rw [List.flatMap_cons, List.length_append, List.length_cons, Nat.add_mul]
   have h1 := h x (by simp)
   have h2 := flatMap_len_le l fun y hy => h y (List.mem_cons_of_mem _ hy)
   omega
theorem everyTo_bound {n k : Nat} (hn : n ≤ 6) (hk : k ≤ 8) : (everyTo n k).length ≤ 134217728 := by
 have := flatMap_len_le (f := fun m => if m = 1 then [] else listsR m 0 n) (c := 16777216) (List.range k) fun m hm => by
   have hm : m < k := by simpa using hm
   split
   · simp
   · exact lists_bound8 (by omega) (by omega)
 unfold everyTo
 rw [List.length_range] at this
 have : k * 16777216 ≤ 8 * 16777216 := Nat.mul_le_mul_right _ hk
 omega
def rightE (x : Ent) (r : Res) : Bool := (x.sold == decide (r.bidder ≠ -1)) && (!x.sold || (decide (x.lo ≤ r.price) && decide (r.price ≤ x.hi)))
def entErr (s : Sale) (l : List Ent) (i : Nat) : Int := match l[i]? with
 | none => 0
 | some x => if inB 0 (s.lots.length - 1) x.lot = false then 4 else if (0 < i ∧ x.lot ≤ ((l[i - 1]?).map (·.lot)).getD 0) ∨ (x.sold = false ∧ ¬ (x.lo = 0 ∧ x.hi = 0)) then 2 else rangeE x.lo x.hi 0 100000
theorem entErr_at {s : Sale} {l : List Ent} {k : Nat} (h : k < l.length) : entErr s l k = if inB 0 (s.lots.length - 1) l[k].lot = false then 4 else if (0 < k ∧ l[k].lot ≤ ((l[k - 1]?).map (·.lot)).getD 0) ∨ (l[k].sold = false ∧ ¬ (l[k].lo = 0 ∧ l[k].hi = 0)) then 2 else rangeE l[k].lo l[k].hi 0 100000 := by
 unfold entErr; rw [List.getElem?_eq_getElem h]
def catE (s : Sale) (l : List Ent) : Int := match firstBad l.length (entErr s l) with
 | none => 0
 | some i => entErr s l i
theorem catE_zero {s : Sale} {l : List Ent} (h : catE s l = 0) : ∀ j, j < l.length → entErr s l j = 0 := by
 unfold catE at h
 cases hf : firstBad l.length (entErr s l) with
 | none => exact firstBad_none_iff hf
 | some i =>
   rw [hf] at h
   unfold firstBad at hf
   have := List.find?_some hf
   simp at this
   exact absurd h this
def askedE (s : Sale) (l : List Ent) : Int := if (checkS s).2.2 ≠ 0 then (checkS s).2.2 else catE s l
theorem askedE_bad {s : Sale} {l : List Ent} (h : (checkS s).2.2 ≠ 0) : askedE s l = (checkS s).2.2 := if_pos h
theorem askedE_cat {s : Sale} {l : List Ent} (h : (checkS s).2.2 = 0) : askedE s l = catE s l := if_neg (fun k => k h)
theorem askedE_ok {s : Sale} {l : List Ent} (h : askedE s l = 0) : (checkS s).2.2 = 0 ∧ catE s l = 0 := by
 by_cases h0 : (checkS s).2.2 = 0
 · rw [askedE_cat h0] at h; exact ⟨h0, h⟩
 · rw [askedE_bad h0] at h; exact absurd h h0
/-- The lots of a catalogue are there, and ascend. -/
theorem ent_lot {s : Sale} {l : List Ent} (h : catE s l = 0) {k : Nat} (hk : k < l.length) : ∃ n : Nat, l[k].lot = (n : Int) ∧ n < s.lots.length := by
 have := catE_zero h k hk
 rw [entErr_at hk] at this
 split at this
 · cases this
 · rename_i h1
   exact inB_nat (by simpa only [Bool.not_eq_false] using h1)
theorem ent_asc {s : Sale} {l : List Ent} (h : catE s l = 0) {k : Nat} (hk : k < l.length) (h0 : 0 < k) : (l[k - 1]'(by omega)).lot < l[k].lot := by
 have := catE_zero h k hk
 rw [entErr_at hk] at this
 split at this
 · cases this
 · split at this
   · cases this
   · rename_i h2
     rw [List.getElem?_eq_getElem (show k - 1 < l.length by omega)] at h2
     simp only [Option.map_some, Option.getD_some] at h2
     by_cases h3 : l[k].lot ≤ (l[k - 1]'(by omega)).lot
     · exact absurd (.inl ⟨h0, h3⟩) h2
     · omega
theorem ent_len {s : Sale} (hv : ValidS s) {l : List Ent} (h : catE s l = 0) : l.length ≤ 6 := by
 have key : ∀ k (hk : k < l.length), (k : Int) ≤ l[k].lot := by
   intro k
   induction k with
   | zero =>
     intro hk
     obtain ⟨n, hn, -⟩ := ent_lot h hk
     omega
   | succ k ih =>
     intro hk
     have h2 := ih (by omega)
     have h3 := ent_asc h hk (by omega)
     simp only [Nat.add_sub_cancel] at h3
     omega
 have hnl := hv.nl
 rcases Nat.eq_zero_or_pos l.length with h0 | h0
 · omega
 · have h2 := key (l.length - 1) (by omega)
   obtain ⟨n, h3, h4⟩ := ent_lot h (k := l.length - 1) (by omega)
   omega
def entRes (s : Sale) (x : Ent) (ring : List Nat) : Res := soldS s x.lot.toNat (castL ring)
def rightS (s : Sale) (l : List Ent) (but : List Nat) (ring : List Nat) : Bool := (List.range l.length).all fun i => decide (i ∈ but) || rightE (l[i]?.getD ⟨0, false, 0, 0⟩) (entRes s (l[i]?.getD ⟨0, false, 0, 0⟩) ring)
theorem rightS_true {s : Sale} {l : List Ent} {but ring : List Nat} (h : ∀ i (hi : i < l.length), i ∈ but ∨ rightE l[i] (entRes s l[i] ring) = true) : rightS s l but ring = true := by
 unfold rightS
 rw [List.all_eq_true]
 intro i hi
 have hi : i < l.length := by simpa using hi
 rw [List.getElem?_eq_getElem hi]
 simpa using h i hi
theorem rightS_false {s : Sale} {l : List Ent} {but ring : List Nat} {i : Nat} (hi : i < l.length) (h1 : i ∉ but) (h2 : rightE l[i] (entRes s l[i] ring) = false) : rightS s l but ring = false := by
 unfold rightS
 rw [List.all_eq_false]
 exact ⟨i, by simpa using hi, by rw [List.getElem?_eq_getElem hi]; simp [h1, h2]⟩
def fitS (s : Sale) (l : List Ent) (but : List Nat) : List (List Nat) := (everyR s.bidders.length).filter (rightS s l but)
def ringsE (s : Sale) (l : List Ent) : List (List Nat) × Int := if askedE s l ≠ 0 then ([], askedE s l) else if fitS s l [] = [] then ([], 8) else (fitS s l [], 0)
theorem ringsE_bad {s : Sale} {l : List Ent} {e : Int} (h : askedE s l = e) (he : e ≠ 0) : ringsE s l = ([], e) := by subst h; exact if_pos he
theorem ringsE_none {s : Sale} {l : List Ent} (h : askedE s l = 0) (h2 : fitS s l [] = []) : ringsE s l = ([], 8) := by unfold ringsE; rw [if_neg (fun k => k h), if_pos h2]
theorem ringsE_ok {s : Sale} {l : List Ent} (h : askedE s l = 0) (h2 : fitS s l [] ≠ []) : ringsE s l = (fitS s l [], 0) := by unfold ringsE; rw [if_neg (fun k => k h), if_neg h2]
def LstsR (F : Heap) (u : Value) (p : List (List Nat) × Int) : Prop := ∃ v, u = .tuple #[v, .int .i64 p.2] ∧ Lsts F v p.1
theorem LstsR.mono {F F' : Heap} {u : Value} {p : List (List Nat) × Int} (h : LstsR F u p) (hF : F.le F') : LstsR F' u p := by obtain ⟨v, h1, h2⟩ := h; exact ⟨v, h1, h2.mono hF⟩
def manyTo (all : List (List Nat)) (b : Nat) (k : Nat) : Int := (((all.take k).filter fun l => decide (b ∈ l)).length : Int)
theorem manyTo_succ {all : List (List Nat)} {b k : Nat} (hk : k < all.length) : manyTo all b (k + 1) = if b ∈ all[k] then manyTo all b k + 1 else manyTo all b k := by
 unfold manyTo
 rw [List.take_succ_eq_append_getElem hk, List.filter_append, List.length_append]
 by_cases h : b ∈ all[k]
 · rw [if_pos h]; simp [h]
 · rw [if_neg h]; simp [h]
theorem manyTo_bound {all : List (List Nat)} {b k : Nat} : 0 ≤ manyTo all b k ∧ manyTo all b k ≤ all.length := by
 unfold manyTo
 have h1 := List.length_filter_le (fun l => decide (b ∈ l)) (all.take k)
 rw [List.length_take] at h1
 omega
def manyOf (all : List (List Nat)) (b : Nat) : Int := manyTo all b all.length
def mustB (all : List (List Nat)) (b : Nat) : Bool := decide (manyOf all b = all.length)
def mayB (all : List (List Nat)) (b : Nat) : Bool := decide (0 < manyOf all b)
def selTo (p : Nat → Bool) (k : Nat) : List Nat := (List.range k).filter p
theorem Ed {p : Nat → Bool} {k : Nat} : selTo p (k + 1) = if p k = true then selTo p k ++ [k] else selTo p k := by
 unfold selTo; rw [List.range_succ, List.filter_append]
 by_cases h : p k = true
 · rw [if_pos h]; simp [h]
 · rw [if_neg h]; simp [h]
theorem selTo_length {p : Nat → Bool} {k : Nat} : (selTo p k).length ≤ k := Nat.le_trans (List.length_filter_le _ _) (by simp)
abbrev Mem := List Nat × List Nat × Int
def membersE (s : Sale) (l : List Ent) : Mem := if (ringsE s l).2 ≠ 0 then ([], [], (ringsE s l).2) else (selTo (mustB (ringsE s l).1) s.bidders.length, selTo (mayB (ringsE s l).1) s.bidders.length, 0)
theorem membersE_bad {s : Sale} {l : List Ent} (h : (ringsE s l).2 ≠ 0) : membersE s l = ([], [], (ringsE s l).2) := if_pos h
theorem membersE_ok {s : Sale} {l : List Ent} (h : (ringsE s l).2 = 0) : membersE s l = (selTo (mustB (ringsE s l).1) s.bidders.length, selTo (mayB (ringsE s l).1) s.bidders.length, 0) := if_neg (fun k => k h)
def MemR (F : Heap) (u : Value) (p : Mem) : Prop := ∃ v w, u = .tuple #[v, w, .int .i64 p.2.2] ∧ Nats F v p.1 ∧ Nats F w p.2.1
theorem MemR.mono {F F' : Heap} {u : Value} {p : Mem} (h : MemR F u p) (hF : F.le F') : MemR F' u p := by obtain ⟨v, w, h1, h2, h3⟩ := h; exact ⟨v, w, h1, h2.mono hF, h3.mono hF⟩
end Go.Proofs.Ytaikojfonleccaa
namespace Go.Proofs.Ytaikojfonleccaa
open Go.RowKit
theorem nat_u8 {z : Int} (h : (Lit.int .u8 z).wf = true) : ∃ n : Nat, z = n ∧ n < 256 := by
 simp [Lit.wf, IntKind.min, IntKind.max, IntKind.signed, IntKind.bits] at h
 exact ⟨z.toNat, by omega, by omega⟩
theorem nat_u16 {z : Int} (h : (Lit.int .u16 z).wf = true) : ∃ n : Nat, z = n ∧ n < 65536 := by
 simp [Lit.wf, IntKind.min, IntKind.max, IntKind.signed, IntKind.bits] at h
 exact ⟨z.toNat, by omega, by omega⟩
theorem okWide_array {P : Program} {W : World} {r : Reach} {base : Nat} {t : TypeId} {v : Value} {n : Nat} {e : TypeId} (ht : P.underlying t = some (.array n e)) (h : Value.okWide P W r base t v) : ∃ cs, v = .agg cs ∧ cs.size = P.cellsOf t := by
 simp only [Value.okWide, ht] at h
 obtain ⟨cs, h1, h2, _⟩ := h
 exact ⟨cs, h1, h2⟩
section
variable {H : Type} {enc : TypeId × Value → H} {W : World}
theorem cells3 : Try.prog.cellsOf 3 = 1 := by kernel_rfl
theorem dec3 (cs : List Value) (h : Rd enc Try.prog W 3 cs) : ∃ z : Int, cs = intE z ∧ True := by obtain ⟨z, h, -⟩ := rd_int Try.underlying3 h; exact ⟨z, h, trivial⟩
theorem cells4 : Try.prog.cellsOf 4 = 1 := by kernel_rfl
theorem dec4 (cs : List Value) (h : Rd enc Try.prog W 4 cs) : ∃ b : Bool, cs = [.bool b] ∧ True := by obtain ⟨b, h⟩ := rd_bool Try.underlying4 h; exact ⟨b, h, trivial⟩
theorem cells9 : Try.prog.cellsOf 9 = 1 := by kernel_rfl
theorem dec9 (cs : List Value) (h : Rd enc Try.prog W 9 cs) : ∃ b : ByteArray, cs = strE b ∧ True := by obtain ⟨b, h⟩ := rd_string Try.underlying9 h; exact ⟨b, h, trivial⟩
theorem cells5 : Try.prog.cellsOf 5 = 1 := by kernel_rfl
theorem dec5 (cs : List Value) (h : Rd enc Try.prog W 5 cs) : ∃ n : Nat, cs = [.int .u8 (n : Int)] ∧ n < 256 := by
 obtain ⟨z, rfl, hz⟩ := rd_int Try.underlying5 h
 obtain ⟨n, rfl, hn⟩ := nat_u8 hz
 exact ⟨n, rfl, hn⟩
theorem cells98 : Try.prog.cellsOf 98 = 2 := by kernel_rfl
theorem len2 {α : Type} {l : List α} (h : l.length = 2) : ∃ a0 a1, l = [a0, a1] := by
 match l, h with
 | [a0, a1], _ => exact ⟨a0, a1, rfl⟩
theorem dec98 (cs : List Value) (h : Rd enc Try.prog W 98 cs) : ∃ x : Stp, cs = x.enc ∧ True := by
 obtain ⟨hl, hf⟩ := rd_struct Try.underlying98 h
 rw [cells98] at hl
 obtain ⟨c0, c1, rfl⟩ := len2 hl
 obtain ⟨x0, e0, -⟩ := dec3 _ (Ee hf 0 (t := 3) (o := 0) rfl cells3)
 obtain ⟨x1, e1, -⟩ := dec3 _ (Ee hf 1 (t := 3) (o := 1) rfl cells3)
 simp [intE] at e0 e1
 obtain rfl := e0
 obtain rfl := e1
 exact ⟨⟨x0, x1⟩, rfl, trivial⟩
theorem cells69 : Try.prog.cellsOf 69 = 4 := by kernel_rfl
theorem len4 {α : Type} {l : List α} (h : l.length = 4) : ∃ a0 a1 a2 a3, l = [a0, a1, a2, a3] := by
 match l, h with
 | [a0, a1, a2, a3], _ => exact ⟨a0, a1, a2, a3, rfl⟩
theorem dec69 (cs : List Value) (h : Rd enc Try.prog W 69 cs) : ∃ x : Lot, cs = x.enc ∧ True := by
 obtain ⟨hl, hf⟩ := rd_struct Try.underlying69 h
 rw [cells69] at hl
 obtain ⟨c0, c1, c2, c3, rfl⟩ := len4 hl
 obtain ⟨x0, e0, -⟩ := dec9 _ (Ee hf 0 (t := 9) (o := 0) rfl cells9)
 obtain ⟨x1, e1, -⟩ := dec3 _ (Ee hf 1 (t := 3) (o := 1) rfl cells3)
 obtain ⟨x2, e2, -⟩ := dec3 _ (Ee hf 2 (t := 3) (o := 2) rfl cells3)
 obtain ⟨x3, e3, -⟩ := dec4 _ (Ee hf 3 (t := 4) (o := 3) rfl cells4)
 simp [intE, strE] at e0 e1 e2 e3
 obtain rfl := e0
 obtain rfl := e1
 obtain rfl := e2
 obtain rfl := e3
 exact ⟨⟨x0, x1, x2, x3⟩, rfl, trivial⟩
theorem cells72 : Try.prog.cellsOf 72 = 3 := by kernel_rfl
theorem len3 {α : Type} {l : List α} (h : l.length = 3) : ∃ a0 a1 a2, l = [a0, a1, a2] := by
 match l, h with
 | [a0, a1, a2], _ => exact ⟨a0, a1, a2, rfl⟩
theorem dec72 (cs : List Value) (h : Rd enc Try.prog W 72 cs) : ∃ x : Bid, cs = x.enc ∧ True := by
 obtain ⟨hl, hf⟩ := rd_struct Try.underlying72 h
 rw [cells72] at hl
 obtain ⟨c0, c1, c2, rfl⟩ := len3 hl
 obtain ⟨x0, e0, -⟩ := dec3 _ (Ee hf 0 (t := 3) (o := 0) rfl cells3)
 obtain ⟨x1, e1, -⟩ := dec3 _ (Ee hf 1 (t := 3) (o := 1) rfl cells3)
 obtain ⟨x2, e2, -⟩ := dec3 _ (Ee hf 2 (t := 3) (o := 2) rfl cells3)
 simp [intE] at e0 e1 e2
 obtain rfl := e0
 obtain rfl := e1
 obtain rfl := e2
 exact ⟨⟨x0, x1, x2⟩, rfl, trivial⟩
theorem cells27 : Try.prog.cellsOf 27 = 8 := by kernel_rfl
theorem cells22 : Try.prog.cellsOf 22 = 1 := by kernel_rfl
theorem cells23 : Try.prog.cellsOf 23 = 1 := by kernel_rfl
theorem cells24 : Try.prog.cellsOf 24 = 1 := by kernel_rfl
theorem cells25 : Try.prog.cellsOf 25 = 1 := by kernel_rfl
set_option maxRecDepth 100000 in
theorem arg_int {t : Nat} {k : IntKind} (ht : Try.prog.underlying t = some (.int k)) {base : Nat} {v : Value} {d : DataW H} {p : List MemPlace} (hok : Value.okWide Try.prog W .any base t v) (h : DataW.Trod enc Try.prog W 0 (fun _ => true) true t v d p) (hw : ∀ n ∈ d.weights Try.prog t, n ≤ reachBytes) :
   ∃ z : Int, v = .int k z ∧ (Lit.int k z).wf = true := by
 obtain ⟨z, rfl⟩ := Go.WideShapes.okWide_int ht hok
 obtain ⟨y, hy, wy⟩ := rd_int ht (rd_of h hw)
 simp [Value.cells] at hy
 subst hy
 exact ⟨z, rfl, wy⟩
set_option maxRecDepth 100000 in
theorem arg_u16 {base : Nat} {v : Value} {d : DataW H} {p : List MemPlace} (hok : Value.okWide Try.prog W .any base 91 v) (h : DataW.Trod enc Try.prog W 0 (fun _ => true) true 91 v d p) (hw : ∀ n ∈ d.weights Try.prog 91, n ≤ reachBytes) :
   ∃ n : Nat, v = .int .u16 (n : Int) ∧ n < 65536 := by
 obtain ⟨z, rfl, hz⟩ := arg_int Try.underlying91 hok h hw
 obtain ⟨n, rfl, hn⟩ := nat_u16 hz
 exact ⟨n, rfl, hn⟩
theorem len8 {α : Type} {l : List α} (h : l.length = 8) : ∃ a0 a1 a2 a3 a4 a5 a6 a7, l = [a0, a1, a2, a3, a4, a5, a6, a7] := by
 match l, h with
 | [a0, a1, a2, a3, a4, a5, a6, a7], _ => exact ⟨a0, a1, a2, a3, a4, a5, a6, a7, rfl⟩
set_option maxRecDepth 100000 in
theorem arg_sale {base : Nat} {v : Value} {d : DataW H} {p : List MemPlace} (hok : Value.okWide Try.prog W .any base 27 v) (h : DataW.Trod enc Try.prog W 0 (fun _ => true) true 27 v d p) (hw : ∀ n ∈ d.weights Try.prog 27, n ≤ reachBytes) :
   ∃ vs vb vl vn vd s, v = .agg #[vs, .int .i64 s.premium, .int .i64 s.fee, .int .i64 s.days, vb, vl, vn, vd] ∧ SaleR (heapOf W) vs vb vl vn vd s := by
 obtain ⟨cs, rfl, hsz⟩ := Go.WideShapes.okWide_struct Try.underlying27 hok
 have hr := rd_of h hw
 obtain ⟨hl, hf⟩ := rd_struct Try.underlying27 hr
 rw [cells27] at hl
 obtain ⟨c0, c1, c2, c3, c4, c5, c6, c7, hcs⟩ := len8 hl
 have hcs' : cs = #[c0, c1, c2, c3, c4, c5, c6, c7] := by
   have : cs.toList = [c0, c1, c2, c3, c4, c5, c6, c7] := hcs
   exact Array.ext' (by simpa using this)
 subst hcs'
 obtain ⟨xa, sa, wa⟩ := rd_slice Try.underlying22 cells98 (by decide) (of_decide_eq_true (by kernel_rfl)) (fun _ => rfl) dec98 (Ee hf 0 (t := 22) (o := 0) rfl cells22)
 obtain ⟨y1, e1, -⟩ := dec3 _ (Ee hf 1 (t := 3) (o := 1) rfl cells3)
 obtain ⟨y2, e2, -⟩ := dec3 _ (Ee hf 2 (t := 3) (o := 2) rfl cells3)
 obtain ⟨y3, e3, -⟩ := dec3 _ (Ee hf 3 (t := 3) (o := 3) rfl cells3)
 obtain ⟨xb, sb, wb⟩ := rd_slice Try.underlying23 cells9 (by decide) (of_decide_eq_true (by kernel_rfl)) (fun _ => rfl) dec9 (Ee hf 4 (t := 23) (o := 4) rfl cells23)
 obtain ⟨xc, sc, wc⟩ := rd_slice Try.underlying23 cells9 (by decide) (of_decide_eq_true (by kernel_rfl)) (fun _ => rfl) dec9 (Ee hf 5 (t := 23) (o := 5) rfl cells23)
 obtain ⟨xd, sd, wd⟩ := rd_slice Try.underlying24 cells69 (by decide) (of_decide_eq_true (by kernel_rfl)) (fun _ => rfl) dec69 (Ee hf 6 (t := 24) (o := 6) rfl cells24)
 obtain ⟨xe, se, we⟩ := rd_slice Try.underlying25 cells72 (by decide) (of_decide_eq_true (by kernel_rfl)) (fun _ => rfl) dec72 (Ee hf 7 (t := 25) (o := 7) rfl cells25)
 simp [intE, Value.cells] at e1 e2 e3
 subst e1 e2 e3
 exact ⟨_, _, _, _, _, ⟨xa, y1, y2, y3, xb, xc, xd, xe⟩, rfl, ⟨sa, sb, sc, sd, se⟩⟩
theorem cells74 : Try.prog.cellsOf 74 = 2 := by kernel_rfl
set_option maxRecDepth 100000 in
theorem arg_bits {base : Nat} {v : Value} {d : DataW H} {p : List MemPlace} (hok : Value.okWide Try.prog W .any base 74 v) (h : DataW.Trod enc Try.prog W 0 (fun _ => true) true 74 v d p) (hw : ∀ n ∈ d.weights Try.prog 74, n ≤ reachBytes) :
   ∃ x y : Nat, v = .agg #[.int .u8 (x : Int), .int .u8 (y : Int)] ∧ x < 256 ∧ y < 256 := by
 obtain ⟨cs, rfl, hsz⟩ := okWide_array Try.underlying74 hok
 have hr := rd_of h hw
 obtain ⟨hl, hf⟩ := rd_array Try.underlying74 hr
 rw [cells74] at hl
 obtain ⟨c0, c1, hcs⟩ := len2 hl
 have hcs' : cs = #[c0, c1] := by
   have : cs.toList = [c0, c1] := hcs
   exact Array.ext' (by simpa using this)
 subst hcs'
 have h0 := hf 0 (by decide)
 have h1 := hf 1 (by decide)
 simp only [cells5, Value.cells] at h0 h1
 obtain ⟨x, hx, wx⟩ := dec5 _ h0
 obtain ⟨y, hy, wy⟩ := dec5 _ h1
 simp at hx hy
 subst hx hy
 exact ⟨x, y, rfl, wx, wy⟩
end
end Go.Proofs.Ytaikojfonleccaa
namespace Go.Proofs.Ytaikojfonleccaa
open Go.ChangeShapes Go.WideShapes Go.ChangeAt Go.RowKit
theorem ownKnob0 : ownKnob Try.prog.godebug = none := by kernel_rfl
theorem laidOut : laidOutB Try.prog = true := by kernel_rfl
theorem weights_at {H : Type} {P : Program} {ts : List TypeId} {ds : List (DataW H)} (h : (DataW.weightsEach P ts ds).all (· ≤ reachBytes) = true) {j : Nat} {t : TypeId} {d : DataW H} (ht : ts[j]? = some t) (hd : ds[j]? = some d) : ∀ n ∈ d.weights P t, n ≤ reachBytes := by
 intro n hn
 have := List.all_eq_true.1 h n (DataW.weights_mem_each ht hd n hn)
 simpa using this
end Go.Proofs.Ytaikojfonleccaa
namespace Go.Proofs.Ytaikojfonleccaa
open Go.RowKit
theorem agg_69 : AggT Try.prog 69 4 := aggT_of (by kernel_rfl)
theorem agg_72 : AggT Try.prog 72 3 := aggT_of (by kernel_rfl)
theorem bd_112 : Body Try.prog 112 := Br (by kernel_rfl)
theorem bd_114 : Body Try.prog 114 := Br (by kernel_rfl)
theorem bd_115 : Body Try.prog 115 := Br (by kernel_rfl)
theorem bd_122 : Body Try.prog 122 := Br (by kernel_rfl)
theorem bd_123 : Body Try.prog 123 := Br (by kernel_rfl)
theorem bd_93 : Body Try.prog 93 := Br (by kernel_rfl)
theorem bd_94 : Body Try.prog 94 := Br (by kernel_rfl)
theorem bd_97 : Body Try.prog 97 := Br (by kernel_rfl)
theorem bd_98 : Body Try.prog 98 := Br (by kernel_rfl)
theorem Dt : FieldT Try.prog 58 0 0 := Ca (by kernel_rfl)
theorem Ds : FieldT Try.prog 58 1 1 := Ca (by kernel_rfl)
theorem Bd : OneT Try.prog 3 := Dj (by kernel_rfl)
theorem one_9 : OneT Try.prog 9 := Dj (by kernel_rfl)
theorem Cr : SliceT Try.prog 23 9 1 := Ek (by kernel_rfl)
theorem C1 : SliceT Try.prog 24 69 4 := Ek (by kernel_rfl)
theorem Dz : SliceT Try.prog 25 72 3 := Ek (by kernel_rfl)
theorem Bs : SliceT Try.prog 28 3 1 := Ek (by kernel_rfl)
set_option maxRecDepth 100000 in
theorem letter_ok {F : Heap} (c : UInt8) : Ok Try.prog 122 [.int .u8 (c.toNat : Int)].toArray F fun r _ => r = .bool (letterB c) := by
 refine Ok.intro Try.func122 rfl Try.ntmps122 rfl fun w0 => ?_
 by_cases h1 : 97 ≤ (c.toNat : Int)
 ·
  refine Af <| Ai fun ds => Aa rfl (Ae Ab) ?_
  refine Ah <| Ad <| Af <| Ai fun ds => Aa rfl (Ag (Al rfl <| Ak rfl)) ?_
  refine Aa rfl (Dp (Ac) Ab) ?_
  refine Aa rfl (Ag (Ac)) ?_
  refine As rfl rfl (Ac) (by first | rfl | exact decide_eq_true (by omega)) ?_
  refine Aa rfl (Ag (Ay rfl <| Ak rfl)) ?_
  refine As rfl rfl (Al rfl <| Ac) (by first | rfl | exact decide_eq_true (by omega)) ?_
  refine Aa rfl (q_leq (Ac) Ab) ?_
  refine Aa rfl (A6 (Ap rfl <| Ac) (by first | rfl | exact decide_eq_true (by omega)) (Ac)) ?_
  refine Aa rfl (Ae (Ac)) ?_
  refine Ah <| Ad ?_
  by_cases h2 : (c.toNat : Int) ≤ 122
  ·
   refine A5 <| Aw rfl (.tmp (Ac) .nil) ?_
   show _ = _; simp [outOf, letterB, h1, h2]
  ·
   refine A5 <| Aw rfl (.tmp (Ac) .nil) ?_
   show _ = _; simp [outOf, letterB, h1, h2]
 ·
  refine Af <| Ai fun ds => Aa rfl (Ae Ab) ?_
  refine Ah <| Ad <| Af <| Ai fun ds => Aa rfl (Ag (Al rfl <| Ak rfl)) ?_
  refine Aa rfl (Dp (Ac) Ab) ?_
  refine Aa rfl (Ag (Ac)) ?_
  refine At rfl rfl (Ac) (.inl (congrArg Value.bool (by first | rfl | exact decide_eq_false (by omega)))) rfl ?_
  refine At rfl rfl (Al rfl <| Ac) (.inl (congrArg Value.bool (by first | rfl | exact decide_eq_false (by omega)))) rfl ?_
  refine Aa rfl (A8 (Ap rfl <| Ac) (by first | rfl | exact decide_eq_false (by omega)) Ab) ?_
  refine Aa rfl (Ae (Ac)) ?_
  refine Ah <| Ad <| A5 <| Aw rfl (.tmp (Ac) .nil) ?_
  show _ = _; simp [outOf, letterB, h1]
set_option maxRecDepth 100000 in
theorem digit_ok {F : Heap} (c : UInt8) : Ok Try.prog 123 [.int .u8 (c.toNat : Int)].toArray F fun r _ => r = .bool (digitB c) := by
 refine Ok.intro Try.func123 rfl Try.ntmps123 rfl fun w0 => ?_
 by_cases h1 : 48 ≤ (c.toNat : Int)
 ·
  refine Af <| Ai fun ds => Aa rfl (Ae Ab) ?_
  refine Ah <| Ad <| Af <| Ai fun ds => Aa rfl (Ag (Al rfl <| Ak rfl)) ?_
  refine Aa rfl (Dp (Ac) Ab) ?_
  refine Aa rfl (Ag (Ac)) ?_
  refine As rfl rfl (Ac) (by first | rfl | exact decide_eq_true (by omega)) ?_
  refine Aa rfl (Ag (Ay rfl <| Ak rfl)) ?_
  refine As rfl rfl (Al rfl <| Ac) (by first | rfl | exact decide_eq_true (by omega)) ?_
  refine Aa rfl (q_leq (Ac) Ab) ?_
  refine Aa rfl (A6 (Ap rfl <| Ac) (by first | rfl | exact decide_eq_true (by omega)) (Ac)) ?_
  refine Aa rfl (Ae (Ac)) ?_
  refine Ah <| Ad ?_
  by_cases h2 : (c.toNat : Int) ≤ 57
  ·
   refine A5 <| Aw rfl (.tmp (Ac) .nil) ?_
   show _ = _; simp [outOf, digitB, h1, h2]
  ·
   refine A5 <| Aw rfl (.tmp (Ac) .nil) ?_
   show _ = _; simp [outOf, digitB, h1, h2]
 ·
  refine Af <| Ai fun ds => Aa rfl (Ae Ab) ?_
  refine Ah <| Ad <| Af <| Ai fun ds => Aa rfl (Ag (Al rfl <| Ak rfl)) ?_
  refine Aa rfl (Dp (Ac) Ab) ?_
  refine Aa rfl (Ag (Ac)) ?_
  refine At rfl rfl (Ac) (.inl (congrArg Value.bool (by first | rfl | exact decide_eq_false (by omega)))) rfl ?_
  refine At rfl rfl (Al rfl <| Ac) (.inl (congrArg Value.bool (by first | rfl | exact decide_eq_false (by omega)))) rfl ?_
  refine Aa rfl (A8 (Ap rfl <| Ac) (by first | rfl | exact decide_eq_false (by omega)) Ab) ?_
  refine Aa rfl (Ae (Ac)) ?_
  refine Ah <| Ad <| A5 <| Aw rfl (.tmp (Ac) .nil) ?_
  show _ = _; simp [outOf, digitB, h1]
set_option maxRecDepth 100000 in
theorem Dx {F : Heap} (z lo hi : Int) : Ok Try.prog 62 [.int .i64 z, .int .i64 lo, .int .i64 hi].toArray F fun r _ => r = .bool (inB lo hi z) := by
 refine Ok.intro Try.func62 rfl Try.ntmps62 rfl fun w0 => ?_
 by_cases h1 : lo ≤ z
 ·
  refine Af <| Ai fun ds => Aa rfl (Ae Ab) ?_
  refine Ah <| Ad <| Af <| Ai fun ds => Aa rfl (Ag (Al rfl <| Ak rfl)) ?_
  refine Aa rfl (Ag (Ap rfl <| Ak rfl)) ?_
  refine Aa rfl (Dp (Al rfl <| Ac) (Ac)) ?_
  refine Aa rfl (Ag (Ac)) ?_
  refine As rfl rfl (Ac) (by first | rfl | exact decide_eq_true (by omega)) ?_
  refine Aa rfl (Ag (Ay rfl <| Al rfl <| Ak rfl)) ?_
  refine As rfl rfl (Al rfl <| Ac) (by first | rfl | exact decide_eq_true (by omega)) ?_
  refine Aa rfl (Ag (Ay rfl <| Ap rfl <| Ak rfl)) ?_
  refine As rfl rfl (Ap rfl <| Ac) (by first | rfl | exact decide_eq_true (by omega)) ?_
  refine Aa rfl (q_leq (Al rfl <| Ac) (Ac)) ?_
  refine Aa rfl (A6 (Ap rfl <| Al rfl <| Ac) (by first | rfl | exact decide_eq_true (by omega)) (Ac)) ?_
  refine Aa rfl (Ae (Ac)) ?_
  refine Ah <| Ad ?_
  by_cases h2 : z ≤ hi
  ·
   refine A5 <| Aw rfl (.tmp (Ac) .nil) ?_
   show _ = _; simp [outOf, inB, h1, h2]
  ·
   refine A5 <| Aw rfl (.tmp (Ac) .nil) ?_
   show _ = _; simp [outOf, inB, h1, h2]
 ·
  refine Af <| Ai fun ds => Aa rfl (Ae Ab) ?_
  refine Ah <| Ad <| Af <| Ai fun ds => Aa rfl (Ag (Al rfl <| Ak rfl)) ?_
  refine Aa rfl (Ag (Ap rfl <| Ak rfl)) ?_
  refine Aa rfl (Dp (Al rfl <| Ac) (Ac)) ?_
  refine Aa rfl (Ag (Ac)) ?_
  refine At rfl rfl (Ac) (.inl (congrArg Value.bool (by first | rfl | exact decide_eq_false (by omega)))) rfl ?_
  refine At rfl rfl (Al rfl <| Ac) (.inl (congrArg Value.bool (by first | rfl | exact decide_eq_false (by omega)))) rfl ?_
  refine At rfl rfl (Ap rfl <| Ac) (.inl (congrArg Value.bool (by first | rfl | exact decide_eq_false (by omega)))) rfl ?_
  refine Aa rfl (A8 (Ap rfl <| Al rfl <| Ac) (by first | rfl | exact decide_eq_false (by omega)) Ab) ?_
  refine Aa rfl (Ae (Ac)) ?_
  refine Ah <| Ad <| A5 <| Aw rfl (.tmp (Ac) .nil) ?_
  show _ = _; simp [outOf, inB, h1]
set_option maxRecDepth 100000 in
theorem refName_ok {F : Heap} (s : ByteArray) : Ok Try.prog 115 [.string s].toArray F fun r _ => r = .bool (nameOk s) := by
 refine Ok.intro Try.func115 rfl Try.ntmps115 rfl fun w0 => ?_
 by_cases h0 : (s.size : Int) = 0
 ·
  refine Af <| Ai fun ds => Aa rfl (Ae Ab) ?_
  refine Ah <| Ad <| Af <| Af <| Ai fun ds => Aa rfl (Ag (Al rfl <| Ak rfl)) ?_
  refine Aa rfl (q_lenS Try.underlying9 (Ac)) ?_
  refine Aa rfl (B9 (Ac) Ab) ?_
  refine Aa rfl (Ag (Ac)) ?_
  refine At rfl rfl (Ac) (.inl (congrArg Value.bool (by first | rfl | exact decide_eq_true (by omega)))) rfl ?_
  refine At rfl rfl (Al rfl <| Ac) (.inl (congrArg Value.bool (by first | rfl | exact decide_eq_true (by omega)))) rfl ?_
  refine At rfl rfl (Ap rfl <| Ac) (.inl (congrArg Value.bool (by first | rfl | exact decide_eq_true (by omega)))) rfl ?_
  refine Aa rfl (A6 (Ap rfl <| Al rfl <| Ac) (by first | rfl | exact decide_eq_true (by omega)) Ab) ?_
  refine Ah <| Ad <| Ar (Ac) (by first | rfl | exact decide_eq_true (by omega)) ?_
  refine Af <| Ai fun ds => Aa rfl (Ae Ab) ?_
  refine Ah <| Ad <| A5 <| A7 ?_
  refine Aw rfl (.tmp (Ac) .nil) ?_
  show _ = _
  rw [nameOk_len (by omega)]; rfl
 ·
  refine Af <| Ai fun ds => Aa rfl (Ae Ab) ?_
  refine Ah <| Ad <| Af <| Af <| Ai fun ds => Aa rfl (Ag (Al rfl <| Ak rfl)) ?_
  refine Aa rfl (q_lenS Try.underlying9 (Ac)) ?_
  refine Aa rfl (B9 (Ac) Ab) ?_
  refine Aa rfl (Ag (Ac)) ?_
  refine As rfl rfl (Ac) (by first | rfl | exact decide_eq_false (by omega)) ?_
  refine Aa rfl (Ag (Ay rfl <| Al rfl <| Ak rfl)) ?_
  refine As rfl rfl (Al rfl <| Ac) (by first | rfl | exact decide_eq_false (by omega)) ?_
  refine Aa rfl (q_lenS Try.underlying9 (Ac)) ?_
  refine As rfl rfl (Ap rfl <| Ac) (by first | rfl | exact decide_eq_false (by omega)) ?_
  refine Aa rfl (Cl (Ac) Ab) ?_
  refine Aa rfl (A8 (Ap rfl <| Al rfl <| Ac) (by first | rfl | exact decide_eq_false (by omega)) (Ac)) ?_
  refine Ah <| Ad ?_
  by_cases h16 : (16 : Int) < s.size
  ·
   refine Ar (Ac) (by first | rfl | exact decide_eq_true (by omega)) ?_
   refine Af <| Ai fun ds => Aa rfl (Ae Ab) ?_
   refine Ah <| Ad <| A5 <| A7 ?_
   refine Aw rfl (.tmp (Ac) .nil) ?_
   show _ = _
   rw [nameOk_len (by omega)]; rfl
  ·
   refine Am (Ac) (by first | rfl | exact decide_eq_false (by omega)) ?_
   refine Ax <| Ad <| Af <| Af <| Ai fun ds => Aa rfl (Ae Ab) ?_
   refine Ah <| Ad <| A4 <| B4 [2, 3, 12, 13, 14, 15, 16, 17, 18, 19, 20, 21, 22, 23, 24, 25, 26, 27, 28, 29, 30, 31, 32, 33, 34, 35, 36, 37, 38, 39] (fun m e σ => ∃ k : Nat, m + k = s.size ∧ e 3 = .int .i64 k ∧ σ = ⟨F, []⟩ ∧ ∀ j (hj : j < s.size), j < k → chOk j s[j] = true) (s.size) ?_ ?_
   · exact ⟨0, by omega, (Ac), rfl, fun j hj h => absurd h (by omega)⟩
   ·
    rintro m e _ ⟨k, hm, hs3, rfl, hno⟩
    by_cases hlt : k < s.size
    ·
     refine Af <| Af <| Ai fun ds => Aa rfl (Ag (Au rfl hs3)) ?_
     refine Aa rfl (Ag (Al rfl <| Ao rfl <| Ba rfl <| Ap rfl <| Ak rfl)) ?_
     refine Aa rfl (q_lenS Try.underlying9 (Ac)) ?_
     refine Aa rfl (B0 (Ap rfl <| Ac) (Ac)) ?_
     refine Ah <| Ad <| Ar (Ac) (by first | rfl | exact decide_eq_true (by omega)) ?_
     by_cases hl : letterB s[k] = true
     ·
      have hch : chOk k s[k] = true := by unfold chOk; rw [hl]; rfl
      refine Ax <| Ad <| Af <| A4 <| Af <| Ai fun ds => Aa rfl (Ag (Ay rfl <| Ao rfl <| Ba rfl <| Ap rfl <| Ak rfl)) ?_
      refine Aa rfl (Ag (Ay rfl <| Al rfl <| Au rfl hs3)) ?_
      refine Aa rfl (q_indexS Try.underlying9 (Al rfl <| Ac) (Ac) rfl hlt) ?_
      refine Bv rfl (A9 bd_122 Az (.cons (Ac) .nil) (letter_ok _) (fun _ _ h => h)) ?_
      refine Aa rfl (Cu (Ac)) ?_
      refine Aa rfl (Ag (Ac)) ?_
      refine At rfl rfl (Ac) (.inl (congrArg Value.bool (by first | rfl | (simp [hl]; done)))) rfl ?_
      refine At rfl rfl (Al rfl <| Ac) (.inl (congrArg Value.bool (by first | rfl | (simp [hl]; done)))) rfl ?_
      refine At rfl rfl (Ap rfl <| Ac) (.inl (congrArg Value.bool (by first | rfl | (simp [hl]; done)))) rfl ?_
      refine At rfl rfl (Ac) (.inr rfl) rfl ?_
      refine At rfl rfl (Al rfl <| Ac) (.inr rfl) rfl ?_
      refine At rfl rfl (Ap rfl <| Ac) (.inr rfl) rfl ?_
      refine At rfl rfl (Ap rfl <| Al rfl <| Ac) (.inr rfl) rfl ?_
      refine At rfl rfl (Ay rfl <| Ac) (.inr rfl) rfl ?_
      refine At rfl rfl (Ay rfl <| Al rfl <| Ac) (.inr rfl) rfl ?_
      refine At rfl rfl (Ac) (.inr rfl) rfl ?_
      refine At rfl rfl (Al rfl <| Ac) (.inr rfl) rfl ?_
      refine At rfl rfl (Ap rfl <| Ac) (.inr rfl) rfl ?_
      refine At rfl rfl (Ap rfl <| Al rfl <| Ac) (.inr rfl) rfl ?_
      refine At rfl rfl (Ba rfl <| Ap rfl <| Ac) (.inr rfl) rfl ?_
      refine At rfl rfl (Ba rfl <| Ay rfl <| Ap rfl <| Ac) (.inl (congrArg Value.bool (by first | rfl | (simp [hl]; done)))) rfl ?_
      refine Aa rfl (A8 (Ba rfl <| Ay rfl <| Ap rfl <| Al rfl <| Ac) (by first | rfl | (simp [hl]; done)) Ab) ?_
      refine Ah <| Ad <| Am (Ac) (by first | rfl | (simp [hl]; done)) ?_
      refine Ax <| Bh <| Ad <| Ai fun ds => Aa rfl (Ag (Bb rfl <| Ba rfl <| Ap rfl <| Au rfl hs3)) ?_
      refine Aa rfl (B3 (Ac) Ab rfl (by omega) (by omega)) ?_
      refine Aa rfl (Ae (Ac)) ?_
      refine Ah <| Ad ⟨_, m - 1, Off.eq (C5 rfl <| Ei rfl <| ou4 rfl <| Eu rfl <| Bj), by omega, ?_⟩
      refine ⟨k + 1, by omega, (Ac), rfl, fun j hj hjk => ?_⟩
      rcases Nat.lt_succ_iff_lt_or_eq.1 hjk with hjk | rfl
      · exact hno j hj hjk
      · exact hch
     ·
      replace hl : letterB s[k] = false := by simpa using hl
      refine Ax <| Ad <| Af <| A4 <| Af <| Ai fun ds => Aa rfl (Ag (Ay rfl <| Ao rfl <| Ba rfl <| Ap rfl <| Ak rfl)) ?_
      refine Aa rfl (Ag (Ay rfl <| Al rfl <| Au rfl hs3)) ?_
      refine Aa rfl (q_indexS Try.underlying9 (Al rfl <| Ac) (Ac) rfl hlt) ?_
      refine Bv rfl (A9 bd_122 Az (.cons (Ac) .nil) (letter_ok _) (fun _ _ h => h)) ?_
      refine Aa rfl (Cu (Ac)) ?_
      refine Aa rfl (Ag (Ac)) ?_
      refine As rfl rfl (Ac) (by first | rfl | (simp [hl]; done)) ?_
      refine Aa rfl (Ag (Ba rfl <| Ap rfl <| Au rfl hs3)) ?_
      refine As rfl rfl (Al rfl <| Ac) (by first | rfl | (simp [hl]; done)) ?_
      refine Aa rfl (B9 (Ac) Ab) ?_
      refine As rfl rfl (Ap rfl <| Ac) (by first | rfl | (simp [hl]; done)) ?_
      refine Aa rfl (Ag (Ac)) ?_
      by_cases hz : k = 0
      ·
       have hch : chOk k s[k] = false := by unfold chOk; rw [hl]; simp [hz]
       refine At rfl rfl (Ac) (.inl (congrArg Value.bool (by first | rfl | exact decide_eq_true (by omega)))) rfl ?_
       refine At rfl rfl (Al rfl <| Ac) (.inl (congrArg Value.bool (by first | rfl | exact decide_eq_true (by omega)))) rfl ?_
       refine At rfl rfl (Ap rfl <| Ac) (.inl (congrArg Value.bool (by first | rfl | exact decide_eq_true (by omega)))) rfl ?_
       refine At rfl rfl (Ap rfl <| Al rfl <| Ac) (.inl (congrArg Value.bool (by first | rfl | exact decide_eq_true (by omega)))) rfl ?_
       refine At rfl rfl (Ay rfl <| Ac) (.inl (congrArg Value.bool (by first | rfl | exact decide_eq_true (by omega)))) rfl ?_
       refine At rfl rfl (Ay rfl <| Al rfl <| Ac) (.inl (congrArg Value.bool (by first | rfl | exact decide_eq_true (by omega)))) rfl ?_
       refine At rfl rfl (Ac) (.inr rfl) rfl ?_
       refine At rfl rfl (Al rfl <| Ac) (.inr rfl) rfl ?_
       refine At rfl rfl (Ap rfl <| Ac) (.inr rfl) rfl ?_
       refine At rfl rfl (Ap rfl <| Al rfl <| Ac) (.inr rfl) rfl ?_
       refine At rfl rfl (Ba rfl <| Ap rfl <| Ac) (.inl (congrArg Value.bool (by first | rfl | exact decide_eq_true (by omega)))) rfl ?_
       refine As rfl rfl (Ba rfl <| Ay rfl <| Ap rfl <| Ac) (by first | rfl | (simp [hl]; done)) ?_
       refine Aa rfl (A6 (Ba rfl <| Ap rfl <| Al rfl <| Ac) (by first | rfl | exact decide_eq_true (by omega)) Ab) ?_
       refine Aa rfl (A6 (Ba rfl <| Ay rfl <| Ap rfl <| Al rfl <| Ac) (by first | rfl | (simp [hl]; done)) (Ac)) ?_
       refine Ah <| Ad <| Ar (Ac) (by first | rfl | exact decide_eq_true (by omega)) ?_
       refine Af <| Ai fun ds => Aa rfl (Ae Ab) ?_
       refine Ah <| Ad <| A5 <| Bc (A7 (A7 (Bc (A7 ?_))))
       refine Aw rfl (.tmp (Ac) .nil) ?_
       show _ = _
       rw [Dv (i := k) hlt hch]; rfl
      ·
       refine As rfl rfl (Ac) (by first | rfl | exact decide_eq_false (by omega)) ?_
       refine Aa rfl (Ag (Ba rfl <| Ay rfl <| Al rfl <| Ao rfl <| Ba rfl <| Ap rfl <| Ak rfl)) ?_
       refine As rfl rfl (Al rfl <| Ac) (by first | rfl | exact decide_eq_false (by omega)) ?_
       refine Aa rfl (Ag (Ba rfl <| Ay rfl <| Ap rfl <| Au rfl hs3)) ?_
       refine As rfl rfl (Ap rfl <| Ac) (by first | rfl | exact decide_eq_false (by omega)) ?_
       refine Aa rfl (q_indexS Try.underlying9 (Al rfl <| Ac) (Ac) rfl hlt) ?_
       refine As rfl rfl (Ap rfl <| Al rfl <| Ac) (by first | rfl | exact decide_eq_false (by omega)) ?_
       refine Bv rfl (A9 bd_123 Az (.cons (Ac) .nil) (digit_ok _) (fun _ _ h => h)) ?_
       refine As rfl rfl (Ay rfl <| Ac) (by first | rfl | exact decide_eq_false (by omega)) ?_
       refine Aa rfl (Cu (Ac)) ?_
       refine As rfl rfl (Ay rfl <| Al rfl <| Ac) (by first | rfl | exact decide_eq_false (by omega)) ?_
       refine Aa rfl (Ag (Ac)) ?_
       by_cases hd : digitB s[k] = true
       ·
        have hch : chOk k s[k] = true := by unfold chOk; rw [hd]; simp [hz]
        refine At rfl rfl (Ac) (.inl (congrArg Value.bool (by first | rfl | (simp [hd]; done)))) rfl ?_
        refine At rfl rfl (Al rfl <| Ac) (.inl (congrArg Value.bool (by first | rfl | (simp [hd]; done)))) rfl ?_
        refine At rfl rfl (Ap rfl <| Ac) (.inl (congrArg Value.bool (by first | rfl | (simp [hd]; done)))) rfl ?_
        refine At rfl rfl (Ap rfl <| Al rfl <| Ac) (.inl (congrArg Value.bool (by first | rfl | (simp [hd]; done)))) rfl ?_
        refine As rfl rfl (Ba rfl <| Ap rfl <| Ac) (by first | rfl | exact decide_eq_false (by omega)) ?_
        refine Aa rfl (A8 (Ay rfl <| Ac) (by first | rfl | (simp [hd]; done)) Ab) ?_
        refine As rfl rfl (Ba rfl <| Ay rfl <| Ap rfl <| Ac) (by first | rfl | (simp [hl]; done)) ?_
        refine Aa rfl (A8 (Ba rfl <| Ap rfl <| Al rfl <| Ac) (by first | rfl | exact decide_eq_false (by omega)) (Ac)) ?_
        refine Aa rfl (A6 (Ba rfl <| Ay rfl <| Ap rfl <| Al rfl <| Ac) (by first | rfl | (simp [hl]; done)) (Ac)) ?_
        refine Ah <| Ad <| Am (Ac) (by first | rfl | (simp [hd]; done)) ?_
        refine Ax <| Bh <| Ad <| Ai fun ds => Aa rfl (Ag (Bb rfl <| Ba rfl <| Ap rfl <| Au rfl hs3)) ?_
        refine Aa rfl (B3 (Ac) Ab rfl (by omega) (by omega)) ?_
        refine Aa rfl (Ae (Ac)) ?_
        refine Ah <| Ad ⟨_, m - 1, Off.eq (C5 rfl <| Ei rfl <| ou4 rfl <| Eu rfl <| Bj), by omega, ?_⟩
        refine ⟨k + 1, by omega, (Ac), rfl, fun j hj hjk => ?_⟩
        rcases Nat.lt_succ_iff_lt_or_eq.1 hjk with hjk | rfl
        · exact hno j hj hjk
        · exact hch
       ·
        replace hd : digitB s[k] = false := by simpa using hd
        refine As rfl rfl (Ac) (by first | rfl | (simp [hd]; done)) ?_
        refine Aa rfl (Ag (Bb rfl <| Ap rfl <| Al rfl <| Ao rfl <| Ba rfl <| Ap rfl <| Ak rfl)) ?_
        refine As rfl rfl (Al rfl <| Ac) (by first | rfl | (simp [hd]; done)) ?_
        refine Aa rfl (Ag (Bb rfl <| Ay rfl <| Au rfl hs3)) ?_
        refine As rfl rfl (Ap rfl <| Ac) (by first | rfl | (simp [hd]; done)) ?_
        refine Aa rfl (q_indexS Try.underlying9 (Al rfl <| Ac) (Ac) rfl hlt) ?_
        refine As rfl rfl (Ap rfl <| Al rfl <| Ac) (by first | rfl | (simp [hd]; done)) ?_
        refine Aa rfl (B5 (Ac) Ab) ?_
        refine As rfl rfl (Ba rfl <| Ap rfl <| Ac) (by first | rfl | exact decide_eq_false (by omega)) ?_
        refine Aa rfl (A6 (Ay rfl <| Ac) (by first | rfl | (simp [hd]; done)) (Ac)) ?_
        refine As rfl rfl (Ba rfl <| Ay rfl <| Ap rfl <| Ac) (by first | rfl | (simp [hl]; done)) ?_
        refine Aa rfl (A8 (Ba rfl <| Ap rfl <| Al rfl <| Ac) (by first | rfl | exact decide_eq_false (by omega)) (Ac)) ?_
        refine Aa rfl (A6 (Ba rfl <| Ay rfl <| Ap rfl <| Al rfl <| Ac) (by first | rfl | (simp [hl]; done)) (Ac)) ?_
        refine Ah <| Ad ?_
        by_cases hp : (s[k].toNat : Int) = 46
        ·
         have hch : chOk k s[k] = true := by unfold chOk; simp [hz, hp]
         refine Am (Ac) (by first | rfl | exact decide_eq_false (by omega)) ?_
         refine Ax <| Bh <| Ad <| Ai fun ds => Aa rfl (Ag (Bb rfl <| Ba rfl <| Ap rfl <| Au rfl hs3)) ?_
         refine Aa rfl (B3 (Ac) Ab rfl (by omega) (by omega)) ?_
         refine Aa rfl (Ae (Ac)) ?_
         refine Ah <| Ad ⟨_, m - 1, Off.eq (C5 rfl <| Ei rfl <| ou4 rfl <| Eu rfl <| Bj), by omega, ?_⟩
         refine ⟨k + 1, by omega, (Ac), rfl, fun j hj hjk => ?_⟩
         rcases Nat.lt_succ_iff_lt_or_eq.1 hjk with hjk | rfl
         · exact hno j hj hjk
         · exact hch
        ·
         have hch : chOk k s[k] = false := by unfold chOk; simp [hl, hd, hp]
         refine Ar (Ac) (by first | rfl | exact decide_eq_true (by omega)) ?_
         refine Af <| Ai fun ds => Aa rfl (Ae Ab) ?_
         refine Ah <| Ad <| A5 <| Bc (A7 (A7 (Bc (A7 ?_))))
         refine Aw rfl (.tmp (Ac) .nil) ?_
         show _ = _
         rw [Dv (i := k) hlt hch]; rfl
    ·
     refine Af <| Af <| Ai fun ds => Aa rfl (Ag (Au rfl hs3)) ?_
     refine Aa rfl (Ag (Al rfl <| Ao rfl <| Ba rfl <| Ap rfl <| Ak rfl)) ?_
     refine Aa rfl (q_lenS Try.underlying9 (Ac)) ?_
     refine Aa rfl (B0 (Ap rfl <| Ac) (Ac)) ?_
     refine Ah <| Ad <| Am (Ac) (by first | rfl | exact decide_eq_false (by omega)) ?_
     refine Bx ?_
     refine Bk <| Bk <| Bn <| Ad <| Af <| Ai fun ds => Aa rfl (Ae Ab) ?_
     refine Ah <| Ad <| A5 <| Aw rfl (.tmp (Ac) .nil) ?_
     show _ = _
     rw [nameOk_true (by omega) (by omega) fun j hj => hno j hj (by omega)]; rfl
set_option maxRecDepth 100000 in
theorem quireName_ok {F : Heap} (s : ByteArray) : Ok Try.prog 55 [.string s].toArray F fun r _ => r = .bool (nameOk s) := by
 refine Ok.intro Try.func55 rfl Try.ntmps55 rfl fun w0 => ?_
 refine Af <| Ai fun ds => Aa rfl (Ae Ab) ?_
 refine Ah <| Ad <| Af <| Af <| Ai fun ds => Aa rfl (Ag (Al rfl <| Ak rfl)) ?_
 refine Bl rfl (x_rangeS Try.underlying9 (Ac) fun b1 hb1 nb1 => ?_)
 refine Ah <| Ad <| A4 <| B4 [2, 3, 4, 7, 8, 9, 10, 11, 12, 13, 14, 15, 16, 17, 18, 19, 20, 21, 22, 23, 24, 25, 26, 27, 28, 29, 30, 31, 32] (fun m e σ => ∃ k : Nat, m + k = s.size ∧ σ = ⟨F, [(b1, .stringIter s k)]⟩ ∧ ∀ j (hj : j < s.size), j < k → chOk j s[j] = true) (s.size) ?_ ?_
 · exact ⟨0, by omega, rfl, fun j hj h => absurd h (by omega)⟩
 ·
  rintro m e _ ⟨k, hm, rfl, hno⟩
  by_cases hlt : k < s.size
  ·
   by_cases ha : s[k].toNat < 128
   ·
    have hdec := decode_ascii s k hlt ha
    refine Af <| Ai fun ds => Bl rfl (x_nextS (Ao rfl <| Ac) (i := 0) rfl hlt hdec (.here) ?_)
    refine Aa rfl (A1 (Ac) rfl) ?_
    refine Ah <| Ad <| Af <| Ar (Ac) rfl ?_
    by_cases hl1 : 97 ≤ (s[k].toNat : Int)
    ·
     refine Ax <| Ad <| A4 <| Af <| Ai fun ds => Aa rfl (A1 (Al rfl <| Ac) rfl) ?_
     refine Aa rfl (A1 (Ap rfl <| Ac) rfl) ?_
     refine Aa rfl (Ae (Al rfl <| Ac)) ?_
     refine Aa rfl (Ae (Al rfl <| Ac)) ?_
     refine Ah <| Ad <| A4 <| Af <| Ai fun ds => Aa rfl (Ag (Ac)) ?_
     refine Aa rfl (Dp (Ac) Ab) ?_
     refine Aa rfl (Ag (Ac)) ?_
     refine As rfl rfl (Ac) (by first | rfl | exact decide_eq_true (by omega)) ?_
     refine Aa rfl (Ag (Ap rfl <| Al rfl <| Ac)) ?_
     refine As rfl rfl (Al rfl <| Ac) (by first | rfl | exact decide_eq_true (by omega)) ?_
     refine Aa rfl (q_leq (Ac) Ab) ?_
     refine Aa rfl (A6 (Ap rfl <| Ac) (by first | rfl | exact decide_eq_true (by omega)) (Ac)) ?_
     refine Aa rfl (Ae (Ac)) ?_
     refine Ah <| Ad ?_
     by_cases hl2 : (s[k].toNat : Int) ≤ 122
     ·
      have hch : chOk k s[k] = true := by unfold chOk letterB digitB; simp; omega
      refine Ar (Ac) (by first | rfl | exact decide_eq_true (by omega)) ?_
      refine Ax <| Bh (Bh ?_)
      refine Ad ⟨_, m - 1, Off.eq (Ei rfl <| ou4 rfl <| Eu rfl <| Bj), by omega, ?_⟩
      refine ⟨k + 1, by omega, rfl, fun j hj hjk => ?_⟩
      rcases Nat.lt_succ_iff_lt_or_eq.1 hjk with hjk | rfl
      · exact hno j hj hjk
      · exact hch
     ·
      refine Am (Ac) (by first | rfl | exact decide_eq_false (by omega)) ?_
      by_cases hz : k = 0
      ·
       refine Af <| Ai fun ds => Aa rfl (Ag (Ba rfl <| Ac)) ?_
       refine Aa rfl (Cl (Ac) Ab) ?_
       refine Aa rfl (Ag (Ac)) ?_
       refine At rfl rfl (Ac) (.inl (congrArg Value.bool (by first | rfl | exact decide_eq_false (by omega)))) rfl ?_
       refine At rfl rfl (Al rfl <| Ac) (.inl (congrArg Value.bool (by first | rfl | exact decide_eq_false (by omega)))) rfl ?_
       refine At rfl rfl (Ap rfl <| Ac) (.inl (congrArg Value.bool (by first | rfl | exact decide_eq_false (by omega)))) rfl ?_
       refine At rfl rfl (Ac) (.inr rfl) rfl ?_
       refine At rfl rfl (Al rfl <| Ac) (.inr rfl) rfl ?_
       refine At rfl rfl (Ay rfl <| Al rfl <| Ac) (.inl (congrArg Value.bool (by first | rfl | exact decide_eq_false (by omega)))) rfl ?_
       refine At rfl rfl (Ay rfl <| Ap rfl <| Ac) (.inl (congrArg Value.bool (by first | rfl | exact decide_eq_false (by omega)))) rfl ?_
       refine At rfl rfl (Ac) (.inr rfl) rfl ?_
       refine At rfl rfl (Al rfl <| Ac) (.inr rfl) rfl ?_
       refine At rfl rfl (Ba rfl <| Al rfl <| Ac) (.inl (congrArg Value.bool (by first | rfl | exact decide_eq_false (by omega)))) rfl ?_
       refine Aa rfl (A8 (Ba rfl <| Ap rfl <| Ac) (by first | rfl | exact decide_eq_false (by omega)) Ab) ?_
       refine Aa rfl (Ae (Ac)) ?_
       refine Ah <| Ad ?_
       have hch : chOk k s[k] = false := by unfold chOk letterB digitB; simp; omega
       refine Am (Ac) (by first | rfl | exact decide_eq_false (by omega)) ?_
       refine Af <| Ai fun ds => Aa rfl (Ae Ab) ?_
       refine Ah <| Ad <| A5 <| Bc (Bc (A7 (Bc (A7 ?_))))
       refine Aw rfl (.tmp (Ac) .nil) ?_
       show _ = _
       rw [Dv (i := k) hlt hch]; rfl
      ·
       refine Af <| Ai fun ds => Aa rfl (Ag (Ba rfl <| Ac)) ?_
       refine Aa rfl (Cl (Ac) Ab) ?_
       refine Aa rfl (Ag (Ac)) ?_
       refine As rfl rfl (Ac) (by first | rfl | exact decide_eq_true (by omega)) ?_
       refine Aa rfl (Ag (Ba rfl <| Ap rfl <| Ac)) ?_
       refine As rfl rfl (Al rfl <| Ac) (by first | rfl | exact decide_eq_true (by omega)) ?_
       refine Aa rfl (Dp (Ac) Ab) ?_
       refine As rfl rfl (Ap rfl <| Ac) (by first | rfl | exact decide_eq_true (by omega)) ?_
       refine Aa rfl (Ag (Ac)) ?_
       by_cases hd1 : 48 ≤ (s[k].toNat : Int)
       ·
        refine As rfl rfl (Ac) (by first | rfl | exact decide_eq_true (by omega)) ?_
        refine Aa rfl (Ag (Ba rfl <| Ay rfl <| Al rfl <| Ac)) ?_
        refine As rfl rfl (Al rfl <| Ac) (by first | rfl | exact decide_eq_true (by omega)) ?_
        refine Aa rfl (q_leq (Ac) Ab) ?_
        refine As rfl rfl (Ay rfl <| Al rfl <| Ac) (by first | rfl | exact decide_eq_true (by omega)) ?_
        refine Aa rfl (A6 (Ap rfl <| Ac) (by first | rfl | exact decide_eq_true (by omega)) (Ac)) ?_
        refine As rfl rfl (Ay rfl <| Ap rfl <| Ac) (by first | rfl | exact decide_eq_true (by omega)) ?_
        refine Aa rfl (Ag (Ac)) ?_
        by_cases hd2 : (s[k].toNat : Int) ≤ 57
        ·
         refine At rfl rfl (Ac) (.inl (congrArg Value.bool (by first | rfl | exact decide_eq_true (by omega)))) rfl ?_
         refine At rfl rfl (Al rfl <| Ac) (.inl (congrArg Value.bool (by first | rfl | exact decide_eq_true (by omega)))) rfl ?_
         refine As rfl rfl (Ba rfl <| Al rfl <| Ac) (by first | rfl | exact decide_eq_true (by omega)) ?_
         refine Aa rfl (A6 (Ap rfl <| Ac) (by first | rfl | exact decide_eq_true (by omega)) Ab) ?_
         refine Aa rfl (A6 (Ba rfl <| Ap rfl <| Ac) (by first | rfl | exact decide_eq_true (by omega)) (Ac)) ?_
         refine Aa rfl (Ae (Ac)) ?_
         refine Ah <| Ad ?_
         have hch : chOk k s[k] = true := by unfold chOk letterB digitB; simp; omega
         refine Ar (Ac) (by first | rfl | exact decide_eq_true (by omega)) ?_
         refine Ax <| Bh (Bh ?_)
         refine Ad ⟨_, m - 1, Off.eq (C5 rfl <| Ei rfl <| ou4 rfl <| Bj), by omega, ?_⟩
         refine ⟨k + 1, by omega, rfl, fun j hj hjk => ?_⟩
         rcases Nat.lt_succ_iff_lt_or_eq.1 hjk with hjk | rfl
         · exact hno j hj hjk
         · exact hch
        ·
         refine As rfl rfl (Ac) (by first | rfl | exact decide_eq_false (by omega)) ?_
         refine Aa rfl (Ag (Bb rfl <| Al rfl <| Ac)) ?_
         refine As rfl rfl (Al rfl <| Ac) (by first | rfl | exact decide_eq_false (by omega)) ?_
         refine Aa rfl (B9 (Ac) Ab) ?_
         refine As rfl rfl (Ba rfl <| Al rfl <| Ac) (by first | rfl | exact decide_eq_true (by omega)) ?_
         refine Aa rfl (A8 (Ap rfl <| Ac) (by first | rfl | exact decide_eq_false (by omega)) (Ac)) ?_
         refine Aa rfl (A6 (Ba rfl <| Ap rfl <| Ac) (by first | rfl | exact decide_eq_true (by omega)) (Ac)) ?_
         refine Aa rfl (Ae (Ac)) ?_
         refine Ah <| Ad ?_
         by_cases hp : (s[k].toNat : Int) = 46
         ·
          have hch : chOk k s[k] = true := by unfold chOk letterB digitB; simp; omega
          refine Ar (Ac) (by first | rfl | exact decide_eq_true (by omega)) ?_
          refine Ax <| Bh (Bh ?_)
          refine Ad ⟨_, m - 1, Off.eq (C5 rfl <| Ei rfl <| ou4 rfl <| Bj), by omega, ?_⟩
          refine ⟨k + 1, by omega, rfl, fun j hj hjk => ?_⟩
          rcases Nat.lt_succ_iff_lt_or_eq.1 hjk with hjk | rfl
          · exact hno j hj hjk
          · exact hch
         ·
          have hch : chOk k s[k] = false := by unfold chOk letterB digitB; simp; omega
          refine Am (Ac) (by first | rfl | exact decide_eq_false (by omega)) ?_
          refine Af <| Ai fun ds => Aa rfl (Ae Ab) ?_
          refine Ah <| Ad <| A5 <| Bc (Bc (A7 (Bc (A7 ?_))))
          refine Aw rfl (.tmp (Ac) .nil) ?_
          show _ = _
          rw [Dv (i := k) hlt hch]; rfl
       ·
        refine At rfl rfl (Ac) (.inl (congrArg Value.bool (by first | rfl | exact decide_eq_false (by omega)))) rfl ?_
        refine At rfl rfl (Al rfl <| Ac) (.inl (congrArg Value.bool (by first | rfl | exact decide_eq_false (by omega)))) rfl ?_
        refine As rfl rfl (Ay rfl <| Al rfl <| Ac) (by first | rfl | exact decide_eq_true (by omega)) ?_
        refine Aa rfl (A8 (Ap rfl <| Ac) (by first | rfl | exact decide_eq_false (by omega)) Ab) ?_
        refine As rfl rfl (Ay rfl <| Ap rfl <| Ac) (by first | rfl | exact decide_eq_true (by omega)) ?_
        refine Aa rfl (Ag (Ac)) ?_
        refine As rfl rfl (Ac) (by first | rfl | exact decide_eq_false (by omega)) ?_
        refine Aa rfl (Ag (Bb rfl <| Al rfl <| Ac)) ?_
        refine As rfl rfl (Al rfl <| Ac) (by first | rfl | exact decide_eq_false (by omega)) ?_
        refine Aa rfl (B9 (Ac) Ab) ?_
        refine As rfl rfl (Ba rfl <| Al rfl <| Ac) (by first | rfl | exact decide_eq_true (by omega)) ?_
        refine Aa rfl (A8 (Ap rfl <| Ac) (by first | rfl | exact decide_eq_false (by omega)) (Ac)) ?_
        refine Aa rfl (A6 (Ba rfl <| Ap rfl <| Ac) (by first | rfl | exact decide_eq_true (by omega)) (Ac)) ?_
        refine Aa rfl (Ae (Ac)) ?_
        refine Ah <| Ad ?_
        by_cases hp : (s[k].toNat : Int) = 46
        ·
         have hch : chOk k s[k] = true := by unfold chOk letterB digitB; simp; omega
         refine Ar (Ac) (by first | rfl | exact decide_eq_true (by omega)) ?_
         refine Ax <| Bh (Bh ?_)
         refine Ad ⟨_, m - 1, Off.eq (C5 rfl <| Ei rfl <| ou4 rfl <| Bj), by omega, ?_⟩
         refine ⟨k + 1, by omega, rfl, fun j hj hjk => ?_⟩
         rcases Nat.lt_succ_iff_lt_or_eq.1 hjk with hjk | rfl
         · exact hno j hj hjk
         · exact hch
        ·
         have hch : chOk k s[k] = false := by unfold chOk letterB digitB; simp; omega
         refine Am (Ac) (by first | rfl | exact decide_eq_false (by omega)) ?_
         refine Af <| Ai fun ds => Aa rfl (Ae Ab) ?_
         refine Ah <| Ad <| A5 <| Bc (Bc (A7 (Bc (A7 ?_))))
         refine Aw rfl (.tmp (Ac) .nil) ?_
         show _ = _
         rw [Dv (i := k) hlt hch]; rfl
    ·
     refine Ax <| Ad <| A4 <| Af <| Ai fun ds => Aa rfl (A1 (Al rfl <| Ac) rfl) ?_
     refine Aa rfl (A1 (Ap rfl <| Ac) rfl) ?_
     refine Aa rfl (Ae (Al rfl <| Ac)) ?_
     refine Aa rfl (Ae (Al rfl <| Ac)) ?_
     refine Ah <| Ad <| A4 <| Af <| Ai fun ds => Aa rfl (Ag (Ac)) ?_
     refine Aa rfl (Dp (Ac) Ab) ?_
     refine Aa rfl (Ag (Ac)) ?_
     refine At rfl rfl (Ac) (.inl (congrArg Value.bool (by first | rfl | exact decide_eq_false (by omega)))) rfl ?_
     refine At rfl rfl (Al rfl <| Ac) (.inl (congrArg Value.bool (by first | rfl | exact decide_eq_false (by omega)))) rfl ?_
     refine Aa rfl (A8 (Ap rfl <| Ac) (by first | rfl | exact decide_eq_false (by omega)) Ab) ?_
     refine Aa rfl (Ae (Ac)) ?_
     refine Ah <| Ad <| Am (Ac) (by first | rfl | exact decide_eq_false (by omega)) ?_
     by_cases hz : k = 0
     ·
      refine Af <| Ai fun ds => Aa rfl (Ag (Ba rfl <| Ac)) ?_
      refine Aa rfl (Cl (Ac) Ab) ?_
      refine Aa rfl (Ag (Ac)) ?_
      refine At rfl rfl (Ac) (.inl (congrArg Value.bool (by first | rfl | exact decide_eq_false (by omega)))) rfl ?_
      refine At rfl rfl (Al rfl <| Ac) (.inl (congrArg Value.bool (by first | rfl | exact decide_eq_false (by omega)))) rfl ?_
      refine At rfl rfl (Ap rfl <| Ac) (.inl (congrArg Value.bool (by first | rfl | exact decide_eq_false (by omega)))) rfl ?_
      refine At rfl rfl (Ac) (.inr rfl) rfl ?_
      refine At rfl rfl (Al rfl <| Ac) (.inr rfl) rfl ?_
      refine At rfl rfl (Ay rfl <| Al rfl <| Ac) (.inl (congrArg Value.bool (by first | rfl | exact decide_eq_false (by omega)))) rfl ?_
      refine At rfl rfl (Ay rfl <| Ap rfl <| Ac) (.inl (congrArg Value.bool (by first | rfl | exact decide_eq_false (by omega)))) rfl ?_
      refine At rfl rfl (Ac) (.inr rfl) rfl ?_
      refine At rfl rfl (Al rfl <| Ac) (.inr rfl) rfl ?_
      refine At rfl rfl (Ba rfl <| Al rfl <| Ac) (.inl (congrArg Value.bool (by first | rfl | exact decide_eq_false (by omega)))) rfl ?_
      refine Aa rfl (A8 (Ba rfl <| Ap rfl <| Ac) (by first | rfl | exact decide_eq_false (by omega)) Ab) ?_
      refine Aa rfl (Ae (Ac)) ?_
      refine Ah <| Ad ?_
      have hch : chOk k s[k] = false := by unfold chOk letterB digitB; simp; omega
      refine Am (Ac) (by first | rfl | exact decide_eq_false (by omega)) ?_
      refine Af <| Ai fun ds => Aa rfl (Ae Ab) ?_
      refine Ah <| Ad <| A5 <| Bc (Bc (A7 (Bc (A7 ?_))))
      refine Aw rfl (.tmp (Ac) .nil) ?_
      show _ = _
      rw [Dv (i := k) hlt hch]; rfl
     ·
      refine Af <| Ai fun ds => Aa rfl (Ag (Ba rfl <| Ac)) ?_
      refine Aa rfl (Cl (Ac) Ab) ?_
      refine Aa rfl (Ag (Ac)) ?_
      refine As rfl rfl (Ac) (by first | rfl | exact decide_eq_true (by omega)) ?_
      refine Aa rfl (Ag (Ba rfl <| Ap rfl <| Ac)) ?_
      refine As rfl rfl (Al rfl <| Ac) (by first | rfl | exact decide_eq_true (by omega)) ?_
      refine Aa rfl (Dp (Ac) Ab) ?_
      refine As rfl rfl (Ap rfl <| Ac) (by first | rfl | exact decide_eq_true (by omega)) ?_
      refine Aa rfl (Ag (Ac)) ?_
      by_cases hd1 : 48 ≤ (s[k].toNat : Int)
      ·
       refine As rfl rfl (Ac) (by first | rfl | exact decide_eq_true (by omega)) ?_
       refine Aa rfl (Ag (Ba rfl <| Ay rfl <| Al rfl <| Ac)) ?_
       refine As rfl rfl (Al rfl <| Ac) (by first | rfl | exact decide_eq_true (by omega)) ?_
       refine Aa rfl (q_leq (Ac) Ab) ?_
       refine As rfl rfl (Ay rfl <| Al rfl <| Ac) (by first | rfl | exact decide_eq_true (by omega)) ?_
       refine Aa rfl (A6 (Ap rfl <| Ac) (by first | rfl | exact decide_eq_true (by omega)) (Ac)) ?_
       refine As rfl rfl (Ay rfl <| Ap rfl <| Ac) (by first | rfl | exact decide_eq_true (by omega)) ?_
       refine Aa rfl (Ag (Ac)) ?_
       by_cases hd2 : (s[k].toNat : Int) ≤ 57
       ·
        refine At rfl rfl (Ac) (.inl (congrArg Value.bool (by first | rfl | exact decide_eq_true (by omega)))) rfl ?_
        refine At rfl rfl (Al rfl <| Ac) (.inl (congrArg Value.bool (by first | rfl | exact decide_eq_true (by omega)))) rfl ?_
        refine As rfl rfl (Ba rfl <| Al rfl <| Ac) (by first | rfl | exact decide_eq_true (by omega)) ?_
        refine Aa rfl (A6 (Ap rfl <| Ac) (by first | rfl | exact decide_eq_true (by omega)) Ab) ?_
        refine Aa rfl (A6 (Ba rfl <| Ap rfl <| Ac) (by first | rfl | exact decide_eq_true (by omega)) (Ac)) ?_
        refine Aa rfl (Ae (Ac)) ?_
        refine Ah <| Ad ?_
        have hch : chOk k s[k] = true := by unfold chOk letterB digitB; simp; omega
        refine Ar (Ac) (by first | rfl | exact decide_eq_true (by omega)) ?_
        refine Ax <| Bh (Bh ?_)
        refine Ad ⟨_, m - 1, Off.eq (C5 rfl <| Ei rfl <| ou4 rfl <| Bj), by omega, ?_⟩
        refine ⟨k + 1, by omega, rfl, fun j hj hjk => ?_⟩
        rcases Nat.lt_succ_iff_lt_or_eq.1 hjk with hjk | rfl
        · exact hno j hj hjk
        · exact hch
       ·
        refine As rfl rfl (Ac) (by first | rfl | exact decide_eq_false (by omega)) ?_
        refine Aa rfl (Ag (Bb rfl <| Al rfl <| Ac)) ?_
        refine As rfl rfl (Al rfl <| Ac) (by first | rfl | exact decide_eq_false (by omega)) ?_
        refine Aa rfl (B9 (Ac) Ab) ?_
        refine As rfl rfl (Ba rfl <| Al rfl <| Ac) (by first | rfl | exact decide_eq_true (by omega)) ?_
        refine Aa rfl (A8 (Ap rfl <| Ac) (by first | rfl | exact decide_eq_false (by omega)) (Ac)) ?_
        refine Aa rfl (A6 (Ba rfl <| Ap rfl <| Ac) (by first | rfl | exact decide_eq_true (by omega)) (Ac)) ?_
        refine Aa rfl (Ae (Ac)) ?_
        refine Ah <| Ad ?_
        by_cases hp : (s[k].toNat : Int) = 46
        ·
         have hch : chOk k s[k] = true := by unfold chOk letterB digitB; simp; omega
         refine Ar (Ac) (by first | rfl | exact decide_eq_true (by omega)) ?_
         refine Ax <| Bh (Bh ?_)
         refine Ad ⟨_, m - 1, Off.eq (C5 rfl <| Ei rfl <| ou4 rfl <| Bj), by omega, ?_⟩
         refine ⟨k + 1, by omega, rfl, fun j hj hjk => ?_⟩
         rcases Nat.lt_succ_iff_lt_or_eq.1 hjk with hjk | rfl
         · exact hno j hj hjk
         · exact hch
        ·
         have hch : chOk k s[k] = false := by unfold chOk letterB digitB; simp; omega
         refine Am (Ac) (by first | rfl | exact decide_eq_false (by omega)) ?_
         refine Af <| Ai fun ds => Aa rfl (Ae Ab) ?_
         refine Ah <| Ad <| A5 <| Bc (Bc (A7 (Bc (A7 ?_))))
         refine Aw rfl (.tmp (Ac) .nil) ?_
         show _ = _
         rw [Dv (i := k) hlt hch]; rfl
      ·
       refine At rfl rfl (Ac) (.inl (congrArg Value.bool (by first | rfl | exact decide_eq_false (by omega)))) rfl ?_
       refine At rfl rfl (Al rfl <| Ac) (.inl (congrArg Value.bool (by first | rfl | exact decide_eq_false (by omega)))) rfl ?_
       refine As rfl rfl (Ay rfl <| Al rfl <| Ac) (by first | rfl | exact decide_eq_true (by omega)) ?_
       refine Aa rfl (A8 (Ap rfl <| Ac) (by first | rfl | exact decide_eq_false (by omega)) Ab) ?_
       refine As rfl rfl (Ay rfl <| Ap rfl <| Ac) (by first | rfl | exact decide_eq_true (by omega)) ?_
       refine Aa rfl (Ag (Ac)) ?_
       refine As rfl rfl (Ac) (by first | rfl | exact decide_eq_false (by omega)) ?_
       refine Aa rfl (Ag (Bb rfl <| Al rfl <| Ac)) ?_
       refine As rfl rfl (Al rfl <| Ac) (by first | rfl | exact decide_eq_false (by omega)) ?_
       refine Aa rfl (B9 (Ac) Ab) ?_
       refine As rfl rfl (Ba rfl <| Al rfl <| Ac) (by first | rfl | exact decide_eq_true (by omega)) ?_
       refine Aa rfl (A8 (Ap rfl <| Ac) (by first | rfl | exact decide_eq_false (by omega)) (Ac)) ?_
       refine Aa rfl (A6 (Ba rfl <| Ap rfl <| Ac) (by first | rfl | exact decide_eq_true (by omega)) (Ac)) ?_
       refine Aa rfl (Ae (Ac)) ?_
       refine Ah <| Ad ?_
       by_cases hp : (s[k].toNat : Int) = 46
       ·
        have hch : chOk k s[k] = true := by unfold chOk letterB digitB; simp; omega
        refine Ar (Ac) (by first | rfl | exact decide_eq_true (by omega)) ?_
        refine Ax <| Bh (Bh ?_)
        refine Ad ⟨_, m - 1, Off.eq (C5 rfl <| Ei rfl <| ou4 rfl <| Bj), by omega, ?_⟩
        refine ⟨k + 1, by omega, rfl, fun j hj hjk => ?_⟩
        rcases Nat.lt_succ_iff_lt_or_eq.1 hjk with hjk | rfl
        · exact hno j hj hjk
        · exact hch
       ·
        have hch : chOk k s[k] = false := by unfold chOk letterB digitB; simp; omega
        refine Am (Ac) (by first | rfl | exact decide_eq_false (by omega)) ?_
        refine Af <| Ai fun ds => Aa rfl (Ae Ab) ?_
        refine Ah <| Ad <| A5 <| Bc (Bc (A7 (Bc (A7 ?_))))
        refine Aw rfl (.tmp (Ac) .nil) ?_
        show _ = _
        rw [Dv (i := k) hlt hch]; rfl
   ·
    obtain ⟨rc, wd, hdec⟩ : ∃ rc wd, Utf8.decode s k = (rc, wd) := ⟨_, _, rfl⟩
    have hrc : 128 ≤ rc := by have := decode_high s k hlt (by omega); rw [hdec] at this; exact this
    refine Af <| Ai fun ds => Bl rfl (x_nextS (Ao rfl <| Ac) (i := 0) rfl hlt hdec (.here) ?_)
    refine Aa rfl (A1 (Ac) rfl) ?_
    refine Ah <| Ad <| Af <| Ar (Ac) rfl ?_
    refine Ax <| Ad <| A4 <| Af <| Ai fun ds => Aa rfl (A1 (Al rfl <| Ac) rfl) ?_
    refine Aa rfl (A1 (Ap rfl <| Ac) rfl) ?_
    refine Aa rfl (Ae (Al rfl <| Ac)) ?_
    refine Aa rfl (Ae (Al rfl <| Ac)) ?_
    refine Ah <| Ad <| A4 <| Af <| Ai fun ds => Aa rfl (Ag (Ac)) ?_
    refine Aa rfl (Dp (Ac) Ab) ?_
    refine Aa rfl (Ag (Ac)) ?_
    refine As rfl rfl (Ac) (by first | rfl | exact decide_eq_true (by omega)) ?_
    refine Aa rfl (Ag (Ap rfl <| Al rfl <| Ac)) ?_
    refine As rfl rfl (Al rfl <| Ac) (by first | rfl | exact decide_eq_true (by omega)) ?_
    refine Aa rfl (q_leq (Ac) Ab) ?_
    refine Aa rfl (A6 (Ap rfl <| Ac) (by first | rfl | exact decide_eq_true (by omega)) (Ac)) ?_
    refine Aa rfl (Ae (Ac)) ?_
    refine Ah <| Ad <| Am (Ac) (by first | rfl | exact decide_eq_false (by omega)) ?_
    have hch : chOk k s[k] = false := by unfold chOk letterB digitB; simp; omega
    by_cases hz : k = 0
    ·
     refine Af <| Ai fun ds => Aa rfl (Ag (Ba rfl <| Ac)) ?_
     refine Aa rfl (Cl (Ac) Ab) ?_
     refine Aa rfl (Ag (Ac)) ?_
     refine At rfl rfl (Ac) (.inl (congrArg Value.bool (by first | rfl | exact decide_eq_false (by omega)))) rfl ?_
     refine At rfl rfl (Al rfl <| Ac) (.inl (congrArg Value.bool (by first | rfl | exact decide_eq_false (by omega)))) rfl ?_
     refine At rfl rfl (Ap rfl <| Ac) (.inl (congrArg Value.bool (by first | rfl | exact decide_eq_false (by omega)))) rfl ?_
     refine At rfl rfl (Ac) (.inr rfl) rfl ?_
     refine At rfl rfl (Al rfl <| Ac) (.inr rfl) rfl ?_
     refine At rfl rfl (Ay rfl <| Al rfl <| Ac) (.inl (congrArg Value.bool (by first | rfl | exact decide_eq_false (by omega)))) rfl ?_
     refine At rfl rfl (Ay rfl <| Ap rfl <| Ac) (.inl (congrArg Value.bool (by first | rfl | exact decide_eq_false (by omega)))) rfl ?_
     refine At rfl rfl (Ac) (.inr rfl) rfl ?_
     refine At rfl rfl (Al rfl <| Ac) (.inr rfl) rfl ?_
     refine At rfl rfl (Ba rfl <| Al rfl <| Ac) (.inl (congrArg Value.bool (by first | rfl | exact decide_eq_false (by omega)))) rfl ?_
     refine Aa rfl (A8 (Ba rfl <| Ap rfl <| Ac) (by first | rfl | exact decide_eq_false (by omega)) Ab) ?_
     refine Aa rfl (Ae (Ac)) ?_
     refine Ah <| Ad <| Am (Ac) (by first | rfl | exact decide_eq_false (by omega)) ?_
     refine Af <| Ai fun ds => Aa rfl (Ae Ab) ?_
     refine Ah <| Ad <| A5 <| Bc (Bc (A7 (Bc (A7 ?_))))
     refine Aw rfl (.tmp (Ac) .nil) ?_
     show _ = _
     rw [Dv (i := k) hlt hch]; rfl
    ·
     refine Af <| Ai fun ds => Aa rfl (Ag (Ba rfl <| Ac)) ?_
     refine Aa rfl (Cl (Ac) Ab) ?_
     refine Aa rfl (Ag (Ac)) ?_
     refine As rfl rfl (Ac) (by first | rfl | exact decide_eq_true (by omega)) ?_
     refine Aa rfl (Ag (Ba rfl <| Ap rfl <| Ac)) ?_
     refine As rfl rfl (Al rfl <| Ac) (by first | rfl | exact decide_eq_true (by omega)) ?_
     refine Aa rfl (Dp (Ac) Ab) ?_
     refine As rfl rfl (Ap rfl <| Ac) (by first | rfl | exact decide_eq_true (by omega)) ?_
     refine Aa rfl (Ag (Ac)) ?_
     refine As rfl rfl (Ac) (by first | rfl | exact decide_eq_true (by omega)) ?_
     refine Aa rfl (Ag (Ba rfl <| Ay rfl <| Al rfl <| Ac)) ?_
     refine As rfl rfl (Al rfl <| Ac) (by first | rfl | exact decide_eq_true (by omega)) ?_
     refine Aa rfl (q_leq (Ac) Ab) ?_
     refine As rfl rfl (Ay rfl <| Al rfl <| Ac) (by first | rfl | exact decide_eq_true (by omega)) ?_
     refine Aa rfl (A6 (Ap rfl <| Ac) (by first | rfl | exact decide_eq_true (by omega)) (Ac)) ?_
     refine As rfl rfl (Ay rfl <| Ap rfl <| Ac) (by first | rfl | exact decide_eq_true (by omega)) ?_
     refine Aa rfl (Ag (Ac)) ?_
     refine As rfl rfl (Ac) (by first | rfl | exact decide_eq_false (by omega)) ?_
     refine Aa rfl (Ag (Bb rfl <| Al rfl <| Ac)) ?_
     refine As rfl rfl (Al rfl <| Ac) (by first | rfl | exact decide_eq_false (by omega)) ?_
     refine Aa rfl (B9 (Ac) Ab) ?_
     refine As rfl rfl (Ba rfl <| Al rfl <| Ac) (by first | rfl | exact decide_eq_true (by omega)) ?_
     refine Aa rfl (A8 (Ap rfl <| Ac) (by first | rfl | exact decide_eq_false (by omega)) (Ac)) ?_
     refine Aa rfl (A6 (Ba rfl <| Ap rfl <| Ac) (by first | rfl | exact decide_eq_true (by omega)) (Ac)) ?_
     refine Aa rfl (Ae (Ac)) ?_
     refine Ah <| Ad <| Am (Ac) (by first | rfl | exact decide_eq_false (by omega)) ?_
     refine Af <| Ai fun ds => Aa rfl (Ae Ab) ?_
     refine Ah <| Ad <| A5 <| Bc (Bc (A7 (Bc (A7 ?_))))
     refine Aw rfl (.tmp (Ac) .nil) ?_
     show _ = _
     rw [Dv (i := k) hlt hch]; rfl
  ·
   refine Af <| Ai fun ds => Bl rfl (x_nextE (Ao rfl <| Ac) (i := 0) rfl hlt ?_)
   refine Aa rfl (A1 (Ac) rfl) ?_
   refine Ah <| Ad <| Af <| Am (Ac) rfl ?_
   by_cases h0 : s.size = 0
   ·
    refine Bx ?_
    refine Bk <| Bk <| Bn <| Ad <| Af <| Ai fun ds => Aa rfl (Ag (Ap rfl <| Ao rfl <| Ap rfl <| Al rfl <| Ak rfl)) ?_
    refine Aa rfl (q_nes (Ac) Ab) ?_
    refine Aa rfl (Ag (Ac)) ?_
    refine At rfl rfl (Ac) (.inl (congrArg Value.bool (by rw [emptyS]; simp [h0]))) rfl ?_
    refine At rfl rfl (Al rfl <| Ac) (.inl (congrArg Value.bool (by rw [emptyS]; simp [h0]))) rfl ?_
    refine At rfl rfl (Ap rfl <| Ac) (.inl (congrArg Value.bool (by rw [emptyS]; simp [h0]))) rfl ?_
    refine Aa rfl (A8 (Ap rfl <| Al rfl <| Ac) (by rw [emptyS]; simp [h0]) Ab) ?_
    refine Aa rfl (Ae (Ac)) ?_
    refine Ah <| Ad <| A5 <| Aw rfl (.tmp (Ac) .nil) ?_
    show _ = _
    rw [nameOk_len (by omega)]; rfl
   ·
    refine Bx ?_
    refine Bk <| Bk <| Bn <| Ad <| Af <| Ai fun ds => Aa rfl (Ag (Ap rfl <| Ao rfl <| Ap rfl <| Al rfl <| Ak rfl)) ?_
    refine Aa rfl (q_nes (Ac) Ab) ?_
    refine Aa rfl (Ag (Ac)) ?_
    refine As rfl rfl (Ac) (by rw [emptyS]; simp [h0]) ?_
    refine Aa rfl (Ag (Ay rfl <| Al rfl <| Ao rfl <| Ap rfl <| Al rfl <| Ak rfl)) ?_
    refine As rfl rfl (Al rfl <| Ac) (by rw [emptyS]; simp [h0]) ?_
    refine Aa rfl (q_lenS Try.underlying9 (Ac)) ?_
    refine As rfl rfl (Ap rfl <| Ac) (by rw [emptyS]; simp [h0]) ?_
    refine Aa rfl (q_leq (Ac) Ab) ?_
    refine Aa rfl (A6 (Ap rfl <| Al rfl <| Ac) (by rw [emptyS]; simp [h0]) (Ac)) ?_
    refine Aa rfl (Ae (Ac)) ?_
    refine Ah <| Ad ?_
    by_cases h16 : (s.size : Int) ≤ 16
    ·
     refine A5 <| Aw rfl (.tmp (Ac) .nil) ?_
     show _ = _
     rw [nameOk_true (by omega) (by omega) fun j hj => hno j hj (by omega)]; simp [outOf, h16]
    ·
     refine A5 <| Aw rfl (.tmp (Ac) .nil) ?_
     show _ = _
     rw [nameOk_len (by omega)]; simp [outOf, h16]
set_option maxRecDepth 100000 in
theorem place_ok {F : Heap} {v : Value} {xs : List ByteArray} (h : Sl F v 1 strE xs) (wd : ByteArray) : Ok Try.prog 114 [v, .string wd].toArray F fun r _ => r = .int .i64 (findI (fun x => sameS x wd) xs) := by
 refine Ok.intro Try.func114 rfl Try.ntmps114 rfl fun w0 => ?_
 have hlen := h.plain.lt
 refine Af <| Ai fun ds => Aa rfl (Ae Ab) ?_
 refine Ah <| Ad <| Af <| Ai fun ds => Aa rfl (Ag (Al rfl <| Ak rfl)) ?_
 refine Aa rfl (Bf Cr (Ac) h.plain) ?_
 refine Aa rfl (Dh (Ac) Ab rfl (by omega) (by omega)) ?_
 refine Aa rfl (Ae (Ac)) ?_
 refine Ah <| Ad <| Af <| A4 <| B4 [5, 10, 11, 12, 13, 14, 15, 16, 17, 18, 19, 20, 21] (fun m e σ => ∃ z : Int, m = (z + 1).toNat ∧ -1 ≤ z ∧ z < xs.length ∧ e 5 = .int .i64 z ∧ σ = ⟨F, []⟩ ∧ ∀ j (hj : j < xs.length), z < j → sameS xs[j] wd = false) (xs.length) ?_ ?_
 · exact ⟨xs.length - 1, by omega, by omega, by omega, (Ac), rfl, fun j hj h => absurd h (by omega)⟩
 ·
  rintro m e _ ⟨z, hm, hz1, hz2, hs5, rfl, hno⟩
  by_cases hz : 0 ≤ z
  ·
   obtain ⟨k, rfl⟩ := Int.eq_ofNat_of_zero_le hz
   have hk : k < xs.length := by omega
   refine Af <| Af <| Ai fun ds => Aa rfl (Ag (Au rfl hs5)) ?_
   refine Aa rfl (Dp (Ac) Ab) ?_
   refine Aa rfl (Ag (Ac)) ?_
   refine As rfl rfl (Ac) (by first | rfl | exact decide_eq_true (by omega)) ?_
   refine Aa rfl (Ag (Ap rfl <| Al rfl <| Ao rfl <| Ay rfl <| Al rfl <| Ak rfl)) ?_
   refine As rfl rfl (Al rfl <| Ac) (by first | rfl | exact decide_eq_true (by omega)) ?_
   refine Aa rfl (Ag (Ay rfl <| Au rfl hs5)) ?_
   refine As rfl rfl (Ap rfl <| Ac) (by first | rfl | exact decide_eq_true (by omega)) ?_
   refine Aa rfl (Be  Cr (Al rfl <| Ac) h.plain (Ac) rfl (by omega)) ?_
   refine As rfl rfl (Ap rfl <| Al rfl <| Ac) (by first | rfl | exact decide_eq_true (by omega)) ?_
   refine Aa rfl (Aq one_9 (Ac) (h.cell1 (by omega) rfl)) ?_
   refine As rfl rfl (Ay rfl <| Ac) (by first | rfl | exact decide_eq_true (by omega)) ?_
   refine Aa rfl (Ag (Ay rfl <| Ap rfl <| Al rfl <| Ao rfl <| Ay rfl <| Al rfl <| Ak rfl)) ?_
   refine As rfl rfl (Ay rfl <| Al rfl <| Ac) (by first | rfl | exact decide_eq_true (by omega)) ?_
   refine Aa rfl (q_nes (Al rfl <| Ac) (Ac)) ?_
   refine Aa rfl (A6 (Ay rfl <| Ap rfl <| Ac) (by first | rfl | exact decide_eq_true (by omega)) (Ac)) ?_
   refine Ah <| Ad ?_
   by_cases hsm : sameS xs[k] wd = true
   ·
    refine Am (Ac) (by simpa [sameS] using hsm) ?_
    refine Bx ?_
    refine Bk <| Bk <| Bn <| Ad <| Af <| Af <| Ai fun ds => Aa rfl (Ae Ab) ?_
    refine Ah <| Ad <| A4 <| B4 [4, 6, 22, 23, 24, 25, 26, 27, 28, 29, 30, 31, 32, 33] (fun m e σ => ∃ q : Nat, m + q = k ∧ e 6 = .int .i64 q ∧ σ = ⟨F, []⟩ ∧ ∀ j (hj : j < xs.length), j < q → sameS xs[j] wd = false) (k) ?_ ?_
    · exact ⟨0, by omega, (Ac), rfl, fun j hj h => absurd h (by omega)⟩
    ·
     rintro m2 e2 _ ⟨q, hm2, ht6, rfl, hno2⟩
     by_cases hq : q < k
     ·
      refine Af <| Af <| Ai fun ds => Aa rfl (Ag (Au rfl ht6)) ?_
      refine Aa rfl (Ag (Al rfl <| Ao rfl <| Ba rfl <| Ap rfl <| Al rfl <| Au rfl hs5)) ?_
      refine Aa rfl (B0 (Al rfl <| Ac) (Ac)) ?_
      refine Ah <| Ad <| Ar (Ac) (by first | rfl | exact decide_eq_true (by omega)) ?_
      by_cases hsq : sameS xs[q] wd = true
      ·
       refine Ax <| Ad <| Af <| A4 <| Af <| Ai fun ds => Aa rfl (Ag (Ap rfl <| Al rfl <| Ao rfl <| Ba rfl <| Ap rfl <| Al rfl <| Ao rfl <| Ay rfl <| Al rfl <| Ak rfl)) ?_
       refine Aa rfl (Ag (Ay rfl <| Au rfl ht6)) ?_
       refine Aa rfl (Be  Cr (Al rfl <| Ac) h.plain (Ac) rfl (by omega)) ?_
       refine Aa rfl (Aq one_9 (Ac) (h.cell1 (by omega) rfl)) ?_
       refine Aa rfl (Ag (Ay rfl <| Ap rfl <| Al rfl <| Ao rfl <| Ba rfl <| Ap rfl <| Al rfl <| Ao rfl <| Ay rfl <| Al rfl <| Ak rfl)) ?_
       refine Aa rfl (q_eqs (Al rfl <| Ac) (Ac)) ?_
       refine Ah <| Ad <| Ar (Ac) hsq ?_
       refine Af <| Ai fun ds => Aa rfl (Ag (Ba rfl <| Al rfl <| Au rfl ht6)) ?_
       refine Aa rfl (Ae (Ac)) ?_
       refine Ah <| Ad <| A5 <| Bc (A7 (A7 (Bc (A7 ?_))))
       refine Aw rfl (.tmp (Ac) .nil) ?_
       show _ = _
       rw [Ex (p := fun x => sameS x wd) (k := q) (by omega) hsq hno2]; rfl
      ·
       replace hsq : sameS xs[q] wd = false := by simpa using hsq
       refine Ax <| Ad <| Af <| A4 <| Af <| Ai fun ds => Aa rfl (Ag (Ap rfl <| Al rfl <| Ao rfl <| Ba rfl <| Ap rfl <| Al rfl <| Ao rfl <| Ay rfl <| Al rfl <| Ak rfl)) ?_
       refine Aa rfl (Ag (Ay rfl <| Au rfl ht6)) ?_
       refine Aa rfl (Be  Cr (Al rfl <| Ac) h.plain (Ac) rfl (by omega)) ?_
       refine Aa rfl (Aq one_9 (Ac) (h.cell1 (by omega) rfl)) ?_
       refine Aa rfl (Ag (Ay rfl <| Ap rfl <| Al rfl <| Ao rfl <| Ba rfl <| Ap rfl <| Al rfl <| Ao rfl <| Ay rfl <| Al rfl <| Ak rfl)) ?_
       refine Aa rfl (q_eqs (Al rfl <| Ac) (Ac)) ?_
       refine Ah <| Ad <| Am (Ac) hsq ?_
       refine Ax <| Bh <| Ad <| Ai fun ds => Aa rfl (Ag (Ba rfl <| Al rfl <| Au rfl ht6)) ?_
       refine Aa rfl (B3 (Ac) Ab rfl (by omega) (by omega)) ?_
       refine Aa rfl (Ae (Ac)) ?_
       refine Ah <| Ad ⟨_, m2 - 1, Off.eq (Ei rfl <| ou4 rfl <| Bj), by omega, ?_⟩
       refine ⟨q + 1, by omega, (Ac), rfl, fun j hj hjk => ?_⟩
       rcases Nat.lt_succ_iff_lt_or_eq.1 hjk with hjk | rfl
       · exact hno2 j hj hjk
       · exact hsq
     ·
      refine Af <| Af <| Ai fun ds => Aa rfl (Ag (Au rfl ht6)) ?_
      refine Aa rfl (Ag (Al rfl <| Ao rfl <| Ba rfl <| Ap rfl <| Al rfl <| Au rfl hs5)) ?_
      refine Aa rfl (B0 (Al rfl <| Ac) (Ac)) ?_
      refine Ah <| Ad <| Am (Ac) (by first | rfl | exact decide_eq_false (by omega)) ?_
      refine Bx ?_
      refine Bk <| Bk <| Bn <| Ad <| Af <| Ai fun ds => Aa rfl (Ag (Ap rfl <| Al rfl <| Ao rfl <| Ba rfl <| Ap rfl <| Al rfl <| Au rfl hs5)) ?_
      refine Aa rfl (Ae (Ac)) ?_
      refine Ah <| Ad <| A5 <| Aw rfl (.tmp (Ac) .nil) ?_
      show _ = _
      rw [Ex (p := fun x => sameS x wd) (k := k) hk hsm (fun j hj hjk => hno2 j hj (by omega))]; rfl
   ·
    replace hsm : sameS xs[k] wd = false := by simpa using hsm
    refine Ar (Ac) (by simpa [sameS] using hsm) ?_
    refine Ax <| Ad <| A4 <| Ai fun ds => Aa rfl (Ag (Ba rfl <| Ap rfl <| Au rfl hs5)) ?_
    refine Aa rfl (Dh (Ac) Ab rfl (by omega) (by omega)) ?_
    refine Aa rfl (Ae (Ac)) ?_
    refine Ah <| Bh ?_
    refine Ad ⟨_, m - 1, Off.eq (Ei rfl <| ou4 rfl <| Eu rfl <| Bj), by omega, ?_⟩
    refine ⟨(k : Int) - 1, by omega, by omega, by omega, (Ac), rfl, fun j hj hjk => ?_⟩
    by_cases hjk2 : j = k
    · subst hjk2; exact hsm
    · exact hno j hj (by omega)
  ·
   refine Af <| Af <| Ai fun ds => Aa rfl (Ag (Au rfl hs5)) ?_
   refine Aa rfl (Dp (Ac) Ab) ?_
   refine Aa rfl (Ag (Ac)) ?_
   refine At rfl rfl (Ac) (.inl (congrArg Value.bool (by first | rfl | exact decide_eq_false (by omega)))) rfl ?_
   refine At rfl rfl (Al rfl <| Ac) (.inl (congrArg Value.bool (by first | rfl | exact decide_eq_false (by omega)))) rfl ?_
   refine At rfl rfl (Ap rfl <| Ac) (.inl (congrArg Value.bool (by first | rfl | exact decide_eq_false (by omega)))) rfl ?_
   refine At rfl rfl (Ap rfl <| Al rfl <| Ac) (.inl (congrArg Value.bool (by first | rfl | exact decide_eq_false (by omega)))) rfl ?_
   refine At rfl rfl (Ay rfl <| Ac) (.inl (congrArg Value.bool (by first | rfl | exact decide_eq_false (by omega)))) rfl ?_
   refine At rfl rfl (Ay rfl <| Al rfl <| Ac) (.inl (congrArg Value.bool (by first | rfl | exact decide_eq_false (by omega)))) rfl ?_
   refine Aa rfl (A8 (Ay rfl <| Ap rfl <| Ac) (by first | rfl | exact decide_eq_false (by omega)) Ab) ?_
   refine Ah <| Ad <| Am (Ac) (by first | rfl | exact decide_eq_false (by omega)) ?_
   refine Bx ?_
   refine Bk <| Bk <| Bn <| Ad <| Af <| Af <| Ai fun ds => Aa rfl (Ae Ab) ?_
   refine Ah <| Ad <| A4 <| B4 [4, 6, 22, 23, 24, 25, 26, 27, 28, 29, 30, 31, 32, 33] (fun m e σ => m = 0 ∧ e 6 = .int .i64 0 ∧ σ = ⟨F, []⟩) (0) ?_ ?_
   · exact ⟨rfl, (Ac), rfl⟩
   ·
    rintro m2 e2 _ ⟨hm2, ht6, rfl⟩
    refine Af <| Af <| Ai fun ds => Aa rfl (Ag (Au rfl ht6)) ?_
    refine Aa rfl (Ag (Al rfl <| Ao rfl <| Ba rfl <| Ap rfl <| Al rfl <| Au rfl hs5)) ?_
    refine Aa rfl (B0 (Al rfl <| Ac) (Ac)) ?_
    refine Ah <| Ad <| Am (Ac) (by first | rfl | exact decide_eq_false (by omega)) ?_
    refine Bx ?_
    refine Bk <| Bk <| Bn <| Ad <| Af <| Ai fun ds => Aa rfl (Ag (Ap rfl <| Al rfl <| Ao rfl <| Ba rfl <| Ap rfl <| Al rfl <| Au rfl hs5)) ?_
    refine Aa rfl (Ae (Ac)) ?_
    refine Ah <| Ad <| A5 <| Aw rfl (.tmp (Ac) .nil) ?_
    show _ = _
    obtain rfl : z = -1 := by omega
    rw [findI_none (p := fun x => sameS x wd) (fun j hj => hno j hj (by omega))]; rfl
set_option maxRecDepth 100000 in
theorem fresh_ok {F : Heap} {v : Value} {xs : List ByteArray} (h : Sl F v 1 strE xs) (wd : ByteArray) : Ok Try.prog 99 [.string wd, v].toArray F fun r _ => r = .int .i64 (freshE wd xs) := by
 refine Ok.intro Try.func99 rfl Try.ntmps99 rfl fun w0 => ?_
 by_cases hp : 0 ≤ findI (fun x => sameS x wd) xs
 ·
  refine Af <| Ai fun ds => Aa rfl (Ae Ab) ?_
  refine Ah <| Ad <| Af <| Ai fun ds => Aa rfl (Ae Ab) ?_
  refine Ah <| Ad <| Af <| Af <| Ai fun ds => Aa rfl (Ag (Ap rfl <| Ak rfl)) ?_
  refine Aa rfl (Ag (Ap rfl <| Al rfl <| Ak rfl)) ?_
  refine Bv rfl (A9 bd_114 Az (.cons (Al rfl <| Ac) (.cons (Ac) .nil)) (place_ok h wd) (fun _ _ h => h)) ?_
  refine Aa rfl (Dp (Ac) Ab) ?_
  refine Ah <| Ad <| Ar (Ac) (by first | rfl | exact decide_eq_true (by omega)) ?_
  by_cases hn : nameOk wd = true
  ·
   refine Ai fun ds => Aa rfl (Ae Ab) ?_
   refine Ah <| Ad <| Af <| Af <| Ai fun ds => Aa rfl (Ag (Ay rfl <| Ap rfl <| Al rfl <| Ak rfl)) ?_
   refine Bv rfl (A9 bd_115 Az (.cons (Ac) .nil) (refName_ok wd) (fun _ _ h => h)) ?_
   refine Aa rfl (Cu (Ac)) ?_
   refine Ah <| Ad <| Am (Ac) (by rw [hn]; rfl) ?_
   refine Ax <| Ad <| Af <| Ai fun ds => Aa rfl (Ag (Ap rfl <| Al rfl <| Ac)) ?_
   refine Aa rfl (Ae (Ac)) ?_
   refine Ah <| Ad <| A5 <| Aw rfl (.tmp (Ac) .nil) ?_
   show _ = _
   simp [outOf, freshE, hn, ← findI_any, hp]
  ·
   refine Ai fun ds => Aa rfl (Ae Ab) ?_
   refine Ah <| Ad <| Af <| Af <| Ai fun ds => Aa rfl (Ag (Ay rfl <| Ap rfl <| Al rfl <| Ak rfl)) ?_
   refine Bv rfl (A9 bd_115 Az (.cons (Ac) .nil) (refName_ok wd) (fun _ _ h => h)) ?_
   refine Aa rfl (Cu (Ac)) ?_
   refine Ah <| Ad <| Ar (Ac) (by simpa using hn) ?_
   refine Ai fun ds => Aa rfl (Ae Ab) ?_
   refine Ah <| Ad <| Af <| Ai fun ds => Aa rfl (Ag (Ac)) ?_
   refine Aa rfl (Ae (Ac)) ?_
   refine Ah <| Ad <| A5 <| Aw rfl (.tmp (Ac) .nil) ?_
   show _ = _
   simp [outOf, freshE, hn]
 ·
  refine Af <| Ai fun ds => Aa rfl (Ae Ab) ?_
  refine Ah <| Ad <| Af <| Ai fun ds => Aa rfl (Ae Ab) ?_
  refine Ah <| Ad <| Af <| Af <| Ai fun ds => Aa rfl (Ag (Ap rfl <| Ak rfl)) ?_
  refine Aa rfl (Ag (Ap rfl <| Al rfl <| Ak rfl)) ?_
  refine Bv rfl (A9 bd_114 Az (.cons (Al rfl <| Ac) (.cons (Ac) .nil)) (place_ok h wd) (fun _ _ h => h)) ?_
  refine Aa rfl (Dp (Ac) Ab) ?_
  refine Ah <| Ad <| Am (Ac) (by first | rfl | exact decide_eq_false (by omega)) ?_
  by_cases hn : nameOk wd = true
  ·
   refine Ax <| Ad <| Af <| Af <| Ai fun ds => Aa rfl (Ag (Ay rfl <| Ap rfl <| Ak rfl)) ?_
   refine Bv rfl (A9 bd_115 Az (.cons (Ac) .nil) (refName_ok wd) (fun _ _ h => h)) ?_
   refine Aa rfl (Cu (Ac)) ?_
   refine Ah <| Ad <| Am (Ac) (by rw [hn]; rfl) ?_
   refine Ax <| Ad <| Af <| Ai fun ds => Aa rfl (Ag (Ay rfl <| Ap rfl <| Al rfl <| Ac)) ?_
   refine Aa rfl (Ae (Ac)) ?_
   refine Ah <| Ad <| A5 <| Aw rfl (.tmp (Ac) .nil) ?_
   show _ = _
   simp [outOf, freshE, hn, ← findI_any, hp]
  ·
   refine Ax <| Ad <| Af <| Af <| Ai fun ds => Aa rfl (Ag (Ay rfl <| Ap rfl <| Ak rfl)) ?_
   refine Bv rfl (A9 bd_115 Az (.cons (Ac) .nil) (refName_ok wd) (fun _ _ h => h)) ?_
   refine Aa rfl (Cu (Ac)) ?_
   refine Ah <| Ad <| Ar (Ac) (by simpa using hn) ?_
   refine Ai fun ds => Aa rfl (Ae Ab) ?_
   refine Ah <| Ad <| Af <| Ai fun ds => Aa rfl (Ag (Ac)) ?_
   refine Aa rfl (Ae (Ac)) ?_
   refine Ah <| Ad <| A5 <| Aw rfl (.tmp (Ac) .nil) ?_
   show _ = _
   simp [outOf, freshE, hn]
set_option maxRecDepth 100000 in
theorem indexInt_ok {F : Heap} {v : Value} {xs : List Int} (h : Ints F v xs) (p : _ → Bool) {g : FuncId} {cs : List Value} (hg : Body Try.prog g) (hp : ∀ k (hk : k < xs.length), Ok Try.prog g ([Value.int .i64 xs[k]] ++ cs).toArray F fun r _ => r = .bool (p xs[k])) : Ok Try.prog 112 [v, .func (.func g) #[] cs.toArray].toArray F fun r _ => r = .int .i64 (findI p xs) := by
 refine Ok.intro Try.func112 rfl Try.ntmps112 rfl fun w0 => ?_
 have hlen := h.plain.lt
 refine Af <| Ai fun ds => Aa rfl (Ae Ab) ?_
 refine Ah <| Ad <| Af <| Af <| Ai fun ds => Aa rfl (Ag (Al rfl <| Ak rfl)) ?_
 refine Aa rfl (Bf Bs (Ac) h.plain) ?_
 refine Aa rfl (Ag Ab) ?_
 refine Ah <| Ad <| A4 <| B4 [4, 5, 8, 9, 10, 11, 12, 13, 14, 15, 16, 17, 18] (fun m e σ => ∃ k : Nat, m + k = xs.length ∧ e 8 = .int .i64 k ∧ σ = ⟨F, []⟩ ∧ ∀ j (hj : j < xs.length), j < k → p xs[j] = false) (xs.length) ?_ ?_
 · exact ⟨0, by omega, (Ac), rfl, fun j hj h => absurd h (by omega)⟩
 ·
  rintro m e _ ⟨k, hm, hs8, rfl, hno⟩
  by_cases hlt : k < xs.length
  ·
   refine Af <| Ai fun ds => Aa rfl (B0 (Au rfl hs8) (Ao rfl <| Al rfl <| Ac)) ?_
   refine Ah <| Ad <| Af <| Ar (Ac) (by first | rfl | exact decide_eq_true (by omega)) ?_
   by_cases hpk : p xs[k] = true
   ·
    refine Ax <| Ad <| Af <| A4 <| Af <| Ai fun ds => Aa rfl (Ag (Al rfl <| Au rfl hs8)) ?_
    refine Aa rfl (Ae (Ac)) ?_
    refine Ah <| Ad <| Af <| Ai fun ds => Aa rfl (Ag (Ap rfl <| Al rfl <| Ao rfl <| Ay rfl <| Ak rfl)) ?_
    refine Aa rfl (Ag (Ay rfl <| Ao rfl <| Ay rfl <| Ak rfl)) ?_
    refine Aa rfl (Ag (Ap rfl <| Ac)) ?_
    refine Aa rfl (Be  Bs (Al rfl <| Ac) h.plain (Ac) rfl (by omega)) ?_
    refine Aa rfl (Aq Bd (Ac) (h.cell1 (by omega) rfl)) ?_
    refine Bv rfl (A9 hg (Ay rfl <| Ac) (.cons (Ac) .nil) (hp k hlt) (fun _ _ h => h)) ?_
    refine Ah <| Ad <| Ar (Ac) hpk ?_
    refine Af <| Ai fun ds => Aa rfl (Ag (Ay rfl <| Ap rfl <| Ac)) ?_
    refine Aa rfl (Ae (Ac)) ?_
    refine Ah <| Ad <| A5 <| Bc (A7 (A7 (Bc (A7 ?_))))
    refine Aw rfl (.tmp (Ac) .nil) ?_
    show _ = _
    rw [Ex hlt hpk hno]; rfl
   ·
    replace hpk : p xs[k] = false := by simpa using hpk
    refine Ax <| Ad <| Af <| A4 <| Af <| Ai fun ds => Aa rfl (Ag (Al rfl <| Au rfl hs8)) ?_
    refine Aa rfl (Ae (Ac)) ?_
    refine Ah <| Ad <| Af <| Ai fun ds => Aa rfl (Ag (Ap rfl <| Al rfl <| Ao rfl <| Ay rfl <| Ak rfl)) ?_
    refine Aa rfl (Ag (Ay rfl <| Ao rfl <| Ay rfl <| Ak rfl)) ?_
    refine Aa rfl (Ag (Ap rfl <| Ac)) ?_
    refine Aa rfl (Be  Bs (Al rfl <| Ac) h.plain (Ac) rfl (by omega)) ?_
    refine Aa rfl (Aq Bd (Ac) (h.cell1 (by omega) rfl)) ?_
    refine Bv rfl (A9 hg (Ay rfl <| Ac) (.cons (Ac) .nil) (hp k hlt) (fun _ _ h => h)) ?_
    refine Ah <| Ad <| Am (Ac) hpk ?_
    refine Ax <| Bh <| Ad <| Ai fun ds => Aa rfl (B3 (Ba rfl <| Al rfl <| Au rfl hs8) Ab rfl (by omega) (by omega)) ?_
    refine Aa rfl (Ag (Ac)) ?_
    refine Ah <| Ad ⟨_, m - 1, Off.eq (Ei rfl <| Et rfl <| Eu rfl <| Bj), by omega, ?_⟩
    refine ⟨k + 1, by omega, (Ac), rfl, fun j hj hjk => ?_⟩
    rcases Nat.lt_succ_iff_lt_or_eq.1 hjk with hjk | rfl
    · exact hno j hj hjk
    · exact hpk
  ·
   refine Af <| Ai fun ds => Aa rfl (B0 (Au rfl hs8) (Ao rfl <| Al rfl <| Ac)) ?_
   refine Ah <| Ad <| Af <| Am (Ac) (by first | rfl | exact decide_eq_false (by omega)) ?_
   refine Bx ?_
   refine Bk <| Bk <| Bn <| Ad <| Af <| Ai fun ds => Aa rfl (Ae Ab) ?_
   refine Ah <| Ad <| A5 <| Aw rfl (.tmp (Ac) .nil) ?_
   show _ = _
   rw [findI_none fun j hj => hno j hj (by omega)]; rfl
set_option maxRecDepth 100000 in
theorem containsInt_ok {F : Heap} {v : Value} {xs : List Int} (h : Ints F v xs) (p : _ → Bool) {g : FuncId} {cs : List Value} (hg : Body Try.prog g) (hp : ∀ k (hk : k < xs.length), Ok Try.prog g ([Value.int .i64 xs[k]] ++ cs).toArray F fun r _ => r = .bool (p xs[k])) : Ok Try.prog 93 [v, .func (.func g) #[] cs.toArray].toArray F fun r _ => r = .bool (xs.any p) := by
 refine Ok.intro Try.func93 rfl Try.ntmps93 rfl fun w0 => ?_
 refine Af <| Ai fun ds => Aa rfl (Ae Ab) ?_
 refine Ah <| Ad <| Af <| Ai fun ds => Aa rfl (Ag (Al rfl <| Ak rfl)) ?_
 refine Aa rfl (Ag (Ap rfl <| Ak rfl)) ?_
 refine Bv rfl (A9 bd_112 Az (.cons (Al rfl <| Ac) (.cons (Ac) .nil)) (indexInt_ok h p hg hp) (fun _ _ h => h)) ?_
 refine Aa rfl (Dp (Ac) Ab) ?_
 refine Aa rfl (Ae (Ac)) ?_
 refine Ah <| Ad <| A5 <| Aw rfl (.tmp (Ac) .nil) ?_
 show _ = _
 rw [← findI_any]; rfl
set_option maxRecDepth 100000 in
theorem outside1_ok {F : Heap} {b1 b2 T1 T2 : Nat} {lo hi : Int} (h1 : F b1 = some (bx T1 [.int .i64 lo])) (h2 : F b2 = some (bx T2 [.int .i64 hi])) (z : Int) : Ok Try.prog 94 [.int .i64 z, .pointer (some ⟨b1, 0, none⟩), .pointer (some ⟨b2, 0, none⟩)].toArray F fun r _ => r = .bool (!(inB lo hi z)) := by
 refine Ok.intro Try.func94 rfl Try.ntmps94 rfl fun w0 => ?_
 by_cases hz : z < lo
 ·
  refine Af <| Ai fun ds => Aa rfl (Ae Ab) ?_
  refine Ah <| Ad <| Af <| Ai fun ds => Aa rfl (Ag (Al rfl <| Ak rfl)) ?_
  refine Aa rfl (Aq Bd (Ap rfl <| Ak rfl) (CellF.own h1 rfl).cell) ?_
  refine Aa rfl (B0 (Al rfl <| Ac) (Ac)) ?_
  refine Aa rfl (Ag (Ac)) ?_
  refine At rfl rfl (Ac) (.inl (congrArg Value.bool (by first | rfl | exact decide_eq_true (by omega)))) rfl ?_
  refine At rfl rfl (Al rfl <| Ac) (.inl (congrArg Value.bool (by first | rfl | exact decide_eq_true (by omega)))) rfl ?_
  refine At rfl rfl (Ap rfl <| Ac) (.inl (congrArg Value.bool (by first | rfl | exact decide_eq_true (by omega)))) rfl ?_
  refine Aa rfl (A6 (Ap rfl <| Al rfl <| Ac) (by first | rfl | exact decide_eq_true (by omega)) Ab) ?_
  refine Aa rfl (Ae (Ac)) ?_
  refine Ah <| Ad <| A5 <| Aw rfl (.tmp (Ac) .nil) ?_
  show _ = _
  have : ¬ lo ≤ z := by omega
  simp [outOf, inB, this]
 ·
  refine Af <| Ai fun ds => Aa rfl (Ae Ab) ?_
  refine Ah <| Ad <| Af <| Ai fun ds => Aa rfl (Ag (Al rfl <| Ak rfl)) ?_
  refine Aa rfl (Aq Bd (Ap rfl <| Ak rfl) (CellF.own h1 rfl).cell) ?_
  refine Aa rfl (B0 (Al rfl <| Ac) (Ac)) ?_
  refine Aa rfl (Ag (Ac)) ?_
  refine As rfl rfl (Ac) (by first | rfl | exact decide_eq_false (by omega)) ?_
  refine Aa rfl (Ag (Ay rfl <| Al rfl <| Ak rfl)) ?_
  refine As rfl rfl (Al rfl <| Ac) (by first | rfl | exact decide_eq_false (by omega)) ?_
  refine Aa rfl (Aq Bd (Ay rfl <| Ap rfl <| Ak rfl) (CellF.own h2 rfl).cell) ?_
  refine As rfl rfl (Ap rfl <| Ac) (by first | rfl | exact decide_eq_false (by omega)) ?_
  refine Aa rfl (Cl (Al rfl <| Ac) (Ac)) ?_
  refine Aa rfl (A8 (Ap rfl <| Al rfl <| Ac) (by first | rfl | exact decide_eq_false (by omega)) (Ac)) ?_
  refine Aa rfl (Ae (Ac)) ?_
  refine Ah <| Ad ?_
  by_cases hz2 : hi < z
  ·
   refine A5 <| Aw rfl (.tmp (Ac) .nil) ?_
   show _ = _
   have : ¬ z ≤ hi := by omega
   simp [outOf, inB, hz2, this]
  ·
   refine A5 <| Aw rfl (.tmp (Ac) .nil) ?_
   show _ = _
   have e1 : lo ≤ z := by omega
   have e2 : z ≤ hi := by omega
   simp [outOf, inB, hz2, e1, e2]
set_option maxRecDepth 100000 in
theorem B2 {F : Heap} {v : Value} {xs : List Int} (lo hi : Int) (h : Ints F v xs) : Ok Try.prog 50 [.int .i64 lo, .int .i64 hi, v].toArray F fun r _ => r = .bool (xs.any fun z => !(inB lo hi z)) := by
 refine Ok.intro Try.func50 rfl Try.ntmps50 rfl fun w0 => ?_
 refine Af <| Ai fun ds => Bl rfl (Cc (Ak rfl) rfl fun b1 hb1 nb1 => ?_)
 refine Bl rfl (Cc (Al rfl <| Ak rfl) rfl fun b2 hb2 nb2 => ?_)
 refine Aa rfl (Ae Ab) ?_
 refine Ah <| Ad <| Cq (i := 1) rfl hb1 (.next <| .here) fun F3 hF4 hz1 => ?_
 replace h := h.mono hF4
 refine Cq (i := 0) rfl hb2 (.here) fun F5 hF6 hz2 => ?_
 replace h := h.mono hF6
 replace hz1 := hF6 _ _ hz1
 refine Af <| Ai fun ds => Aa rfl (Ag (Ap rfl <| Al rfl <| Ak rfl)) ?_
 refine Aa rfl (Cw (.cons (Ap rfl <| Al rfl <| Ac) (.cons (Ap rfl <| Ac) .nil))) ?_
 refine Bv rfl (A9 bd_93 Az (.cons (Al rfl <| Ac) (.cons (Ac) .nil)) (containsInt_ok h (fun z => !(inB lo hi z)) bd_94 fun k hk => outside1_ok hz1 hz2 _) (fun _ _ h => h)) ?_
 refine Aa rfl (Ae (Ac)) ?_
 refine Ah <| Ad <| A5 <| Aw rfl (.tmp (Ac) .nil) ?_
 rfl
set_option maxRecDepth 100000 in
theorem indexLot_ok {F : Heap} {v : Value} {xs : List Lot} (h : Sl F v 4 Lot.enc xs) (p : _ → Bool) {g : FuncId} {cs : List Value} (hg : Body Try.prog g) (hp : ∀ k (hk : k < xs.length), Ok Try.prog g ([Value.agg (Lot.enc xs[k]).toArray] ++ cs).toArray F fun r _ => r = .bool (p xs[k])) : Ok Try.prog 97 [v, .func (.func g) #[] cs.toArray].toArray F fun r _ => r = .int .i64 (findI p xs) := by
 refine Ok.intro Try.func97 rfl Try.ntmps97 rfl fun w0 => ?_
 have hlen := h.plain.lt
 refine Af <| Ai fun ds => Aa rfl (Ae Ab) ?_
 refine Ah <| Ad <| Af <| Af <| Ai fun ds => Aa rfl (Ag (Al rfl <| Ak rfl)) ?_
 refine Aa rfl (Bf C1 (Ac) h.plain) ?_
 refine Aa rfl (Ag Ab) ?_
 refine Ah <| Ad <| A4 <| B4 [4, 5, 8, 9, 10, 11, 12, 13, 14, 15, 16, 17, 18] (fun m e σ => ∃ k : Nat, m + k = xs.length ∧ e 8 = .int .i64 k ∧ σ = ⟨F, []⟩ ∧ ∀ j (hj : j < xs.length), j < k → p xs[j] = false) (xs.length) ?_ ?_
 · exact ⟨0, by omega, (Ac), rfl, fun j hj h => absurd h (by omega)⟩
 ·
  rintro m e _ ⟨k, hm, hs8, rfl, hno⟩
  by_cases hlt : k < xs.length
  ·
   refine Af <| Ai fun ds => Aa rfl (B0 (Au rfl hs8) (Ao rfl <| Al rfl <| Ac)) ?_
   refine Ah <| Ad <| Af <| Ar (Ac) (by first | rfl | exact decide_eq_true (by omega)) ?_
   by_cases hpk : p xs[k] = true
   ·
    refine Ax <| Ad <| Af <| A4 <| Af <| Ai fun ds => Aa rfl (Ag (Al rfl <| Au rfl hs8)) ?_
    refine Aa rfl (Ae (Ac)) ?_
    refine Ah <| Ad <| Af <| Ai fun ds => Aa rfl (Ag (Ap rfl <| Al rfl <| Ao rfl <| Ay rfl <| Ak rfl)) ?_
    refine Aa rfl (Ag (Ay rfl <| Ao rfl <| Ay rfl <| Ak rfl)) ?_
    refine Aa rfl (Ag (Ap rfl <| Ac)) ?_
    refine Aa rfl (Be  C1 (Al rfl <| Ac) h.plain (Ac) rfl (by omega)) ?_
    refine Aa rfl (Bg agg_69 (Ac) rfl rfl (h.whole (by omega))) ?_
    refine Bv rfl (A9 hg (Ay rfl <| Ac) (.cons (Ac) .nil) (hp k hlt) (fun _ _ h => h)) ?_
    refine Ah <| Ad <| Ar (Ac) hpk ?_
    refine Af <| Ai fun ds => Aa rfl (Ag (Ay rfl <| Ap rfl <| Ac)) ?_
    refine Aa rfl (Ae (Ac)) ?_
    refine Ah <| Ad <| A5 <| Bc (A7 (A7 (Bc (A7 ?_))))
    refine Aw rfl (.tmp (Ac) .nil) ?_
    show _ = _
    rw [Ex hlt hpk hno]; rfl
   ·
    replace hpk : p xs[k] = false := by simpa using hpk
    refine Ax <| Ad <| Af <| A4 <| Af <| Ai fun ds => Aa rfl (Ag (Al rfl <| Au rfl hs8)) ?_
    refine Aa rfl (Ae (Ac)) ?_
    refine Ah <| Ad <| Af <| Ai fun ds => Aa rfl (Ag (Ap rfl <| Al rfl <| Ao rfl <| Ay rfl <| Ak rfl)) ?_
    refine Aa rfl (Ag (Ay rfl <| Ao rfl <| Ay rfl <| Ak rfl)) ?_
    refine Aa rfl (Ag (Ap rfl <| Ac)) ?_
    refine Aa rfl (Be  C1 (Al rfl <| Ac) h.plain (Ac) rfl (by omega)) ?_
    refine Aa rfl (Bg agg_69 (Ac) rfl rfl (h.whole (by omega))) ?_
    refine Bv rfl (A9 hg (Ay rfl <| Ac) (.cons (Ac) .nil) (hp k hlt) (fun _ _ h => h)) ?_
    refine Ah <| Ad <| Am (Ac) hpk ?_
    refine Ax <| Bh <| Ad <| Ai fun ds => Aa rfl (B3 (Ba rfl <| Al rfl <| Au rfl hs8) Ab rfl (by omega) (by omega)) ?_
    refine Aa rfl (Ag (Ac)) ?_
    refine Ah <| Ad ⟨_, m - 1, Off.eq (Ei rfl <| Et rfl <| Eu rfl <| Bj), by omega, ?_⟩
    refine ⟨k + 1, by omega, (Ac), rfl, fun j hj hjk => ?_⟩
    rcases Nat.lt_succ_iff_lt_or_eq.1 hjk with hjk | rfl
    · exact hno j hj hjk
    · exact hpk
  ·
   refine Af <| Ai fun ds => Aa rfl (B0 (Au rfl hs8) (Ao rfl <| Al rfl <| Ac)) ?_
   refine Ah <| Ad <| Af <| Am (Ac) (by first | rfl | exact decide_eq_false (by omega)) ?_
   refine Bx ?_
   refine Bk <| Bk <| Bn <| Ad <| Af <| Ai fun ds => Aa rfl (Ae Ab) ?_
   refine Ah <| Ad <| A5 <| Aw rfl (.tmp (Ac) .nil) ?_
   show _ = _
   rw [findI_none fun j hj => hno j hj (by omega)]; rfl
set_option maxRecDepth 100000 in
theorem containsLot_ok {F : Heap} {v : Value} {xs : List Lot} (h : Sl F v 4 Lot.enc xs) (p : _ → Bool) {g : FuncId} {cs : List Value} (hg : Body Try.prog g) (hp : ∀ k (hk : k < xs.length), Ok Try.prog g ([Value.agg (Lot.enc xs[k]).toArray] ++ cs).toArray F fun r _ => r = .bool (p xs[k])) : Ok Try.prog 56 [v, .func (.func g) #[] cs.toArray].toArray F fun r _ => r = .bool (xs.any p) := by
 refine Ok.intro Try.func56 rfl Try.ntmps56 rfl fun w0 => ?_
 refine Af <| Ai fun ds => Aa rfl (Ae Ab) ?_
 refine Ah <| Ad <| Af <| Ai fun ds => Aa rfl (Ag (Al rfl <| Ak rfl)) ?_
 refine Aa rfl (Ag (Ap rfl <| Ak rfl)) ?_
 refine Bv rfl (A9 bd_97 Az (.cons (Al rfl <| Ac) (.cons (Ac) .nil)) (indexLot_ok h p hg hp) (fun _ _ h => h)) ?_
 refine Aa rfl (Dp (Ac) Ab) ?_
 refine Aa rfl (Ae (Ac)) ?_
 refine Ah <| Ad <| A5 <| Aw rfl (.tmp (Ac) .nil) ?_
 show _ = _
 rw [← findI_any]; rfl
set_option maxRecDepth 100000 in
theorem indexBid_ok {F : Heap} {v : Value} {xs : List Bid} (h : Sl F v 3 Bid.enc xs) (p : _ → Bool) {g : FuncId} {cs : List Value} (hg : Body Try.prog g) (hp : ∀ k (hk : k < xs.length), Ok Try.prog g ([Value.agg (Bid.enc xs[k]).toArray] ++ cs).toArray F fun r _ => r = .bool (p xs[k])) : Ok Try.prog 98 [v, .func (.func g) #[] cs.toArray].toArray F fun r _ => r = .int .i64 (findI p xs) := by
 refine Ok.intro Try.func98 rfl Try.ntmps98 rfl fun w0 => ?_
 have hlen := h.plain.lt
 refine Af <| Ai fun ds => Aa rfl (Ae Ab) ?_
 refine Ah <| Ad <| Af <| Af <| Ai fun ds => Aa rfl (Ag (Al rfl <| Ak rfl)) ?_
 refine Aa rfl (Bf Dz (Ac) h.plain) ?_
 refine Aa rfl (Ag Ab) ?_
 refine Ah <| Ad <| A4 <| B4 [4, 5, 8, 9, 10, 11, 12, 13, 14, 15, 16, 17, 18] (fun m e σ => ∃ k : Nat, m + k = xs.length ∧ e 8 = .int .i64 k ∧ σ = ⟨F, []⟩ ∧ ∀ j (hj : j < xs.length), j < k → p xs[j] = false) (xs.length) ?_ ?_
 · exact ⟨0, by omega, (Ac), rfl, fun j hj h => absurd h (by omega)⟩
 ·
  rintro m e _ ⟨k, hm, hs8, rfl, hno⟩
  by_cases hlt : k < xs.length
  ·
   refine Af <| Ai fun ds => Aa rfl (B0 (Au rfl hs8) (Ao rfl <| Al rfl <| Ac)) ?_
   refine Ah <| Ad <| Af <| Ar (Ac) (by first | rfl | exact decide_eq_true (by omega)) ?_
   by_cases hpk : p xs[k] = true
   ·
    refine Ax <| Ad <| Af <| A4 <| Af <| Ai fun ds => Aa rfl (Ag (Al rfl <| Au rfl hs8)) ?_
    refine Aa rfl (Ae (Ac)) ?_
    refine Ah <| Ad <| Af <| Ai fun ds => Aa rfl (Ag (Ap rfl <| Al rfl <| Ao rfl <| Ay rfl <| Ak rfl)) ?_
    refine Aa rfl (Ag (Ay rfl <| Ao rfl <| Ay rfl <| Ak rfl)) ?_
    refine Aa rfl (Ag (Ap rfl <| Ac)) ?_
    refine Aa rfl (Be  Dz (Al rfl <| Ac) h.plain (Ac) rfl (by omega)) ?_
    refine Aa rfl (Bg agg_72 (Ac) rfl rfl (h.whole (by omega))) ?_
    refine Bv rfl (A9 hg (Ay rfl <| Ac) (.cons (Ac) .nil) (hp k hlt) (fun _ _ h => h)) ?_
    refine Ah <| Ad <| Ar (Ac) hpk ?_
    refine Af <| Ai fun ds => Aa rfl (Ag (Ay rfl <| Ap rfl <| Ac)) ?_
    refine Aa rfl (Ae (Ac)) ?_
    refine Ah <| Ad <| A5 <| Bc (A7 (A7 (Bc (A7 ?_))))
    refine Aw rfl (.tmp (Ac) .nil) ?_
    show _ = _
    rw [Ex hlt hpk hno]; rfl
   ·
    replace hpk : p xs[k] = false := by simpa using hpk
    refine Ax <| Ad <| Af <| A4 <| Af <| Ai fun ds => Aa rfl (Ag (Al rfl <| Au rfl hs8)) ?_
    refine Aa rfl (Ae (Ac)) ?_
    refine Ah <| Ad <| Af <| Ai fun ds => Aa rfl (Ag (Ap rfl <| Al rfl <| Ao rfl <| Ay rfl <| Ak rfl)) ?_
    refine Aa rfl (Ag (Ay rfl <| Ao rfl <| Ay rfl <| Ak rfl)) ?_
    refine Aa rfl (Ag (Ap rfl <| Ac)) ?_
    refine Aa rfl (Be  Dz (Al rfl <| Ac) h.plain (Ac) rfl (by omega)) ?_
    refine Aa rfl (Bg agg_72 (Ac) rfl rfl (h.whole (by omega))) ?_
    refine Bv rfl (A9 hg (Ay rfl <| Ac) (.cons (Ac) .nil) (hp k hlt) (fun _ _ h => h)) ?_
    refine Ah <| Ad <| Am (Ac) hpk ?_
    refine Ax <| Bh <| Ad <| Ai fun ds => Aa rfl (B3 (Ba rfl <| Al rfl <| Au rfl hs8) Ab rfl (by omega) (by omega)) ?_
    refine Aa rfl (Ag (Ac)) ?_
    refine Ah <| Ad ⟨_, m - 1, Off.eq (Ei rfl <| Et rfl <| Eu rfl <| Bj), by omega, ?_⟩
    refine ⟨k + 1, by omega, (Ac), rfl, fun j hj hjk => ?_⟩
    rcases Nat.lt_succ_iff_lt_or_eq.1 hjk with hjk | rfl
    · exact hno j hj hjk
    · exact hpk
  ·
   refine Af <| Ai fun ds => Aa rfl (B0 (Au rfl hs8) (Ao rfl <| Al rfl <| Ac)) ?_
   refine Ah <| Ad <| Af <| Am (Ac) (by first | rfl | exact decide_eq_false (by omega)) ?_
   refine Bx ?_
   refine Bk <| Bk <| Bn <| Ad <| Af <| Ai fun ds => Aa rfl (Ae Ab) ?_
   refine Ah <| Ad <| A5 <| Aw rfl (.tmp (Ac) .nil) ?_
   show _ = _
   rw [findI_none fun j hj => hno j hj (by omega)]; rfl
set_option maxRecDepth 100000 in
theorem containsBid_ok {F : Heap} {v : Value} {xs : List Bid} (h : Sl F v 3 Bid.enc xs) (p : _ → Bool) {g : FuncId} {cs : List Value} (hg : Body Try.prog g) (hp : ∀ k (hk : k < xs.length), Ok Try.prog g ([Value.agg (Bid.enc xs[k]).toArray] ++ cs).toArray F fun r _ => r = .bool (p xs[k])) : Ok Try.prog 60 [v, .func (.func g) #[] cs.toArray].toArray F fun r _ => r = .bool (xs.any p) := by
 refine Ok.intro Try.func60 rfl Try.ntmps60 rfl fun w0 => ?_
 refine Af <| Ai fun ds => Aa rfl (Ae Ab) ?_
 refine Ah <| Ad <| Af <| Ai fun ds => Aa rfl (Ag (Al rfl <| Ak rfl)) ?_
 refine Aa rfl (Ag (Ap rfl <| Ak rfl)) ?_
 refine Bv rfl (A9 bd_98 Az (.cons (Al rfl <| Ac) (.cons (Ac) .nil)) (indexBid_ok h p hg hp) (fun _ _ h => h)) ?_
 refine Aa rfl (Dp (Ac) Ab) ?_
 refine Aa rfl (Ae (Ac)) ?_
 refine Ah <| Ad <| A5 <| Aw rfl (.tmp (Ac) .nil) ?_
 show _ = _
 rw [← findI_any]; rfl
end Go.Proofs.Ytaikojfonleccaa
namespace Go.Proofs.Ytaikojfonleccaa
open Go.RowKit
theorem zr_60 : ZeroT Try.prog 60 (.agg #[.int .i64 0, .bool false, .int .i64 0, .int .i64 0]) := C4 (by kernel_rfl)
theorem zr_69 : ZeroT Try.prog 69 (.agg #[.string ⟨#[]⟩, .int .i64 0, .int .i64 0, .bool false]) := C4 (by kernel_rfl)
theorem zr_72 : ZeroT Try.prog 72 (.agg #[.int .i64 0, .int .i64 0, .int .i64 0]) := C4 (by kernel_rfl)
theorem zr_98 : ZeroT Try.prog 98 (.agg #[.int .i64 0, .int .i64 0]) := C4 (by kernel_rfl)
theorem agg_60 : AggT Try.prog 60 4 := aggT_of (by kernel_rfl)
theorem agg_98 : AggT Try.prog 98 2 := aggT_of (by kernel_rfl)
theorem bd_113 : Body Try.prog 113 := Br (by kernel_rfl)
theorem Ec : SliceT Try.prog 22 98 2 := Ek (by kernel_rfl)
theorem sl_47 : SliceT Try.prog 47 60 4 := Ek (by kernel_rfl)
theorem sz_60 : SizeT Try.prog 60 4 := C8 (by kernel_rfl)
theorem sz_69 : SizeT Try.prog 69 4 := C8 (by kernel_rfl)
theorem sz_72 : SizeT Try.prog 72 3 := C8 (by kernel_rfl)
theorem sz_98 : SizeT Try.prog 98 2 := C8 (by kernel_rfl)
set_option maxRecDepth 100000 in
theorem firstStp_ok {F : Heap} {v : Value} {xs : List Stp} (h : Sl F v 2 Stp.enc xs) {most : Nat} (f : Nat → Int) {g : FuncId} {cs : List Value} (hg : Body Try.prog g) (hp : ∀ k (hk : k < xs.length), (∀ j, j < k → f j = 0) → Ok Try.prog g ([Value.int .i64 (k : Int), Value.agg (Stp.enc xs[k]).toArray] ++ cs).toArray F fun r _ => r = .int .i64 (f k)) : Ok Try.prog 48 [v, .int .i64 (most : Int), .func (.func g) #[] cs.toArray].toArray F fun r _ => r = optV (firstE xs.length most f) := by
 refine Ok.intro Try.func48 rfl Try.ntmps48 rfl fun w0 => ?_
 have hlen := h.plain.lt
 by_cases hml : most < xs.length
 ·
  refine Af <| Ai fun ds => Aa rfl (Ae Ab) ?_
  refine Aa rfl (Ae Ab) ?_
  refine Ah <| Ad <| Af <| Af <| Ai fun ds => Aa rfl (Ag (Ap rfl <| Ak rfl)) ?_
  refine Aa rfl (Bf Ec (Ac) h.plain) ?_
  refine Aa rfl (Ag (Ay rfl <| Ak rfl)) ?_
  refine Aa rfl (Cl (Al rfl <| Ac) (Ac)) ?_
  refine Ah <| Ad <| Ar (Ac) (by first | rfl | exact decide_eq_true (by omega)) ?_
  refine Af <| Ai fun ds => Aa rfl (Ae Ab) ?_
  refine Aa rfl (Ae Ab) ?_
  refine Ah <| Ad <| A5 <| A7 ?_
  refine Aw rfl (.tmp (Al rfl <| Ac) (.tmp (Ac) .nil)) ?_
  show _ = _
  rw [Dq hml]; rfl
 ·
  refine Af <| Ai fun ds => Aa rfl (Ae Ab) ?_
  refine Aa rfl (Ae Ab) ?_
  refine Ah <| Ad <| Af <| Af <| Ai fun ds => Aa rfl (Ag (Ap rfl <| Ak rfl)) ?_
  refine Aa rfl (Bf Ec (Ac) h.plain) ?_
  refine Aa rfl (Ag (Ay rfl <| Ak rfl)) ?_
  refine Aa rfl (Cl (Al rfl <| Ac) (Ac)) ?_
  refine Ah <| Ad <| Am (Ac) (by first | rfl | exact decide_eq_false (by omega)) ?_
  refine Ax <| Ad <| Af <| Af <| Ai fun ds => Aa rfl (Ag (Ay rfl <| Ap rfl <| Ak rfl)) ?_
  refine Aa rfl (Bf Ec (Ac) h.plain) ?_
  refine Aa rfl (Ag Ab) ?_
  refine Ah <| Ad <| A4 <| B4 [6, 7, 8, 9, 10, 17, 18, 19, 20, 21, 22, 23, 24, 25, 26, 27, 28, 29, 30] (fun m e σ => ∃ k : Nat, m + k = xs.length ∧ e 17 = .int .i64 (k : Int) ∧ σ = ⟨F, []⟩ ∧ ∀ j, j < k → f j = 0) (xs.length) ?_ ?_
  · exact ⟨0, by omega, (Ac), rfl, fun j h => absurd h (by omega)⟩
  ·
   rintro m e _ ⟨k, hm, hs17, rfl, hno⟩
   by_cases hlt : k < xs.length
   ·
    refine Af <| Ai fun ds => Aa rfl (B0 (Au rfl hs17) (Ao rfl <| Al rfl <| Ac)) ?_
    refine Ah <| Ad <| Af <| Ar (Ac) (by first | rfl | exact decide_eq_true (by omega)) ?_
    by_cases hfk : f k = 0
    ·
     refine Ax <| Ad <| Af <| A4 <| Af <| Ai fun ds => Aa rfl (Ag (Al rfl <| Au rfl hs17)) ?_
     refine Aa rfl (Be  Ec (Ap rfl <| Ao rfl <| Ap rfl <| Ac) h.plain (Ap rfl <| Au rfl hs17) rfl (by omega)) ?_
     refine Aa rfl (Bg agg_98 (Ac) rfl rfl (h.whole (by omega))) ?_
     refine Bl rfl (B6 zr_98 rfl fun b2 hb2 nb2 => ?_)
     refine Aa rfl (Ae (Ap rfl <| Al rfl <| Ac)) ?_
     refine Ck (B8 sz_98 (Al rfl <| Ac) (Ap rfl <| Ac) (i := 0) rfl rfl rfl rfl Stp.enc_one (.here) ?_)
     refine Ah <| Ad <| Af <| Ai fun ds => Aa rfl (Ag (Ay rfl <| Ap rfl <| Ao rfl <| Ba rfl <| Al rfl <| Ak rfl)) ?_
     refine Aa rfl (Ag (Al rfl <| Ac)) ?_
     refine Aa rfl (Bg agg_98 (Ap rfl <| Al rfl <| Ac) rfl rfl (Bm 0 rfl)) ?_
     refine Bv rfl (A9 hg (Ap rfl <| Ac) (.cons (Al rfl <| Ac) (.cons (Ac) .nil)) (hp k hlt hno) (fun _ _ h => h)) ?_
     refine Aa rfl (Ae (Ac)) ?_
     refine Ah <| Ad <| Af <| Ai fun ds => Aa rfl (Ag (Ac)) ?_
     refine Aa rfl (B5 (Ac) Ab) ?_
     refine Ah <| Ad <| Am (Ac) (decide_eq_false (fun h => h hfk)) ?_
     refine Ax <| Bh <| Ad <| Ct (fun _ _ h => h.drop (.cons _ <| .refl _)) ?_
     refine Ai fun ds => Aa rfl (B3 (Ba rfl <| Ay rfl <| Al rfl <| Au rfl hs17) Ab rfl (by omega) (by omega)) ?_
     refine Aa rfl (Ag (Ac)) ?_
     refine Ah <| Ad ⟨_, m - 1, Off.eq (Ei rfl <| ou4 rfl <| Et rfl <| Eu rfl <| Bj), by omega, ?_⟩
     refine ⟨k + 1, by omega, (Ac), rfl, fun j hjk => ?_⟩
     rcases Nat.lt_succ_iff_lt_or_eq.1 hjk with hjk | rfl
     · exact hno j hjk
     · exact hfk
    ·
     refine Ax <| Ad <| Af <| A4 <| Af <| Ai fun ds => Aa rfl (Ag (Al rfl <| Au rfl hs17)) ?_
     refine Aa rfl (Be  Ec (Ap rfl <| Ao rfl <| Ap rfl <| Ac) h.plain (Ap rfl <| Au rfl hs17) rfl (by omega)) ?_
     refine Aa rfl (Bg agg_98 (Ac) rfl rfl (h.whole (by omega))) ?_
     refine Bl rfl (B6 zr_98 rfl fun b3 hb3 nb3 => ?_)
     refine Aa rfl (Ae (Ap rfl <| Al rfl <| Ac)) ?_
     refine Ck (B8 sz_98 (Al rfl <| Ac) (Ap rfl <| Ac) (i := 0) rfl rfl rfl rfl Stp.enc_one (.here) ?_)
     refine Ah <| Ad <| Af <| Ai fun ds => Aa rfl (Ag (Ay rfl <| Ap rfl <| Ao rfl <| Ba rfl <| Al rfl <| Ak rfl)) ?_
     refine Aa rfl (Ag (Al rfl <| Ac)) ?_
     refine Aa rfl (Bg agg_98 (Ap rfl <| Al rfl <| Ac) rfl rfl (Bm 0 rfl)) ?_
     refine Bv rfl (A9 hg (Ap rfl <| Ac) (.cons (Al rfl <| Ac) (.cons (Ac) .nil)) (hp k hlt hno) (fun _ _ h => h)) ?_
     refine Aa rfl (Ae (Ac)) ?_
     refine Ah <| Ad <| Af <| Ai fun ds => Aa rfl (Ag (Ac)) ?_
     refine Aa rfl (B5 (Ac) Ab) ?_
     refine Ah <| Ad <| Ar (Ac) (decide_eq_true hfk) ?_
     refine Af <| Ai fun ds => Aa rfl (Ag (Ay rfl <| Ap rfl <| Al rfl <| Ac)) ?_
     refine Aa rfl (Ag (Ap rfl <| Al rfl <| Ac)) ?_
     refine Aa rfl (Ae (Al rfl <| Ac)) ?_
     refine Aa rfl (Ae (Al rfl <| Ac)) ?_
     refine Ah <| Ad <| A5 <| Bc (A7 (A7 (Bc (A7 ?_))))
     refine Aw rfl (.tmp (Al rfl <| Ac) (.tmp (Ac) .nil)) ?_
     show _ = _
     rw [Cs hml hlt hno rfl hfk]; rfl
   ·
    refine Af <| Ai fun ds => Aa rfl (B0 (Au rfl hs17) (Ao rfl <| Al rfl <| Ac)) ?_
    refine Ah <| Ad <| Af <| Am (Ac) (by first | rfl | exact decide_eq_false (by omega)) ?_
    refine Bx ?_
    refine Bk <| Bk <| Bn <| Ad <| Af <| Ai fun ds => Aa rfl (Ae Ab) ?_
    refine Aa rfl (Ae Ab) ?_
    refine Ah <| Ad <| A5 <| Aw rfl (.tmp (Al rfl <| Ac) (.tmp (Ac) .nil)) ?_
    show _ = _
    rw [Dm hml fun j hj => hno j (by omega)]; rfl
set_option maxRecDepth 100000 in
theorem firstLot_ok {F : Heap} {v : Value} {xs : List Lot} (h : Sl F v 4 Lot.enc xs) {most : Nat} (f : Nat → Int) {g : FuncId} {cs : List Value} (hg : Body Try.prog g) (hp : ∀ k (hk : k < xs.length), (∀ j, j < k → f j = 0) → Ok Try.prog g ([Value.int .i64 (k : Int), Value.agg (Lot.enc xs[k]).toArray] ++ cs).toArray F fun r _ => r = .int .i64 (f k)) : Ok Try.prog 53 [v, .int .i64 (most : Int), .func (.func g) #[] cs.toArray].toArray F fun r _ => r = optV (firstE xs.length most f) := by
 refine Ok.intro Try.func53 rfl Try.ntmps53 rfl fun w0 => ?_
 have hlen := h.plain.lt
 by_cases hml : most < xs.length
 ·
  refine Af <| Ai fun ds => Aa rfl (Ae Ab) ?_
  refine Aa rfl (Ae Ab) ?_
  refine Ah <| Ad <| Af <| Af <| Ai fun ds => Aa rfl (Ag (Ap rfl <| Ak rfl)) ?_
  refine Aa rfl (Bf C1 (Ac) h.plain) ?_
  refine Aa rfl (Ag (Ay rfl <| Ak rfl)) ?_
  refine Aa rfl (Cl (Al rfl <| Ac) (Ac)) ?_
  refine Ah <| Ad <| Ar (Ac) (by first | rfl | exact decide_eq_true (by omega)) ?_
  refine Af <| Ai fun ds => Aa rfl (Ae Ab) ?_
  refine Aa rfl (Ae Ab) ?_
  refine Ah <| Ad <| A5 <| A7 ?_
  refine Aw rfl (.tmp (Al rfl <| Ac) (.tmp (Ac) .nil)) ?_
  show _ = _
  rw [Dq hml]; rfl
 ·
  refine Af <| Ai fun ds => Aa rfl (Ae Ab) ?_
  refine Aa rfl (Ae Ab) ?_
  refine Ah <| Ad <| Af <| Af <| Ai fun ds => Aa rfl (Ag (Ap rfl <| Ak rfl)) ?_
  refine Aa rfl (Bf C1 (Ac) h.plain) ?_
  refine Aa rfl (Ag (Ay rfl <| Ak rfl)) ?_
  refine Aa rfl (Cl (Al rfl <| Ac) (Ac)) ?_
  refine Ah <| Ad <| Am (Ac) (by first | rfl | exact decide_eq_false (by omega)) ?_
  refine Ax <| Ad <| Af <| Af <| Ai fun ds => Aa rfl (Ag (Ay rfl <| Ap rfl <| Ak rfl)) ?_
  refine Aa rfl (Bf C1 (Ac) h.plain) ?_
  refine Aa rfl (Ag Ab) ?_
  refine Ah <| Ad <| A4 <| B4 [6, 7, 8, 9, 10, 17, 18, 19, 20, 21, 22, 23, 24, 25, 26, 27, 28, 29, 30] (fun m e σ => ∃ k : Nat, m + k = xs.length ∧ e 17 = .int .i64 (k : Int) ∧ σ = ⟨F, []⟩ ∧ ∀ j, j < k → f j = 0) (xs.length) ?_ ?_
  · exact ⟨0, by omega, (Ac), rfl, fun j h => absurd h (by omega)⟩
  ·
   rintro m e _ ⟨k, hm, hs17, rfl, hno⟩
   by_cases hlt : k < xs.length
   ·
    refine Af <| Ai fun ds => Aa rfl (B0 (Au rfl hs17) (Ao rfl <| Al rfl <| Ac)) ?_
    refine Ah <| Ad <| Af <| Ar (Ac) (by first | rfl | exact decide_eq_true (by omega)) ?_
    by_cases hfk : f k = 0
    ·
     refine Ax <| Ad <| Af <| A4 <| Af <| Ai fun ds => Aa rfl (Ag (Al rfl <| Au rfl hs17)) ?_
     refine Aa rfl (Be  C1 (Ap rfl <| Ao rfl <| Ap rfl <| Ac) h.plain (Ap rfl <| Au rfl hs17) rfl (by omega)) ?_
     refine Aa rfl (Bg agg_69 (Ac) rfl rfl (h.whole (by omega))) ?_
     refine Bl rfl (B6 zr_69 rfl fun b2 hb2 nb2 => ?_)
     refine Aa rfl (Ae (Ap rfl <| Al rfl <| Ac)) ?_
     refine Ck (B8 sz_69 (Al rfl <| Ac) (Ap rfl <| Ac) (i := 0) rfl rfl rfl rfl Lot.enc_one (.here) ?_)
     refine Ah <| Ad <| Af <| Ai fun ds => Aa rfl (Ag (Ay rfl <| Ap rfl <| Ao rfl <| Ba rfl <| Al rfl <| Ak rfl)) ?_
     refine Aa rfl (Ag (Al rfl <| Ac)) ?_
     refine Aa rfl (Bg agg_69 (Ap rfl <| Al rfl <| Ac) rfl rfl (Bm 0 rfl)) ?_
     refine Bv rfl (A9 hg (Ap rfl <| Ac) (.cons (Al rfl <| Ac) (.cons (Ac) .nil)) (hp k hlt hno) (fun _ _ h => h)) ?_
     refine Aa rfl (Ae (Ac)) ?_
     refine Ah <| Ad <| Af <| Ai fun ds => Aa rfl (Ag (Ac)) ?_
     refine Aa rfl (B5 (Ac) Ab) ?_
     refine Ah <| Ad <| Am (Ac) (decide_eq_false (fun h => h hfk)) ?_
     refine Ax <| Bh <| Ad <| Ct (fun _ _ h => h.drop (.cons _ <| .refl _)) ?_
     refine Ai fun ds => Aa rfl (B3 (Ba rfl <| Ay rfl <| Al rfl <| Au rfl hs17) Ab rfl (by omega) (by omega)) ?_
     refine Aa rfl (Ag (Ac)) ?_
     refine Ah <| Ad ⟨_, m - 1, Off.eq (Ei rfl <| ou4 rfl <| Et rfl <| Eu rfl <| Bj), by omega, ?_⟩
     refine ⟨k + 1, by omega, (Ac), rfl, fun j hjk => ?_⟩
     rcases Nat.lt_succ_iff_lt_or_eq.1 hjk with hjk | rfl
     · exact hno j hjk
     · exact hfk
    ·
     refine Ax <| Ad <| Af <| A4 <| Af <| Ai fun ds => Aa rfl (Ag (Al rfl <| Au rfl hs17)) ?_
     refine Aa rfl (Be  C1 (Ap rfl <| Ao rfl <| Ap rfl <| Ac) h.plain (Ap rfl <| Au rfl hs17) rfl (by omega)) ?_
     refine Aa rfl (Bg agg_69 (Ac) rfl rfl (h.whole (by omega))) ?_
     refine Bl rfl (B6 zr_69 rfl fun b3 hb3 nb3 => ?_)
     refine Aa rfl (Ae (Ap rfl <| Al rfl <| Ac)) ?_
     refine Ck (B8 sz_69 (Al rfl <| Ac) (Ap rfl <| Ac) (i := 0) rfl rfl rfl rfl Lot.enc_one (.here) ?_)
     refine Ah <| Ad <| Af <| Ai fun ds => Aa rfl (Ag (Ay rfl <| Ap rfl <| Ao rfl <| Ba rfl <| Al rfl <| Ak rfl)) ?_
     refine Aa rfl (Ag (Al rfl <| Ac)) ?_
     refine Aa rfl (Bg agg_69 (Ap rfl <| Al rfl <| Ac) rfl rfl (Bm 0 rfl)) ?_
     refine Bv rfl (A9 hg (Ap rfl <| Ac) (.cons (Al rfl <| Ac) (.cons (Ac) .nil)) (hp k hlt hno) (fun _ _ h => h)) ?_
     refine Aa rfl (Ae (Ac)) ?_
     refine Ah <| Ad <| Af <| Ai fun ds => Aa rfl (Ag (Ac)) ?_
     refine Aa rfl (B5 (Ac) Ab) ?_
     refine Ah <| Ad <| Ar (Ac) (decide_eq_true hfk) ?_
     refine Af <| Ai fun ds => Aa rfl (Ag (Ay rfl <| Ap rfl <| Al rfl <| Ac)) ?_
     refine Aa rfl (Ag (Ap rfl <| Al rfl <| Ac)) ?_
     refine Aa rfl (Ae (Al rfl <| Ac)) ?_
     refine Aa rfl (Ae (Al rfl <| Ac)) ?_
     refine Ah <| Ad <| A5 <| Bc (A7 (A7 (Bc (A7 ?_))))
     refine Aw rfl (.tmp (Al rfl <| Ac) (.tmp (Ac) .nil)) ?_
     show _ = _
     rw [Cs hml hlt hno rfl hfk]; rfl
   ·
    refine Af <| Ai fun ds => Aa rfl (B0 (Au rfl hs17) (Ao rfl <| Al rfl <| Ac)) ?_
    refine Ah <| Ad <| Af <| Am (Ac) (by first | rfl | exact decide_eq_false (by omega)) ?_
    refine Bx ?_
    refine Bk <| Bk <| Bn <| Ad <| Af <| Ai fun ds => Aa rfl (Ae Ab) ?_
    refine Aa rfl (Ae Ab) ?_
    refine Ah <| Ad <| A5 <| Aw rfl (.tmp (Al rfl <| Ac) (.tmp (Ac) .nil)) ?_
    show _ = _
    rw [Dm hml fun j hj => hno j (by omega)]; rfl
set_option maxRecDepth 100000 in
theorem firstBid_ok {F : Heap} {v : Value} {xs : List Bid} (h : Sl F v 3 Bid.enc xs) {most : Nat} (f : Nat → Int) {g : FuncId} {cs : List Value} (hg : Body Try.prog g) (hp : ∀ k (hk : k < xs.length), (∀ j, j < k → f j = 0) → Ok Try.prog g ([Value.int .i64 (k : Int), Value.agg (Bid.enc xs[k]).toArray] ++ cs).toArray F fun r _ => r = .int .i64 (f k)) : Ok Try.prog 58 [v, .int .i64 (most : Int), .func (.func g) #[] cs.toArray].toArray F fun r _ => r = optV (firstE xs.length most f) := by
 refine Ok.intro Try.func58 rfl Try.ntmps58 rfl fun w0 => ?_
 have hlen := h.plain.lt
 by_cases hml : most < xs.length
 ·
  refine Af <| Ai fun ds => Aa rfl (Ae Ab) ?_
  refine Aa rfl (Ae Ab) ?_
  refine Ah <| Ad <| Af <| Af <| Ai fun ds => Aa rfl (Ag (Ap rfl <| Ak rfl)) ?_
  refine Aa rfl (Bf Dz (Ac) h.plain) ?_
  refine Aa rfl (Ag (Ay rfl <| Ak rfl)) ?_
  refine Aa rfl (Cl (Al rfl <| Ac) (Ac)) ?_
  refine Ah <| Ad <| Ar (Ac) (by first | rfl | exact decide_eq_true (by omega)) ?_
  refine Af <| Ai fun ds => Aa rfl (Ae Ab) ?_
  refine Aa rfl (Ae Ab) ?_
  refine Ah <| Ad <| A5 <| A7 ?_
  refine Aw rfl (.tmp (Al rfl <| Ac) (.tmp (Ac) .nil)) ?_
  show _ = _
  rw [Dq hml]; rfl
 ·
  refine Af <| Ai fun ds => Aa rfl (Ae Ab) ?_
  refine Aa rfl (Ae Ab) ?_
  refine Ah <| Ad <| Af <| Af <| Ai fun ds => Aa rfl (Ag (Ap rfl <| Ak rfl)) ?_
  refine Aa rfl (Bf Dz (Ac) h.plain) ?_
  refine Aa rfl (Ag (Ay rfl <| Ak rfl)) ?_
  refine Aa rfl (Cl (Al rfl <| Ac) (Ac)) ?_
  refine Ah <| Ad <| Am (Ac) (by first | rfl | exact decide_eq_false (by omega)) ?_
  refine Ax <| Ad <| Af <| Af <| Ai fun ds => Aa rfl (Ag (Ay rfl <| Ap rfl <| Ak rfl)) ?_
  refine Aa rfl (Bf Dz (Ac) h.plain) ?_
  refine Aa rfl (Ag Ab) ?_
  refine Ah <| Ad <| A4 <| B4 [6, 7, 8, 9, 10, 17, 18, 19, 20, 21, 22, 23, 24, 25, 26, 27, 28, 29, 30] (fun m e σ => ∃ k : Nat, m + k = xs.length ∧ e 17 = .int .i64 (k : Int) ∧ σ = ⟨F, []⟩ ∧ ∀ j, j < k → f j = 0) (xs.length) ?_ ?_
  · exact ⟨0, by omega, (Ac), rfl, fun j h => absurd h (by omega)⟩
  ·
   rintro m e _ ⟨k, hm, hs17, rfl, hno⟩
   by_cases hlt : k < xs.length
   ·
    refine Af <| Ai fun ds => Aa rfl (B0 (Au rfl hs17) (Ao rfl <| Al rfl <| Ac)) ?_
    refine Ah <| Ad <| Af <| Ar (Ac) (by first | rfl | exact decide_eq_true (by omega)) ?_
    by_cases hfk : f k = 0
    ·
     refine Ax <| Ad <| Af <| A4 <| Af <| Ai fun ds => Aa rfl (Ag (Al rfl <| Au rfl hs17)) ?_
     refine Aa rfl (Be  Dz (Ap rfl <| Ao rfl <| Ap rfl <| Ac) h.plain (Ap rfl <| Au rfl hs17) rfl (by omega)) ?_
     refine Aa rfl (Bg agg_72 (Ac) rfl rfl (h.whole (by omega))) ?_
     refine Bl rfl (B6 zr_72 rfl fun b2 hb2 nb2 => ?_)
     refine Aa rfl (Ae (Ap rfl <| Al rfl <| Ac)) ?_
     refine Ck (B8 sz_72 (Al rfl <| Ac) (Ap rfl <| Ac) (i := 0) rfl rfl rfl rfl Bid.enc_one (.here) ?_)
     refine Ah <| Ad <| Af <| Ai fun ds => Aa rfl (Ag (Ay rfl <| Ap rfl <| Ao rfl <| Ba rfl <| Al rfl <| Ak rfl)) ?_
     refine Aa rfl (Ag (Al rfl <| Ac)) ?_
     refine Aa rfl (Bg agg_72 (Ap rfl <| Al rfl <| Ac) rfl rfl (Bm 0 rfl)) ?_
     refine Bv rfl (A9 hg (Ap rfl <| Ac) (.cons (Al rfl <| Ac) (.cons (Ac) .nil)) (hp k hlt hno) (fun _ _ h => h)) ?_
     refine Aa rfl (Ae (Ac)) ?_
     refine Ah <| Ad <| Af <| Ai fun ds => Aa rfl (Ag (Ac)) ?_
     refine Aa rfl (B5 (Ac) Ab) ?_
     refine Ah <| Ad <| Am (Ac) (decide_eq_false (fun h => h hfk)) ?_
     refine Ax <| Bh <| Ad <| Ct (fun _ _ h => h.drop (.cons _ <| .refl _)) ?_
     refine Ai fun ds => Aa rfl (B3 (Ba rfl <| Ay rfl <| Al rfl <| Au rfl hs17) Ab rfl (by omega) (by omega)) ?_
     refine Aa rfl (Ag (Ac)) ?_
     refine Ah <| Ad ⟨_, m - 1, Off.eq (Ei rfl <| ou4 rfl <| Et rfl <| Eu rfl <| Bj), by omega, ?_⟩
     refine ⟨k + 1, by omega, (Ac), rfl, fun j hjk => ?_⟩
     rcases Nat.lt_succ_iff_lt_or_eq.1 hjk with hjk | rfl
     · exact hno j hjk
     · exact hfk
    ·
     refine Ax <| Ad <| Af <| A4 <| Af <| Ai fun ds => Aa rfl (Ag (Al rfl <| Au rfl hs17)) ?_
     refine Aa rfl (Be  Dz (Ap rfl <| Ao rfl <| Ap rfl <| Ac) h.plain (Ap rfl <| Au rfl hs17) rfl (by omega)) ?_
     refine Aa rfl (Bg agg_72 (Ac) rfl rfl (h.whole (by omega))) ?_
     refine Bl rfl (B6 zr_72 rfl fun b3 hb3 nb3 => ?_)
     refine Aa rfl (Ae (Ap rfl <| Al rfl <| Ac)) ?_
     refine Ck (B8 sz_72 (Al rfl <| Ac) (Ap rfl <| Ac) (i := 0) rfl rfl rfl rfl Bid.enc_one (.here) ?_)
     refine Ah <| Ad <| Af <| Ai fun ds => Aa rfl (Ag (Ay rfl <| Ap rfl <| Ao rfl <| Ba rfl <| Al rfl <| Ak rfl)) ?_
     refine Aa rfl (Ag (Al rfl <| Ac)) ?_
     refine Aa rfl (Bg agg_72 (Ap rfl <| Al rfl <| Ac) rfl rfl (Bm 0 rfl)) ?_
     refine Bv rfl (A9 hg (Ap rfl <| Ac) (.cons (Al rfl <| Ac) (.cons (Ac) .nil)) (hp k hlt hno) (fun _ _ h => h)) ?_
     refine Aa rfl (Ae (Ac)) ?_
     refine Ah <| Ad <| Af <| Ai fun ds => Aa rfl (Ag (Ac)) ?_
     refine Aa rfl (B5 (Ac) Ab) ?_
     refine Ah <| Ad <| Ar (Ac) (decide_eq_true hfk) ?_
     refine Af <| Ai fun ds => Aa rfl (Ag (Ay rfl <| Ap rfl <| Al rfl <| Ac)) ?_
     refine Aa rfl (Ag (Ap rfl <| Al rfl <| Ac)) ?_
     refine Aa rfl (Ae (Al rfl <| Ac)) ?_
     refine Aa rfl (Ae (Al rfl <| Ac)) ?_
     refine Ah <| Ad <| A5 <| Bc (A7 (A7 (Bc (A7 ?_))))
     refine Aw rfl (.tmp (Al rfl <| Ac) (.tmp (Ac) .nil)) ?_
     show _ = _
     rw [Cs hml hlt hno rfl hfk]; rfl
   ·
    refine Af <| Ai fun ds => Aa rfl (B0 (Au rfl hs17) (Ao rfl <| Al rfl <| Ac)) ?_
    refine Ah <| Ad <| Af <| Am (Ac) (by first | rfl | exact decide_eq_false (by omega)) ?_
    refine Bx ?_
    refine Bk <| Bk <| Bn <| Ad <| Af <| Ai fun ds => Aa rfl (Ae Ab) ?_
    refine Aa rfl (Ae Ab) ?_
    refine Ah <| Ad <| A5 <| Aw rfl (.tmp (Al rfl <| Ac) (.tmp (Ac) .nil)) ?_
    show _ = _
    rw [Dm hml fun j hj => hno j (by omega)]; rfl
set_option maxRecDepth 100000 in
theorem firstEnt_ok {F : Heap} {v : Value} {xs : List Ent} (h : Sl F v 4 Ent.enc xs) {most : Nat} (f : Nat → Int) {g : FuncId} {cs : List Value} (hg : Body Try.prog g) (hp : ∀ k (hk : k < xs.length), (∀ j, j < k → f j = 0) → Ok Try.prog g ([Value.int .i64 (k : Int), Value.agg (Ent.enc xs[k]).toArray] ++ cs).toArray F fun r _ => r = .int .i64 (f k)) : Ok Try.prog 103 [v, .int .i64 (most : Int), .func (.func g) #[] cs.toArray].toArray F fun r _ => r = optV (firstE xs.length most f) := by
 refine Ok.intro Try.func103 rfl Try.ntmps103 rfl fun w0 => ?_
 have hlen := h.plain.lt
 by_cases hml : most < xs.length
 ·
  refine Af <| Ai fun ds => Aa rfl (Ae Ab) ?_
  refine Aa rfl (Ae Ab) ?_
  refine Ah <| Ad <| Af <| Af <| Ai fun ds => Aa rfl (Ag (Ap rfl <| Ak rfl)) ?_
  refine Aa rfl (Bf sl_47 (Ac) h.plain) ?_
  refine Aa rfl (Ag (Ay rfl <| Ak rfl)) ?_
  refine Aa rfl (Cl (Al rfl <| Ac) (Ac)) ?_
  refine Ah <| Ad <| Ar (Ac) (by first | rfl | exact decide_eq_true (by omega)) ?_
  refine Af <| Ai fun ds => Aa rfl (Ae Ab) ?_
  refine Aa rfl (Ae Ab) ?_
  refine Ah <| Ad <| A5 <| A7 ?_
  refine Aw rfl (.tmp (Al rfl <| Ac) (.tmp (Ac) .nil)) ?_
  show _ = _
  rw [Dq hml]; rfl
 ·
  refine Af <| Ai fun ds => Aa rfl (Ae Ab) ?_
  refine Aa rfl (Ae Ab) ?_
  refine Ah <| Ad <| Af <| Af <| Ai fun ds => Aa rfl (Ag (Ap rfl <| Ak rfl)) ?_
  refine Aa rfl (Bf sl_47 (Ac) h.plain) ?_
  refine Aa rfl (Ag (Ay rfl <| Ak rfl)) ?_
  refine Aa rfl (Cl (Al rfl <| Ac) (Ac)) ?_
  refine Ah <| Ad <| Am (Ac) (by first | rfl | exact decide_eq_false (by omega)) ?_
  refine Ax <| Ad <| Af <| Af <| Ai fun ds => Aa rfl (Ag (Ay rfl <| Ap rfl <| Ak rfl)) ?_
  refine Aa rfl (Bf sl_47 (Ac) h.plain) ?_
  refine Aa rfl (Ag Ab) ?_
  refine Ah <| Ad <| A4 <| B4 [6, 7, 8, 9, 10, 17, 18, 19, 20, 21, 22, 23, 24, 25, 26, 27, 28, 29, 30] (fun m e σ => ∃ k : Nat, m + k = xs.length ∧ e 17 = .int .i64 (k : Int) ∧ σ = ⟨F, []⟩ ∧ ∀ j, j < k → f j = 0) (xs.length) ?_ ?_
  · exact ⟨0, by omega, (Ac), rfl, fun j h => absurd h (by omega)⟩
  ·
   rintro m e _ ⟨k, hm, hs17, rfl, hno⟩
   by_cases hlt : k < xs.length
   ·
    refine Af <| Ai fun ds => Aa rfl (B0 (Au rfl hs17) (Ao rfl <| Al rfl <| Ac)) ?_
    refine Ah <| Ad <| Af <| Ar (Ac) (by first | rfl | exact decide_eq_true (by omega)) ?_
    by_cases hfk : f k = 0
    ·
     refine Ax <| Ad <| Af <| A4 <| Af <| Ai fun ds => Aa rfl (Ag (Al rfl <| Au rfl hs17)) ?_
     refine Aa rfl (Be  sl_47 (Ap rfl <| Ao rfl <| Ap rfl <| Ac) h.plain (Ap rfl <| Au rfl hs17) rfl (by omega)) ?_
     refine Aa rfl (Bg agg_60 (Ac) rfl rfl (h.whole (by omega))) ?_
     refine Bl rfl (B6 zr_60 rfl fun b2 hb2 nb2 => ?_)
     refine Aa rfl (Ae (Ap rfl <| Al rfl <| Ac)) ?_
     refine Ck (B8 sz_60 (Al rfl <| Ac) (Ap rfl <| Ac) (i := 0) rfl rfl rfl rfl Ent.enc_one (.here) ?_)
     refine Ah <| Ad <| Af <| Ai fun ds => Aa rfl (Ag (Ay rfl <| Ap rfl <| Ao rfl <| Ba rfl <| Al rfl <| Ak rfl)) ?_
     refine Aa rfl (Ag (Al rfl <| Ac)) ?_
     refine Aa rfl (Bg agg_60 (Ap rfl <| Al rfl <| Ac) rfl rfl (Bm 0 rfl)) ?_
     refine Bv rfl (A9 hg (Ap rfl <| Ac) (.cons (Al rfl <| Ac) (.cons (Ac) .nil)) (hp k hlt hno) (fun _ _ h => h)) ?_
     refine Aa rfl (Ae (Ac)) ?_
     refine Ah <| Ad <| Af <| Ai fun ds => Aa rfl (Ag (Ac)) ?_
     refine Aa rfl (B5 (Ac) Ab) ?_
     refine Ah <| Ad <| Am (Ac) (decide_eq_false (fun h => h hfk)) ?_
     refine Ax <| Bh <| Ad <| Ct (fun _ _ h => h.drop (.cons _ <| .refl _)) ?_
     refine Ai fun ds => Aa rfl (B3 (Ba rfl <| Ay rfl <| Al rfl <| Au rfl hs17) Ab rfl (by omega) (by omega)) ?_
     refine Aa rfl (Ag (Ac)) ?_
     refine Ah <| Ad ⟨_, m - 1, Off.eq (Ei rfl <| ou4 rfl <| Et rfl <| Eu rfl <| Bj), by omega, ?_⟩
     refine ⟨k + 1, by omega, (Ac), rfl, fun j hjk => ?_⟩
     rcases Nat.lt_succ_iff_lt_or_eq.1 hjk with hjk | rfl
     · exact hno j hjk
     · exact hfk
    ·
     refine Ax <| Ad <| Af <| A4 <| Af <| Ai fun ds => Aa rfl (Ag (Al rfl <| Au rfl hs17)) ?_
     refine Aa rfl (Be  sl_47 (Ap rfl <| Ao rfl <| Ap rfl <| Ac) h.plain (Ap rfl <| Au rfl hs17) rfl (by omega)) ?_
     refine Aa rfl (Bg agg_60 (Ac) rfl rfl (h.whole (by omega))) ?_
     refine Bl rfl (B6 zr_60 rfl fun b3 hb3 nb3 => ?_)
     refine Aa rfl (Ae (Ap rfl <| Al rfl <| Ac)) ?_
     refine Ck (B8 sz_60 (Al rfl <| Ac) (Ap rfl <| Ac) (i := 0) rfl rfl rfl rfl Ent.enc_one (.here) ?_)
     refine Ah <| Ad <| Af <| Ai fun ds => Aa rfl (Ag (Ay rfl <| Ap rfl <| Ao rfl <| Ba rfl <| Al rfl <| Ak rfl)) ?_
     refine Aa rfl (Ag (Al rfl <| Ac)) ?_
     refine Aa rfl (Bg agg_60 (Ap rfl <| Al rfl <| Ac) rfl rfl (Bm 0 rfl)) ?_
     refine Bv rfl (A9 hg (Ap rfl <| Ac) (.cons (Al rfl <| Ac) (.cons (Ac) .nil)) (hp k hlt hno) (fun _ _ h => h)) ?_
     refine Aa rfl (Ae (Ac)) ?_
     refine Ah <| Ad <| Af <| Ai fun ds => Aa rfl (Ag (Ac)) ?_
     refine Aa rfl (B5 (Ac) Ab) ?_
     refine Ah <| Ad <| Ar (Ac) (decide_eq_true hfk) ?_
     refine Af <| Ai fun ds => Aa rfl (Ag (Ay rfl <| Ap rfl <| Al rfl <| Ac)) ?_
     refine Aa rfl (Ag (Ap rfl <| Al rfl <| Ac)) ?_
     refine Aa rfl (Ae (Al rfl <| Ac)) ?_
     refine Aa rfl (Ae (Al rfl <| Ac)) ?_
     refine Ah <| Ad <| A5 <| Bc (A7 (A7 (Bc (A7 ?_))))
     refine Aw rfl (.tmp (Al rfl <| Ac) (.tmp (Ac) .nil)) ?_
     show _ = _
     rw [Cs hml hlt hno rfl hfk]; rfl
   ·
    refine Af <| Ai fun ds => Aa rfl (B0 (Au rfl hs17) (Ao rfl <| Al rfl <| Ac)) ?_
    refine Ah <| Ad <| Af <| Am (Ac) (by first | rfl | exact decide_eq_false (by omega)) ?_
    refine Bx ?_
    refine Bk <| Bk <| Bn <| Ad <| Af <| Ai fun ds => Aa rfl (Ae Ab) ?_
    refine Aa rfl (Ae Ab) ?_
    refine Ah <| Ad <| A5 <| Aw rfl (.tmp (Al rfl <| Ac) (.tmp (Ac) .nil)) ?_
    show _ = _
    rw [Dm hml fun j hj => hno j (by omega)]; rfl
set_option maxRecDepth 100000 in
theorem firstStr_ok {F : Heap} {v : Value} {xs : List ByteArray} (h : Sl F v 1 strE xs) {most : Nat} (f : Nat → Int) {g : FuncId} {cs : List Value} (hg : Body Try.prog g) (hp : ∀ k (hk : k < xs.length), (∀ j, j < k → f j = 0) → Ok Try.prog g ([Value.int .i64 (k : Int), Value.string xs[k]] ++ cs).toArray F fun r _ => r = .int .i64 (f k)) : Ok Try.prog 51 [v, .int .i64 (most : Int), .func (.func g) #[] cs.toArray].toArray F fun r _ => r = optV (firstE xs.length most f) := by
 refine Ok.intro Try.func51 rfl Try.ntmps51 rfl fun w0 => ?_
 have hlen := h.plain.lt
 by_cases hml : most < xs.length
 ·
  refine Af <| Ai fun ds => Aa rfl (Ae Ab) ?_
  refine Aa rfl (Ae Ab) ?_
  refine Ah <| Ad <| Af <| Af <| Ai fun ds => Aa rfl (Ag (Ap rfl <| Ak rfl)) ?_
  refine Aa rfl (Bf Cr (Ac) h.plain) ?_
  refine Aa rfl (Ag (Ay rfl <| Ak rfl)) ?_
  refine Aa rfl (Cl (Al rfl <| Ac) (Ac)) ?_
  refine Ah <| Ad <| Ar (Ac) (by first | rfl | exact decide_eq_true (by omega)) ?_
  refine Af <| Ai fun ds => Aa rfl (Ae Ab) ?_
  refine Aa rfl (Ae Ab) ?_
  refine Ah <| Ad <| A5 <| A7 ?_
  refine Aw rfl (.tmp (Al rfl <| Ac) (.tmp (Ac) .nil)) ?_
  show _ = _
  rw [Dq hml]; rfl
 ·
  refine Af <| Ai fun ds => Aa rfl (Ae Ab) ?_
  refine Aa rfl (Ae Ab) ?_
  refine Ah <| Ad <| Af <| Af <| Ai fun ds => Aa rfl (Ag (Ap rfl <| Ak rfl)) ?_
  refine Aa rfl (Bf Cr (Ac) h.plain) ?_
  refine Aa rfl (Ag (Ay rfl <| Ak rfl)) ?_
  refine Aa rfl (Cl (Al rfl <| Ac) (Ac)) ?_
  refine Ah <| Ad <| Am (Ac) (by first | rfl | exact decide_eq_false (by omega)) ?_
  refine Ax <| Ad <| Af <| Af <| Ai fun ds => Aa rfl (Ag (Ay rfl <| Ap rfl <| Ak rfl)) ?_
  refine Aa rfl (Bf Cr (Ac) h.plain) ?_
  refine Aa rfl (Ag Ab) ?_
  refine Ah <| Ad <| A4 <| B4 [6, 7, 8, 9, 10, 17, 18, 19, 20, 21, 22, 23, 24, 25, 26, 27, 28, 29, 30] (fun m e σ => ∃ k : Nat, m + k = xs.length ∧ e 17 = .int .i64 (k : Int) ∧ σ = ⟨F, []⟩ ∧ ∀ j, j < k → f j = 0) (xs.length) ?_ ?_
  · exact ⟨0, by omega, (Ac), rfl, fun j h => absurd h (by omega)⟩
  ·
   rintro m e _ ⟨k, hm, hs17, rfl, hno⟩
   by_cases hlt : k < xs.length
   ·
    refine Af <| Ai fun ds => Aa rfl (B0 (Au rfl hs17) (Ao rfl <| Al rfl <| Ac)) ?_
    refine Ah <| Ad <| Af <| Ar (Ac) (by first | rfl | exact decide_eq_true (by omega)) ?_
    by_cases hfk : f k = 0
    ·
     refine Ax <| Ad <| Af <| A4 <| Af <| Ai fun ds => Aa rfl (Ag (Al rfl <| Au rfl hs17)) ?_
     refine Aa rfl (Be  Cr (Ap rfl <| Ao rfl <| Ap rfl <| Ac) h.plain (Ap rfl <| Au rfl hs17) rfl (by omega)) ?_
     refine Aa rfl (Aq one_9 (Ac) (h.cell1 (by omega) rfl)) ?_
     refine Aa rfl (Ae (Ap rfl <| Ac)) ?_
     refine Aa rfl (Ae (Al rfl <| Ac)) ?_
     refine Ah <| Ad <| Af <| Ai fun ds => Aa rfl (Ag (Ay rfl <| Ap rfl <| Ao rfl <| Ba rfl <| Al rfl <| Ak rfl)) ?_
     refine Aa rfl (Ag (Ap rfl <| Ac)) ?_
     refine Aa rfl (Ag (Ap rfl <| Ac)) ?_
     refine Bv rfl (A9 hg (Ap rfl <| Ac) (.cons (Al rfl <| Ac) (.cons (Ac) .nil)) (hp k hlt hno) (fun _ _ h => h)) ?_
     refine Aa rfl (Ae (Ac)) ?_
     refine Ah <| Ad <| Af <| Ai fun ds => Aa rfl (Ag (Ac)) ?_
     refine Aa rfl (B5 (Ac) Ab) ?_
     refine Ah <| Ad <| Am (Ac) (decide_eq_false (fun h => h hfk)) ?_
     refine Ax <| Bh <| Ad <| Ai fun ds => Aa rfl (B3 (Ba rfl <| Ay rfl <| Al rfl <| Au rfl hs17) Ab rfl (by omega) (by omega)) ?_
     refine Aa rfl (Ag (Ac)) ?_
     refine Ah <| Ad ⟨_, m - 1, Off.eq (Ei rfl <| ou4 rfl <| Et rfl <| Eu rfl <| Bj), by omega, ?_⟩
     refine ⟨k + 1, by omega, (Ac), rfl, fun j hjk => ?_⟩
     rcases Nat.lt_succ_iff_lt_or_eq.1 hjk with hjk | rfl
     · exact hno j hjk
     · exact hfk
    ·
     refine Ax <| Ad <| Af <| A4 <| Af <| Ai fun ds => Aa rfl (Ag (Al rfl <| Au rfl hs17)) ?_
     refine Aa rfl (Be  Cr (Ap rfl <| Ao rfl <| Ap rfl <| Ac) h.plain (Ap rfl <| Au rfl hs17) rfl (by omega)) ?_
     refine Aa rfl (Aq one_9 (Ac) (h.cell1 (by omega) rfl)) ?_
     refine Aa rfl (Ae (Ap rfl <| Ac)) ?_
     refine Aa rfl (Ae (Al rfl <| Ac)) ?_
     refine Ah <| Ad <| Af <| Ai fun ds => Aa rfl (Ag (Ay rfl <| Ap rfl <| Ao rfl <| Ba rfl <| Al rfl <| Ak rfl)) ?_
     refine Aa rfl (Ag (Ap rfl <| Ac)) ?_
     refine Aa rfl (Ag (Ap rfl <| Ac)) ?_
     refine Bv rfl (A9 hg (Ap rfl <| Ac) (.cons (Al rfl <| Ac) (.cons (Ac) .nil)) (hp k hlt hno) (fun _ _ h => h)) ?_
     refine Aa rfl (Ae (Ac)) ?_
     refine Ah <| Ad <| Af <| Ai fun ds => Aa rfl (Ag (Ac)) ?_
     refine Aa rfl (B5 (Ac) Ab) ?_
     refine Ah <| Ad <| Ar (Ac) (decide_eq_true hfk) ?_
     refine Af <| Ai fun ds => Aa rfl (Ag (Ba rfl <| Ac)) ?_
     refine Aa rfl (Ag (Ap rfl <| Al rfl <| Ac)) ?_
     refine Aa rfl (Ae (Al rfl <| Ac)) ?_
     refine Aa rfl (Ae (Al rfl <| Ac)) ?_
     refine Ah <| Ad <| A5 <| Bc (A7 (A7 (Bc (A7 ?_))))
     refine Aw rfl (.tmp (Al rfl <| Ac) (.tmp (Ac) .nil)) ?_
     show _ = _
     rw [Cs hml hlt hno rfl hfk]; rfl
   ·
    refine Af <| Ai fun ds => Aa rfl (B0 (Au rfl hs17) (Ao rfl <| Al rfl <| Ac)) ?_
    refine Ah <| Ad <| Af <| Am (Ac) (by first | rfl | exact decide_eq_false (by omega)) ?_
    refine Bx ?_
    refine Bk <| Bk <| Bn <| Ad <| Af <| Ai fun ds => Aa rfl (Ae Ab) ?_
    refine Aa rfl (Ae Ab) ?_
    refine Ah <| Ad <| A5 <| Aw rfl (.tmp (Al rfl <| Ac) (.tmp (Ac) .nil)) ?_
    show _ = _
    rw [Dm hml fun j hj => hno j (by omega)]; rfl
set_option maxRecDepth 100000 in
theorem indexStr_ok {F : Heap} {v : Value} {xs : List ByteArray} (h : Sl F v 1 strE xs) (wd : ByteArray) : Ok Try.prog 113 [v, .string wd].toArray F fun r _ => r = .int .i64 (findI (fun x => sameS x wd) xs) := by
 refine Ok.intro Try.func113 rfl Try.ntmps113 rfl fun w0 => ?_
 have hlen := h.plain.lt
 refine Af <| Ai fun ds => Aa rfl (Ae Ab) ?_
 refine Ah <| Ad <| Af <| Af <| Ai fun ds => Aa rfl (Ag (Al rfl <| Ak rfl)) ?_
 refine Aa rfl (Bf Cr (Ac) h.plain) ?_
 refine Aa rfl (Ag Ab) ?_
 refine Ah <| Ad <| A4 <| B4 [4, 5, 8, 9, 10, 11, 12, 13, 14, 15, 16, 17, 18] (fun m e σ => ∃ k : Nat, m + k = xs.length ∧ e 8 = .int .i64 (k : Int) ∧ σ = ⟨F, []⟩ ∧ ∀ j (hj : j < xs.length), j < k → sameS xs[j] wd = false) (xs.length) ?_ ?_
 · exact ⟨0, by omega, (Ac), rfl, fun j hj h => absurd h (by omega)⟩
 ·
  rintro m e _ ⟨k, hm, hs8, rfl, hno⟩
  by_cases hlt : k < xs.length
  ·
   refine Af <| Ai fun ds => Aa rfl (B0 (Au rfl hs8) (Ao rfl <| Al rfl <| Ac)) ?_
   refine Ah <| Ad <| Af <| Ar (Ac) (by first | rfl | exact decide_eq_true (by omega)) ?_
   by_cases hpk : sameS xs[k] wd = true
   ·
    refine Ax <| Ad <| Af <| A4 <| Af <| Ai fun ds => Aa rfl (Ag (Al rfl <| Au rfl hs8)) ?_
    refine Aa rfl (Ae (Ac)) ?_
    refine Ah <| Ad <| Af <| Ai fun ds => Aa rfl (Ag (Ap rfl <| Al rfl <| Ao rfl <| Ay rfl <| Ak rfl)) ?_
    refine Aa rfl (Ag (Ay rfl <| Ao rfl <| Ay rfl <| Ak rfl)) ?_
    refine Aa rfl (Ag (Ap rfl <| Ac)) ?_
    refine Aa rfl (Be (k := k) Cr (Al rfl <| Ac) h.plain (Ac) rfl hlt) ?_
    refine Aa rfl (Aq one_9 (Ac) (h.cell1 hlt rfl)) ?_
    refine Aa rfl (q_eqs (Ay rfl <| Ac) (Ac)) ?_
    refine Ah <| Ad <| Ar (Ac) (by unfold sameS at hpk; rw [beq_iff_eq] at hpk ⊢; exact hpk.symm) ?_
    refine Af <| Ai fun ds => Aa rfl (Ag (Ay rfl <| Ap rfl <| Ac)) ?_
    refine Aa rfl (Ae (Ac)) ?_
    refine Ah <| Ad <| A5 <| Bc (A7 (A7 (Bc (A7 ?_))))
    refine Aw rfl (.tmp (Ac) .nil) ?_
    show _ = _
    rw [Ex (p := fun x => sameS x wd) hlt hpk hno]; rfl
   ·
    replace hpk : sameS xs[k] wd = false := by simpa using hpk
    refine Ax <| Ad <| Af <| A4 <| Af <| Ai fun ds => Aa rfl (Ag (Al rfl <| Au rfl hs8)) ?_
    refine Aa rfl (Ae (Ac)) ?_
    refine Ah <| Ad <| Af <| Ai fun ds => Aa rfl (Ag (Ap rfl <| Al rfl <| Ao rfl <| Ay rfl <| Ak rfl)) ?_
    refine Aa rfl (Ag (Ay rfl <| Ao rfl <| Ay rfl <| Ak rfl)) ?_
    refine Aa rfl (Ag (Ap rfl <| Ac)) ?_
    refine Aa rfl (Be (k := k) Cr (Al rfl <| Ac) h.plain (Ac) rfl hlt) ?_
    refine Aa rfl (Aq one_9 (Ac) (h.cell1 hlt rfl)) ?_
    refine Aa rfl (q_eqs (Ay rfl <| Ac) (Ac)) ?_
    refine Ah <| Ad <| Am (Ac) (by unfold sameS at hpk; rw [beq_eq_false_iff_ne] at hpk ⊢; exact fun e => hpk e.symm) ?_
    refine Ax <| Bh <| Ad <| Ai fun ds => Aa rfl (B3 (Ba rfl <| Al rfl <| Au rfl hs8) Ab rfl (by omega) (by omega)) ?_
    refine Aa rfl (Ag (Ac)) ?_
    refine Ah <| Ad ⟨_, m - 1, Off.eq (Ei rfl <| Et rfl <| Eu rfl <| Bj), by omega, ?_⟩
    refine ⟨k + 1, by omega, (Ac), rfl, fun j hj hjk => ?_⟩
    rcases Nat.lt_succ_iff_lt_or_eq.1 hjk with hjk | rfl
    · exact hno j hj hjk
    · exact hpk
  ·
   refine Af <| Ai fun ds => Aa rfl (B0 (Au rfl hs8) (Ao rfl <| Al rfl <| Ac)) ?_
   refine Ah <| Ad <| Af <| Am (Ac) (by first | rfl | exact decide_eq_false (by omega)) ?_
   refine Bx ?_
   refine Bk <| Bk <| Bn <| Ad <| Af <| Ai fun ds => Aa rfl (Ae Ab) ?_
   refine Ah <| Ad <| A5 <| Aw rfl (.tmp (Ac) .nil) ?_
   show _ = _
   rw [findI_none (p := fun x => sameS x wd) fun j hj => hno j hj (by omega)]; rfl
set_option maxRecDepth 100000 in
theorem containsStr_ok {F : Heap} {v : Value} {xs : List ByteArray} (h : Sl F v 1 strE xs) (wd : ByteArray) : Ok Try.prog 96 [v, .string wd].toArray F fun r _ => r = .bool (xs.any fun x => sameS x wd) := by
 refine Ok.intro Try.func96 rfl Try.ntmps96 rfl fun w0 => ?_
 refine Af <| Ai fun ds => Aa rfl (Ae Ab) ?_
 refine Ah <| Ad <| Af <| Ai fun ds => Aa rfl (Ag (Al rfl <| Ak rfl)) ?_
 refine Aa rfl (Ag (Ap rfl <| Ak rfl)) ?_
 refine Bv rfl (A9 bd_113 Az (.cons (Al rfl <| Ac) (.cons (Ac) .nil)) (indexStr_ok h wd) (fun _ _ h => h)) ?_
 refine Aa rfl (Dp (Ac) Ab) ?_
 refine Aa rfl (Ae (Ac)) ?_
 refine Ah <| Ad <| A5 <| Aw rfl (.tmp (Ac) .nil) ?_
 show _ = _
 rw [← findI_any]; rfl
end Go.Proofs.Ytaikojfonleccaa
