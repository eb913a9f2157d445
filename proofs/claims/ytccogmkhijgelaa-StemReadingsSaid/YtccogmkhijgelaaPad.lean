/-
  A part of a proof: StemReadings returns true of any stem, numbers, edition and place, and leaves what it is handed as it was. No conditions.
-/
import Derived.Test.YtccogmkhijgelaaPac
namespace Go.Proofs.Ytccogmkhijgelaa
open Go.RowKit
theorem zr_155 : ZeroT Try.prog 155 (.agg #[.int .i64 0, .int .i64 0, .int .i64 0, .int .i64 0]) := C7 (by kernel_rfl)
theorem agg_155 : AggT Try.prog 155 4 := aggT_of (by kernel_rfl)
theorem ar_155 : ArrT Try.prog 155 4 3 1 := arrT_of (by kernel_rfl)
theorem bd_113 : Body Try.prog 113 := Bq (by kernel_rfl)
theorem bd_114 : Body Try.prog 114 := Bq (by kernel_rfl)
theorem bd_115 : Body Try.prog 115 := Bq (by kernel_rfl)
theorem sz_155 : SizeT Try.prog 155 4 := Cx (by kernel_rfl)
def cN (s : Stm) (l : List Int) (p i : Nat) : Nat → Int
 | 0 => 0
 | a + 1 => costN s l p i ((a : Int) + 1)
/-- The cells of an edition when so many of those set from it were looked at, the next one for readings less than 'n'. -/
def cKf (s : Stm) (l : List Int) (p i k n : Nat) : Nat → Int
 | 0 => 0
 | a + 1 => if a + 1 < n then costK s l p (costN s l p) i (k + 1) ((a : Int) + 1) else costK s l p (costN s l p) i k ((a : Int) + 1)
def c0f (s : Stm) (p i n : Nat) : Nat → Int
 | 0 => 0
 | a + 1 => if a + 1 < n then (if fitR s p i ((a : Int) + 1) then 0 else never) else 0
theorem c0f_s {s : Stm} {p i n a : Nat} : c0f s p i n (a + 1) = if a + 1 < n then (if fitR s p i ((a : Int) + 1) then 0 else never) else 0 := rfl
theorem cKf_s {s : Stm} {l : List Int} {p i k n a : Nat} : cKf s l p i k n (a + 1) = if a + 1 < n then costK s l p (costN s l p) i (k + 1) ((a : Int) + 1) else costK s l p (costN s l p) i k ((a : Int) + 1) := rfl
theorem cN_s {s : Stm} {l : List Int} {p i a : Nat} : cN s l p i (a + 1) = costN s l p i ((a : Int) + 1) := rfl
section
variable {s : Stm} {l : List Int} {p i : Nat}
theorem c0f_one : cstC (c0f s p i 1) = List.replicate 4 (.int .i64 0) := by
 rw [D8 (d := fun _ => 0) fun a _ => ?_]
 · rfl
 · cases a with
   | zero => rfl
   | succ a => rw [c0f_s, if_neg (by omega)]
theorem c0f_step {n : Nat} {v : Int} (hv : v = if fitR s p i ((n : Int) + 1) then 0 else never) : cstC (updI (c0f s p i (n + 1)) (n + 1) v) = cstC (c0f s p i (n + 1 + 1)) := by
 refine D8 fun a _ => ?_
 unfold updI
 by_cases h : a = n + 1
 · rw [if_pos h]; subst h; rw [c0f_s, if_pos (by omega), hv]
 · rw [if_neg h]
   cases a with
   | zero => rfl
   | succ a =>
     rw [c0f_s, c0f_s]
     by_cases h2 : a + 1 < n + 1
     · rw [if_pos h2, if_pos (show a + 1 < n + 1 + 1 by omega)]
     · rw [if_neg h2, if_neg (show ¬ a + 1 < n + 1 + 1 by omega)]
theorem c0f_same {n : Nat} (hv : fitR s p i ((n : Int) + 1)) : cstC (c0f s p i (n + 1)) = cstC (c0f s p i (n + 1 + 1)) := by
 rw [← c0f_step (v := 0) (by rw [if_pos hv])]
 refine D8 fun a _ => ?_
 unfold updI
 by_cases h : a = n + 1
 · rw [if_pos h]; subst h; rw [c0f_s, if_neg (by omega)]
 · rw [if_neg h]
theorem c0f_end : cstC (c0f s p i 4) = cstC (cKf s l p i 0 1) := by
 refine D8 fun a ha => ?_
 cases a with
 | zero => rfl
 | succ a => rw [c0f_s, cKf_s, if_pos (show a + 1 < 4 by omega), if_neg (show ¬ a + 1 < 1 by omega)]; rfl
theorem cKf_set {k n : Nat} {v : Int} (hv : v = costK s l p (costN s l p) i (k + 1) ((n : Int) + 1)) : cstC (updI (cKf s l p i k (n + 1)) (n + 1) v) = cstC (cKf s l p i k (n + 1 + 1)) := by
 refine D8 fun a _ => ?_
 unfold updI
 by_cases h : a = n + 1
 · rw [if_pos h]; subst h; rw [cKf_s, if_pos (by omega), hv]
 · rw [if_neg h]
   cases a with
   | zero => rfl
   | succ a =>
     rw [cKf_s, cKf_s]
     by_cases h2 : a + 1 < n + 1
     · rw [if_pos h2, if_pos (by omega)]
     · rw [if_neg h2, if_neg (by omega)]
theorem cKf_get {k n : Nat} : cKf s l p i k (n + 1) (n + 1) = costK s l p (costN s l p) i k ((n : Int) + 1) := by rw [cKf_s, if_neg (by omega)]
theorem cKf_next {k : Nat} : cstC (cKf s l p i k 4) = cstC (cKf s l p i (k + 1) 1) := by
 refine D8 fun a ha => ?_
 cases a with
 | zero => rfl
 | succ a => rw [cKf_s, cKf_s, if_pos (by omega), if_neg (by omega)]
theorem cKf_skip {k : Nat} (h : upN l k ≠ (i : Int)) : cstC (cKf s l p i k 1) = cstC (cKf s l p i (k + 1) 1) := by
 refine D8 fun a ha => ?_
 cases a with
 | zero => rfl
 | succ a => rw [cKf_s, cKf_s, if_neg (by omega), if_neg (by omega)]; conv => rhs; unfold costK; rw [if_neg h]
theorem cKf_end (ht : IsTree l) (hi : i < l.length) : cstC (cKf s l p i l.length 1) = cstC (cN s l p i) := by
 refine D8 fun a ha => ?_
 cases a with
 | zero => rfl
 | succ a => rw [cKf_s, cN_s, if_neg (by omega), cost_fix ht hi]
theorem best_same {free : Bool} {own : Int → Int} {n m : Nat} (h : m = n) : bestTo free own ((n : Int) + 1) (m + 1) = min (bestTo free own ((n : Int) + 1) m) (own ((m : Int) + 1)) := by
 conv => lhs; unfold bestTo
 rw [if_pos (by omega)]
theorem best_more {free : Bool} {own : Int → Int} {n m : Nat} (h : m ≠ n) (h2 : n < m ∨ free = true) : bestTo free own ((n : Int) + 1) (m + 1) = min (bestTo free own ((n : Int) + 1) m) (own ((m : Int) + 1) + 1) := by
 conv => lhs; unfold bestTo
 rw [if_neg (by omega), if_pos (by rcases h2 with h2 | h2; exact .inl (by omega); exact .inr h2)]
theorem best_not {free : Bool} {own : Int → Int} {n m : Nat} (h : m ≠ n) (h2 : ¬ (n < m ∨ free = true)) : bestTo free own ((n : Int) + 1) (m + 1) = bestTo free own ((n : Int) + 1) m := by
 conv => lhs; unfold bestTo
 rw [if_neg (by omega), if_neg (fun h3 => h2 (by rcases h3 with h3 | h3; exact .inl (by omega); exact .inr h3))]
end
set_option maxRecDepth 100000 in
theorem cost_step {F : Heap} {b : Nat} {vp ve vm : Value} {ps : List (Value × Edn)} {s : Stm} (hX : StmX F b vp ve vm ps s) {l : List Int} (ht : IsTree l) (hll : l.length = s.editions.length) (hv : ValidT s) {p : Nat} (hp : p < s.places.length) {i : Nat} (hi : i < l.length) (ih : ∀ k, k < l.length → dep l l.length k = dep l l.length i + 1 → Ok Try.prog 113 [.pointer (some ⟨b, 0, none⟩), treeV l, .int .i64 (p : Int), .int .i64 (k : Int)].toArray F fun u _ => u = cstV (cN s l p k)) : Ok Try.prog 113 [.pointer (some ⟨b, 0, none⟩), treeV l, .int .i64 (p : Int), .int .i64 (i : Int)].toArray F fun u _ => u = cstV (cN s l p i) := by
 refine Ok.intro Try.func113 rfl Try.ntmps113 rfl fun w0 => ?_
 have hne := hv.ne
 have hnp := hv.np
 have hlen := hX.r.len
 have hL1 := hX.r.eds.plain.lt
 have hip : i < ps.length := by omega
 have hra := hX.r.rd hip
 have hpr : p < (s.ed i).rd.length := by rw [hv.rdl i (by omega)]; exact hp
 have hrv := C3 hpr
 have hrb := hv.rd i p (by omega) hp
 have hpl : (s.places[p]'hp).kind = (s.pl p).kind := by rw [pl_at hp]
 refine Af <| Ai fun ds => Bm rfl (B2 (Aj rfl) rfl fun b1 hb1 nb1 => ?_)
 refine Bm rfl (Cf zr_155 rfl fun b2 hb2 nb2 => ?_)
 refine Ah <| Ac <| Af <| Af <| Ai fun ds => Aa rfl (Ae Ab) ?_
 refine Ah <| Ac <| Az <| Bu [9, 10, 16, 17, 18, 19, 20, 21, 22, 23, 24, 25, 26, 27, 28, 29, 30, 31, 32, 33, 34, 35, 36, 37, 38, 39, 40] (fun m e σ => ∃ n : Nat, m + n = 3 ∧ e 9 = .int .i64 ((n + 1 : Nat) : Int) ∧ σ = ⟨F, [(b2, bx 155 (cstC (c0f s p i (n + 1)))), (b1, bx 100 (treeC l))]⟩) (3) ?_ ?_
 · exact ⟨0, rfl, (Ad), by rw [c0f_one]; rfl⟩
 ·
  rintro m e _ ⟨n, hm, hs9, rfl⟩
  by_cases hn3 : n < 3
  ·
   refine Af <| Af <| Ai fun ds => Aa rfl (Ag (As rfl hs9)) ?_
   refine Aa rfl (D7 (Ad) Ab) ?_
   refine Ah <| Ac <| Aq (Ad) (by first | rfl | exact decide_eq_true (by omega)) ?_
   by_cases hk0 : s.r i p = 0
   ·
    refine Aw <| Ac <| Af <| Az <| Af <| Ai fun ds => Aa rfl (Ag (Ar rfl <| Ak rfl <| Ar rfl <| Al rfl <| Aj rfl)) ?_
    refine Aa rfl (B3 (Ad)) ?_
    refine Aa rfl (Ao Cd (Ad)) ?_
    refine Aa rfl (Ao Bv (Ad)) ?_
    refine Aa rfl (Ap Bz (Ad) (CellF.own hX.blk rfl).cell) ?_
    refine Aa rfl (Ag (Ay rfl <| Ar rfl <| Al rfl <| Ak rfl <| Ar rfl <| Al rfl <| Aj rfl)) ?_
    refine Aa rfl (A9 (k := i) B5 (Al rfl <| Ad) hX.r.eds.plain (Ad) rfl hip) ?_
    refine Aa rfl (Bo Ca (Ad)) ?_
    refine Aa rfl (Ap Cb (Ad) (hX.r.eds.cell hip rfl)) ?_
    refine Aa rfl (Ag (A6 rfl <| Ar rfl <| Al rfl <| Ak rfl <| Ar rfl <| Al rfl <| Aj rfl)) ?_
    refine Aa rfl (A9 (k := p) Be (Al rfl <| Ad) hra.plain (Ad) rfl hpr) ?_
    refine Aa rfl (Ap Bj (Ad) (hra.cell1 hpr rfl)) ?_
    refine Aa rfl (Ae (Ad)) ?_
    refine Ah <| Ac <| Af <| Ai fun ds => Aa rfl (Ag (Ad)) ?_
    refine Aa rfl (By (Ad) Ab) ?_
    refine Aa rfl (Ag (Ad)) ?_
    refine At rfl rfl (Ad) (.inl (congrArg Value.bool (by rw [hrv]; exact decide_eq_false (fun h => h hk0)))) rfl ?_
    refine At rfl rfl (Al rfl <| Ad) (.inl (congrArg Value.bool (by rw [hrv]; exact decide_eq_false (fun h => h hk0)))) rfl ?_
    refine At rfl rfl (Ar rfl <| Ad) (.inl (congrArg Value.bool (by rw [hrv]; exact decide_eq_false (fun h => h hk0)))) rfl ?_
    refine Aa rfl (A7 (Ar rfl <| Al rfl <| Ad) (by rw [hrv]; exact decide_eq_false (fun h => h hk0)) Ab) ?_
    refine Ah <| Ac <| Am (Ad) rfl ?_
    refine Aw <| Bb <| Ac <| Ai fun ds => Aa rfl (Ag (A3 rfl <| Ay rfl <| Ar rfl <| As rfl hs9)) ?_
    refine Aa rfl (Br (Ad) Ab rfl (by omega) (by omega)) ?_
    refine Aa rfl (Ae (Ad)) ?_
    refine Ah <| Ac ⟨_, m - 1, Off.eq (Cr rfl <| Dj rfl <| Dk rfl <| Bd), by omega, ?_⟩
    refine ⟨n + 1, by omega, (Ad), by rw [← c0f_same (.inl hk0)]⟩
   ·
    refine Aw <| Ac <| Af <| Az <| Af <| Ai fun ds => Aa rfl (Ag (Ar rfl <| Ak rfl <| Ar rfl <| Al rfl <| Aj rfl)) ?_
    refine Aa rfl (B3 (Ad)) ?_
    refine Aa rfl (Ao Cd (Ad)) ?_
    refine Aa rfl (Ao Bv (Ad)) ?_
    refine Aa rfl (Ap Bz (Ad) (CellF.own hX.blk rfl).cell) ?_
    refine Aa rfl (Ag (Ay rfl <| Ar rfl <| Al rfl <| Ak rfl <| Ar rfl <| Al rfl <| Aj rfl)) ?_
    refine Aa rfl (A9 (k := i) B5 (Al rfl <| Ad) hX.r.eds.plain (Ad) rfl hip) ?_
    refine Aa rfl (Bo Ca (Ad)) ?_
    refine Aa rfl (Ap Cb (Ad) (hX.r.eds.cell hip rfl)) ?_
    refine Aa rfl (Ag (A6 rfl <| Ar rfl <| Al rfl <| Ak rfl <| Ar rfl <| Al rfl <| Aj rfl)) ?_
    refine Aa rfl (A9 (k := p) Be (Al rfl <| Ad) hra.plain (Ad) rfl hpr) ?_
    refine Aa rfl (Ap Bj (Ad) (hra.cell1 hpr rfl)) ?_
    refine Aa rfl (Ae (Ad)) ?_
    refine Ah <| Ac <| Af <| Ai fun ds => Aa rfl (Ag (Ad)) ?_
    refine Aa rfl (By (Ad) Ab) ?_
    refine Aa rfl (Ag (Ad)) ?_
    refine Au rfl rfl (Ad) (by rw [hrv]; exact decide_eq_true hk0) ?_
    refine Aa rfl (Ag (Ar rfl <| Al rfl <| Ad)) ?_
    refine Au rfl rfl (Al rfl <| Ad) (by rw [hrv]; exact decide_eq_true hk0) ?_
    refine Aa rfl (Ag (A3 rfl <| Ar rfl <| Al rfl <| As rfl hs9)) ?_
    refine Au rfl rfl (Ar rfl <| Ad) (by rw [hrv]; exact decide_eq_true hk0) ?_
    refine Aa rfl (By (Al rfl <| Ad) (Ad)) ?_
    refine Aa rfl (A2 (Ar rfl <| Al rfl <| Ad) (by rw [hrv]; exact decide_eq_true hk0) (Ad)) ?_
    refine Ah <| Ac ?_
    by_cases hkn : s.r i p = (n : Int) + 1
    ·
     refine Am (Ad) (by rw [hrv]; exact decide_eq_false (fun h => h hkn)) ?_
     refine Aw <| Bb <| Ac <| Ai fun ds => Aa rfl (Ag (A3 rfl <| Ay rfl <| Ar rfl <| As rfl hs9)) ?_
     refine Aa rfl (Br (Ad) Ab rfl (by omega) (by omega)) ?_
     refine Aa rfl (Ae (Ad)) ?_
     refine Ah <| Ac ⟨_, m - 1, Off.eq (Cr rfl <| Dj rfl <| Dk rfl <| Bd), by omega, ?_⟩
     refine ⟨n + 1, by omega, (Ad), by rw [← c0f_same (.inr hkn)]⟩
    ·
     refine Aq (Ad) (by rw [hrv]; exact decide_eq_true hkn) ?_
     refine Ai fun ds => Aa rfl (Ag (A3 rfl <| Ay rfl <| Ar rfl <| As rfl hs9)) ?_
     refine Aa rfl (Bt (k := n + 1) ar_155 (A3 rfl <| Ay rfl <| Ar rfl <| Al rfl <| Ak rfl <| Al rfl <| Ad) (Ad) rfl (by omega)) ?_
     refine Cm (x_storeK sz_3 (Ad) rfl Ab (i := 0) rfl (by show _ < 4; omega) rfl (.here) ?_)
     refine Ah <| Bb <| Ac <| Ai fun ds => Aa rfl (Ag (A3 rfl <| A6 rfl <| As rfl hs9)) ?_
     refine Aa rfl (Br (Ad) Ab rfl (by omega) (by omega)) ?_
     refine Aa rfl (Ae (Ad)) ?_
     refine Ah <| Ac ⟨_, m - 1, Off.eq (Cr rfl <| Dj rfl <| ou2 rfl <| Dk rfl <| Bd), by omega, ?_⟩
     refine ⟨n + 1, by omega, (Ad), by rw [cstC_set, c0f_step (by rw [if_neg (fun h => h.elim hk0 hkn)]; rfl)]⟩
  ·
   refine Af <| Af <| Ai fun ds => Aa rfl (Ag (As rfl hs9)) ?_
   refine Aa rfl (D7 (Ad) Ab) ?_
   refine Ah <| Ac <| Am (Ad) (by first | rfl | exact decide_eq_false (by omega)) ?_
   obtain rfl : n = 3 := by omega
   rw [c0f_end (l := l)]
   refine Bn ?_
   refine Ba <| Ba <| Bh <| Ac <| Af <| Af <| Ai fun ds => Aa rfl (Ag (Ar rfl <| Ak rfl <| Ar rfl <| Al rfl <| Aj rfl)) ?_
   refine Aa rfl (B3 (Ad)) ?_
   refine Aa rfl (Ao Cd (Ad)) ?_
   refine Aa rfl (Ao Bv (Ad)) ?_
   refine Aa rfl (Ap Bz (Ad) (CellF.own hX.blk rfl).cell) ?_
   refine Aa rfl (Bk B5 (Ad) hX.r.eds.plain) ?_
   refine Aa rfl (Ag Ab) ?_
   refine Ah <| Ac <| Az <| Bu [11, 12, 13, 14, 15, 47, 48, 49, 50, 51, 52, 53, 54, 55, 56, 57, 58, 59, 60, 61, 62, 63, 64, 65, 66, 67, 68, 69, 70, 71, 72, 73, 74, 75, 76, 77, 78, 79, 80, 81, 82, 83, 84, 85, 86, 87, 88, 89, 90, 91, 92, 93, 94, 95, 96, 97, 98, 99, 100, 101, 102, 103, 104, 105, 106, 107] (fun m e σ => ∃ k : Nat, m + k = l.length ∧ e 47 = .int .i64 (k : Int) ∧ σ = ⟨F, [(b2, bx 155 (cstC (cKf s l p i k 1))), (b1, bx 100 (treeC l))]⟩) (l.length) ?_ ?_
   · exact ⟨0, by omega, (Ad), rfl⟩
   ·
    rintro m2 e2 _ ⟨k, hm2, ht47, rfl⟩
    by_cases hlk : k < l.length
    ·
     have hk5 : k < 5 := by omega
     refine Af <| Ai fun ds => Aa rfl (Bw (As rfl ht47) (Ak rfl <| Al rfl <| Ad)) ?_
     refine Ah <| Ac <| Af <| Aq (Ad) (by first | rfl | exact decide_eq_true (by omega)) ?_
     by_cases huk : upN l k = (i : Int)
     ·
      refine Aw <| Ac <| Af <| Az <| Af <| Ai fun ds => Aa rfl (Ag (Al rfl <| As rfl ht47)) ?_
      refine Aa rfl (Ae (Ad)) ?_
      refine Ah <| Ac <| Af <| Af <| Ai fun ds => Aa rfl (Ag (Ad)) ?_
      refine Aa rfl (Bt (k := k) Cs (Ay rfl <| Ak rfl <| A6 rfl <| Al rfl <| Ak rfl <| Ar rfl <| Ad) (Ad) rfl hk5) ?_
      refine Aa rfl (Ap Bj (Ad) (Cell.own 1 rfl (Cl hk5))) ?_
      refine Aa rfl (Ag (Ay rfl <| Ar rfl <| Ak rfl <| A6 rfl <| Al rfl <| Ak rfl <| Ar rfl <| Al rfl <| Aj rfl)) ?_
      refine Aa rfl (By (Al rfl <| Ad) (Ad)) ?_
      refine Ah <| Ac <| Am (Ad) (decide_eq_false (fun h => h huk)) ?_
      have hdk := dep_edge huk (ht.reach k hlk)
      refine Aw <| Ac <| Af <| Ai fun ds => Aa rfl (Ag (A6 rfl <| Ak rfl <| A6 rfl <| Al rfl <| Ak rfl <| Ar rfl <| Al rfl <| Aj rfl)) ?_
      refine Aa rfl (Bf B4 (A6 rfl <| Al rfl <| Ak rfl <| A6 rfl <| Al rfl <| Ak rfl <| Ar rfl <| Ad) rfl rfl (A8 1 rfl)) ?_
      refine Aa rfl (Ag (A6 rfl <| Ar rfl <| Ak rfl <| A6 rfl <| Al rfl <| Ak rfl <| Ar rfl <| Al rfl <| Aj rfl)) ?_
      refine Aa rfl (Ag (A6 rfl <| Ad)) ?_
      refine Bx rfl (Bi bd_113 A0 (.cons (Ar rfl <| Al rfl <| Ad) (.cons (Ar rfl <| Ad) (.cons (Al rfl <| Ad) (.cons (Ad) .nil)))) (ih k hlk (by omega)) (fun _ _ h => h)) ?_
      refine Bm rfl (Cf zr_155 rfl fun b5 hb5 nb5 => ?_)
      refine Cm (Cj sz_155 (Ad) (Al rfl <| Ad) (i := 0) rfl rfl rfl rfl cstC_one (.here) ?_)
      refine Ah <| Ac <| Af <| Ai fun ds => Aa rfl (Ae Ab) ?_
      refine Ah <| Ac <| Az <| Bu [13, 14, 15, 60, 61, 62, 63, 64, 65, 66, 67, 68, 69, 70, 71, 72, 73, 74, 75, 76, 77, 78, 79, 80, 81, 82, 83, 84, 85, 86, 87, 88, 89, 90, 91, 92, 93, 94, 95, 96, 97, 98, 99, 100, 101, 102, 103, 104, 105, 106] (fun m e σ => ∃ n : Nat, m + n = 3 ∧ e 13 = .int .i64 ((n + 1 : Nat) : Int) ∧ σ = ⟨F, [(b5, bx 155 (cstC (cN s l p k))), (b2, bx 155 (cstC ((cKf s l p i k (n + 1))))), (b1, bx 100 (treeC l))]⟩) (3) ?_ ?_
      · exact ⟨0, rfl, (Ad), rfl⟩
      ·
       rintro m3 e3 _ ⟨n, hm3, hv13, rfl⟩
       by_cases hn3 : n < 3
       ·
        refine Af <| Af <| Ai fun ds => Aa rfl (Ag (As rfl hv13)) ?_
        refine Aa rfl (D7 (Ad) Ab) ?_
        refine Ah <| Ac <| Aq (Ad) (by first | rfl | exact decide_eq_true (by omega)) ?_
        refine Aw <| Ac <| Af <| Az <| Af <| Ai fun ds => Aa rfl (Ae Ab) ?_
        refine Ah <| Ac <| Af <| Af <| Ai fun ds => Aa rfl (Ae Ab) ?_
        refine Ah <| Ac <| Az <| Bu [14, 15, 64, 65, 66, 67, 68, 69, 70, 71, 72, 73, 74, 75, 76, 77, 78, 79, 80, 81, 82, 83, 84, 85, 86, 87, 88, 89, 90, 91, 92, 93, 94, 95, 96, 97, 98] (fun m e σ => ∃ q : Nat, m + q = 3 ∧ e 15 = .int .i64 ((q + 1 : Nat) : Int) ∧ e 14 = .int .i64 (bestTo (freeP s p) (costN s l p k) ((n : Int) + 1) q) ∧ σ = ⟨F, [(b5, bx 155 (cstC (cN s l p k))), (b2, bx 155 (cstC ((cKf s l p i k (n + 1))))), (b1, bx 100 (treeC l))]⟩) (3) ?_ ?_
        · exact ⟨0, rfl, (Ad), (Al rfl <| Ad), rfl⟩
        ·
         rintro m4 e4 _ ⟨q, hm4, hu15, hu14, rfl⟩
         by_cases hq3 : q < 3
         ·
          refine Af <| Af <| Ai fun ds => Aa rfl (Ag (As rfl hu15)) ?_
          refine Aa rfl (D7 (Ad) Ab) ?_
          refine Ah <| Ac <| Aq (Ad) (by first | rfl | exact decide_eq_true (by omega)) ?_
          have hob := (Ev (s := s) (l := l) (p := p) k ((q : Int) + 1))
          unfold never at hob
          by_cases hqn : q = n
          ·
           refine Aw <| Ac <| Af <| Az <| Az <| Af <| Ai fun ds => Aa rfl (Ag (Ar rfl <| As rfl hu15)) ?_
           refine Aa rfl (Ag (Ar rfl <| Al rfl <| Ak rfl <| Ay rfl <| As rfl hv13)) ?_
           refine Aa rfl (Bs (Al rfl <| Ad) (Ad)) ?_
           refine Aa rfl (Ae (Ad)) ?_
           refine Ah <| Ac <| Aq (Ad) (decide_eq_true (by omega)) ?_
           refine Ai fun ds => Aa rfl (Ag (Ay rfl <| Ar rfl <| As rfl hu14)) ?_
           refine Aa rfl (Ag (Ay rfl <| Ar rfl <| Al rfl <| As rfl hu15)) ?_
           refine Aa rfl (Bt (k := q + 1) ar_155 (A6 rfl <| Ak rfl <| Ay rfl <| Ak rfl <| Al rfl <| Ad) (Ad) rfl (by omega)) ?_
           refine Aa rfl (Ap Bj (Ad) (Cell.own 0 rfl (cstC_at (by omega)))) ?_
           refine Aa rfl (q_min2 (Ar rfl <| Al rfl <| Ad) (Ad)) ?_
           refine Aa rfl (Ae (Ad)) ?_
           refine Ah <| Bb (Bb (Ac ?_))
           refine Ai fun ds => Aa rfl (Ag (A6 rfl <| Ay rfl <| As rfl hu15)) ?_
           refine Aa rfl (Br (Ad) Ab rfl (by omega) (by omega)) ?_
           refine Aa rfl (Ae (Ad)) ?_
           refine Ah <| Ac ⟨_, m4 - 1, Off.eq (Dj rfl <| Dv rfl <| ou2 rfl <| Dk rfl <| Bd), by omega, ?_⟩
           exact ⟨q + 1, by omega, (Ad), ((Ar rfl <| Al rfl <| Ad)).trans (by rw [best_same hqn]; rfl), rfl⟩
          ·
           refine Aw <| Ac <| Af <| Az <| Az <| Af <| Ai fun ds => Aa rfl (Ag (Ar rfl <| As rfl hu15)) ?_
           refine Aa rfl (Ag (Ar rfl <| Al rfl <| Ak rfl <| Ay rfl <| As rfl hv13)) ?_
           refine Aa rfl (Bs (Al rfl <| Ad) (Ad)) ?_
           refine Aa rfl (Ae (Ad)) ?_
           refine Ah <| Ac <| Am (Ad) (decide_eq_false (by omega)) ?_
           by_cases hqm : n < q
           ·
            refine Af <| Ai fun ds => Aa rfl (Ag (Ay rfl <| Ar rfl <| As rfl hu15)) ?_
            refine Aa rfl (Ag (Ay rfl <| Ar rfl <| Al rfl <| Ak rfl <| Ay rfl <| As rfl hv13)) ?_
            refine Aa rfl (De (Al rfl <| Ad) (Ad)) ?_
            refine Aa rfl (Ag (Ad)) ?_
            refine At rfl rfl (Ad) (.inl (congrArg Value.bool (decide_eq_true (by omega)))) rfl ?_
            refine At rfl rfl (Al rfl <| Ad) (.inl (congrArg Value.bool (decide_eq_true (by omega)))) rfl ?_
            refine At rfl rfl (Ar rfl <| Ad) (.inl (congrArg Value.bool (decide_eq_true (by omega)))) rfl ?_
            refine At rfl rfl (Ar rfl <| Al rfl <| Ad) (.inl (congrArg Value.bool (decide_eq_true (by omega)))) rfl ?_
            refine At rfl rfl (Ay rfl <| Ad) (.inl (congrArg Value.bool (decide_eq_true (by omega)))) rfl ?_
            refine At rfl rfl (Ay rfl <| Al rfl <| Ad) (.inl (congrArg Value.bool (decide_eq_true (by omega)))) rfl ?_
            refine At rfl rfl (Ay rfl <| Ar rfl <| Ad) (.inl (congrArg Value.bool (decide_eq_true (by omega)))) rfl ?_
            refine At rfl rfl (Ay rfl <| Ar rfl <| Al rfl <| Ad) (.inl (congrArg Value.bool (decide_eq_true (by omega)))) rfl ?_
            refine At rfl rfl (A6 rfl <| Ad) (.inl (congrArg Value.bool (decide_eq_true (by omega)))) rfl ?_
            refine At rfl rfl (A6 rfl <| Al rfl <| Ad) (.inl (congrArg Value.bool (decide_eq_true (by omega)))) rfl ?_
            refine Aa rfl (A2 (A6 rfl <| Ar rfl <| Ad) (decide_eq_true (by omega)) Ab) ?_
            refine Aa rfl (Ae (Ad)) ?_
            refine Ah <| Ac <| Aq (Ad) rfl ?_
            refine Ai fun ds => Aa rfl (Ag (A3 rfl <| Ay rfl <| Ar rfl <| As rfl hu14)) ?_
            refine Aa rfl (Ag (A3 rfl <| Ay rfl <| Ar rfl <| Al rfl <| As rfl hu15)) ?_
            refine Aa rfl (Bt (k := q + 1) ar_155 (A3 rfl <| A6 rfl <| Ak rfl <| Ay rfl <| Ak rfl <| Al rfl <| Ad) (Ad) rfl (by omega)) ?_
            refine Aa rfl (Ap Bj (Ad) (Cell.own 0 rfl (cstC_at (by omega)))) ?_
            refine Aa rfl (Br (Ad) Ab rfl (show _ ≤ costN s l p k ((q : Int) + 1) + 1 by omega) (show costN s l p k ((q : Int) + 1) + 1 ≤ _ by omega)) ?_
            refine Aa rfl (q_min2 (Ay rfl <| Ad) (Ad)) ?_
            refine Aa rfl (Ae (Ad)) ?_
            refine Ah <| Bb (Bb (Ac ?_))
            refine Ai fun ds => Aa rfl (Ag (A3 rfl <| A6 rfl <| Ay rfl <| Al rfl <| As rfl hu15)) ?_
            refine Aa rfl (Br (Ad) Ab rfl (by omega) (by omega)) ?_
            refine Aa rfl (Ae (Ad)) ?_
            refine Ah <| Ac ⟨_, m4 - 1, Off.eq (ou32 rfl <| Bd), by omega, ?_⟩
            exact ⟨q + 1, by omega, (Ad), ((Ar rfl <| Al rfl <| Ad)).trans (by rw [best_more hqn (.inl hqm)]; rfl), rfl⟩
           ·
            refine Af <| Ai fun ds => Aa rfl (Ag (Ay rfl <| Ar rfl <| As rfl hu15)) ?_
            refine Aa rfl (Ag (Ay rfl <| Ar rfl <| Al rfl <| Ak rfl <| Ay rfl <| As rfl hv13)) ?_
            refine Aa rfl (De (Al rfl <| Ad) (Ad)) ?_
            refine Aa rfl (Ag (Ad)) ?_
            refine Au rfl rfl (Ad) (decide_eq_false (by omega)) ?_
            refine Aa rfl (Ag (A6 rfl <| Ar rfl <| Ak rfl <| Ay rfl <| Ak rfl <| A6 rfl <| Ay rfl <| Ar rfl <| Al rfl <| Ak rfl <| A6 rfl <| Al rfl <| Ak rfl <| Ar rfl <| Al rfl <| Aj rfl)) ?_
            refine Au rfl rfl (Al rfl <| Ad) (decide_eq_false (by omega)) ?_
            refine Aa rfl (B3 (Ad)) ?_
            refine Au rfl rfl (Ar rfl <| Ad) (decide_eq_false (by omega)) ?_
            refine Aa rfl (Ao Cd (Ad)) ?_
            refine Au rfl rfl (Ar rfl <| Al rfl <| Ad) (decide_eq_false (by omega)) ?_
            refine Aa rfl (Ao Co (Ad)) ?_
            refine Au rfl rfl (Ay rfl <| Ad) (decide_eq_false (by omega)) ?_
            refine Aa rfl (Ap Cy (Ad) (CellF.own hX.blk rfl).cell) ?_
            refine Au rfl rfl (Ay rfl <| Al rfl <| Ad) (decide_eq_false (by omega)) ?_
            refine Aa rfl (Ag (A6 rfl <| Ay rfl <| Ar rfl <| Al rfl <| Ak rfl <| Ay rfl <| Ak rfl <| A6 rfl <| Ay rfl <| Ar rfl <| Al rfl <| Ak rfl <| A6 rfl <| Al rfl <| Ak rfl <| Ar rfl <| Al rfl <| Aj rfl)) ?_
            refine Au rfl rfl (Ay rfl <| Ar rfl <| Ad) (decide_eq_false (by omega)) ?_
            refine Aa rfl (A9 (k := p) C9 (Al rfl <| Ad) hX.r.places.plain (Ad) rfl hp) ?_
            refine Au rfl rfl (Ay rfl <| Ar rfl <| Al rfl <| Ad) (decide_eq_false (by omega)) ?_
            refine Aa rfl (Bo fd_70_1 (Ad)) ?_
            refine Au rfl rfl (A6 rfl <| Ad) (decide_eq_false (by omega)) ?_
            refine Aa rfl (Ap Bj (Ad) (hX.r.places.cell hp rfl)) ?_
            refine Au rfl rfl (A6 rfl <| Al rfl <| Ad) (decide_eq_false (by omega)) ?_
            refine Aa rfl (Bs (Ad) Ab) ?_
            refine Aa rfl (A7 (A6 rfl <| Ar rfl <| Ad) (decide_eq_false (by omega)) (Ad)) ?_
            refine Aa rfl (Ae (Ad)) ?_
            refine Ah <| Ac ?_
            by_cases hfr : (s.pl p).kind = 0
            ·
             refine Aq (Ad) (by rw [hpl]; exact decide_eq_true hfr) ?_
             refine Ai fun ds => Aa rfl (Ag (A3 rfl <| Ay rfl <| Ar rfl <| As rfl hu14)) ?_
             refine Aa rfl (Ag (A3 rfl <| Ay rfl <| Ar rfl <| Al rfl <| As rfl hu15)) ?_
             refine Aa rfl (Bt (k := q + 1) ar_155 (A3 rfl <| A6 rfl <| Ak rfl <| Ay rfl <| Ak rfl <| Al rfl <| Ad) (Ad) rfl (by omega)) ?_
             refine Aa rfl (Ap Bj (Ad) (Cell.own 0 rfl (cstC_at (by omega)))) ?_
             refine Aa rfl (Br (Ad) Ab rfl (show _ ≤ costN s l p k ((q : Int) + 1) + 1 by omega) (show costN s l p k ((q : Int) + 1) + 1 ≤ _ by omega)) ?_
             refine Aa rfl (q_min2 (Ay rfl <| Ad) (Ad)) ?_
             refine Aa rfl (Ae (Ad)) ?_
             refine Ah <| Bb (Bb (Ac ?_))
             refine Ai fun ds => Aa rfl (Ag (A3 rfl <| A6 rfl <| Ay rfl <| Al rfl <| As rfl hu15)) ?_
             refine Aa rfl (Br (Ad) Ab rfl (by omega) (by omega)) ?_
             refine Aa rfl (Ae (Ad)) ?_
             refine Ah <| Ac ⟨_, m4 - 1, Off.eq (ou32 rfl <| Bd), by omega, ?_⟩
             exact ⟨q + 1, by omega, (Ad), ((Ar rfl <| Al rfl <| Ad)).trans (by rw [best_more hqn (.inr (by unfold freeP; exact decide_eq_true hfr))]; rfl), rfl⟩
            ·
             refine Am (Ad) (by rw [hpl]; exact decide_eq_false hfr) ?_
             refine Aw <| Bb (Bb (Ac ?_))
             refine Ai fun ds => Aa rfl (Ag (A3 rfl <| Ay rfl <| Ar rfl <| As rfl hu15)) ?_
             refine Aa rfl (Br (Ad) Ab rfl (by omega) (by omega)) ?_
             refine Aa rfl (Ae (Ad)) ?_
             refine Ah <| Ac ⟨_, m4 - 1, Off.eq (Cr rfl <| Dj rfl <| Dk rfl <| Bd), by omega, ?_⟩
             exact ⟨q + 1, by omega, (Ad), ((A3 rfl <| A6 rfl <| Al rfl <| As rfl hu14)).trans (by rw [best_not (free := freeP s p) hqn (fun h => h.elim hqm (fun h2 => hfr (of_decide_eq_true h2)))]), rfl⟩
         ·
          refine Af <| Af <| Ai fun ds => Aa rfl (Ag (As rfl hu15)) ?_
          refine Aa rfl (D7 (Ad) Ab) ?_
          refine Ah <| Ac <| Am (Ad) (by first | rfl | exact decide_eq_false (by omega)) ?_
          obtain rfl : q = 3 := by omega
          have hbb := best_bound (free := freeP s p) (own := costN s l p k) (a := (n : Int) + 1) (fun m => (Ev k m).1) 3
          have hkb := costK_bound (s := s) (l := l) (p := p) (sub := costN s l p) (fun k a => (Ev k a).1) (i := i) k ((n : Int) + 1)
          have hck : cKf s l p i k (n + 1) (n + 1) = costK s l p (costN s l p) i k ((n : Int) + 1) := cKf_get
          unfold never at hbb hkb
          refine Bn ?_
          refine Ba <| Ba <| Bh <| Ac <| Ai fun ds => Aa rfl (Ag (Ar rfl <| Ak rfl <| Ay rfl <| As rfl hv13)) ?_
          refine Aa rfl (Ag (Ar rfl <| Al rfl <| Ak rfl <| Ay rfl <| As rfl hv13)) ?_
          refine Aa rfl (Bt (k := n + 1) ar_155 (Ay rfl <| Ak rfl <| Ay rfl <| Ak rfl <| A6 rfl <| Ay rfl <| Ar rfl <| Al rfl <| Ak rfl <| A6 rfl <| Al rfl <| Ak rfl <| Al rfl <| Ad) (Ad) rfl (by omega)) ?_
          refine Aa rfl (Ap Bj (Ad) (Cell.own 1 rfl (cstC_at (by omega)))) ?_
          refine Aa rfl (Ag (Ay rfl <| Ar rfl <| As rfl hu14)) ?_
          refine Aa rfl (Br (Al rfl <| Ad) (Ad) rfl (by rw [hck]; omega) (by rw [hck]; omega)) ?_
          refine Aa rfl (q_min2 Ab (Ad)) ?_
          refine Aa rfl (Bt (k := n + 1) ar_155 (A6 rfl <| Al rfl <| Ak rfl <| Ay rfl <| Ak rfl <| A6 rfl <| Ay rfl <| Ar rfl <| Al rfl <| Ak rfl <| A6 rfl <| Al rfl <| Ak rfl <| Al rfl <| Ad) (Ay rfl <| Ar rfl <| Ad) rfl (by omega)) ?_
          refine Cm (x_storeK sz_3 (Ad) rfl (Al rfl <| Ad) (i := 1) rfl (by show _ < 4; omega) rfl (.next <| .here) ?_)
          refine Ah <| Bb <| Ac <| Ai fun ds => Aa rfl (Ag (A6 rfl <| Ar rfl <| Ak rfl <| Ay rfl <| As rfl hv13)) ?_
          refine Aa rfl (Br (Ad) Ab rfl (by omega) (by omega)) ?_
          refine Aa rfl (Ae (Ad)) ?_
          refine Ah <| Ac ⟨_, m3 - 1, Off.eq (Dj rfl <| Dv rfl <| Dk rfl <| Ds rfl <| Dv rfl <| Bd), by omega, ?_⟩
          refine ⟨n + 1, by omega, (Ad), by rw [cstC_set, cKf_set (by rw [hck]; (conv => rhs; unfold costK; rw [if_pos huk]); rfl)]⟩
       ·
        refine Af <| Af <| Ai fun ds => Aa rfl (Ag (As rfl hv13)) ?_
        refine Aa rfl (D7 (Ad) Ab) ?_
        refine Ah <| Ac <| Am (Ad) (by first | rfl | exact decide_eq_false (by omega)) ?_
        obtain rfl : n = 3 := by omega
        refine Bn ?_
        refine Ba <| Ba <| Bh <| Bb <| Ac <| C5 (fun _ _ h => h.drop (.cons _ <| .cons_cons _ <| .cons_cons _ <| .refl _)) ?_
        refine Ai fun ds => Aa rfl (Br (Ar rfl <| Ak rfl <| A6 rfl <| Ay rfl <| Ar rfl <| Al rfl <| As rfl ht47) Ab rfl (by omega) (by omega)) ?_
        refine Aa rfl (Ag (Ad)) ?_
        refine Ah <| Ac ⟨_, m2 - 1, Off.eq (Dv rfl <| Ds rfl <| Dj rfl <| Dv rfl <| ou2 rfl <| Dk rfl <| Bd), by omega, ?_⟩
        refine ⟨k + 1, by omega, (Ad), by rw [cKf_next]⟩
     ·
      refine Aw <| Ac <| Af <| Az <| Af <| Ai fun ds => Aa rfl (Ag (Al rfl <| As rfl ht47)) ?_
      refine Aa rfl (Ae (Ad)) ?_
      refine Ah <| Ac <| Af <| Af <| Ai fun ds => Aa rfl (Ag (Ad)) ?_
      refine Aa rfl (Bt (k := k) Cs (Ay rfl <| Ak rfl <| A6 rfl <| Al rfl <| Ak rfl <| Ar rfl <| Ad) (Ad) rfl hk5) ?_
      refine Aa rfl (Ap Bj (Ad) (Cell.own 1 rfl (Cl hk5))) ?_
      refine Aa rfl (Ag (Ay rfl <| Ar rfl <| Ak rfl <| A6 rfl <| Al rfl <| Ak rfl <| Ar rfl <| Al rfl <| Aj rfl)) ?_
      refine Aa rfl (By (Al rfl <| Ad) (Ad)) ?_
      refine Ah <| Ac <| Aq (Ad) (decide_eq_true huk) ?_
      refine Bn ?_
      refine Ba (Bh ?_)
      refine Ac <| Ai fun ds => Aa rfl (Br (A6 rfl <| As rfl ht47) Ab rfl (by omega) (by omega)) ?_
      refine Aa rfl (Ag (Ad)) ?_
      refine Ah <| Ac ⟨_, m2 - 1, Off.eq (Dj rfl <| ou2 rfl <| Bd), by omega, ?_⟩
      refine ⟨k + 1, by omega, (Ad), by rw [cKf_skip huk]⟩
    ·
     refine Af <| Ai fun ds => Aa rfl (Bw (As rfl ht47) (Ak rfl <| Al rfl <| Ad)) ?_
     refine Ah <| Ac <| Af <| Am (Ad) (by first | rfl | exact decide_eq_false (by omega)) ?_
     obtain rfl : k = l.length := by omega
     rw [cKf_end ht hi]
     refine Bn ?_
     refine Ba <| Ba <| Bh <| Ac <| Af <| Ai fun ds => Aa rfl (Bf agg_155 (Al rfl <| Ak rfl <| A6 rfl <| Al rfl <| Ak rfl <| Al rfl <| Ad) rfl rfl (A8 0 rfl)) ?_
     refine Cm (Cj sz_155 (Ar rfl <| Ak rfl <| A6 rfl <| Al rfl <| Ak rfl <| Al rfl <| Ad) (Ad) (i := 0) rfl rfl rfl rfl cstC_one (.here) ?_)
     refine Ah <| Ac <| A4 <| Ax rfl (.agg agg_155 (Ar rfl <| Ak rfl <| A6 rfl <| Al rfl <| Ak rfl <| Al rfl <| Ad) rfl rfl (A8 0 rfl) .nil) ?_
     rfl
theorem cost_all {F : Heap} {b : Nat} {vp ve vm : Value} {ps : List (Value × Edn)} {s : Stm} (hX : StmX F b vp ve vm ps s) {l : List Int} (ht : IsTree l) (hll : l.length = s.editions.length) (hv : ValidT s) {p : Nat} (hp : p < s.places.length) : ∀ d i, i < l.length → l.length + 1 ≤ dep l l.length i + d → Ok Try.prog 113 [.pointer (some ⟨b, 0, none⟩), treeV l, .int .i64 (p : Int), .int .i64 (i : Int)].toArray F fun u _ => u = cstV (cN s l p i)
 | 0, i, _, h => by have : dep l l.length i ≤ l.length := dep_le; omega
 | d + 1, i, hi, h => cost_step hX ht hll hv hp hi fun k hk hd => cost_all hX ht hll hv hp d k hk (by omega)
theorem cost_ok {F : Heap} {b : Nat} {vp ve vm : Value} {ps : List (Value × Edn)} {s : Stm} (hX : StmX F b vp ve vm ps s) {l : List Int} (ht : IsTree l) (hll : l.length = s.editions.length) (hv : ValidT s) {p : Nat} (hp : p < s.places.length) {i : Nat} (hi : i < l.length) : Ok Try.prog 113 [.pointer (some ⟨b, 0, none⟩), treeV l, .int .i64 (p : Int), .int .i64 (i : Int)].toArray F fun u _ => u = cstV (cN s l p i) := cost_all hX ht hll hv hp (l.length + 1) i hi (by omega)
set_option maxRecDepth 100000 in
theorem Ed {F : Heap} {b : Nat} {vp ve vm : Value} {ps : List (Value × Edn)} {s : Stm} (hX : StmX F b vp ve vm ps s) {l : List Int} (ht : IsTree l) (hll : l.length = s.editions.length) (hv : ValidT s) {p : Nat} (hp : p < s.places.length) : Ok Try.prog 82 [.pointer (some ⟨b, 0, none⟩), treeV l, .int .i64 (p : Int)].toArray F fun u _ => u = .int .i64 (placeN s l p) := by
 refine Ok.intro Try.func82 rfl Try.ntmps82 rfl fun w0 => ?_
 have hne := hv.ne
 obtain ⟨r, hr1, hr2, hr3⟩ := root_at ht
 refine Af <| Ai fun ds => Bm rfl (B2 (Aj rfl) rfl fun b1 hb1 nb1 => ?_)
 refine Aa rfl (Ae Ab) ?_
 refine Ah <| Ac <| Af <| Cv (.inl rfl) (fun _ _ h => h) (.cons_cons _ <| .refl _) [] (by kernel_rfl) fun ds => ?_
 refine A5 0 rfl (by kernel_rfl) (by kernel_rfl) (by kernel_rfl) (by kernel_rfl) rfl rfl (fun _ h => h.drop (.cons_cons _ <| .refl _)) (fun _ _ _ h => h) (Ag (Ar rfl <| Aj rfl)) ?_
 refine A5 1 rfl (by kernel_rfl) (by kernel_rfl) (by kernel_rfl) (by kernel_rfl) rfl rfl (fun _ h => h.drop (.cons_cons _ <| .refl _)) (fun _ _ _ h => h) (Bf B4 (Ar rfl <| Ad) rfl rfl (A8 0 rfl)) ?_
 refine A5 2 rfl (by kernel_rfl) (by kernel_rfl) (by kernel_rfl) (by kernel_rfl) rfl rfl (fun _ h => h.drop (.cons_cons _ <| .refl _)) (fun _ _ _ h => h) (Ag (Ay rfl <| Aj rfl)) ?_
 refine A5 3 rfl (by kernel_rfl) (by kernel_rfl) (by kernel_rfl) (by kernel_rfl) rfl rfl (fun _ h => h.drop (.cons_cons _ <| .refl _)) (fun _ _ _ h => h) (Ag (Ay rfl <| Al rfl <| Aj rfl)) ?_
 refine A5 4 rfl (by kernel_rfl) (by kernel_rfl) (by kernel_rfl) (by kernel_rfl) rfl rfl (fun _ h => h.drop (.cons_cons _ <| .refl _)) (fun _ _ _ h => h) (Bf B4 (Ay rfl <| Al rfl <| Ad) rfl rfl (A8 0 rfl)) ?_
 refine Dz 5 rfl (by kernel_rfl) rfl (x_quiet (Bi bd_114 A0 (.cons (Al rfl <| Ad) (.cons (Ad) .nil)) (root_ok hX ht hll hv) (fun _ _ h => h.trans (congrArg (Value.int .i64) hr1))) ⟨fun _ _ => (fun _ h => h.drop (.cons_cons _ <| .refl _)), ?_⟩)
 refine Dz 6 rfl (by kernel_rfl) rfl (x_quiet (Bi bd_113 A0 (.cons (Ay rfl <| Al rfl <| Ad) (.cons (Ay rfl <| Ad) (.cons (Ar rfl <| Al rfl <| Ad) (.cons (Ad) .nil)))) (cost_ok hX ht hll hv hp hr2) (fun _ _ h => h)) ⟨fun _ _ => (fun _ h => h.drop (.cons_cons _ <| .refl _)), ?_⟩)
 refine Dz 7 rfl (by kernel_rfl) rfl (x_quiet (Bi bd_115 A0 (.cons (Ad) .nil) (least_ok (cN s l p r)) (fun _ _ h => h)) ⟨fun _ _ => (fun _ h => h.drop (.cons_cons _ <| .refl _)), ?_⟩)
 refine A5 8 rfl (by kernel_rfl) (by kernel_rfl) (by kernel_rfl) (by kernel_rfl) rfl rfl (fun _ h => h.drop (.cons_cons _ <| .refl _)) (fun _ _ _ h => h) (Ae (Ad)) ?_
 refine Ct (by kernel_rfl) ?_ _
 refine Ac <| A4 <| Ax rfl (.tmp (Ad) .nil) ?_
 show _ = _
 unfold placeN; rw [hr1]; rfl
end Go.Proofs.Ytccogmkhijgelaa
namespace Go.Proofs.Ytccogmkhijgelaa
open Go.RowKit
theorem isK_arr5 {P : Program} {K E d : Nat} (hu : P.underlying K = some (.array 5 E)) (he : P.underlying E = some (.int .i64)) (hk : P.keyType K = true) (hc : P.cellsOf K = 5) (c1 : P.cellsOf E = 1) (hs : P.types.size = d + 1) {f : Nat → Int} (hf : ∀ i, i < 5 → -9223372036854775808 ≤ f i ∧ f i ≤ 9223372036854775807) : IsK P K (.agg ((List.range 5).map fun i => Value.int .i64 (f i)).toArray) := by
 have e : (List.range 5).map (fun i => Value.int .i64 (f i)) = [.int .i64 (f 0), .int .i64 (f 1), .int .i64 (f 2), .int .i64 (f 3), .int .i64 (f 4)] := rfl
 rw [e]
 have l0 := lits_int (P := P) (d := d) he (wf64 (hf 0 (by omega)).1 (hf 0 (by omega)).2)
 have l1 := lits_int (P := P) (d := d) he (wf64 (hf 1 (by omega)).1 (hf 1 (by omega)).2)
 have l2 := lits_int (P := P) (d := d) he (wf64 (hf 2 (by omega)).1 (hf 2 (by omega)).2)
 have l3 := lits_int (P := P) (d := d) he (wf64 (hf 3 (by omega)).1 (hf 3 (by omega)).2)
 have l4 := lits_int (P := P) (d := d) he (wf64 (hf 4 (by omega)).1 (hf 4 (by omega)).2)
 have h : (P.keyLits (P.types.size + 1) K [.int .i64 (f 0), .int .i64 (f 1), .int .i64 (f 2), .int .i64 (f 3), .int .i64 (f 4)]) = some [.int .i64 (f 0), .int .i64 (f 1), .int .i64 (f 2), .int .i64 (f 3), .int .i64 (f 4)] := by
   rw [hs]
   unfold Program.keyLits
   rw [hu]
   simp only [hc]
   rw [show List.range 5 = [0, 1, 2, 3, 4] from rfl]
   simp [c1, l0, l1, l2, l3, l4]
 refine ⟨.string (keyBytes [.int .i64 (f 0), .int .i64 (f 1), .int .i64 (f 2), .int .i64 (f 3), .int .i64 (f 4)]), ?_⟩
 unfold keyOf
 rw [hu]
 have hf : (Value.agg [.int .i64 (f 0), .int .i64 (f 1), .int .i64 (f 2), .int .i64 (f 3), .int .i64 (f 4)].toArray).formed P K = true := by simp [Value.formed, hu, hc]
 simp only [hk, hf, Bool.and_self, if_true]
 show (P.keyLits (P.types.size + 1) K [.int .i64 (f 0), .int .i64 (f 1), .int .i64 (f 2), .int .i64 (f 3), .int .i64 (f 4)]).map _ = _
 rw [h]; rfl
/-- What is known of trees: their changes. -/
structure KnownT (P : Program) (K : Nat) (es : List (Value × Value)) (s : Stm) : Prop where
 keys : ∀ p ∈ es, IsK P K p.1
 nodup : (es.map (·.1)).Nodup
 vals : ∀ (j : Nat) (l : List Int) (u : Value), es[j]? = some (treeV l, u) → l.length = s.editions.length → u = .int .i64 (changesN s l)
theorem KnownT.nil {P : Program} {K : Nat} {s : Stm} : KnownT P K [] s := ⟨by simp, by simp, by simp⟩
theorem treeV_inj {l l' : List Int} (h : treeV l = treeV l') (hl : l.length ≤ 5) (he : l.length = l'.length) : l = l' := by
 unfold treeV at h
 have h2 : treeC l = treeC l' := by simpa using h
 apply List.ext_getElem he
 intro i h3 h4
 have a := Cl (l := l) (i := i) (by omega)
 have b := Cl (l := l') (i := i) (by omega)
 rw [h2, b] at a
 rw [C8 h3, C8 h4]
 simpa using a.symm
theorem KnownT.snoc {P : Program} {K : Nat} {es : List (Value × Value)} {s : Stm} (h : KnownT P K es s) {l : List Int} (hk : IsK P K (treeV l)) (hno : ∀ p ∈ es, p.1 ≠ treeV l) (hl : l.length = s.editions.length) (h5 : l.length ≤ 5) :
   KnownT P K (es ++ [(treeV l, .int .i64 (changesN s l))]) s :=
 ⟨all_snoc h.keys hk, nd_snoc h.nodup hno, fun j l' u hj hl' => by
   rcases Nat.lt_trichotomy j es.length with h1 | h1 | h1
   · rw [List.getElem?_append_left h1] at hj; exact h.vals j l' u hj hl'
   · subst h1
     rw [snoc_at] at hj
     simp only [Option.some.injEq, Prod.mk.injEq] at hj
     obtain ⟨hj, rfl⟩ := hj
     rw [treeV_inj hj h5 (by omega)]
   · rw [List.getElem?_eq_none (by simp; omega)] at hj; cases hj⟩
end Go.Proofs.Ytccogmkhijgelaa
namespace Go.Proofs.Ytccogmkhijgelaa
open Go.RowKit
theorem bd_68 : Body Try.prog 68 := Bq (by kernel_rfl)
theorem bd_69 : Body Try.prog 69 := Bq (by kernel_rfl)
theorem bd_82 : Body Try.prog 82 := Bq (by kernel_rfl)
theorem bd_91 : Body Try.prog 91 := Bq (by kernel_rfl)
theorem fd_128_1 : FieldT Try.prog 128 1 2 := Do (by kernel_rfl)
theorem one_126 : OneT Try.prog 126 := Ef (by kernel_rfl)
theorem laidT : laidOutB Try.prog = true := by kernel_rfl
theorem mapT : MapT Try.prog 126 100 3 (.int .i64 0) := ⟨Try.underlying126, C7 (by kernel_rfl), Go.Maps.Keyed.of_law (deep_law_laid laidT (m := 5) (by omega) (Nat.le_of_ble_eq_true (by kernel_rfl)) (by kernel_rfl) (by kernel_rfl))⟩
theorem isKT {l : List Int} (ht : TreeIn l) (h5 : l.length ≤ 5) : IsK Try.prog 100 (treeV l) :=
 isK_arr5 Try.underlying100 Try.underlying3 (by kernel_rfl) (by kernel_rfl) (by kernel_rfl) (d := Try.prog.types.size - 1) (by kernel_rfl) fun i hi => by
   by_cases h : i < l.length
   · have := ht i h; omega
   · have : upN l i = 0 := by unfold upN; rw [List.getElem?_eq_none (by omega)]; rfl
     omega
set_option maxRecDepth 100000 in
theorem changes_ok {F : Heap} {b : Nat} {vp ve : Value} {kb : Nat} {ps : List (Value × Edn)} {s : Stm} (hX : StmX F b vp ve (.map (some kb)) ps s) {l : List Int} (ht : IsTree l) (hll : l.length = s.editions.length) (hv : ValidT s) {es : List (Value × Value)} (hK : KnownT Try.prog 100 es s) : OkM Try.prog 69 [.pointer (some ⟨b, 0, none⟩), treeV l].toArray F [(kb, mapO es)] fun u _F' H' => ∃ es', u = .int .i64 (changesN s l) ∧ H' = [(kb, mapO es')] ∧ KnownT Try.prog 100 es' s := by
 refine OkM.intro Try.func69 rfl Try.ntmps69 rfl fun w0 => ?_
 have hne := hv.ne
 have hnp := hv.np
 have hL1 := hX.r.places.plain.lt
 have hl5 : l.length ≤ 5 := by omega
 rcases keys_or (es := es) (treeV l) with hno | ⟨j, u, hj⟩
 ·
  refine Af <| Ai fun ds => Bm rfl (B2 (Aj rfl) rfl fun b1 hb1 nb1 => ?_)
  refine Aa rfl (Ae Ab) ?_
  refine Ah <| Ac <| Af <| Af <| Cu (.inl rfl) (fun _ _ h => h) (by kernel_rfl) (by kernel_rfl) fun ds => ?_
  refine Bc rfl (Ag (Ar rfl <| Aj rfl)) ?_
  refine Bc rfl (B3 (Ad)) ?_
  refine Bc rfl (Ao fd_128_1 (Ad)) ?_
  refine Bc rfl (Ap one_126 (Ad) (CellF.own hX.blk rfl).cell) ?_
  refine Bc rfl (Bf B4 (Ay rfl <| Al rfl <| Ad) rfl rfl (A8 0 rfl)) ?_
  refine Bc rfl (q_lookup2N mapT (Al rfl <| Ad) (Ad) (i := 1) rfl (isKT ht.in_ hl5) hK.keys hno) ?_
  refine Bc rfl (Ag (Ad)) ?_
  refine Bc rfl (A1 (Ad) rfl) ?_
  refine Bc rfl (A1 (Al rfl <| Ad) rfl) ?_
  refine Bc rfl (Ae (Al rfl <| Ad)) ?_
  refine Bc rfl (Ae (Al rfl <| Ad)) ?_
  refine C4 ?_
  refine Ac <| Af <| Ai fun ds => Aa rfl (Ag (Ad)) ?_
  refine Ah <| Ac <| Am (Ad) rfl ?_
  by_cases hfit : fitsE s (treeE l) = true
  ·
   refine Aw <| Ac <| Af <| Af <| Ai fun ds => Aa rfl (Ag (A6 rfl <| Ay rfl <| Ar rfl <| Aj rfl)) ?_
   refine Aa rfl (Bf B4 (A6 rfl <| Ay rfl <| Ar rfl <| Ad) rfl rfl (A8 0 rfl)) ?_
   refine Bx rfl (Bi bd_91 A0 (.cons (Al rfl <| Ad) (.cons (Ad) .nil)) (fits_ok hX ht hll hv) (fun _ _ h => h)) ?_
   refine Aa rfl (Ci (Ad)) ?_
   refine Ah <| Ac <| Am (Ad) (by rw [hfit]; rfl) ?_
   refine Aw <| Ac <| Af <| Af <| Ai fun ds => Aa rfl (Ag (A3 rfl <| Ar rfl <| Aj rfl)) ?_
   refine Aa rfl (B3 (Ad)) ?_
   refine Aa rfl (Ao Cd (Ad)) ?_
   refine Aa rfl (Ao Co (Ad)) ?_
   refine Aa rfl (Ap Cy (Ad) (CellF.own hX.blk rfl).cell) ?_
   refine Aa rfl (Bk C9 (Ad) hX.r.places.plain) ?_
   refine Aa rfl (Ag Ab) ?_
   refine Ah <| Ac <| Az <| Bu [4, 7, 29, 30, 31, 32, 33, 34, 35, 36, 37, 38, 39] (fun m e σ => ∃ k : Nat, m + k = s.places.length ∧ e 29 = .int .i64 (k : Int) ∧ e 4 = .int .i64 (chTo s l k) ∧ σ = ⟨F, [(b1, bx 100 (treeC l)), (kb, mapO es)]⟩) (s.places.length) ?_ ?_
   · exact ⟨0, by omega, (Ad), ((A3 rfl <| Ay rfl <| Ar rfl <| Al rfl <| Ad)).trans (by unfold chTo; rw [if_pos hfit]; first | done | rfl), rfl⟩
   ·
    rintro m e _ ⟨k, hm, hs29, hs4, rfl⟩
    by_cases hlt : k < s.places.length
    ·
     refine Af <| Ai fun ds => Aa rfl (Bw (As rfl hs29) (Ak rfl <| Al rfl <| Ad)) ?_
     refine Ah <| Ac <| Af <| Aq (Ad) (by first | rfl | exact decide_eq_true (by omega)) ?_
     have hcb := chTo_bound (s := s) (l := l) k
     have hpb := Ee (s := s) (l := l) (p := k)
     unfold never at hcb hpb
     refine Aw <| Ac <| Af <| Az <| Af <| Ai fun ds => Aa rfl (Ag (Al rfl <| As rfl hs29)) ?_
     refine Aa rfl (Ae (Ad)) ?_
     refine Ah <| Ac <| Ai fun ds => Aa rfl (Ag (Ar rfl <| Al rfl <| As rfl hs4)) ?_
     refine Aa rfl (Ag (Ay rfl <| Ak rfl <| A3 rfl <| A6 rfl <| Al rfl <| Aj rfl)) ?_
     refine Aa rfl (Bf B4 (Ay rfl <| Al rfl <| Ak rfl <| A3 rfl <| A6 rfl <| Ad) rfl rfl (A8 0 rfl)) ?_
     refine Aa rfl (Ag (Ar rfl <| Al rfl <| Ad)) ?_
     refine Bx rfl (Bi bd_82 A0 (.cons (Ar rfl <| Ad) (.cons (Al rfl <| Ad) (.cons (Ad) .nil))) (Ed hX ht hll hv hlt) (fun _ _ h => h)) ?_
     refine Aa rfl (Br (Ay rfl <| Ad) (Ad) rfl (by omega) (by omega)) ?_
     refine Aa rfl (q_min2 Ab (Ad)) ?_
     refine Aa rfl (Ae (Ad)) ?_
     refine Ah <| Bb <| Ac <| Ai fun ds => Aa rfl (Br (A6 rfl <| Ar rfl <| Al rfl <| As rfl hs29) Ab rfl (by omega) (by omega)) ?_
     refine Aa rfl (Ag (Ad)) ?_
     refine Ah <| Ac ⟨_, m - 1, Off.eq (Dj rfl <| Dv rfl <| Dk rfl <| Bd), by omega, ?_⟩
     exact ⟨k + 1, by omega, (Ad), (Ar rfl <| Ad), rfl⟩
    ·
     refine Af <| Ai fun ds => Aa rfl (Bw (As rfl hs29) (Ak rfl <| Al rfl <| Ad)) ?_
     refine Ah <| Ac <| Af <| Am (Ad) (by first | rfl | exact decide_eq_false (by omega)) ?_
     obtain rfl : k = s.places.length := by omega
     refine Bn ?_
     refine Ba <| Ba <| Bh <| Ac <| Af <| Cv (.inl rfl) (fun _ _ h => h) (.cons_cons _ <| .cons_cons _ <| .refl _) [6] (by kernel_rfl) fun ds => ?_
     refine A5 0 rfl (by kernel_rfl) (by kernel_rfl) (by kernel_rfl) (by kernel_rfl) rfl rfl (fun _ h => h.drop (.cons_cons _ <| .cons_cons _ <| .refl _)) (fun _ _ _ h => h) (Ag (Al rfl <| Ak rfl <| A3 rfl <| A6 rfl <| Al rfl <| Aj rfl)) ?_
     refine A5 1 rfl (by kernel_rfl) (by kernel_rfl) (by kernel_rfl) (by kernel_rfl) rfl rfl (fun _ h => h.drop (.cons_cons _ <| .cons_cons _ <| .refl _)) (fun _ _ _ h => h) (B3 (Ad)) ?_
     refine A5 2 rfl (by kernel_rfl) (by kernel_rfl) (by kernel_rfl) (by kernel_rfl) rfl rfl (fun _ h => h.drop (.cons_cons _ <| .cons_cons _ <| .refl _)) (fun _ _ _ h => h) (Ao fd_128_1 (Ad)) ?_
     refine A5 3 rfl (by kernel_rfl) (by kernel_rfl) (by kernel_rfl) (by kernel_rfl) rfl rfl (fun _ h => h.drop (.cons_cons _ <| .cons_cons _ <| .refl _)) (fun _ _ _ h => h) (Ap one_126 (Ad) (CellF.own hX.blk rfl).cell) ?_
     refine A5 4 rfl (by kernel_rfl) (by kernel_rfl) (by kernel_rfl) (by kernel_rfl) rfl rfl (fun _ h => h.drop (.cons_cons _ <| .cons_cons _ <| .refl _)) (fun _ _ _ h => h) (Bf B4 (Ay rfl <| Al rfl <| Ak rfl <| A3 rfl <| A6 rfl <| Ad) rfl rfl (A8 0 rfl)) ?_
     refine A5 5 rfl (by kernel_rfl) (by kernel_rfl) (by kernel_rfl) (by kernel_rfl) rfl rfl (fun _ h => h.drop (.cons_cons _ <| .cons_cons _ <| .refl _)) (fun _ _ _ h => h) (Ag (Ay rfl <| Ar rfl <| As rfl hs4)) ?_
     refine WX_x0 6 rfl (by kernel_rfl) (x_updateN mapT (Ar rfl <| Ad) (Al rfl <| Ad) (Ad) (i := 1) rfl (isKT ht.in_ hl5) hK.keys hno (.next <| .here) ⟨(fun h => nomatch h), ?_⟩)
     refine Ct (by kernel_rfl) ?_ _
     refine Ac <| Af <| Ai fun ds => Aa rfl (Ag (Ay rfl <| Ar rfl <| Al rfl <| As rfl hs4)) ?_
     refine Aa rfl (Ae (Ad)) ?_
     refine Ah <| Ac <| A4 <| post_retM rfl (.tmp (Ad) .nil) (.cons (.next <| .here) <| .nil) rfl ?_
     exact ⟨_, rfl, rfl, hK.snoc (isKT ht.in_ hl5) hno hll hl5⟩
  ·
   replace hfit : fitsE s (treeE l) = false := by simpa using hfit
   refine Aw <| Ac <| Af <| Af <| Ai fun ds => Aa rfl (Ag (A6 rfl <| Ay rfl <| Ar rfl <| Aj rfl)) ?_
   refine Aa rfl (Bf B4 (A6 rfl <| Ay rfl <| Ar rfl <| Ad) rfl rfl (A8 0 rfl)) ?_
   refine Bx rfl (Bi bd_91 A0 (.cons (Al rfl <| Ad) (.cons (Ad) .nil)) (fits_ok hX ht hll hv) (fun _ _ h => h)) ?_
   refine Aa rfl (Ci (Ad)) ?_
   refine Ah <| Ac <| Aq (Ad) (by rw [hfit]; rfl) ?_
   refine Ai fun ds => Aa rfl (Ae Ab) ?_
   refine Ah <| Ac <| Af <| Af <| Ai fun ds => Aa rfl (Ag (A3 rfl <| Ar rfl <| Al rfl <| Aj rfl)) ?_
   refine Aa rfl (B3 (Ad)) ?_
   refine Aa rfl (Ao Cd (Ad)) ?_
   refine Aa rfl (Ao Co (Ad)) ?_
   refine Aa rfl (Ap Cy (Ad) (CellF.own hX.blk rfl).cell) ?_
   refine Aa rfl (Bk C9 (Ad) hX.r.places.plain) ?_
   refine Aa rfl (Ag Ab) ?_
   refine Ah <| Ac <| Az <| Bu [4, 7, 29, 30, 31, 32, 33, 34, 35, 36, 37, 38, 39] (fun m e σ => ∃ k : Nat, m + k = s.places.length ∧ e 29 = .int .i64 (k : Int) ∧ e 4 = .int .i64 (chTo s l k) ∧ σ = ⟨F, [(b1, bx 100 (treeC l)), (kb, mapO es)]⟩) (s.places.length) ?_ ?_
   · exact ⟨0, by omega, (Ad), ((Ay rfl <| Ar rfl <| Al rfl <| Ad)).trans (by unfold chTo; rw [if_neg (by rw [hfit]; simp)]; first | done | rfl), rfl⟩
   ·
    rintro m e _ ⟨k, hm, hs29, hs4, rfl⟩
    by_cases hlt : k < s.places.length
    ·
     refine Af <| Ai fun ds => Aa rfl (Bw (As rfl hs29) (Ak rfl <| Al rfl <| Ad)) ?_
     refine Ah <| Ac <| Af <| Aq (Ad) (by first | rfl | exact decide_eq_true (by omega)) ?_
     have hcb := chTo_bound (s := s) (l := l) k
     have hpb := Ee (s := s) (l := l) (p := k)
     unfold never at hcb hpb
     refine Aw <| Ac <| Af <| Az <| Af <| Ai fun ds => Aa rfl (Ag (Al rfl <| As rfl hs29)) ?_
     refine Aa rfl (Ae (Ad)) ?_
     refine Ah <| Ac <| Ai fun ds => Aa rfl (Ag (Ar rfl <| Al rfl <| As rfl hs4)) ?_
     refine Aa rfl (Ag (Ay rfl <| Ak rfl <| A3 rfl <| A6 rfl <| Ar rfl <| Aj rfl)) ?_
     refine Aa rfl (Bf B4 (Ay rfl <| Al rfl <| Ak rfl <| A3 rfl <| A6 rfl <| Al rfl <| Ad) rfl rfl (A8 0 rfl)) ?_
     refine Aa rfl (Ag (Ar rfl <| Al rfl <| Ad)) ?_
     refine Bx rfl (Bi bd_82 A0 (.cons (Ar rfl <| Ad) (.cons (Al rfl <| Ad) (.cons (Ad) .nil))) (Ed hX ht hll hv hlt) (fun _ _ h => h)) ?_
     refine Aa rfl (Br (Ay rfl <| Ad) (Ad) rfl (by omega) (by omega)) ?_
     refine Aa rfl (q_min2 Ab (Ad)) ?_
     refine Aa rfl (Ae (Ad)) ?_
     refine Ah <| Bb <| Ac <| Ai fun ds => Aa rfl (Br (A6 rfl <| Ar rfl <| Al rfl <| As rfl hs29) Ab rfl (by omega) (by omega)) ?_
     refine Aa rfl (Ag (Ad)) ?_
     refine Ah <| Ac ⟨_, m - 1, Off.eq (Dj rfl <| Dv rfl <| Dk rfl <| Bd), by omega, ?_⟩
     exact ⟨k + 1, by omega, (Ad), (Ar rfl <| Ad), rfl⟩
    ·
     refine Af <| Ai fun ds => Aa rfl (Bw (As rfl hs29) (Ak rfl <| Al rfl <| Ad)) ?_
     refine Ah <| Ac <| Af <| Am (Ad) (by first | rfl | exact decide_eq_false (by omega)) ?_
     obtain rfl : k = s.places.length := by omega
     refine Bn ?_
     refine Ba <| Ba <| Bh <| Ac <| Af <| Cv (.inl rfl) (fun _ _ h => h) (.cons_cons _ <| .cons_cons _ <| .refl _) [6] (by kernel_rfl) fun ds => ?_
     refine A5 0 rfl (by kernel_rfl) (by kernel_rfl) (by kernel_rfl) (by kernel_rfl) rfl rfl (fun _ h => h.drop (.cons_cons _ <| .cons_cons _ <| .refl _)) (fun _ _ _ h => h) (Ag (Al rfl <| Ak rfl <| A3 rfl <| A6 rfl <| Ar rfl <| Aj rfl)) ?_
     refine A5 1 rfl (by kernel_rfl) (by kernel_rfl) (by kernel_rfl) (by kernel_rfl) rfl rfl (fun _ h => h.drop (.cons_cons _ <| .cons_cons _ <| .refl _)) (fun _ _ _ h => h) (B3 (Ad)) ?_
     refine A5 2 rfl (by kernel_rfl) (by kernel_rfl) (by kernel_rfl) (by kernel_rfl) rfl rfl (fun _ h => h.drop (.cons_cons _ <| .cons_cons _ <| .refl _)) (fun _ _ _ h => h) (Ao fd_128_1 (Ad)) ?_
     refine A5 3 rfl (by kernel_rfl) (by kernel_rfl) (by kernel_rfl) (by kernel_rfl) rfl rfl (fun _ h => h.drop (.cons_cons _ <| .cons_cons _ <| .refl _)) (fun _ _ _ h => h) (Ap one_126 (Ad) (CellF.own hX.blk rfl).cell) ?_
     refine A5 4 rfl (by kernel_rfl) (by kernel_rfl) (by kernel_rfl) (by kernel_rfl) rfl rfl (fun _ h => h.drop (.cons_cons _ <| .cons_cons _ <| .refl _)) (fun _ _ _ h => h) (Bf B4 (Ay rfl <| Al rfl <| Ak rfl <| A3 rfl <| A6 rfl <| Al rfl <| Ad) rfl rfl (A8 0 rfl)) ?_
     refine A5 5 rfl (by kernel_rfl) (by kernel_rfl) (by kernel_rfl) (by kernel_rfl) rfl rfl (fun _ h => h.drop (.cons_cons _ <| .cons_cons _ <| .refl _)) (fun _ _ _ h => h) (Ag (Ay rfl <| Ar rfl <| As rfl hs4)) ?_
     refine WX_x0 6 rfl (by kernel_rfl) (x_updateN mapT (Ar rfl <| Ad) (Al rfl <| Ad) (Ad) (i := 1) rfl (isKT ht.in_ hl5) hK.keys hno (.next <| .here) ⟨(fun h => nomatch h), ?_⟩)
     refine Ct (by kernel_rfl) ?_ _
     refine Ac <| Af <| Ai fun ds => Aa rfl (Ag (Ay rfl <| Ar rfl <| Al rfl <| As rfl hs4)) ?_
     refine Aa rfl (Ae (Ad)) ?_
     refine Ah <| Ac <| A4 <| post_retM rfl (.tmp (Ad) .nil) (.cons (.next <| .here) <| .nil) rfl ?_
     exact ⟨_, rfl, rfl, hK.snoc (isKT ht.in_ hl5) hno hll hl5⟩
 ·
  obtain rfl := hK.vals _ _ _ hj hll
  refine Af <| Ai fun ds => Bm rfl (B2 (Aj rfl) rfl fun b4 hb4 nb4 => ?_)
  refine Aa rfl (Ae Ab) ?_
  refine Ah <| Ac <| Af <| Af <| Cu (.inl rfl) (fun _ _ h => h) (by kernel_rfl) (by kernel_rfl) fun ds => ?_
  refine Bc rfl (Ag (Ar rfl <| Aj rfl)) ?_
  refine Bc rfl (B3 (Ad)) ?_
  refine Bc rfl (Ao fd_128_1 (Ad)) ?_
  refine Bc rfl (Ap one_126 (Ad) (CellF.own hX.blk rfl).cell) ?_
  refine Bc rfl (Bf B4 (Ay rfl <| Al rfl <| Ad) rfl rfl (A8 0 rfl)) ?_
  refine Bc rfl (q_lookup2S mapT (Al rfl <| Ad) (Ad) (i := 1) rfl (isKT ht.in_ hl5) hK.keys hK.nodup hj) ?_
  refine Bc rfl (Ag (Ad)) ?_
  refine Bc rfl (A1 (Ad) rfl) ?_
  refine Bc rfl (A1 (Al rfl <| Ad) rfl) ?_
  refine Bc rfl (Ae (Al rfl <| Ad)) ?_
  refine Bc rfl (Ae (Al rfl <| Ad)) ?_
  refine C4 ?_
  refine Ac <| Af <| Ai fun ds => Aa rfl (Ag (Ad)) ?_
  refine Ah <| Ac <| Aq (Ad) rfl ?_
  refine Af <| Ai fun ds => Aa rfl (Ag (Ar rfl <| Ad)) ?_
  refine Aa rfl (Ae (Ad)) ?_
  refine Ah <| Ac <| A4 <| Bg ?_
  refine post_retM rfl (.tmp (Ad) .nil) (.cons (.next <| .here) <| .nil) rfl ?_
  exact ⟨es, rfl, rfl, hK⟩
def changesE (s : Stm) (l : List Int) : Int × Int := if treeErr s l ≠ 0 then (0, treeErr s l) else if costL s l = 1000 then (0, 9) else (costL s l, 0)
def changesEV (s : Stm) (l : List Int) : Value := .tuple #[.int .i64 (changesE s l).1, .int .i64 (changesE s l).2]
theorem changesE_bad {s : Stm} {l : List Int} (h : treeErr s l ≠ 0) : changesE s l = (0, treeErr s l) := if_pos h
theorem changesE_down {s : Stm} {l : List Int} (h : treeErr s l = 0) (h2 : costL s l = 1000) : changesE s l = (0, 9) := by unfold changesE; rw [if_neg (fun k => k h), if_pos h2]
theorem changesE_ok {s : Stm} {l : List Int} (h : treeErr s l = 0) (h2 : costL s l ≠ 1000) : changesE s l = (costL s l, 0) := by unfold changesE; rw [if_neg (fun k => k h), if_neg h2]
theorem tree_ok {s : Stm} {l : List Int} (h : treeErr s l = 0) : ValidT s ∧ l.length = s.editions.length ∧ IsTree l := by
 obtain ⟨h1, h2, h3, h4⟩ := treeErr_ok h
 exact ⟨Ea h1, h2, isTree_of h3 h4⟩
def yearsE (s : Stm) (l : List Int) : List (Int × Int) × Int := if treeErr s l ≠ 0 then ([], treeErr s l) else if fitsE s (treeE l) = true then (spL (firstY s (treeE l)) (lastY s (treeE l)) s.editions.length, 0) else ([], 9)
theorem yearsE_bad {s : Stm} {l : List Int} (h : treeErr s l ≠ 0) : yearsE s l = ([], treeErr s l) := if_pos h
theorem yearsE_down {s : Stm} {l : List Int} (h : treeErr s l = 0) (h2 : fitsE s (treeE l) = false) : yearsE s l = ([], 9) := by unfold yearsE; rw [if_neg (fun k => k h), if_neg (by rw [h2]; simp)]
theorem yearsE_ok {s : Stm} {l : List Int} (h : treeErr s l = 0) (h2 : fitsE s (treeE l) = true) : yearsE s l = (spL (firstY s (treeE l)) (lastY s (treeE l)) s.editions.length, 0) := by unfold yearsE; rw [if_neg (fun k => k h), if_pos h2]
def SpnsR (F : Heap) (u : Value) (p : List (Int × Int) × Int) : Prop := ∃ v, u = .tuple #[v, .int .i64 p.2] ∧ Sl F v 2 spanE p.1
theorem SpnsR.mono {F F' : Heap} {u : Value} {p : List (Int × Int) × Int} (h : SpnsR F u p) (hF : F.le F') : SpnsR F' u p := by obtain ⟨v, h1, h2⟩ := h; exact ⟨v, h1, h2.mono hF⟩
set_option maxRecDepth 100000 in
theorem changes_top_ok {F : Heap} {vp ve : Value} {ps : List (Value × Edn)} {s : Stm} (hr : StmR F vp ve ps s) {v : Value} {l : List Int} (hl : Ints F v l) : Ok Try.prog 21 [.agg #[vp, ve], v].toArray F fun u _ => u = changesEV s l := by
 refine Ok.intro Try.func21 rfl Try.ntmps21 rfl fun w0 => ?_
 have hL := hl.plain.lt
 by_cases hok : treeErr s l = 0
 ·
  obtain ⟨hv, hll, ht⟩ := tree_ok hok
  have hne := hv.ne
  have hcv := changes_costV (s := s) ht hv hll
  have hcb := costL_bound (s := s) (l := l)
  refine Af <| Ai fun ds => Bm rfl (B2 (Aj rfl) rfl fun b1 hb1 nb1 => ?_)
  refine Aa rfl (Ae Ab) ?_
  refine Aa rfl (Ae Ab) ?_
  refine Ah <| Ac <| Af <| Ai fun ds => Aa rfl (Bf B0 (Ar rfl <| Ad) rfl rfl (A8 0 rfl)) ?_
  refine Aa rfl (Ag (Ay rfl <| Aj rfl)) ?_
  refine Bm rfl (D1 bd_68 A0 (.cons (Al rfl <| Ad) (.cons (Ad) .nil)) (enter_ok hr hl hok) fun v2 F3 R6 hr4 hF5 => ?_)
  obtain ⟨ba, kb, rfl, hX, rfl⟩ := hr4
  refine Aa rfl (Ag (Ad)) ?_
  refine Aa rfl (A1 (Ad) rfl) ?_
  refine Aa rfl (A1 (Al rfl <| Ad) rfl) ?_
  refine Aa rfl (A1 (Ar rfl <| Ad) rfl) ?_
  refine Bm rfl (Cf Eh rfl fun b7 hb7 nb7 => ?_)
  refine Aa rfl (Ae (Ar rfl <| Al rfl <| Ad)) ?_
  refine Cm (Cj En (Al rfl <| Ad) (Ar rfl <| Al rfl <| Ad) (i := 0) rfl rfl rfl rfl Df (.here) ?_)
  refine Aa rfl (Ae (Ar rfl <| Ad)) ?_
  refine Ah <| Ac <| Af <| Af <| Ai fun ds => Aa rfl (Ag (Ad)) ?_
  refine Aa rfl (By (Ad) Ab) ?_
  refine Ah <| Ac <| Am (Ad) (by decide) ?_
  by_cases h1 : costL s l = 1000
  ·
   refine Aw <| Ac <| Af <| Af <| Ai fun ds => Aa rfl (Ag (Ar rfl <| Al rfl <| Ad)) ?_
   refine Aa rfl (Bf B4 (Ay rfl <| Al rfl <| Ad) rfl rfl (A8 0 rfl)) ?_
   refine WL_order (.cons (.next <| .next <| .here) <| .cons (.next <| .here) <| .cons (.here) <| .nil) ?_
   refine Bm rfl (x_callM bd_69 A0 (.cons (Al rfl <| Ad) (.cons (Ad) .nil)) rfl (changes_ok hX ht hll hv KnownT.nil) fun v12 F13 H16 hr14 hF15 => ?_)
   obtain ⟨es2, rfl, rfl, hK2⟩ := hr14
   refine Aa rfl (Ae (Ad)) ?_
   refine Ah <| Ac <| Af <| Ai fun ds => Aa rfl (Ag (Ad)) ?_
   refine Aa rfl (Bw (Ad) Ab) ?_
   refine Ah <| Ac <| Am (Ad) (by rw [hcv]; unfold costV; rw [if_pos h1]; decide) ?_
   refine Aw <| Ac <| Af <| Ai fun ds => Aa rfl (Ae Ab) ?_
   refine Aa rfl (Ae Ab) ?_
   refine Ah <| Ac <| A4 <| Ax rfl (.tmp (Al rfl <| Ad) (.tmp (Ad) .nil)) ?_
   show _ = _
   unfold changesEV; rw [changesE_down hok h1]; rfl
  ·
   refine Aw <| Ac <| Af <| Af <| Ai fun ds => Aa rfl (Ag (Ar rfl <| Al rfl <| Ad)) ?_
   refine Aa rfl (Bf B4 (Ay rfl <| Al rfl <| Ad) rfl rfl (A8 0 rfl)) ?_
   refine WL_order (.cons (.next <| .next <| .here) <| .cons (.next <| .here) <| .cons (.here) <| .nil) ?_
   refine Bm rfl (x_callM bd_69 A0 (.cons (Al rfl <| Ad) (.cons (Ad) .nil)) rfl (changes_ok hX ht hll hv KnownT.nil) fun v21 F22 H25 hr23 hF24 => ?_)
   obtain ⟨es2, rfl, rfl, hK2⟩ := hr23
   refine Aa rfl (Ae (Ad)) ?_
   refine Ah <| Ac <| Af <| Ai fun ds => Aa rfl (Ag (Ad)) ?_
   refine Aa rfl (Bw (Ad) Ab) ?_
   refine Ah <| Ac <| Aq (Ad) (by rw [hcv]; unfold costV; rw [if_neg h1]; exact decide_eq_true (by omega)) ?_
   refine Af <| Ai fun ds => Aa rfl (Ag (Ar rfl <| Ad)) ?_
   refine Aa rfl (Ae (Ad)) ?_
   refine Aa rfl (Ae Ab) ?_
   refine Ah <| Ac <| A4 <| Bg ?_
   refine Ax rfl (.tmp (Al rfl <| Ad) (.tmp (Ad) .nil)) ?_
   show _ = _
   unfold changesEV; rw [changesE_ok hok h1, hcv]; unfold costV; rw [if_neg h1]; rfl
 ·
  refine Af <| Ai fun ds => Bm rfl (B2 (Aj rfl) rfl fun b26 hb26 nb26 => ?_)
  refine Aa rfl (Ae Ab) ?_
  refine Aa rfl (Ae Ab) ?_
  refine Ah <| Ac <| Af <| Ai fun ds => Aa rfl (Bf B0 (Ar rfl <| Ad) rfl rfl (A8 0 rfl)) ?_
  refine Aa rfl (Ag (Ay rfl <| Aj rfl)) ?_
  refine Bm rfl (Ch bd_68 A0 (.cons (Al rfl <| Ad) (.cons (Ad) .nil)) (enter_bad hr hl hok) fun v27 F28 hr29 hF30 => ?_)
  obtain ⟨l2, rfl⟩ := hr29
  refine Aa rfl (Ag (Ad)) ?_
  refine Aa rfl (A1 (Ad) rfl) ?_
  refine Aa rfl (A1 (Al rfl <| Ad) rfl) ?_
  refine Aa rfl (A1 (Ar rfl <| Ad) rfl) ?_
  refine Bm rfl (Cf Eh rfl fun b31 hb31 nb31 => ?_)
  refine Aa rfl (Ae (Ar rfl <| Al rfl <| Ad)) ?_
  refine Cm (Cj En (Al rfl <| Ad) (Ar rfl <| Al rfl <| Ad) (i := 0) rfl rfl rfl rfl Df (.here) ?_)
  refine Aa rfl (Ae (Ar rfl <| Ad)) ?_
  refine Ah <| Ac <| Af <| Af <| Ai fun ds => Aa rfl (Ag (Ad)) ?_
  refine Aa rfl (By (Ad) Ab) ?_
  refine Ah <| Ac <| Aq (Ad) (decide_eq_true hok) ?_
  refine Af <| Ai fun ds => Aa rfl (Ag (Ar rfl <| Ad)) ?_
  refine Aa rfl (Ae Ab) ?_
  refine Aa rfl (Ae (Al rfl <| Ad)) ?_
  refine Ah <| Ac <| A4 <| Bg ?_
  refine Ax rfl (.tmp (Al rfl <| Ad) (.tmp (Ad) .nil)) ?_
  show _ = _
  unfold changesEV; rw [changesE_bad hok]; rfl
set_option maxRecDepth 100000 in
theorem years_top_ok {F : Heap} {vp ve : Value} {ps : List (Value × Edn)} {s : Stm} (hr : StmR F vp ve ps s) {v : Value} {l : List Int} (hl : Ints F v l) : Ok Try.prog 23 [.agg #[vp, ve], v].toArray F fun u F' => SpnsR F' u (yearsE s l) := by
 refine Ok.intro Try.func23 rfl Try.ntmps23 rfl fun w0 => ?_
 have hL := hl.plain.lt
 by_cases hok : treeErr s l = 0
 ·
  obtain ⟨hv, hll, ht⟩ := tree_ok hok
  have hne := hv.ne
  have hl5 : l.length ≤ 5 := by omega
  refine Af <| Ai fun ds => Bm rfl (B2 (Aj rfl) rfl fun b1 hb1 nb1 => ?_)
  refine Aa rfl (Ae Ab) ?_
  refine Aa rfl (Ae Ab) ?_
  refine Ah <| Ac <| Af <| Ai fun ds => Aa rfl (Bf B0 (Ar rfl <| Ad) rfl rfl (A8 0 rfl)) ?_
  refine Aa rfl (Ag (Ay rfl <| Aj rfl)) ?_
  refine Bm rfl (D1 bd_68 A0 (.cons (Al rfl <| Ad) (.cons (Ad) .nil)) (enter_ok hr hl hok) fun v2 F3 R6 hr4 hF5 => ?_)
  obtain ⟨ba, kb, rfl, hX, rfl⟩ := hr4
  refine Aa rfl (Ag (Ad)) ?_
  refine Aa rfl (A1 (Ad) rfl) ?_
  refine Aa rfl (A1 (Al rfl <| Ad) rfl) ?_
  refine Aa rfl (A1 (Ar rfl <| Ad) rfl) ?_
  refine Bm rfl (Cf Eh rfl fun b7 hb7 nb7 => ?_)
  refine Aa rfl (Ae (Ar rfl <| Al rfl <| Ad)) ?_
  refine Cm (Cj En (Al rfl <| Ad) (Ar rfl <| Al rfl <| Ad) (i := 0) rfl rfl rfl rfl Df (.here) ?_)
  refine Aa rfl (Ae (Ar rfl <| Ad)) ?_
  refine Ah <| Ac <| Af <| Af <| Ai fun ds => Aa rfl (Ag (Ad)) ?_
  refine Aa rfl (By (Ad) Ab) ?_
  refine Ah <| Ac <| Am (Ad) (by decide) ?_
  by_cases hfit : fitsE s (treeE l) = true
  ·
   refine Aw <| Ac <| Af <| Ai fun ds => Aa rfl (Ag (Ar rfl <| Al rfl <| Ad)) ?_
   refine Aa rfl (Bf B4 (Ay rfl <| Al rfl <| Ad) rfl rfl (A8 0 rfl)) ?_
   refine Aa rfl (q_makeFunc2 (.cons (Ad) .nil) .nil) ?_
   refine Bm rfl (Ch bd_72 A0 (.cons (Ar rfl <| Ad) (.cons (Ad) .nil)) (spans_ok hX hv (fs := [treeV l]) (cs := []) bd_73 (bef := srcN l) (fun G hG i hi => source_nat ht.in_ (by omega) hl5) (E := treeE l) (fun k i => by rw [srcN_mem ht.in_, hll]) (by rw [← hll]; exact ht.dag)) fun v8 F9 hr10 hF11 => ?_)
   obtain ⟨vsp, rfl, hsp⟩ := hr10
   refine Aa rfl (Ag (Ad)) ?_
   refine Aa rfl (A1 (Ad) rfl) ?_
   refine Aa rfl (A1 (Al rfl <| Ad) rfl) ?_
   refine Aa rfl (Ae (Al rfl <| Ad)) ?_
   refine Aa rfl (Ae (Al rfl <| Ad)) ?_
   refine Ah <| Ac <| Af <| Af <| Ai fun ds => Aa rfl (Ag (Ad)) ?_
   refine Aa rfl (Ci (Ad)) ?_
   refine Ah <| Ac <| Am (Ad) (by rw [hfit]; rfl) ?_
   refine Aw <| Ac <| Af <| Ai fun ds => Aa rfl (Ag (Ar rfl <| Al rfl <| Ad)) ?_
   refine Aa rfl (Ae (Ad)) ?_
   refine Aa rfl (Ae Ab) ?_
   refine Ah <| Ac <| A4 <| Ax rfl (.tmp (Al rfl <| Ad) (.tmp (Ad) .nil)) ?_
   rw [yearsE_ok hok hfit]
   exact ⟨_, rfl, hsp⟩
  ·
   replace hfit : fitsE s (treeE l) = false := by simpa using hfit
   refine Aw <| Ac <| Af <| Ai fun ds => Aa rfl (Ag (Ar rfl <| Al rfl <| Ad)) ?_
   refine Aa rfl (Bf B4 (Ay rfl <| Al rfl <| Ad) rfl rfl (A8 0 rfl)) ?_
   refine Aa rfl (q_makeFunc2 (.cons (Ad) .nil) .nil) ?_
   refine Bm rfl (Ch bd_72 A0 (.cons (Ar rfl <| Ad) (.cons (Ad) .nil)) (spans_ok hX hv (fs := [treeV l]) (cs := []) bd_73 (bef := srcN l) (fun G hG i hi => source_nat ht.in_ (by omega) hl5) (E := treeE l) (fun k i => by rw [srcN_mem ht.in_, hll]) (by rw [← hll]; exact ht.dag)) fun v12 F13 hr14 hF15 => ?_)
   obtain ⟨vsp, rfl, hsp⟩ := hr14
   refine Aa rfl (Ag (Ad)) ?_
   refine Aa rfl (A1 (Ad) rfl) ?_
   refine Aa rfl (A1 (Al rfl <| Ad) rfl) ?_
   refine Aa rfl (Ae (Al rfl <| Ad)) ?_
   refine Aa rfl (Ae (Al rfl <| Ad)) ?_
   refine Ah <| Ac <| Af <| Af <| Ai fun ds => Aa rfl (Ag (Ad)) ?_
   refine Aa rfl (Ci (Ad)) ?_
   refine Ah <| Ac <| Aq (Ad) (by rw [hfit]; rfl) ?_
   refine Af <| Ai fun ds => Aa rfl (Ae Ab) ?_
   refine Aa rfl (Ae Ab) ?_
   refine Ah <| Ac <| A4 <| Bg ?_
   refine Ax rfl (.tmp (Al rfl <| Ad) (.tmp (Ad) .nil)) ?_
   rw [yearsE_down hok hfit]
   exact ⟨_, rfl, Sl.nil⟩
 ·
  refine Af <| Ai fun ds => Bm rfl (B2 (Aj rfl) rfl fun b16 hb16 nb16 => ?_)
  refine Aa rfl (Ae Ab) ?_
  refine Aa rfl (Ae Ab) ?_
  refine Ah <| Ac <| Af <| Ai fun ds => Aa rfl (Bf B0 (Ar rfl <| Ad) rfl rfl (A8 0 rfl)) ?_
  refine Aa rfl (Ag (Ay rfl <| Aj rfl)) ?_
  refine Bm rfl (Ch bd_68 A0 (.cons (Al rfl <| Ad) (.cons (Ad) .nil)) (enter_bad hr hl hok) fun v17 F18 hr19 hF20 => ?_)
  obtain ⟨l2, rfl⟩ := hr19
  refine Aa rfl (Ag (Ad)) ?_
  refine Aa rfl (A1 (Ad) rfl) ?_
  refine Aa rfl (A1 (Al rfl <| Ad) rfl) ?_
  refine Aa rfl (A1 (Ar rfl <| Ad) rfl) ?_
  refine Bm rfl (Cf Eh rfl fun b21 hb21 nb21 => ?_)
  refine Aa rfl (Ae (Ar rfl <| Al rfl <| Ad)) ?_
  refine Cm (Cj En (Al rfl <| Ad) (Ar rfl <| Al rfl <| Ad) (i := 0) rfl rfl rfl rfl Df (.here) ?_)
  refine Aa rfl (Ae (Ar rfl <| Ad)) ?_
  refine Ah <| Ac <| Af <| Af <| Ai fun ds => Aa rfl (Ag (Ad)) ?_
  refine Aa rfl (By (Ad) Ab) ?_
  refine Ah <| Ac <| Aq (Ad) (decide_eq_true hok) ?_
  refine Af <| Ai fun ds => Aa rfl (Ag (Ar rfl <| Ad)) ?_
  refine Aa rfl (Ae Ab) ?_
  refine Aa rfl (Ae (Al rfl <| Ad)) ?_
  refine Ah <| Ac <| A4 <| Bg ?_
  refine Ax rfl (.tmp (Al rfl <| Ad) (.tmp (Ad) .nil)) ?_
  rw [yearsE_bad hok]
  exact ⟨_, rfl, Sl.nil⟩
end Go.Proofs.Ytccogmkhijgelaa
namespace Go.Proofs.Ytccogmkhijgelaa
def fitsT (s : Stm) (l : List Int) : Bool := fitsE s (treeE l)
/-- All trees that begin so, with so many editions more. -/
def treesF (n : Nat) : Nat → List Int → List (List Int)
 | 0, b => if isT b = true then [b] else []
 | d + 1, b => (List.range (n + 1)).flatMap fun j : Nat => treesF n d (b ++ [(j : Int) - 1])
def allTrees (s : Stm) : List (List Int) := (treesF s.editions.length s.editions.length []).filter (fitsT s)
/-- What is passed by. -/
def skipT (s : Stm) (b : List Int) (v : Int) : Bool :=
 decide (v = b.length) || ((decide (v = -1) && decide (firstsN b b.length = 1)) || (decide (v ≠ -1) && decide ((s.ed b.length).hi ≤ (s.ed v.toNat).lo)))
def fillT (s : Stm) : Nat → List Int → List (List Int)
 | 0, b => if firstsN b b.length = 1 ∧ isT b = true ∧ fitsT s b = true then [b] else []
 | d + 1, b => (List.range (s.editions.length + 1)).flatMap fun j : Nat => if skipT s b ((j : Int) - 1) = true then [] else fillT s d (b ++ [(j : Int) - 1])
theorem upN_left {b t : List Int} {i : Nat} (h : i < b.length) : upN (b ++ t) i = upN b i := by unfold upN; rw [List.getElem?_append_left h]
theorem upN_mid {b t : List Int} {v : Int} : upN (b ++ [v] ++ t) b.length = v := by simp [upN]
theorem upN_right {b t : List Int} {i : Nat} : upN (b ++ t) (b.length + i) = upN t i := by unfold upN; rw [List.getElem?_append_right (by omega), Nat.add_sub_cancel_left]
theorem trees_mem {n : Nat} : ∀ {d : Nat} {b l : List Int}, l ∈ treesF n d b ↔ ∃ t, l = b ++ t ∧ t.length = d ∧ (∀ j, j < d → -1 ≤ upN t j ∧ upN t j < n) ∧ isT l = true
 | 0, b, l => by
   unfold treesF
   constructor
   · intro h
     split at h
     · rename_i hT
       simp at h; subst h
       exact ⟨[], by simp, rfl, fun j h => absurd h (by omega), hT⟩
     · cases h
   · rintro ⟨t, rfl, ht, -, hT⟩
     obtain rfl := List.eq_nil_of_length_eq_zero ht
     rw [List.append_nil] at hT ⊢
     rw [if_pos hT]; simp
 | d + 1, b, l => by
   unfold treesF
   rw [List.mem_flatMap]
   constructor
   · rintro ⟨j, hj, hl⟩
     have hj2 := List.mem_range.1 hj
     obtain ⟨t, rfl, ht, h, hT⟩ := trees_mem.1 hl
     refine ⟨((j : Int) - 1) :: t, by simp, by simp [ht], fun i hi => ?_, hT⟩
     cases i with
     | zero => show -1 ≤ (j : Int) - 1 ∧ (j : Int) - 1 < n; omega
     | succ i => exact h i (by omega)
   · rintro ⟨t, rfl, ht, h, hT⟩
     cases t with
     | nil => cases ht
     | cons v t =>
       have h0 : -1 ≤ v ∧ v < n := h 0 (by omega)
       refine ⟨(v + 1).toNat, List.mem_range.2 (show (v + 1).toNat < n + 1 by omega), trees_mem.2 ⟨t, ?_, by simpa using ht, fun j hj => h (j + 1) (by omega), hT⟩⟩
       rw [show (((v + 1).toNat : Nat) : Int) - 1 = v by omega]; simp
theorem allTrees_mem {s : Stm} {l : List Int} : l ∈ allTrees s ↔ l.length = s.editions.length ∧ IsTree l ∧ fitsT s l = true := by
 unfold allTrees
 rw [List.mem_filter, trees_mem]
 constructor
 · rintro ⟨⟨t, rfl, ht, h, hT⟩, hf⟩
   exact ⟨ht, isTree_of (fun i hi => by rw [ht]; exact h i (by omega)) hT, hf⟩
 · rintro ⟨h1, h2, h3⟩
   exact ⟨⟨l, rfl, h1, fun j hj => by have := h2.in_ j (by omega); rw [h1] at this; exact this, h2.isT⟩, h3⟩
theorem reach_self {l : List Int} {i : Nat} (h : upN l i = (i : Int)) : ∀ f, reach l f i = false
 | 0 => reach_zero (by omega)
 | f + 1 => by rw [D6 h]; exact reach_self h f
theorem firsts_prefix {b t : List Int} : ∀ {k : Nat}, k ≤ b.length → firstsN (b ++ t) k = firstsN b k
 | 0, _ => rfl
 | k + 1, h => by unfold firstsN; rw [upN_left (by omega), firsts_prefix (by omega)]
theorem skip_none {s : Stm} {b t : List Int} {v : Int} (hl : (b ++ [v] ++ t).length = s.editions.length) (ht : IsTree (b ++ [v] ++ t)) (hf : fitsT s (b ++ [v] ++ t) = true) : skipT s b v = false := by
 have hbl : b.length < (b ++ [v] ++ t).length := by simp
 have hm : upN (b ++ [v] ++ t) b.length = v := upN_mid
 cases hs : skipT s b v with
 | false => rfl
 | true =>
   exfalso
   unfold skipT at hs
   simp only [Bool.or_eq_true, Bool.and_eq_true, decide_eq_true_eq] at hs
   rcases hs with h | ⟨h, h2⟩ | ⟨h, h2⟩
   · have := ht.reach b.length hbl
     rw [reach_self (by rw [hm]; exact h)] at this
     cases this
   · have h3 : firstsN (b ++ [v] ++ t) b.length = 1 := by rw [List.append_assoc, firsts_prefix (Nat.le_refl _)]; exact h2
     obtain ⟨r, hr, hr2⟩ := first_some (l := b ++ [v] ++ t) (n := b.length) (by omega)
     have := first_le_one (l := b ++ [v] ++ t) r b.length (by omega) hbl hr2 (by rw [hm]; exact h) (by rw [ht.one]; exact Int.le_refl _)
     omega
   · obtain ⟨k, hk, hkl⟩ := ht.in_.nat hbl (by rw [hm]; exact h)
     have he := treeE_at hbl hk
     have h3 := fitsE_iff.1 hf b.length (by omega)
     rw [hm] at hk
     rw [hk, Int.toNat_natCast] at h2
     unfold firstY at h3
     obtain ⟨m, hm2⟩ : ∃ m, s.editions.length = m + 1 := ⟨s.editions.length - 1, by omega⟩
     rw [hm2] at h3
     have h4 := climb_edge (f := m) (base := fun i => (s.ed i).lo) he
     have h5 := Dc (E := treeE (b ++ [v] ++ t)) (base := fun i => (s.ed i).lo) (f := m) (i := k)
     simp only at h4 h5
     omega
theorem fill_trees {s : Stm} : ∀ {d : Nat} {b : List Int}, b.length + d = s.editions.length → (∀ i, i < b.length → -1 ≤ upN b i ∧ upN b i < s.editions.length) → fillT s d b = (treesF s.editions.length d b).filter (fitsT s)
 | 0, b, hb, hin => by
   unfold fillT treesF
   by_cases hT : isT b = true
   · have hone : firstsN b b.length = 1 := (isTree_of (fun i hi => by have := hin i hi; omega) hT).one
     rw [if_pos hT]
     by_cases hf : fitsT s b = true
     · rw [if_pos ⟨hone, hT, hf⟩]; simp [hf]
     · rw [if_neg (fun h => hf h.2.2)]; simp [hf]
   · rw [if_neg hT, if_neg (fun h => hT h.2.1)]; rfl
 | d + 1, b, hb, hin => by
   unfold fillT treesF
   rw [List.filter_flatMap]
   have hcong : ∀ {L : List Nat}, (∀ j ∈ L, j < s.editions.length + 1) → L.flatMap (fun j : Nat => if skipT s b ((j : Int) - 1) = true then [] else fillT s d (b ++ [(j : Int) - 1])) = L.flatMap (fun j : Nat => (treesF s.editions.length d (b ++ [(j : Int) - 1])).filter (fitsT s)) := by
     intro L
     induction L with
     | nil => intro _; rfl
     | cons j L ih =>
       intro hL
       rw [List.flatMap_cons, List.flatMap_cons, ih (fun k hk => hL k (List.mem_cons_of_mem _ hk))]
       congr 1
       have hj := hL j List.mem_cons_self
       split
       · rename_i hs
         symm
         rw [List.filter_eq_nil_iff]
         intro l hl hf
         obtain ⟨t, rfl, ht, h, hT⟩ := trees_mem.1 hl
         have hlen : (b ++ [(j : Int) - 1] ++ t).length = s.editions.length := by simp [ht]; omega
         have hin2 : TreeIn (b ++ [(j : Int) - 1] ++ t) := fun i hi => by
           rw [hlen]
           by_cases h1 : i < b.length
           · rw [List.append_assoc, upN_left h1]; exact hin i h1
           · by_cases h2 : i = b.length
             · subst h2; rw [upN_mid]; omega
             · obtain ⟨q, rfl⟩ : ∃ q, i = (b ++ [(j : Int) - 1]).length + q := ⟨i - (b.length + 1), by simp; omega⟩
               rw [upN_right]
               exact h q (by simp at hi; omega)
         rw [skip_none hlen (isTree_of hin2 hT) hf] at hs
         cases hs
       · refine fill_trees (by simp; omega) fun i hi => ?_
         by_cases h1 : i < b.length
         · rw [upN_left h1]; exact hin i h1
         · obtain rfl : i = b.length := by simp at hi; omega
           have := upN_mid (b := b) (t := []) (v := (j : Int) - 1)
           rw [List.append_nil] at this
           rw [this]; omega
   exact hcong fun j hj => List.mem_range.1 hj
theorem fill_all {s : Stm} : fillT s s.editions.length [] = allTrees s := fill_trees (by simp) (fun i h => absurd h (by simp))
/-- The rounds so far of the loop behind so many. -/
def fillTo (s : Stm) (d : Nat) (b : List Int) (j : Nat) : List (List Int) := (List.range j).flatMap fun j : Nat => if skipT s b ((j : Int) - 1) = true then [] else fillT s d (b ++ [(j : Int) - 1])
theorem Eu {s : Stm} {d : Nat} {b : List Int} {j : Nat} : fillTo s d b (j + 1) = fillTo s d b j ++ if skipT s b ((j : Int) - 1) = true then [] else fillT s d (b ++ [(j : Int) - 1]) := by
 unfold fillTo; rw [List.range_succ, List.flatMap_append]; simp
theorem fillTo_end {s : Stm} {d : Nat} {b : List Int} : fillTo s d b (s.editions.length + 1) = fillT s (d + 1) b := rfl
theorem fillTo_split {s : Stm} {d : Nat} {b : List Int} {j : Nat} (hj : j < s.editions.length + 1) : ∃ rest, fillT s (d + 1) b = fillTo s d b j ++ (if skipT s b ((j : Int) - 1) = true then [] else fillT s d (b ++ [(j : Int) - 1])) ++ rest := by
 rw [← fillTo_end, ← Eu]
 unfold fillTo
 rw [show s.editions.length + 1 = (j + 1) + (s.editions.length - j) by omega, List.range_eq_range', ← List.range'_append_1, List.flatMap_append, ← List.range_eq_range']
 exact ⟨_, rfl⟩
def bestStep (top : Int) (c : List Int → Int) (st : List (List Int) × Int) (t : List Int) : List (List Int) × Int :=
 if c t < st.2 then ([t], c t) else if c t = st.2 ∧ c t < top then (st.1 ++ [t], st.2) else st
def bestR (top : Int) (c : List Int → Int) (xs : List (List Int)) : List (List Int) × Int := xs.foldl (bestStep top c) ([], top)
theorem bestR_snoc {top : Int} {c : List Int → Int} {xs : List (List Int)} {t : List Int} : bestR top c (xs ++ [t]) = bestStep top c (bestR top c xs) t := by unfold bestR; rw [List.foldl_append]; rfl
def minR (top : Int) (c : List Int → Int) (xs : List (List Int)) : Int := xs.foldl (fun m t => min m (c t)) top
theorem minR_snoc {top : Int} {c : List Int → Int} {xs : List (List Int)} {t : List Int} : minR top c (xs ++ [t]) = min (minR top c xs) (c t) := by unfold minR; rw [List.foldl_append]; rfl
theorem snoc_ind {α : Type} {p : List α → Prop} (h0 : p []) (h1 : ∀ l a, p l → p (l ++ [a])) (l : List α) : p l := by
 have key : ∀ m : List α, p m.reverse := by
   intro m
   induction m with
   | nil => exact h0
   | cons a m ih => rw [List.reverse_cons]; exact h1 _ _ ih
 have := key l.reverse
 rwa [List.reverse_reverse] at this
theorem best_is {top : Int} {c : List Int → Int} (xs : List (List Int)) : bestR top c xs = (xs.filter (fun t => decide (c t = minR top c xs ∧ c t < top)), minR top c xs) := by
 induction xs using snoc_ind with
 | h0 => rfl
 | h1 xs t ih =>
   rw [bestR_snoc, minR_snoc, ih]
   have hle : ∀ x ∈ xs, minR top c xs ≤ c x := fun x hx => foldmin_mem hx
   have hst : minR top c xs ≤ top := foldmin_start
   unfold bestStep
   simp only
   by_cases h1 : c t < minR top c xs
   · rw [if_pos h1, show min (minR top c xs) (c t) = c t by omega, List.filter_append]
     have e : xs.filter (fun x => decide (c x = c t ∧ c x < top)) = [] := by
       rw [List.filter_eq_nil_iff]; intro x hx h
       have := hle x hx
       have := (of_decide_eq_true h).1
       omega
     have e2 : [t].filter (fun x => decide (c x = c t ∧ c x < top)) = [t] := by
       rw [List.filter_cons, if_pos (decide_eq_true ⟨rfl, by omega⟩)]; rfl
     rw [e, e2]; rfl
   · rw [if_neg h1, show min (minR top c xs) (c t) = minR top c xs by omega, List.filter_append]
     by_cases h2 : c t = minR top c xs ∧ c t < top
     · have e2 : [t].filter (fun x => decide (c x = minR top c xs ∧ c x < top)) = [t] := by
         rw [List.filter_cons, if_pos (decide_eq_true h2)]; rfl
       rw [if_pos h2, e2]
     · rw [if_neg h2]
       have e : [t].filter (fun x => decide (c x = minR top c xs ∧ c x < top)) = [] := by
         rw [List.filter_eq_nil_iff]; intro x hx h
         simp at hx; subst hx
         exact h2 (of_decide_eq_true h)
       rw [e, List.append_nil]
theorem bestR_le {top : Int} {c : List Int → Int} {xs : List (List Int)} : (bestR top c xs).2 ≤ top := by rw [best_is]; exact foldmin_start
/-- The one as the other has it. -/
def upV (z : Int) : Int := if z = 1000 then never else z
theorem best_up {c1 c2 : List Int → Int} : ∀ {xs : List (List Int)}, (∀ t ∈ xs, c1 t = upV (c2 t) ∧ c2 t ≤ 1000) → bestR never c1 xs = ((bestR 1000 c2 xs).1, upV (bestR 1000 c2 xs).2) := by
 intro xs
 induction xs using snoc_ind with
 | h0 => intro _; rfl
 | h1 xs t ih =>
   intro h
   have ih := ih fun x hx => h x (by simp [hx])
   have ht := h t (by simp)
   have hb : (bestR 1000 c2 xs).2 ≤ 1000 := bestR_le
   rw [bestR_snoc, bestR_snoc, ih]
   unfold bestStep
   simp only
   rw [ht.1]
   unfold upV never
   by_cases h1 : c2 t < (bestR 1000 c2 xs).2
   · have k1 : ¬ c2 t = 1000 := by omega
     rw [if_pos h1, if_neg k1, if_pos (by split <;> omega)]
   · rw [if_neg h1, if_neg (by split <;> split <;> omega)]
     by_cases h2 : c2 t = (bestR 1000 c2 xs).2 ∧ c2 t < 1000
     · rw [if_pos h2, if_pos (by rw [h2.1]; refine ⟨rfl, ?_⟩; split <;> omega)]
     · rw [if_neg h2, if_neg]
       rintro ⟨h3, h4⟩
       apply h2
       split at h3
       · rename_i h5; simp [h5] at h4
       · split at h3 <;> omega
def bestsL (s : Stm) : List (List Int) := (bestR 1000 (costL s) (allTrees s)).1
def bestsM (s : Stm) : Int := (bestR 1000 (costL s) (allTrees s)).2
theorem bests_prog {s : Stm} (hv : ValidT s) : bestR never (changesN s) (allTrees s) = (bestsL s, upV (bestsM s)) :=
 best_up fun t ht => by
   obtain ⟨h1, h2, -⟩ := allTrees_mem.1 ht
   exact ⟨changes_costV h2 hv h1, costL_bound.2⟩
theorem bestsL_mem {s : Stm} {l : List Int} : l ∈ bestsL s ↔ l ∈ allTrees s ∧ costL s l = bestsM s ∧ costL s l < 1000 := by
 unfold bestsL bestsM
 rw [best_is]
 simp [List.mem_filter]
theorem foldmin_or {α : Type} {f : α → Int} : ∀ {l : List α} {m : Int}, l.foldl (fun m x => min m (f x)) m = m ∨ ∃ x ∈ l, l.foldl (fun m x => min m (f x)) m = f x
 | [], m => .inl rfl
 | a :: l, m => by
   rw [List.foldl_cons]
   rcases foldmin_or (l := l) (m := min m (f a)) (f := f) with h | ⟨x, hx, h⟩
   · by_cases h1 : m ≤ f a
     · left; rw [h]; omega
     · right; exact ⟨a, by simp, by rw [h]; omega⟩
   · right; exact ⟨x, by simp [hx], h⟩
/-- None is best just if none is possible. -/
theorem bestsL_nil {s : Stm} : bestsL s = [] ↔ bestsM s = 1000 := by
 have hle : bestsM s ≤ 1000 := bestR_le
 constructor
 · intro h
   have e : bestsM s = minR 1000 (costL s) (allTrees s) := by unfold bestsM; rw [best_is]
   rcases foldmin_or (f := costL s) (l := allTrees s) (m := 1000) with h1 | ⟨x, hx, h1⟩
   · rw [e]; exact h1
   · have h2 : bestsM s = costL s x := by rw [e]; exact h1
     by_cases h3 : costL s x < 1000
     · have : x ∈ bestsL s := bestsL_mem.2 ⟨hx, h2.symm, h3⟩
       rw [h] at this; cases this
     · omega
 · intro h
   rw [List.eq_nil_iff_forall_not_mem]
   intro x hx
   obtain ⟨h1, h2, h3⟩ := bestsL_mem.1 hx
   omega
end Go.Proofs.Ytccogmkhijgelaa
namespace Go.Proofs.Ytccogmkhijgelaa
open Go.RowKit
section
variable {P : Program} {n : Nat} {B : Base} {e : Env} {σ : St} {ty : TypeId} {pos : String} {af : Array Edge}
theorem x_callMF {d : Option Nat} {g : FuncId} {f : Operand} {fs cs vs : List Value} {xs : List Operand} {at_ : Array TypeId} {Hc Hr : List (Nat × Obj)}
   {R : Value → Heap → List (Nat × Obj) → Prop} {K : Value → St → Prop} (hg : Body P g) (hf : ev e f = .func (.func g) fs.toArray cs.toArray) (hx : Av e xs vs) (hH : σ.H = Hc ++ Hr)
   (hok : OkM P g (fs ++ vs ++ cs).toArray σ.F Hc R) (hn : ∀ v F' H', R v F' H' → σ.F.le F' → K v ⟨F', H' ++ Hr⟩) :
   OpX P n B ⟨d, .call ⟨.value f, xs.toArray, at_⟩, ty, pos, af, none⟩ e σ K := by
 intro a w ha hw next Qx hnext
 unfold Oper.wp
 rw [ha.ev, run_callFn hg hf hx, Oper.upon_enter]
 refine (hok w hw.sub (fun p hp => ?_) ?_).mono fun r w' hq => ?_
 · obtain ⟨h1, h2, -⟩ := hw.own p (by rw [hH]; exact List.mem_append_left _ hp)
   exact ⟨h1, h2⟩
 · have := hw.nodup
   rw [hH, List.map_append] at this
   exact (List.nodup_append.1 this).1
 · obtain ⟨v, F', H', rfl, hg', hk, hH', hR⟩ := hq
   exact hnext v _ w' (hn v F' H' hR hg'.le) (hw.grow hH hg' hk hH')
variable {ops : Array Oper}
end
end Go.Proofs.Ytccogmkhijgelaa
namespace Go.Proofs.Ytccogmkhijgelaa
open Go.RowKit
/-- The blocks 'H'' of the world 'w'' are some of 'H', or new. -/
def HeldG (w : World) (H : List (Nat × Obj)) (w' : World) (F' : Heap) (H' : List (Nat × Obj)) : Prop := (∀ p ∈ H', w'.heap[p.1]? = some p.2 ∧ F' p.1 = none ∧ (p.1 ∈ keys H ∨ w.heap.size ≤ p.1)) ∧ (keys H').Nodup
def OkG (P : Program) (f : FuncId) (args : Array Value) (F : Heap) (H : List (Nat × Obj)) (R : Value → Heap → List (Nat × Obj) → Prop) : Prop :=
 ∀ w, Sub F w → (∀ p ∈ H, w.heap[p.1]? = some p.2 ∧ F p.1 = none) → (keys H).Nodup →
   Calls P f args w fun r w' => ∃ v F' H', r = .returned v ∧ Grow w F (keys H) w' F' ∧ HeldG w H w' F' H' ∧ R v F' H'
theorem OkG.mono {P : Program} {f : FuncId} {args : Array Value} {F : Heap} {H : List (Nat × Obj)} {R R' : Value → Heap → List (Nat × Obj) → Prop} (h : OkG P f args F H R)
   (hr : ∀ v F' H', F.le F' → R v F' H' → R' v F' H') : OkG P f args F H R' := by
 intro w h1 h2 h3
 refine (h w h1 h2 h3).mono fun r w' hq => ?_
 obtain ⟨v, F', H', q1, q2, q3, q4⟩ := hq
 exact ⟨v, F', H', q1, q2, q3, hr v F' H' q2.le q4⟩
def OkYG (P : Program) (l : Nat) (args : List Value) (F : Heap) (H : List (Nat × Obj)) (R : Value → Heap → List (Nat × Obj) → Prop) : Prop :=
 ∀ w, Sub F w → (∀ p ∈ H, w.heap[p.1]? = some p.2 ∧ F p.1 = none) → (keys H).Nodup →
   ∃ fn tmps assign body, (Instr.yield l args.toArray).run P w = .ok (.round l fn tmps assign body) w ∧
     RoundIn Fence.wide 0 P l fn tmps assign body w fun r w' => ∃ v F' H', r = .returned v ∧ Grow w F (keys H) w' F' ∧ HeldG w H w' F' H' ∧ R v F' H'
theorem OkYG.mono {P : Program} {l : Nat} {args : List Value} {F : Heap} {H : List (Nat × Obj)} {R R' : Value → Heap → List (Nat × Obj) → Prop} (h : OkYG P l args F H R) (hr : ∀ v F' H', F.le F' → R v F' H' → R' v F' H') : OkYG P l args F H R' := by
 intro w h1 h2 h3
 obtain ⟨fn, tm, as1, bo, hy, hR⟩ := h w h1 h2 h3
 refine ⟨fn, tm, as1, bo, hy, hR.mono fun r w' hq => ?_⟩
 obtain ⟨v, F', H', q1, q2, q3, q4⟩ := hq
 exact ⟨v, F', H', q1, q2, q3, hr v F' H' q2.le q4⟩
section
variable {P : Program} {n : Nat} {B : Base} {e : Env} {σ : St} {ty : TypeId} {pos : String} {af : Array Edge}
theorem Holds.growG {w : World} (h : Holds B σ w) {Hc rest : List (Nat × Obj)} {w' : World} {F' : Heap} {H' : List (Nat × Obj)} (hH : σ.H = Hc ++ rest)
   (hg : Grow w σ.F (keys Hc) w' F') (hh : HeldG w Hc w' F' H') : Holds B ⟨F', H' ++ rest⟩ w' := by
 obtain ⟨hh1, hh2⟩ := hh
 have hin : ∀ p ∈ H', (∃ q ∈ Hc, q.1 = p.1) ∨ w.heap.size ≤ p.1 := fun p hp => (hh1 p hp).2.2.imp (fun hk => by
   obtain ⟨q, hq, he⟩ := List.mem_map.1 hk
   exact ⟨q, hq, he⟩) id
 have hnd := h.nodup
 rw [hH, List.map_append, List.nodup_append] at hnd
 refine ⟨hg.os.trans h.os, hg.tape.trans h.tape, hg.output.trans h.output, Nat.le_trans h.size hg.size, ?_, hg.sub, ?_, ?_, ?_, Heap.le_trans h.le hg.le, fun D hD => ?_, h.dnodup⟩
 · intro b hb hM
   have hnot : b ∉ keys Hc := by
     intro hm
     obtain ⟨p, hp, rfl⟩ := List.mem_map.1 hm
     rcases (h.own p (by rw [hH]; exact List.mem_append_left _ hp)).2.2 with h1 | h1
     · omega
     · exact hM h1
   rw [hg.old b (by have := h.size; omega) hnot]; exact h.old b hb hM
 · intro p hp
   rcases List.mem_append.1 hp with hp | hp
   · obtain ⟨h1, h2, -⟩ := hh1 p hp
     refine ⟨h1, h2, ?_⟩
     rcases hin p hp with ⟨q, hq, he⟩ | hnew
     · have := (h.own q (by rw [hH]; exact List.mem_append_left _ hq)).2.2
       rw [he] at this; exact this
     · exact .inl (Nat.le_trans h.size hnew)
   · have hp' : p ∈ σ.H := by rw [hH]; exact List.mem_append_right _ hp
     obtain ⟨h1, h2, h3⟩ := h.own p hp'
     have hlt := h.lt hp'
     have hnot : p.1 ∉ keys Hc := fun hm => hnd.2.2 _ hm _ (List.mem_map_of_mem hp) rfl
     exact ⟨by rw [hg.old _ hlt hnot]; exact h1, (hg.ext _ hlt).trans h2, h3⟩
 · rw [List.map_append, List.nodup_append]
   refine ⟨hh2, hnd.2.1, fun a ha b hb he => ?_⟩
   obtain ⟨p, hp, rfl⟩ := List.mem_map.1 ha
   obtain ⟨q, hq, rfl⟩ := List.mem_map.1 hb
   rcases hin p hp with ⟨r, hr, hre⟩ | hnew
   · exact hnd.2.2 _ (List.mem_map_of_mem hr) _ (List.mem_map_of_mem hq) (hre.trans he)
   · have := h.lt (p := q) (by rw [hH]; exact List.mem_append_right _ hq)
     omega
 · intro b hb
   exact (hg.ext b (by have := h.size; omega)).trans (h.ext b hb)
 · obtain ⟨h1, h2, h3, h4⟩ := h.marks D hD
   have hlt := (Array.getElem?_eq_some_iff.1 h1).1
   have hnot : D ∉ keys Hc := fun hm => h4 (by rw [hH, List.map_append]; exact List.mem_append_left _ hm)
   refine ⟨by rw [hg.old _ hlt hnot]; exact h1, (hg.ext _ hlt).trans h2, h3, fun hm => ?_⟩
   rw [List.map_append] at hm
   rcases List.mem_append.1 hm with hm | hm
   · obtain ⟨p, hp, he⟩ := List.mem_map.1 hm
     rcases hin p hp with ⟨r, hr, hre⟩ | hnew
     · exact hnot (by rw [← he, ← hre]; exact List.mem_map_of_mem hr)
     · omega
   · exact h4 (by rw [hH, List.map_append]; exact List.mem_append_right _ hm)
/-- A call that is handed all blocks of one's own. -/
theorem x_callG {d : Option Nat} {g : FuncId} {f : Operand} {cs vs : List Value} {xs : List Operand} {at_ : Array TypeId} {Hc : List (Nat × Obj)}
   {R : Value → Heap → List (Nat × Obj) → Prop} {K : Value → St → Prop} (hg : Body P g) (hf : ev e f = .func (.func g) #[] cs.toArray) (hx : Av e xs vs) (hH : σ.H = Hc)
   (hok : OkG P g (vs ++ cs).toArray σ.F Hc R) (hn : ∀ v F' H', R v F' H' → σ.F.le F' → K v ⟨F', H'⟩) :
   OpX P n B ⟨d, .call ⟨.value f, xs.toArray, at_⟩, ty, pos, af, none⟩ e σ K := by
 intro a w ha hw next Qx hnext
 unfold Oper.wp
 rw [ha.ev, run_call hg hf hx, Oper.upon_enter]
 refine (hok w hw.sub (fun p hp => ?_) ?_).mono fun r w' hq => ?_
 · obtain ⟨h1, h2, -⟩ := hw.own p (by rw [hH]; exact hp)
   exact ⟨h1, h2⟩
 · have := hw.nodup
   rw [hH] at this
   exact this
 · obtain ⟨v, F', H', rfl, hg', hh, hR⟩ := hq
   have := hw.growG (Hc := Hc) (rest := []) (by simp [hH]) hg' hh
   rw [List.append_nil] at this
   exact hnext v _ w' (hn v F' H' hR hg'.le) this
def PostG (P : Program) (fn : Func) (B : Base) (R : Value → Heap → List (Nat × Obj) → Prop) : Exit → Env → St → Prop
 | .normal, e, σ | .ret, e, σ => ∃ rs vs F' H', fn.results = List.toArray rs ∧ Rv P e σ rs vs ∧ (∀ ds w, Holds (B.at ds) σ w → Holds (B.at ds) ⟨F', H'⟩ w) ∧ R (outOf vs) F' H'
 | _, _, _ => False
theorem OkG.intro {f : FuncId} {fn : Func} {c : Code} {args : List Value} {F : Heap} {H : List (Nat × Obj)} {R : Value → Heap → List (Nat × Obj) → Prop} (hf : P.funcs[f]? = some fn) (hb : fn.body = some c) (hn : fn.ntmps = n) (hsz : Nat.ble args.length n = true)
   (h : ∀ w, WC P n ⟨w, keys H, F, [], none⟩ c (PostG P fn ⟨w, keys H, F, [], none⟩ R) (fun t => args.getD t undef) ⟨F, H⟩) : OkG P f args.toArray F H R := by
 intro w hs hH hnd
 refine (callsIn_wide (n := 0)).1 (callsIn_of_wp_marks (F := fence none) hf hb trivial (wpIn_mono (h w [] _ _ ?_ ?_) fun x a' w' hq => ?_))
 · refine ⟨?_, rfl, fun t => ?_⟩
   · have : args.length ≤ n := by simpa using hsz
     simp [hn]; omega
   · have hl : args.length ≤ n := by simpa using hsz
     by_cases ht : t < args.length
     · simp [Array.getElem?_append_left, ht]
     · simp only [Array.getD_eq_getD_getElem?, List.getD_eq_getElem?_getD]
       rw [Array.getElem?_append_right (by simp; omega), List.getElem?_eq_none (by omega)]
       simp only [List.size_toArray, Array.getElem?_replicate]
       split <;> rfl
 · exact ⟨rfl, rfl, rfl, Nat.le_refl _, fun _ _ _ => rfl, hs, fun p hp => ⟨(hH p hp).1, (hH p hp).2, .inr (List.mem_map_of_mem hp)⟩, hnd, fun _ _ => rfl, Heap.le_refl _, (fun D hD => nomatch hD), List.nodup_nil⟩
 · obtain ⟨ds, e', σ', h1, h2, h3⟩ := hq
   have fin : ∀ rs vs F' H', fn.results = List.toArray rs → Rv P e' σ' rs vs → (∀ ds w2, Holds (Base.at ⟨w, keys H, F, [], none⟩ ds) σ' w2 → Holds (Base.at ⟨w, keys H, F, [], none⟩ ds) ⟨F', H'⟩ w2) → R (outOf vs) F' H' →
       LeavesInM (fence none) 0 P fn a'.tmps (fun r w' => ∃ v F' H', r = .returned v ∧ Grow w F (keys H) w' F' ∧ HeldG w H w' F' H' ∧ R v F' H') a'.defers .returning w' := by
     intro rs vs F' H' q1 q2 q3 q5
     rw [h1.defers]
     refine leaves_of (B := ⟨w, keys H, F, [], none⟩) ds w' h2 fun w2 hw2 => ?_
     have h2' := q3 [] w2 hw2
     exact ⟨_, results_run q1 q2 h1 hw2, _, F', H', rfl, ⟨h2'.os, h2'.tape, h2'.output, h2'.size, h2'.old, h2'.le, h2'.sub, h2'.ext⟩, ⟨fun p hp => ⟨(h2'.own p hp).1, (h2'.own p hp).2.1, (h2'.own p hp).2.2.symm⟩, h2'.nodup⟩, q5⟩
   cases x with
   | normal => obtain ⟨rs, vs, F', H', q1, q2, q3, q5⟩ := h3; exact fin rs vs F' H' q1 q2 q3 q5
   | ret => obtain ⟨rs, vs, F', H', q1, q2, q3, q5⟩ := h3; exact fin rs vs F' H' q1 q2 q3 q5
   | exit id => exact h3.elim
   | goto l => exact h3.elim
   | panic ch => exact h3.elim
   | outgrown => exact h3.elim
theorem post_retG {fn : Func} {R : Value → Heap → List (Nat × Obj) → Prop} {rs : List ResultVar} {vs : List Value} {H' : List (Nat × Obj)} (hr : fn.results = rs.toArray) (hv : Rv P e σ rs vs) (hp : Pick σ.H H') (hR : R (outOf vs) σ.F H') :
   PostG P fn B R .ret e σ := ⟨rs, vs, σ.F, H', hr, hv, fun _ _ h => h.pick hp, hR⟩
theorem WC_rangeFuncG {Q : Exit → Env → St → Prop} {g : Operand} {ps : Array Tmp} {assign body : Code} {gf : FuncId} {cs : List Value} (hro : B.ro = none) (hg : ev e g = .func (.func gf) #[] cs.toArray) (hb : Body P gf)
   (J : Heap → List (Nat × Obj) → Prop) (Jx : Code → Heap → List (Nat × Obj) → Prop)
   (h : ∀ L D fn tm, tm.size = n → (∀ t, tm.getD t undef = e t) → OkG P gf (.func (.yield L) #[] #[] :: cs).toArray σ.F ((L, loopO fn tm ps assign body D .ready none) :: (D, openO) :: σ.H) fun _ F' H' =>
     ∃ H1, H' = (L, loopO fn tm ps assign body D .ready none) :: (D, openO) :: H1 ∧ J F' H1 ∨ ∃ c, H' = (L, loopO fn tm ps assign body D .done (some c)) :: (D, openO) :: H1 ∧ Jx c F' H1)
   (hx : ∀ c F' H1, σ.F.le F' → Jx c F' H1 → WC P n B c Q e ⟨F', H1⟩)
   (hn : ∀ F' H1, σ.F.le F' → J F' H1 → Q .normal e ⟨F', H1⟩) : WC P n B (.rangeFunc g ps assign body) Q e σ := by
 intro ds a w ha hw
 rw [hro]
 refine wpIn_rangeFunc fun fn _ => ?_
 let W1 := (w.alloc openO).alloc (loopO fn a.tmps ps assign body w.heap.size .ready none)
 have hsz1 : (w.alloc openO).heap.size = w.heap.size + 1 := by simp
 have hW1 : Holds (B.at ds) ⟨σ.F, (w.heap.size + 1, loopO fn a.tmps ps assign body w.heap.size .ready none) :: (w.heap.size, openO) :: σ.H⟩ W1 := by
   have := (hw.alloc openO).alloc (loopO fn a.tmps ps assign body w.heap.size .ready none)
   rw [hsz1] at this
   exact this
 refine ⟨w.heap.size + 1, [mark w.heap.size], W1, { target := .fn (.func gf) cs.toArray, args := #[.func (.yield (w.heap.size + 1)) #[] #[]] }, W1, gf, (.func (.yield (w.heap.size + 1)) #[] #[] :: cs).toArray, W1, ?_, ?_, fun _ _ => trivial, ?_, fun h => by simp [fence] at h, trivial, ?_⟩
 · exact run_enterLoop_outer fn a.tmps ps assign body
 · simp only [resolve, ha.ev, hg]
   simp [go_sem]
   rfl
 · simp only [invoke]
   have := run_callFunc hb (#[.func (.yield (w.heap.size + 1)) #[] #[]] ++ cs.toArray) W1
   simpa using this
 · refine ((callsIn_fence (ro := none) (k := 0 - 1)).2 (((h (w.heap.size + 1) w.heap.size fn a.tmps ha.size ha.get) W1 hW1.sub (fun p hp => ⟨(hW1.own p hp).1, (hW1.own p hp).2.1⟩) hW1.nodup).mono ?_)).2
   rintro r W2 ⟨v, F', H', rfl, hg', hh, hR⟩
   have hw2 := hW1.growG (Hc := (w.heap.size + 1, loopO fn a.tmps ps assign body w.heap.size .ready none) :: (w.heap.size, openO) :: σ.H) (rest := []) (by simp) hg' hh
   rw [List.append_nil] at hw2
   have hD : (B.at ds).w0.heap.size ≤ w.heap.size := hw.size
   have hfit : Fits n (B.at (w.heap.size :: ds)) { a with defers := [mark w.heap.size] ++ a.defers } e := ⟨ha.size, by show [mark w.heap.size] ++ a.defers = _; rw [ha.defers]; rfl, ha.get⟩
   have fin : ∀ st pe H1, H' = (w.heap.size + 1, loopO fn a.tmps ps assign body w.heap.size st pe) :: (w.heap.size, openO) :: H1 → st ≠ .busy →
       ∃ W4, (Instr.endLoop (w.heap.size + 1)).run P W2 = .ok pe W4 ∧ Holds (B.at (w.heap.size :: ds)) ⟨F', H1⟩ W4 := by
     intro st pe H1 he hst
     subst he
     have hl := (hw2.own (w.heap.size + 1, loopO fn a.tmps ps assign body w.heap.size st pe) (by simp)).1
     refine ⟨_, run_endLoop hl hst, ?_⟩
     have h4 := hw2.setObj (i := 0) (o' := loopO fn a.tmps ps assign body w.heap.size .exhausted pe) rfl
     have h5 : Holds (B.at ds) ⟨F', (w.heap.size, openO) :: H1⟩ (W2.putObj (w.heap.size + 1) (loopO fn a.tmps ps assign body w.heap.size .exhausted pe)) := Holds.drop (σ := ⟨F', _⟩) h4 (by simp)
     exact h5.toMark hD
   obtain ⟨H1, hR | ⟨c, hR⟩⟩ := hR
   · obtain ⟨he, hJ⟩ := hR
     obtain ⟨W4, h1, h2⟩ := fin _ _ _ he (by simp)
     exact ⟨none, W4, h1, w.heap.size :: ds, e, ⟨F', H1⟩, hfit, h2, hn F' H1 hg'.le hJ⟩
   · obtain ⟨he, hJ⟩ := hR
     obtain ⟨W4, h1, h2⟩ := fin _ _ _ he (by simp)
     have := hx c F' H1 hg'.le hJ (w.heap.size :: ds) _ W4 hfit h2
     rw [hro] at this
     exact ⟨some c, W4, h1, this⟩
def RoundEG (B : Base) (L : Nat) (lo : LoopState → Option Code → Obj) (R : Value → Heap → List (Nat × Obj) → Prop) : Exit → Env → St → Prop := fun x _ σ =>
 let fin (v : Value) (st : LoopState) (pe : Option Code) := ∃ F' H2, (∀ ds w, Holds (B.at ds) σ w → Holds (B.at ds) ⟨F', (L, lo .busy none) :: H2⟩ w) ∧ R v F' ((L, lo st pe) :: H2)
 match x with
 | .normal => fin (.bool true) .ready none
 | .ret => fin (.bool false) .done (some .ret)
 | .exit id => fin (.bool false) .done (some (.exit id))
 | _ => False
theorem okY_roundG {L D : Nat} {fn : FuncId} {tm : Array Value} {ps : List Tmp} {assign body : Code} {args : List Value} {F : Heap} {H : List (Nat × Obj)} {R : Value → Heap → List (Nat × Obj) → Prop}
   (hsz : tm.size = n) (htm : ∀ t, tm.getD t undef = e t) (hlen : args.length = ps.length) (hps : (ps.zip args).all (fun p => Nat.blt p.1 n) = true)
   (h : ∀ w0, WC P n ⟨w0, L :: keys H, F, [], some L⟩ assign (thenE (fun e' σ' => ∃ H2, σ'.H = (L, loopO fn tm ps.toArray assign body D .ready none) :: H2 ∧
       WC P n ⟨w0, L :: keys H, F, [], some L⟩ body (RoundEG ⟨w0, L :: keys H, F, [], some L⟩ L (loopO fn tm ps.toArray assign body D) R) e' ⟨σ'.F, (L, loopO fn tm ps.toArray assign body D .busy none) :: H2⟩) (fun _ _ _ => False))
     (updL e (ps.zip args)) ⟨F, (L, loopO fn tm ps.toArray assign body D .ready none) :: H⟩) :
   OkYG P L args F ((L, loopO fn tm ps.toArray assign body D .ready none) :: H) R := by
 intro w hs hH hnd
 have hl := (hH (L, loopO fn tm ps.toArray assign body D .ready none) (by simp)).1
 refine ⟨fn, _, assign, body, run_yield hl (by simpa using hlen), roundIn_of_wpIn trivial ?_⟩
 have hfit := fits_fold (n := n) (B := ⟨w, L :: keys H, F, [], some L⟩) (ps.zip args) tm e hsz htm hps
 have hkeys : keys ((L, loopO fn tm ps.toArray assign body D .ready none) :: H) = L :: keys H := rfl
 have hw0 : Holds (Base.at ⟨w, L :: keys H, F, [], some L⟩ []) ⟨F, (L, loopO fn tm ps.toArray assign body D .ready none) :: H⟩ w :=
   ⟨rfl, rfl, rfl, Nat.le_refl _, fun _ _ _ => rfl, hs, fun p hp => ⟨(hH p hp).1, (hH p hp).2, .inr (List.mem_map_of_mem (f := Prod.fst) hp)⟩, hnd, fun _ _ => rfl, Heap.le_refl _, (fun D hD => nomatch hD), List.nodup_nil⟩
 have hzip : ((ps.toArray.zip args.toArray).foldl (fun tmps (t, a) => tmps.setIfInBounds t a) tm) = (ps.zip args).foldl (fun tm p => tm.setIfInBounds p.1 p.2) tm := by
   rw [show ps.toArray.zip args.toArray = (ps.zip args).toArray by simp, List.foldl_toArray]
 refine wpIn_mono (h w [] _ w ⟨?_, rfl, ?_⟩ hw0) ?_
 · show ((ps.toArray.zip args.toArray).foldl (fun tmps (t, a) => tmps.setIfInBounds t a) tm).size = n
   rw [hzip]; exact hfit.1
 · intro t
   show ((ps.toArray.zip args.toArray).foldl (fun tmps (t, a) => tmps.setIfInBounds t a) tm).getD t undef = _
   rw [hzip]; exact hfit.2 t
 · rintro x a1 w1 ⟨ds1, e1, σ1, hf1, hh1, hq⟩
   cases x with
   | normal =>
     obtain ⟨H2, hσ, hbody⟩ := hq
     have hh1' : Holds (Base.at ⟨w, L :: keys H, F, [], some L⟩ ds1) ⟨σ1.F, (L, loopO fn tm ps.toArray assign body D .ready none) :: H2⟩ w1 := by rw [← hσ]; exact hh1
     have hl1 := (hh1'.own (L, loopO fn tm ps.toArray assign body D .ready none) (by simp)).1
     refine ⟨_, run_beginRound hl1 rfl, ?_⟩
     have hset := hh1'.setObj (i := 0) (o' := loopO fn tm ps.toArray assign body D .busy none) rfl
     refine wpIn_mono (hbody ds1 a1 _ hf1 hset) ?_
     rintro x a2 w2 ⟨ds2, e2, σ2, hf2, hh2, hq2⟩
     have fin : ∀ (v : Value) (st : LoopState) (pe : Option Code), (v = .bool pe.isNone ∧ st = if pe.isNone then .ready else .done) → (∃ F' H2, (∀ ds w', Holds (Base.at ⟨w, L :: keys H, F, [], some L⟩ ds) σ2 w' → Holds (Base.at ⟨w, L :: keys H, F, [], some L⟩ ds) ⟨F', (L, loopO fn tm ps.toArray assign body D .busy none) :: H2⟩ w') ∧ R v F' ((L, loopO fn tm ps.toArray assign body D st pe) :: H2)) →
         ∃ v' w', (Instr.endRound L pe).run P w2 = .ok v' w' ∧ ∃ v F' H', Ending.returned v' = .returned v ∧ Grow w F (L :: keys H) w' F' ∧ HeldG w ((L, loopO fn tm ps.toArray assign body D .ready none) :: H) w' F' H' ∧ R v F' H' := by
       rintro v st pe ⟨rfl, rfl⟩ ⟨F', H3, q1, q3⟩
       have h3 := q1 ds2 w2 hh2
       have hl3 := (h3.own (L, loopO fn tm ps.toArray assign body D .busy none) (by simp)).1
       have h4 := h3.setObj (i := 0) (o' := loopO fn tm ps.toArray assign body D (if pe.isNone then .ready else .done) pe) rfl
       exact ⟨_, _, run_endRound pe hl3, _, F', (L, loopO fn tm ps.toArray assign body D (if pe.isNone then .ready else .done) pe) :: H3, rfl, ⟨h4.os, h4.tape, h4.output, h4.size, h4.old, h4.le, h4.sub, h4.ext⟩, ⟨fun p hp => ⟨(h4.own p hp).1, (h4.own p hp).2.1, (h4.own p hp).2.2.symm⟩, h4.nodup⟩, q3⟩
     cases x with
     | normal => exact fin (.bool true) .ready none ⟨rfl, rfl⟩ hq2
     | ret => exact fin (.bool false) .done (some .ret) ⟨rfl, rfl⟩ hq2
     | exit id => exact fin (.bool false) .done (some (.exit id)) ⟨rfl, rfl⟩ hq2
     | goto l => exact hq2.elim
     | panic ch => exact hq2.elim
     | outgrown => exact hq2.elim
   | exit id => exact hq.elim
   | goto l => exact hq.elim
   | ret => exact hq.elim
   | panic ch => exact hq.elim
   | outgrown => exact hq.elim
def IterG {α : Type} (P : Program) (gf : FuncId) (cs : List Value) (F0 : Heap) (A : α → Heap → List Value → Prop) (xs : List α) : Prop :=
 ∀ (L : Nat) (J : List α → Heap → List (Nat × Obj) → Prop) (Jx : Heap → List (Nat × Obj) → Prop) (F : Heap) (H : List (Nat × Obj)), F0.le F →
   (∀ pre F F' H, F.le F' → J pre F H → J pre F' H) → (∀ F F' H, F.le F' → Jx F H → Jx F' H) →
   (∀ pre x rest F H vs, xs = pre ++ x :: rest → F0.le F → J pre F H → A x F vs → OkYG P L vs F H fun v F' H' => v = .bool true ∧ J (pre ++ [x]) F' H' ∨ v = .bool false ∧ Jx F' H') →
   J [] F H → OkG P gf (.func (.yield L) #[] #[] :: cs).toArray F H fun _ F' H' => J xs F' H' ∨ Jx F' H'
theorem WC_rangeG {α : Type} {Q : Exit → Env → St → Prop} {g : Operand} {ps : List Tmp} {assign body : Code} {gf : FuncId} {cs : List Value} {F0 : Heap} {A : α → Heap → List Value → Prop} {xs : List α}
   (hro : B.ro = none) (hg : ev e g = .func (.func gf) #[] cs.toArray) (hb : Body P gf) (hit : IterG P gf cs F0 A xs) (hF : F0.le σ.F)
   (J : List α → Heap → List (Nat × Obj) → Prop) (Jx : Code → Heap → List (Nat × Obj) → Prop) (hm : ∀ pre F F' H, F.le F' → J pre F H → J pre F' H) (hmx : ∀ c F F' H, F.le F' → Jx c F H → Jx c F' H)
   (h0 : J [] σ.F σ.H)
   (hround : ∀ L D fn tm pre x rest G H1 vs, xs = pre ++ x :: rest → σ.F.le G → J pre G H1 → A x G vs → vs.length = ps.length ∧ (ps.zip vs).all (fun p => Nat.blt p.1 n) = true ∧
     ∀ w0, WC P n ⟨w0, L :: D :: keys H1, G, [], some L⟩ assign (thenE (fun e' σ' => ∃ H2, σ'.H = (L, loopO fn tm ps.toArray assign body D .ready none) :: H2 ∧
       WC P n ⟨w0, L :: D :: keys H1, G, [], some L⟩ body (RoundEG ⟨w0, L :: D :: keys H1, G, [], some L⟩ L (loopO fn tm ps.toArray assign body D) (RoundR σ.F L D (loopO fn tm ps.toArray assign body D) J Jx (pre ++ [x]))) e' ⟨σ'.F, (L, loopO fn tm ps.toArray assign body D .busy none) :: H2⟩) (fun _ _ _ => False))
     (updL e (ps.zip vs)) ⟨G, (L, loopO fn tm ps.toArray assign body D .ready none) :: (D, openO) :: H1⟩)
   (hx : ∀ c F' H1, σ.F.le F' → Jx c F' H1 → WC P n B c Q e ⟨F', H1⟩)
   (hn : ∀ F' H1, σ.F.le F' → J xs F' H1 → Q .normal e ⟨F', H1⟩) : WC P n B (.rangeFunc g ps.toArray assign body) Q e σ := by
 refine WC_rangeFuncG hro hg hb (J xs) Jx (fun L D fn tm hsz htm => ?_) hx hn
 refine OkG.mono (hit L (fun pre F H => σ.F.le F ∧ ∃ H1, H = (L, loopO fn tm ps.toArray assign body D .ready none) :: (D, openO) :: H1 ∧ J pre F H1)
   (fun F H => σ.F.le F ∧ ∃ c H1, H = (L, loopO fn tm ps.toArray assign body D .done (some c)) :: (D, openO) :: H1 ∧ Jx c F H1) σ.F _ hF ?_ ?_ ?_ ⟨Heap.le_refl _, _, rfl, h0⟩) ?_
 · rintro pre F F' H hFF ⟨h1, H1, h2, h3⟩
   exact ⟨Heap.le_trans h1 hFF, H1, h2, hm _ _ _ _ hFF h3⟩
 · rintro F F' H hFF ⟨h1, c, H1, h2, h3⟩
   exact ⟨Heap.le_trans h1 hFF, c, H1, h2, hmx _ _ _ _ hFF h3⟩
 · rintro pre x rest G H vs hxs hG ⟨h1, H1, rfl, h3⟩ hA
   obtain ⟨q1, q2, q3⟩ := hround L D fn tm pre x rest G H1 vs hxs h1 h3 hA
   refine (okY_roundG (R := RoundR σ.F L D (loopO fn tm ps.toArray assign body D) J Jx (pre ++ [x])) hsz htm q1 q2 q3).mono fun v F' H' _ hR => ?_
   rcases hR with ⟨rfl, H2, k1, k2, k3⟩ | ⟨rfl, c, H2, k1, k2, k3⟩
   · exact .inl ⟨rfl, k2, H2, k1, k3⟩
   · exact .inr ⟨rfl, k2, c, H2, k1, k3⟩
 · rintro v F' H' _ (⟨h1, H1, rfl, h3⟩ | ⟨h1, c, H1, rfl, h3⟩)
   · exact ⟨H1, .inl ⟨rfl, h3⟩⟩
   · exact ⟨H1, .inr ⟨c, rfl, h3⟩⟩
theorem E0 {L D : Nat} {lo : LoopState → Option Code → Obj} {R : Value → Heap → List (Nat × Obj) → Prop} {H2 : List (Nat × Obj)} (hp : PickB σ.H ((L, lo .busy none) :: (D, openO) :: H2)) (hR : R (.bool true) σ.F ((L, lo .ready none) :: (D, openO) :: H2)) : RoundEG B L lo R .normal e σ :=
 ⟨σ.F, _, fun _ _ h => h.pickB hp, hR⟩
theorem WL_orderB {ops : Array Oper} {Q : Exit → Env → St → Prop} {l : List Oper} {H' : List (Nat × Obj)} (hp : PickB σ.H H') (h : WL P n B ops Q l e ⟨σ.F, H'⟩) : WL P n B ops Q l e σ := WL_imp (fun _ hw => hw.pickB hp) h
/-- A block's content is given a name. -/
theorem WC_name {c : Code} {Q : Exit → Env → St → Prop} {i b : Nat} {o : Obj} {Hf : Obj → List (Nat × Obj)} (hi : σ.H[i]? = some (b, o)) (hH : ∀ oL, SetL σ.H i (b, oL) (Hf oL))
   (h : ∀ oL, oL = o → WC P n B c Q e ⟨σ.F, Hf oL⟩) : WC P n B c Q e σ := by
 have h1 := h o rfl
 have h2 : Hf o = σ.H := by
   rw [(hH o).eq.1]
   apply List.ext_getElem?
   intro j
   rw [List.getElem?_set]
   split
   · rename_i hj; subst hj
     split
     · exact hi.symm
     · rename_i hn; exact absurd (List.getElem?_eq_some_iff.1 hi).1 hn
   · rfl
 rw [h2] at h1
 exact h1
theorem Cell.joined {w : World} (hw : Holds B σ w) {a : Addr} {v : Value} (h : Cell σ a v) : Cell ⟨Go.Proofs.Ytccogmkhijgelaa.joined σ, []⟩ a v := by
 obtain ⟨hs, c, T, fr, hc, hv⟩ := h
 refine ⟨hs, c, T, fr, ?_, hv⟩
 rcases hc with hc | hc
 · exact .inl (joined_le hw _ _ hc)
 · exact .inl (joined_own hw hc)
theorem Src.joined {w : World} (hw : Holds B σ w) {v : Value} {k s : Nat} {cs : List Value} (h : Src σ v k cs s) : Src ⟨Go.Proofs.Ytccogmkhijgelaa.joined σ, []⟩ v k cs s := by
 obtain ⟨h1, h2, a, c, h3, h4, h5⟩ := h
 exact ⟨h1, h2, a, c, h3, h4, fun x hx => ⟨(h5 x hx).1, fun j u hj => ((h5 x hx).2 j u hj).joined hw⟩⟩
end
end Go.Proofs.Ytccogmkhijgelaa
namespace Go.Proofs.Ytccogmkhijgelaa
open Go.RowKit
section
variable {P : Program} {n : Nat} {B : Base} {e : Env} {σ : St} {ty : TypeId} {pos : String} {af : Array Edge}
theorem WI_yGF {ops : Array Oper} {Q : Exit → Env → St → Prop} {rest : List Oper} {d : Nat} {f : Operand} {l : Nat} {xs : List Operand} {vs : List Value} {at_ : Array TypeId} {p : Nat × Obj} {Hc : List (Nat × Obj)} {R : Value → Heap → List (Nat × Obj) → Prop}
   (hd : Nat.blt d n = true) (hf : ev e f = .func (.yield l) #[] #[]) (hx : Av e xs vs) (hH : σ.H = p :: Hc) (hok : OkYG P l vs σ.F Hc R)
   (hn : ∀ v F' H', R v F' H' → σ.F.le F' → WI P n B ops Q rest (upd e d v) ⟨F', p :: H'⟩) : WI P n B ops Q (⟨some d, .call ⟨.value f, xs.toArray, at_⟩, ty, pos, af, none⟩ :: rest) e σ := by
 intro a w ha hw0
 have hw : Holds B ⟨σ.F, Hc ++ [p]⟩ w := by
   have h1 : Holds B ⟨σ.F, [p] ++ Hc⟩ w := by
     have : σ = ⟨σ.F, [p] ++ Hc⟩ := by cases σ with | mk F H => simp only at hH; rw [hH]; rfl
     rw [← this]; exact hw0
   exact h1.rot
 have hnd := hw.nodup
 rw [List.map_append, List.nodup_append] at hnd
 obtain ⟨fn, tm, as1, bo, hy, hR⟩ := hok w hw.sub (fun q hq => ⟨(hw.own q (List.mem_append_left _ hq)).1, (hw.own q (List.mem_append_left _ hq)).2.1⟩) hnd.1
 unfold wpListIn
 rw [if_pos (by simp [Region.wanted])]
 refine ⟨fun _ _ => trivial, ?_⟩
 have hrun : (execOp (ev e) ⟨some d, .call ⟨.value f, xs.toArray, at_⟩, ty, pos, af, none⟩).run P w = .ok (.round l fn tm as1 bo) w := by
   have hm := hx.map
   simp [execOp, resolve, invoke, Deferred.ofValue, hf, hm, hy]
 rw [show (fence B.ro).round = B.ro from rfl, semAt_eq (.inr rfl), ha.ev, hrun]
 refine ⟨fun h => by simp [fence] at h, RoundIn.mono (F := fence B.ro) (show RoundIn (fence B.ro) 0 P l fn tm as1 bo w _ from hR) fun r w' hq => ?_⟩
 obtain ⟨v, F', H', rfl, q2, q3, q5⟩ := hq
 have h3 := hw.growG (Hc := Hc) (rest := [p]) rfl q2 q3
 exact hn v F' H' q5 q2.le _ _ (ha.put (by simpa using hd) v) h3.rot
theorem post_endS {fn : Func} {R : Value → Heap → List (Nat × Obj) → Prop} {rs : List ResultVar} {vs : List Value} {H' : List (Nat × Obj)} (hr : fn.results = rs.toArray) (hv : Rv P e σ rs vs) (hp : H'.Sublist σ.H) (hR : R (outOf vs) σ.F H') :
   PostG P fn B R .normal e σ := ⟨rs, vs, σ.F, H', hr, hv, fun _ _ h => h.drop hp, hR⟩
end
end Go.Proofs.Ytccogmkhijgelaa
namespace Go.Proofs.Ytccogmkhijgelaa
open Go.RowKit
theorem bd_117 : Body Try.prog 117 := Bq (by kernel_rfl)
theorem one_118 : OneT Try.prog 118 := Ef (by kernel_rfl)
theorem one_133 : OneT Try.prog 133 := Ef (by kernel_rfl)
theorem one_94 : OneT Try.prog 94 := Ef (by kernel_rfl)
theorem treeC_len {l : List Int} : (treeC l).length = 5 := by simp [treeC]
theorem treeC_set {l : List Int} {i : Nat} {v : Int} (h : i < l.length) : (treeC l).set (0 + i * 1) (.int .i64 v) = treeC (l.set i v) := by
 rw [show 0 + i * 1 = i by omega]
 apply List.ext_getElem
 · simp [treeC]
 · intro j h1 h2
   rw [List.getElem_set]
   simp only [treeC, List.getElem_map, List.getElem_range]
   by_cases hij : i = j
   · subst hij; simp [upN, h]
   · rw [if_neg hij]; simp [upN, hij]
theorem treeC_zero {n : Nat} : treeC (List.replicate n 0) = [.int .i64 0, .int .i64 0, .int .i64 0, .int .i64 0, .int .i64 0] := by
 have h : ∀ i, upN (List.replicate n 0) i = 0 := fun i => by
   unfold upN
   rw [List.getElem?_replicate]
   split <;> rfl
 simp [treeC, List.range_succ, h]
theorem take_set_snoc {b' b : List Int} {v : Int} (h : b'.take b.length = b) (hl : b.length < b'.length) : (b'.set b.length v).take (b ++ [v]).length = b ++ [v] := by
 rw [List.length_append, List.length_singleton, List.take_succ_eq_append_getElem (by simpa using hl), List.take_set_of_le (Nat.le_refl _), h]
 simp
theorem Em {c b : List Int} {v : Int} (h : c.take (b ++ [v]).length = b ++ [v]) : c.take b.length = b := by
 have := congrArg (List.take b.length) h
 rw [List.take_take, List.take_left] at this
 have e : min b.length (b ++ [v]).length = b.length := by simp
 rw [e] at this; exact this
structure FillC (L : Nat) (F : Heap) (b tb d2 d4 d5 : Nat) : Prop where
 me : F d2 = some (bx 94 [.pointer (some ⟨b, 0, none⟩)])
 yield : F d4 = some (bx 118 [.func (.yield L) #[] #[]])
 fill : F d5 = some (bx 133 [.func (.func 117) #[] #[.pointer (some ⟨d2, 0, none⟩), .pointer (some ⟨tb, 0, none⟩), .pointer (some ⟨d4, 0, none⟩), .pointer (some ⟨d5, 0, none⟩)]])
theorem FillC.mono {L : Nat} {F F' : Heap} {b tb d2 d4 d5 : Nat} (h : FillC L F b tb d2 d4 d5) (hF : F.le F') : FillC L F' b tb d2 d4 d5 := ⟨hF _ _ h.me, hF _ _ h.yield, hF _ _ h.fill⟩
abbrev TreeA (l : List Int) (_G : Heap) (vs : List Value) : Prop := vs = [treeV l]
def YieldT (P : Program) (L : Nat) (F0 : Heap) (xs : List (List Int)) (J : List (List Int) → Heap → List (Nat × Obj) → Prop) (Jx : Heap → List (Nat × Obj) → Prop) : Prop :=
 ∀ pre x rest F H vs, xs = pre ++ x :: rest → F0.le F → J pre F H → TreeA x F vs → OkYG P L vs F H fun v F' H' => v = .bool true ∧ J (pre ++ [x]) F' H' ∨ v = .bool false ∧ Jx F' H'
def FillOk (s : Stm) (ps : List (Value × Edn)) (L : Nat) (F0 : Heap) (xs : List (List Int)) (J : List (List Int) → Heap → List (Nat × Obj) → Prop) (Jx : Heap → List (Nat × Obj) → Prop) (vp ve vm : Value) (b tb d2 d4 d5 d : Nat) : Prop :=
 ∀ {F : Heap} {RH : List (Nat × Obj)} {b1 b' : List Int} {zi zf : Int} {pre rest : List (List Int)}, F0.le F → StmX F b vp ve vm ps s → FillC L F b tb d2 d4 d5 → zi = (b1.length : Int) → zf = firstsN b1 b1.length → b1.length + d = s.editions.length → b'.length = s.editions.length → b'.take b1.length = b1 →
   (∀ i, i < b1.length → -1 ≤ upN b1 i ∧ upN b1 i < s.editions.length) → xs = pre ++ fillT s d b1 ++ rest → J pre F RH →
   OkG Try.prog 117 [.int .i64 zi, .int .i64 zf, .pointer (some ⟨d2, 0, none⟩), .pointer (some ⟨tb, 0, none⟩), .pointer (some ⟨d4, 0, none⟩), .pointer (some ⟨d5, 0, none⟩)].toArray F ((tb, bx 100 (treeC b')) :: RH) fun v F' H' => ∃ b9 RH', H' = (tb, bx 100 (treeC b9)) :: RH' ∧ b9.length = s.editions.length ∧ b9.take b1.length = b1 ∧ (v = .bool true ∧ J (pre ++ fillT s d b1) F' RH' ∨ v = .bool false ∧ Jx F' RH')
set_option maxRecDepth 100000 in
theorem fill_nil {s : Stm} (hv : ValidT s) {ps : List (Value × Edn)} {L : Nat} {F0 : Heap} {xs : List (List Int)} {J : List (List Int) → Heap → List (Nat × Obj) → Prop} {Jx : Heap → List (Nat × Obj) → Prop} {vp ve vm : Value} {b tb d2 d4 d5 : Nat}
   (_hm : ∀ pre F F' H, F.le F' → J pre F H → J pre F' H) (_hmx : ∀ F F' H, F.le F' → Jx F H → Jx F' H) (hy : YieldT Try.prog L F0 xs J Jx) : FillOk s ps L F0 xs J Jx vp ve vm b tb d2 d4 d5 0 := by
 intro F RH b1 b' zi zf pre rest hF hX hC hzi hzf hlen hl' htk hin hxs hJ
 refine OkG.intro Try.func117 rfl Try.ntmps117 rfl fun w0 => ?_
 have hne := hv.ne
 have hlen2 := hX.r.len
 have hL1 := hX.r.eds.plain.lt
 obtain rfl : b' = b1 := by rw [← htk]; exact (List.take_of_length_le (by omega)).symm
 have hbl : b'.length = s.editions.length := hl'
 have hin2 : TreeIn b' := fun i hi => by have := hin i hi; omega
 refine Af <| Ai fun ds => Aa rfl (Ae Ab) ?_
 refine Ah <| Ac <| WC_scope ?_
 refine Af <| Af <| Ai fun ds => Aa rfl (Ag (Al rfl <| Aj rfl)) ?_
 refine Aa rfl (Ap one_94 (Ar rfl <| Aj rfl) (CellF.own hC.me rfl).cell) ?_
 refine Aa rfl (B3 (Ad)) ?_
 refine Aa rfl (Ao Cd (Ad)) ?_
 refine Aa rfl (Ao Bv (Ad)) ?_
 refine Aa rfl (Ap Bz (Ad) (CellF.own hX.blk rfl).cell) ?_
 refine Aa rfl (Bk B5 (Ad) hX.r.eds.plain) ?_
 refine Aa rfl (Bs (Ay rfl <| Ar rfl <| Ad) (Ad)) ?_
 refine Ah <| Ac <| Aq (Ad) (decide_eq_true (by omega)) ?_
 by_cases hf1 : firstsN b' b'.length = 1
 ·
  refine Af <| WC_regionI fun ds => Ej rfl rfl (Ag (A6 rfl <| Al rfl <| Aj rfl)) ?_
  refine Ej rfl rfl (By (Ad) Ab) ?_
  refine Ej rfl rfl (Ag (Ad)) ?_
  refine E7 rfl rfl (Ad) (decide_eq_false (fun h => h (by omega))) ?_
  refine Ej rfl rfl (Ap one_94 (A6 rfl <| Ay rfl <| Aj rfl) (CellF.own hC.me rfl).cell) ?_
  refine E7 rfl rfl (Al rfl <| Ad) (decide_eq_false (fun h => h (by omega))) ?_
  refine Ej rfl rfl (Bf B4 (A6 rfl <| Ay rfl <| Al rfl <| Aj rfl) rfl rfl (A8 0 rfl)) ?_
  refine E7 rfl rfl (Ar rfl <| Ad) (decide_eq_false (fun h => h (by omega))) ?_
  refine WI_c rfl rfl (Bi bd_106 A0 (.cons (Al rfl <| Ad) (.cons (Ad) .nil)) (whole_ok hX hin2 hbl hv) (fun _ _ h => h)) ?_
  refine E7 rfl rfl (Ar rfl <| Al rfl <| Ad) (decide_eq_false (fun h => h (by omega))) ?_
  refine Ej rfl rfl (Ci (Ad)) ?_
  refine Ej rfl rfl (A7 (Ay rfl <| Ad) (decide_eq_false (fun h => h (by omega))) (Ad)) ?_
  refine Ej rfl rfl (Ag (Ad)) ?_
  by_cases hT : isT b' = true
  ·
   have htr := isTree_of hin2 hT
   refine E7 rfl rfl (Ad) (by rw [hT]; rfl) ?_
   refine Ej rfl rfl (Ap one_94 (A3 rfl <| Ar rfl <| Aj rfl) (CellF.own hC.me rfl).cell) ?_
   refine E7 rfl rfl (Al rfl <| Ad) (by rw [hT]; rfl) ?_
   refine Ej rfl rfl (Bf B4 (A3 rfl <| Ar rfl <| Al rfl <| Aj rfl) rfl rfl (A8 0 rfl)) ?_
   refine E7 rfl rfl (Ar rfl <| Ad) (by rw [hT]; rfl) ?_
   refine WI_c rfl rfl (Bi bd_91 A0 (.cons (Al rfl <| Ad) (.cons (Ad) .nil)) (fits_ok hX htr hbl hv) (fun _ _ h => h)) ?_
   refine E7 rfl rfl (Ar rfl <| Al rfl <| Ad) (by rw [hT]; rfl) ?_
   refine Ej rfl rfl (Ci (Ad)) ?_
   refine Ej rfl rfl (A7 (Ay rfl <| Ad) (by rw [hT]; rfl) (Ad)) ?_
   refine Ej rfl rfl (Ag (Ad)) ?_
   by_cases hft : fitsT s b' = true
   ·
    have h0 : fillT s 0 b' = [b'] := by unfold fillT; rw [if_pos ⟨hf1, hT, hft⟩]
    refine E7 rfl rfl (Ad) (by unfold fitsT at hft; rw [hft]; first | done | rfl) ?_
    refine Ej rfl rfl (Ap one_118 (A3 rfl <| A6 rfl <| Aj rfl) (CellF.own hC.yield rfl).cell) ?_
    refine E7 rfl rfl (Al rfl <| Ad) (by unfold fitsT at hft; rw [hft]; first | done | rfl) ?_
    refine Ej rfl rfl (Bf B4 (A3 rfl <| A6 rfl <| Al rfl <| Aj rfl) rfl rfl (A8 0 rfl)) ?_
    refine E7 rfl rfl (Ar rfl <| Ad) (by unfold fitsT at hft; rw [hft]; first | done | rfl) ?_
    refine WI_yGF rfl (Al rfl <| Ad) (.cons (Ad) .nil) rfl (hy pre b' rest _ _ _ (by rw [hxs, h0]; simp) hF hJ rfl) fun v5 F6 RH9 hr7 hF8 => ?_
    have hyb := hr7
    refine Ej rfl rfl (A7 (Ar rfl <| Al rfl <| Ad) (by unfold fitsT at hft; rw [hft]; first | done | rfl) (Ad)) ?_
    refine Ej rfl rfl (Ae (Ad)) ?_
    refine WI_nil ?_
    refine Ac <| A4 <| Bg (scope_r ?_)
    refine post_retG rfl (.tmp (Ad) .nil) .all ?_
    rw [h0]
    exact ⟨_, _, rfl, hl', htk, hyb⟩
   ·
    replace hft : fitsT s b' = false := by simpa using hft
    refine C6 rfl rfl (Ad) (.inl (congrArg Value.bool (by unfold fitsT at hft; rw [hft]; first | done | rfl))) rfl ?_
    refine C6 rfl rfl (Al rfl <| Ad) (.inl (congrArg Value.bool (by unfold fitsT at hft; rw [hft]; first | done | rfl))) rfl ?_
    refine C6 rfl rfl (Ar rfl <| Ad) (.inl (congrArg Value.bool (by unfold fitsT at hft; rw [hft]; first | done | rfl))) rfl ?_
    refine Ej rfl rfl (A2 (Ar rfl <| Al rfl <| Ad) (by unfold fitsT at hft; rw [hft]; first | done | rfl) Ab) ?_
    refine Ej rfl rfl (Ae (Ad)) ?_
    refine WI_nil ?_
    refine Ac <| A4 <| Bg (scope_r ?_)
    refine post_retG rfl (.tmp (Ad) .nil) .all ?_
    have h0 : fillT s 0 b' = [] := by unfold fillT; rw [if_neg (fun h => by rw [hft] at h; exact absurd h.2.2 (by decide))]
    rw [h0, List.append_nil]
    exact ⟨_, _, rfl, hl', htk, .inl ⟨rfl, hJ⟩⟩
  ·
   replace hT : isT b' = false := by simpa using hT
   refine C6 rfl rfl (Ad) (.inl (congrArg Value.bool (by rw [hT]; first | done | rfl))) rfl ?_
   refine C6 rfl rfl (Al rfl <| Ad) (.inl (congrArg Value.bool (by rw [hT]; first | done | rfl))) rfl ?_
   refine C6 rfl rfl (Ar rfl <| Ad) (.inl (congrArg Value.bool (by rw [hT]; first | done | rfl))) rfl ?_
   refine C6 rfl rfl (Ar rfl <| Al rfl <| Ad) (.inl (congrArg Value.bool (by rw [hT]; first | done | rfl))) rfl ?_
   refine Ej rfl rfl (A2 (Ay rfl <| Ad) (by rw [hT]; first | done | rfl) Ab) ?_
   refine Ej rfl rfl (Ag (Ad)) ?_
   refine C6 rfl rfl (Ad) (.inl (congrArg Value.bool rfl)) rfl ?_
   refine C6 rfl rfl (Al rfl <| Ad) (.inl (congrArg Value.bool rfl)) rfl ?_
   refine C6 rfl rfl (Ar rfl <| Ad) (.inl (congrArg Value.bool rfl)) rfl ?_
   refine Ej rfl rfl (A2 (Ar rfl <| Al rfl <| Ad) rfl Ab) ?_
   refine Ej rfl rfl (Ae (Ad)) ?_
   refine WI_nil ?_
   refine Ac <| A4 <| Bg (scope_r ?_)
   refine post_retG rfl (.tmp (Ad) .nil) .all ?_
   have h0 : fillT s 0 b' = [] := by unfold fillT; rw [if_neg (fun h => by rw [hT] at h; exact absurd h.2.1 (by decide))]
   rw [h0, List.append_nil]
   exact ⟨_, _, rfl, hl', htk, .inl ⟨rfl, hJ⟩⟩
 ·
  refine Af <| WC_regionI fun ds => Ej rfl rfl (Ag (A6 rfl <| Al rfl <| Aj rfl)) ?_
  refine Ej rfl rfl (By (Ad) Ab) ?_
  refine Ej rfl rfl (Ag (Ad)) ?_
  refine C6 rfl rfl (Ad) (.inl (congrArg Value.bool (decide_eq_true (by omega)))) rfl ?_
  refine C6 rfl rfl (Al rfl <| Ad) (.inl (congrArg Value.bool (decide_eq_true (by omega)))) rfl ?_
  refine C6 rfl rfl (Ar rfl <| Ad) (.inl (congrArg Value.bool (decide_eq_true (by omega)))) rfl ?_
  refine C6 rfl rfl (Ar rfl <| Al rfl <| Ad) (.inl (congrArg Value.bool (decide_eq_true (by omega)))) rfl ?_
  refine Ej rfl rfl (A2 (Ay rfl <| Ad) (decide_eq_true (by omega)) Ab) ?_
  refine Ej rfl rfl (Ag (Ad)) ?_
  refine C6 rfl rfl (Ad) (.inl (congrArg Value.bool rfl)) rfl ?_
  refine C6 rfl rfl (Al rfl <| Ad) (.inl (congrArg Value.bool rfl)) rfl ?_
  refine C6 rfl rfl (Ar rfl <| Ad) (.inl (congrArg Value.bool rfl)) rfl ?_
  refine C6 rfl rfl (Ar rfl <| Al rfl <| Ad) (.inl (congrArg Value.bool rfl)) rfl ?_
  refine Ej rfl rfl (A2 (Ay rfl <| Ad) rfl Ab) ?_
  refine Ej rfl rfl (Ag (Ad)) ?_
  refine C6 rfl rfl (Ad) (.inl (congrArg Value.bool rfl)) rfl ?_
  refine C6 rfl rfl (Al rfl <| Ad) (.inl (congrArg Value.bool rfl)) rfl ?_
  refine C6 rfl rfl (Ar rfl <| Ad) (.inl (congrArg Value.bool rfl)) rfl ?_
  refine Ej rfl rfl (A2 (Ar rfl <| Al rfl <| Ad) rfl Ab) ?_
  refine Ej rfl rfl (Ae (Ad)) ?_
  refine WI_nil ?_
  refine Ac <| A4 <| Bg (scope_r ?_)
  refine post_retG rfl (.tmp (Ad) .nil) .all ?_
  have h0 : fillT s 0 b' = [] := by unfold fillT; rw [if_neg (fun h => hf1 h.1)]
  rw [h0, List.append_nil]
  exact ⟨_, _, rfl, hl', htk, .inl ⟨rfl, hJ⟩⟩
theorem firsts_snoc {b : List Int} {v : Int} : firstsN (b ++ [v]) (b ++ [v]).length = if v = -1 then firstsN b b.length + 1 else firstsN b b.length := by
 rw [List.length_append, List.length_singleton]
 show (if upN (b ++ [v]) b.length = -1 then firstsN (b ++ [v]) b.length + 1 else firstsN (b ++ [v]) b.length) = _
 have h := upN_mid (b := b) (t := []) (v := v)
 rw [List.append_nil] at h
 rw [h, firsts_prefix (Nat.le_refl _)]
theorem in_snoc {b : List Int} {v : Int} {n : Nat} (h : ∀ i, i < b.length → -1 ≤ upN b i ∧ upN b i < n) (hv : -1 ≤ v ∧ v < n) : ∀ i, i < (b ++ [v]).length → -1 ≤ upN (b ++ [v]) i ∧ upN (b ++ [v]) i < n := fun i hi => by
 by_cases h1 : i < b.length
 · rw [upN_left h1]; exact h i h1
 · obtain rfl : i = b.length := by simp at hi; omega
   have h9 := upN_mid (b := b) (t := []) (v := v)
   rw [List.append_nil] at h9
   rw [h9]; exact hv
set_option maxRecDepth 100000 in
theorem fill_step {s : Stm} (hv : ValidT s) {ps : List (Value × Edn)} {L : Nat} {F0 : Heap} {xs : List (List Int)} {J : List (List Int) → Heap → List (Nat × Obj) → Prop} {Jx : Heap → List (Nat × Obj) → Prop} {vp ve vm : Value} {b tb d2 d4 d5 : Nat}
   (hm : ∀ pre F F' H, F.le F' → J pre F H → J pre F' H) (_hmx : ∀ F F' H, F.le F' → Jx F H → Jx F' H) (_hy : YieldT Try.prog L F0 xs J Jx) {d : Nat} (ih : FillOk s ps L F0 xs J Jx vp ve vm b tb d2 d4 d5 d) : FillOk s ps L F0 xs J Jx vp ve vm b tb d2 d4 d5 (d + 1) := by
 intro F RH b1 b' zi zf pre rest hF hX hC hzi hzf hlen hl' htk hin hxs hJ
 refine OkG.intro Try.func117 rfl Try.ntmps117 rfl fun w0 => ?_
 have hne := hv.ne
 have hlen2 := hX.r.len
 have hL1 := hX.r.eds.plain.lt
 have hfb := E4 (l := b1) b1.length
 refine Af <| Ai fun ds => Aa rfl (Ae Ab) ?_
 refine Ah <| Ac <| WC_scope ?_
 refine Af <| Af <| Ai fun ds => Aa rfl (Ag (Al rfl <| Aj rfl)) ?_
 refine Aa rfl (Ap one_94 (Ar rfl <| Aj rfl) (CellF.own hC.me rfl).cell) ?_
 refine Aa rfl (B3 (Ad)) ?_
 refine Aa rfl (Ao Cd (Ad)) ?_
 refine Aa rfl (Ao Bv (Ad)) ?_
 refine Aa rfl (Ap Bz (Ad) (CellF.own hX.blk rfl).cell) ?_
 refine Aa rfl (Bk B5 (Ad) hX.r.eds.plain) ?_
 refine Aa rfl (Bs (Ay rfl <| Ar rfl <| Ad) (Ad)) ?_
 refine Ah <| Ac <| Am (Ad) (decide_eq_false (by omega)) ?_
 refine Aw <| Ac <| Af <| WC_label ?_
 refine Ac <| Af <| Af <| Ai fun ds => Aa rfl (Ap one_94 (A6 rfl <| Al rfl <| Aj rfl) (CellF.own hC.me rfl).cell) ?_
 refine Aa rfl (B3 (Ad)) ?_
 refine Aa rfl (Ao Cd (Ad)) ?_
 refine Aa rfl (Ao Bv (Ad)) ?_
 refine Aa rfl (Ap Bz (Ad) (CellF.own hX.blk rfl).cell) ?_
 refine Aa rfl (Bk B5 (Ad) hX.r.eds.plain) ?_
 refine Aa rfl (Br (Ad) Ab rfl (by omega) (by omega)) ?_
 refine Aa rfl (Ag Ab) ?_
 refine Ah <| Ac <| Az <| Bu [8, 9, 10, 45, 46, 47, 48, 49, 50, 51, 52, 53, 54, 55, 56, 57, 58, 59, 60, 61, 62, 63, 64, 65, 66, 67, 68, 69, 70, 71, 72, 73, 74, 75, 76, 77, 78, 79, 80, 81, 82, 83, 84, 85, 86, 87, 88, 89, 90, 91, 92, 93, 94, 95, 96, 97, 98, 99, 100, 101, 102, 103, 104, 105, 106, 107, 108, 109, 110, 111] (fun m e σ => ∃ G RH' b', F0.le G ∧ F.le G ∧ ∃ j : Nat, m + j = s.editions.length + 1 ∧ e 45 = .int .i64 (j : Int) ∧ b'.length = s.editions.length ∧ b'.take b1.length = b1 ∧ J (pre ++ fillTo s d b1 j) G RH' ∧ σ = ⟨G, (tb, bx 100 (treeC b')) :: RH'⟩) (s.editions.length + 1) ?_ ?_
 · exact ⟨_, _, _, hF, Heap.le_refl _, 0, by omega, (Ad), hl', htk, by simpa [fillTo] using hJ, rfl⟩
 ·
  rintro m e _ ⟨G, RH', b', hG, hFG, j, hm1, hs45, hl', htk, hJ, rfl⟩; replace hX := hX.mono hFG; replace hC := hC.mono hFG
  by_cases hlt : j < s.editions.length + 1
  ·
   refine Af <| Ai fun ds => Aa rfl (Bw (As rfl hs45) (Ak rfl <| Al rfl <| Ad)) ?_
   refine Ah <| Ac <| Af <| Aq (Ad) (by first | rfl | exact decide_eq_true (by omega)) ?_
   have hi5 : b1.length < 5 := by omega
   have hj2 : -1 ≤ (j : Int) - 1 ∧ (j : Int) - 1 < s.editions.length := by omega
   refine Aw <| Ac <| Af <| Az <| Af <| Ai fun ds => Aa rfl (Ag (Al rfl <| As rfl hs45)) ?_
   refine Aa rfl (Ae (Ad)) ?_
   refine Ah <| Ac <| Af <| Ai fun ds => Aa rfl (Ag (Ar rfl <| Al rfl <| Ak rfl <| A3 rfl <| Al rfl <| Aj rfl)) ?_
   refine Aa rfl (Ag (Al rfl <| Ad)) ?_
   refine Aa rfl (D2 (Ad) Ab rfl (by omega) (by omega)) ?_
   refine Aa rfl (Bt (k := b1.length) Cs (Ay rfl <| Ar rfl <| Ak rfl <| A3 rfl <| Al rfl <| Aj rfl) (Ar rfl <| Ad) hzi hi5) ?_
   refine Cm (x_storeK sz_3 (Ad) rfl (Al rfl <| Ad) (i := 0) rfl (by rw [treeC_len]; omega) rfl (.here) ?_)
   refine Ah <| Ac <| Af <| Az <| Af ?_
   rw [treeC_set (by omega)]
   have hcell : (treeC (b'.set b1.length ((j : Int) - 1)))[0 + b1.length * 1]? = some (.int .i64 ((j : Int) - 1)) := by rw [Cl hi5]; simp [upN, show b1.length < b'.length by omega]
   have hb2l : (b'.set b1.length ((j : Int) - 1)).length = s.editions.length := by simp [hl']
   have hb2t := take_set_snoc (v := (j : Int) - 1) htk (by omega)
   clear hl' htk
   generalize b'.set b1.length ((j : Int) - 1) = b2 at *
   by_cases hvi : (j : Int) - 1 = (b1.length : Int)
   ·
    refine Ai fun ds => Aa rfl (Ag (Ay rfl <| Ar rfl <| Al rfl <| Ak rfl <| A3 rfl <| Al rfl <| Aj rfl)) ?_
    refine Aa rfl (Bt (k := b1.length) Cs (A6 rfl <| Ak rfl <| A3 rfl <| Al rfl <| Aj rfl) (Ad) hzi hi5) ?_
    refine Aa rfl (Ap Bj (Ad) (Cell.own 0 rfl hcell)) ?_
    refine Aa rfl (Ag (A6 rfl <| Ar rfl <| Ak rfl <| A3 rfl <| Al rfl <| Aj rfl)) ?_
    refine Aa rfl (Bs (Al rfl <| Ad) (Ad)) ?_
    refine Aa rfl (Ag (Ad)) ?_
    refine At rfl rfl (Ad) (.inl (congrArg Value.bool (decide_eq_true (by omega)))) rfl ?_
    refine At rfl rfl (Al rfl <| Ad) (.inl (congrArg Value.bool (decide_eq_true (by omega)))) rfl ?_
    refine At rfl rfl (Ar rfl <| Ad) (.inl (congrArg Value.bool (decide_eq_true (by omega)))) rfl ?_
    refine At rfl rfl (Ar rfl <| Al rfl <| Ad) (.inl (congrArg Value.bool (decide_eq_true (by omega)))) rfl ?_
    refine At rfl rfl (Ay rfl <| Ad) (.inl (congrArg Value.bool (decide_eq_true (by omega)))) rfl ?_
    refine At rfl rfl (Ad) (.inr rfl) rfl ?_
    refine At rfl rfl (Al rfl <| Ad) (.inr rfl) rfl ?_
    refine At rfl rfl (Ay rfl <| Ar rfl <| Al rfl <| Ad) (.inl (congrArg Value.bool (decide_eq_true (by omega)))) rfl ?_
    refine Aa rfl (A2 (A6 rfl <| Ad) (decide_eq_true (by omega)) Ab) ?_
    refine Aa rfl (Ae (Ad)) ?_
    refine Ah <| Ac <| Aq (Ad) rfl ?_
    refine Bn ?_
    refine exit_past rfl (Ba (Bh ?_))
    refine Ac <| Ai fun ds => Aa rfl (Br (A3 rfl <| Ay rfl <| Ar rfl <| Al rfl <| As rfl hs45) Ab rfl (by omega) (by omega)) ?_
    refine Aa rfl (Ag (Ad)) ?_
    refine Ah <| Ac ⟨_, m - 1, Off.eq (Cr rfl <| Dj rfl <| Dk rfl <| Bd), by omega, ?_⟩
    refine ⟨_, _, _, hG, hFG, j + 1, by omega, (Ad), hb2l, Em hb2t, ?_, rfl⟩
    rw [Eu, if_pos (show skipT s b1 ((j : Int) - 1) = true by unfold skipT; rw [decide_eq_true hvi]; rfl), List.append_nil]; exact hJ
   ·
    refine Ai fun ds => Aa rfl (Ag (Ay rfl <| Ar rfl <| Al rfl <| Ak rfl <| A3 rfl <| Al rfl <| Aj rfl)) ?_
    refine Aa rfl (Bt (k := b1.length) Cs (A6 rfl <| Ak rfl <| A3 rfl <| Al rfl <| Aj rfl) (Ad) hzi hi5) ?_
    refine Aa rfl (Ap Bj (Ad) (Cell.own 0 rfl hcell)) ?_
    refine Aa rfl (Ag (A6 rfl <| Ar rfl <| Ak rfl <| A3 rfl <| Al rfl <| Aj rfl)) ?_
    refine Aa rfl (Bs (Al rfl <| Ad) (Ad)) ?_
    refine Aa rfl (Ag (Ad)) ?_
    refine Au rfl rfl (Ad) (decide_eq_false (by omega)) ?_
    refine Aa rfl (Ag (A6 rfl <| Ay rfl <| Al rfl <| Ak rfl <| A3 rfl <| Al rfl <| Aj rfl)) ?_
    refine Au rfl rfl (Al rfl <| Ad) (decide_eq_false (by omega)) ?_
    refine Aa rfl (Bt (k := b1.length) Cs (A6 rfl <| Ay rfl <| Ar rfl <| Ak rfl <| A3 rfl <| Al rfl <| Aj rfl) (Ad) hzi hi5) ?_
    refine Au rfl rfl (Ar rfl <| Ad) (decide_eq_false (by omega)) ?_
    refine Aa rfl (Ap Bj (Ad) (Cell.own 0 rfl hcell)) ?_
    refine Au rfl rfl (Ar rfl <| Al rfl <| Ad) (decide_eq_false (by omega)) ?_
    refine Aa rfl (Bs (Ad) Ab) ?_
    refine Au rfl rfl (Ay rfl <| Ad) (decide_eq_false (by omega)) ?_
    refine Aa rfl (Ag (Ad)) ?_
    by_cases hv1 : (j : Int) - 1 = -1
    ·
     refine Au rfl rfl (Ad) (decide_eq_true hv1) ?_
     refine Aa rfl (Ag (A3 rfl <| Ar rfl <| Ak rfl <| A3 rfl <| Al rfl <| Aj rfl)) ?_
     refine Au rfl rfl (Al rfl <| Ad) (decide_eq_true hv1) ?_
     refine Aa rfl (Bs (Ad) Ab) ?_
     refine Au rfl rfl (Ay rfl <| Ar rfl <| Al rfl <| Ad) (decide_eq_false (by omega)) ?_
     refine Aa rfl (A2 (Ar rfl <| Ad) (decide_eq_true hv1) (Ad)) ?_
     refine Aa rfl (A7 (A6 rfl <| Ad) (decide_eq_false (by omega)) (Ad)) ?_
     refine Aa rfl (Ae (Ad)) ?_
     refine Ah <| Ac ?_
     by_cases hf1 : firstsN b1 b1.length = 1
     ·
      refine Aq (Ad) (decide_eq_true (by omega)) ?_
      refine Bn ?_
      refine exit_past rfl (Ba (Bh ?_))
      refine Ac <| Ai fun ds => Aa rfl (Br (A3 rfl <| Ay rfl <| Ar rfl <| Al rfl <| As rfl hs45) Ab rfl (by omega) (by omega)) ?_
      refine Aa rfl (Ag (Ad)) ?_
      refine Ah <| Ac ⟨_, m - 1, Off.eq (Cr rfl <| Dj rfl <| Dk rfl <| Bd), by omega, ?_⟩
      refine ⟨_, _, _, hG, hFG, j + 1, by omega, (Ad), hb2l, Em hb2t, ?_, rfl⟩
      rw [Eu, if_pos (show skipT s b1 ((j : Int) - 1) = true by unfold skipT; rw [decide_eq_true hv1, decide_eq_true hf1]; simp), List.append_nil]; exact hJ
     ·
      refine Am (Ad) (decide_eq_false (by omega)) ?_
      refine Af <| Cu (.inl rfl) (fun _ _ h => h) (by kernel_rfl) (by kernel_rfl) fun ds => ?_
      refine Bc rfl (Ag (A3 rfl <| Ay rfl <| Ar rfl <| Al rfl <| Ak rfl <| A3 rfl <| Al rfl <| Aj rfl)) ?_
      refine Bc rfl (Bt (k := b1.length) Cs (A3 rfl <| A6 rfl <| Ak rfl <| A3 rfl <| Al rfl <| Aj rfl) (Ad) hzi hi5) ?_
      refine Bc rfl (Ap Bj (Ad) (Cell.own 0 rfl hcell)) ?_
      refine Bc rfl (By (Ad) Ab) ?_
      refine Bc rfl (Ag (Ad)) ?_
      refine B1 rfl rfl (Ad) (.inl (congrArg Value.bool (decide_eq_false (fun h => h hv1)))) rfl ?_
      refine B1 rfl rfl (Al rfl <| Ad) (.inl (congrArg Value.bool (decide_eq_false (fun h => h hv1)))) rfl ?_
      refine B1 rfl rfl (Ar rfl <| Ad) (.inl (congrArg Value.bool (decide_eq_false (fun h => h hv1)))) rfl ?_
      refine B1 rfl rfl (Ar rfl <| Al rfl <| Ad) (.inl (congrArg Value.bool (decide_eq_false (fun h => h hv1)))) rfl ?_
      refine B1 rfl rfl (Ay rfl <| Ad) (.inl (congrArg Value.bool (decide_eq_false (fun h => h hv1)))) rfl ?_
      refine B1 rfl rfl (Ay rfl <| Al rfl <| Ad) (.inl (congrArg Value.bool (decide_eq_false (fun h => h hv1)))) rfl ?_
      refine B1 rfl rfl (Ay rfl <| Ar rfl <| Ad) (.inl (congrArg Value.bool (decide_eq_false (fun h => h hv1)))) rfl ?_
      refine B1 rfl rfl (Ay rfl <| Ar rfl <| Al rfl <| Ad) (.inl (congrArg Value.bool (decide_eq_false (fun h => h hv1)))) rfl ?_
      refine B1 rfl rfl (A6 rfl <| Ad) (.inl (congrArg Value.bool (decide_eq_false (fun h => h hv1)))) rfl ?_
      refine B1 rfl rfl (A6 rfl <| Al rfl <| Ad) (.inl (congrArg Value.bool (decide_eq_false (fun h => h hv1)))) rfl ?_
      refine B1 rfl rfl (A6 rfl <| Ar rfl <| Ad) (.inl (congrArg Value.bool (decide_eq_false (fun h => h hv1)))) rfl ?_
      refine B1 rfl rfl (A6 rfl <| Ar rfl <| Al rfl <| Ad) (.inl (congrArg Value.bool (decide_eq_false (fun h => h hv1)))) rfl ?_
      refine B1 rfl rfl (A6 rfl <| Ay rfl <| Ad) (.inl (congrArg Value.bool (decide_eq_false (fun h => h hv1)))) rfl ?_
      refine B1 rfl rfl (A6 rfl <| Ay rfl <| Al rfl <| Ad) (.inl (congrArg Value.bool (decide_eq_false (fun h => h hv1)))) rfl ?_
      refine B1 rfl rfl (A6 rfl <| Ay rfl <| Ar rfl <| Ad) (.inl (congrArg Value.bool (decide_eq_false (fun h => h hv1)))) rfl ?_
      refine B1 rfl rfl (A6 rfl <| Ay rfl <| Ar rfl <| Al rfl <| Ad) (.inl (congrArg Value.bool (decide_eq_false (fun h => h hv1)))) rfl ?_
      refine B1 rfl rfl (A3 rfl <| Ad) (.inl (congrArg Value.bool (decide_eq_false (fun h => h hv1)))) rfl ?_
      refine B1 rfl rfl (A3 rfl <| Al rfl <| Ad) (.inl (congrArg Value.bool (decide_eq_false (fun h => h hv1)))) rfl ?_
      refine B1 rfl rfl (A3 rfl <| Ar rfl <| Ad) (.inl (congrArg Value.bool (decide_eq_false (fun h => h hv1)))) rfl ?_
      refine B1 rfl rfl (A3 rfl <| Ar rfl <| Al rfl <| Ad) (.inl (congrArg Value.bool (decide_eq_false (fun h => h hv1)))) rfl ?_
      refine B1 rfl rfl (A3 rfl <| Ay rfl <| Ad) (.inl (congrArg Value.bool (decide_eq_false (fun h => h hv1)))) rfl ?_
      refine B1 rfl rfl (A3 rfl <| Ay rfl <| Al rfl <| Ad) (.inl (congrArg Value.bool (decide_eq_false (fun h => h hv1)))) rfl ?_
      refine B1 rfl rfl (A3 rfl <| Ay rfl <| Ar rfl <| Ad) (.inl (congrArg Value.bool (decide_eq_false (fun h => h hv1)))) rfl ?_
      refine Bc rfl (A7 (A3 rfl <| Ay rfl <| Ar rfl <| Al rfl <| Ad) (decide_eq_false (fun h => h hv1)) Ab) ?_
      refine Bc rfl (Ae (Ad)) ?_
      refine C4 ?_
      refine Ac <| Am (Ad) rfl ?_
      have hsk : skipT s b1 ((j : Int) - 1) = false := by unfold skipT; rw [decide_eq_false hvi, decide_eq_false hf1, decide_eq_false (fun h : (j : Int) - 1 ≠ -1 => h hv1)]; simp
      have hfs : zf + 1 = firstsN (b1 ++ [(j : Int) - 1]) (b1 ++ [(j : Int) - 1]).length := by rw [hzf]; exact (firsts_snoc.trans (if_pos hv1)).symm
      obtain ⟨rest1, hsp⟩ := fillTo_split (s := s) (d := d) (b := b1) (j := j) hlt
      rw [if_neg (by rw [hsk]; simp)] at hsp
      refine Aw <| Bb <| Ac <| Af <| Ai fun ds => Aa rfl (Ag (Bp rfl <| A3 rfl <| Ay rfl <| Al rfl <| Ak rfl <| A3 rfl <| Al rfl <| Aj rfl)) ?_
      refine Aa rfl (Ae (Ad)) ?_
      refine Ah <| Ac <| Af <| Af <| Ai fun ds => Aa rfl (Ag (Bp rfl <| A3 rfl <| Ay rfl <| Ar rfl <| Al rfl <| Ak rfl <| A3 rfl <| Al rfl <| Aj rfl)) ?_
      refine Aa rfl (Bt (k := b1.length) Cs (Bp rfl <| A3 rfl <| A6 rfl <| Ak rfl <| A3 rfl <| Al rfl <| Aj rfl) (Ad) hzi hi5) ?_
      refine Aa rfl (Ap Bj (Ad) (Cell.own 0 rfl hcell)) ?_
      refine Aa rfl (Bs (Ad) Ab) ?_
      refine Ah <| Ac <| Aq (Ad) (decide_eq_true hv1) ?_
      refine Ai fun ds => Aa rfl (Ag (Ay rfl <| Ad)) ?_
      refine Aa rfl (Br (Ad) Ab rfl (by omega) (by omega)) ?_
      refine Aa rfl (Ae (Ad)) ?_
      refine Ah <| Ac <| Af <| Ai fun ds => Aa rfl (Ap one_133 (Bp rfl <| A3 rfl <| A6 rfl <| Ay rfl <| Ar rfl <| Ak rfl <| A3 rfl <| Al rfl <| Aj rfl) (CellF.own hC.fill rfl).cell) ?_
      refine Aa rfl (Ag (Bp rfl <| A3 rfl <| A6 rfl <| Ay rfl <| Ar rfl <| Al rfl <| Ak rfl <| A3 rfl <| Al rfl <| Aj rfl)) ?_
      refine Aa rfl (Br (Ad) Ab rfl (by omega) (by omega)) ?_
      refine Aa rfl (Ag (Ar rfl <| Al rfl <| Ad)) ?_
      refine Bm rfl (x_callG bd_117 (Ar rfl <| Al rfl <| Ad) (.cons (Al rfl <| Ad) (.cons (Ad) .nil)) rfl (ih (pre := pre ++ fillTo s d b1 j) (rest := rest1 ++ rest) hG hX hC (by simp [hzi]) hfs (by simp; omega) hb2l hb2t (in_snoc hin hj2) (by rw [hxs, hsp]; simp) hJ) fun v6 F7 H10 hr8 hF9 => ?_)
      replace hG := Heap.le_trans hG hF9
      replace hFG := Heap.le_trans hFG hF9
      replace hJ := hm _ _ _ _ hF9 hJ
      obtain ⟨b9, RH9, rfl, hb9, ht9, hyb0⟩ := hr8
      obtain ⟨yb, rfl, hyb⟩ := yes_no hyb0
      refine Aa rfl (Ci (Ad)) ?_
      refine Ah <| Ac ?_
      rcases hyb with ⟨rfl, hJ2⟩ | ⟨rfl, hJx⟩
      ·
       refine Am (Ad) rfl ?_
       refine Aw <| Bb <| Ac <| Ai fun ds => Aa rfl (Br (Bp rfl <| Bp rfl <| Ay rfl <| As rfl hs45) Ab rfl (by omega) (by omega)) ?_
       refine Aa rfl (Ag (Ad)) ?_
       refine Ah <| Ac ⟨_, m - 1, Off.eq (ou32 rfl <| ou32 rfl <| Dv rfl <| ou2 rfl <| Bd), by omega, ?_⟩
       refine ⟨_, _, _, hG, hFG, j + 1, by omega, (Ad), hb9, Em ht9, ?_, rfl⟩
       rw [Eu, if_neg (by rw [hsk]; simp), ← List.append_assoc]; exact hJ2
      ·
       refine Aq (Ad) rfl ?_
       refine Af <| Ai fun ds => Aa rfl (Ae Ab) ?_
       refine Ah <| Ac <| A4 <| Bl (Bg (Bg (Bl (Bg (scope_r ?_)))))
       refine post_retG rfl (.tmp (Ad) .nil) .all ?_
       exact ⟨_, _, rfl, hb9, Em ht9, .inr ⟨rfl, hJx⟩⟩
    ·
     obtain ⟨k, hk⟩ := Int.eq_ofNat_of_zero_le (show 0 ≤ (j : Int) - 1 by omega)
     have hkp : k < ps.length := by omega
     have hip : b1.length < ps.length := by omega
     have e1 := hX.r.at hkp
     have e2 := hX.r.at hip
     refine At rfl rfl (Ad) (.inl (congrArg Value.bool (decide_eq_false hv1))) rfl ?_
     refine At rfl rfl (Al rfl <| Ad) (.inl (congrArg Value.bool (decide_eq_false hv1))) rfl ?_
     refine Au rfl rfl (Ay rfl <| Ar rfl <| Al rfl <| Ad) (decide_eq_false (by omega)) ?_
     refine Aa rfl (A7 (Ar rfl <| Ad) (decide_eq_false hv1) Ab) ?_
     refine Aa rfl (A7 (A6 rfl <| Ad) (decide_eq_false (by omega)) (Ad)) ?_
     refine Aa rfl (Ae (Ad)) ?_
     refine Ah <| Ac <| Am (Ad) rfl ?_
     refine Af <| Cu (.inl rfl) (fun _ _ h => h) (by kernel_rfl) (by kernel_rfl) fun ds => ?_
     refine Bc rfl (Ag (A3 rfl <| Ay rfl <| Ar rfl <| Al rfl <| Ak rfl <| A3 rfl <| Al rfl <| Aj rfl)) ?_
     refine Bc rfl (Bt (k := b1.length) Cs (A3 rfl <| A6 rfl <| Ak rfl <| A3 rfl <| Al rfl <| Aj rfl) (Ad) hzi hi5) ?_
     refine Bc rfl (Ap Bj (Ad) (Cell.own 0 rfl hcell)) ?_
     refine Bc rfl (By (Ad) Ab) ?_
     refine Bc rfl (Ag (Ad)) ?_
     refine B7 rfl rfl (Ad) (decide_eq_true hv1) ?_
     refine Bc rfl (Ap one_94 (A3 rfl <| A6 rfl <| Ay rfl <| Ak rfl <| A3 rfl <| Al rfl <| Aj rfl) (CellF.own hC.me rfl).cell) ?_
     refine B7 rfl rfl (Al rfl <| Ad) (decide_eq_true hv1) ?_
     refine Bc rfl (B3 (Ad)) ?_
     refine B7 rfl rfl (Ar rfl <| Ad) (decide_eq_true hv1) ?_
     refine Bc rfl (Ao Cd (Ad)) ?_
     refine B7 rfl rfl (Ar rfl <| Al rfl <| Ad) (decide_eq_true hv1) ?_
     refine Bc rfl (Ao Bv (Ad)) ?_
     refine B7 rfl rfl (Ay rfl <| Ad) (decide_eq_true hv1) ?_
     refine Bc rfl (Ap Bz (Ad) (CellF.own hX.blk rfl).cell) ?_
     refine B7 rfl rfl (Ay rfl <| Al rfl <| Ad) (decide_eq_true hv1) ?_
     refine Bc rfl (Ag (Bp rfl <| Al rfl <| Ak rfl <| A3 rfl <| Al rfl <| Aj rfl)) ?_
     refine B7 rfl rfl (Ay rfl <| Ar rfl <| Ad) (decide_eq_true hv1) ?_
     refine Bc rfl (Bt (k := b1.length) Cs (Bp rfl <| Ar rfl <| Ak rfl <| A3 rfl <| Al rfl <| Aj rfl) (Ad) hzi hi5) ?_
     refine B7 rfl rfl (Ay rfl <| Ar rfl <| Al rfl <| Ad) (decide_eq_true hv1) ?_
     refine Bc rfl (Ap Bj (Ad) (Cell.own 0 rfl hcell)) ?_
     refine B7 rfl rfl (A6 rfl <| Ad) (decide_eq_true hv1) ?_
     refine Bc rfl (A9 (k := k) B5 (Ar rfl <| Al rfl <| Ad) hX.r.eds.plain (Ad) hk hkp) ?_
     refine B7 rfl rfl (A6 rfl <| Al rfl <| Ad) (decide_eq_true hv1) ?_
     refine Bc rfl (Bo Dl (Ad)) ?_
     refine B7 rfl rfl (A6 rfl <| Ar rfl <| Ad) (decide_eq_true hv1) ?_
     refine Bc rfl (Bo Du (Ad)) ?_
     refine B7 rfl rfl (A6 rfl <| Ar rfl <| Al rfl <| Ad) (decide_eq_true hv1) ?_
     refine Bc rfl (Ap Bj (Ad) (hX.r.eds.cell hkp rfl)) ?_
     refine B7 rfl rfl (A6 rfl <| Ay rfl <| Ad) (decide_eq_true hv1) ?_
     refine Bc rfl (Ap one_94 (Bp rfl <| A6 rfl <| Ak rfl <| A3 rfl <| Al rfl <| Aj rfl) (CellF.own hC.me rfl).cell) ?_
     refine B7 rfl rfl (A6 rfl <| Ay rfl <| Al rfl <| Ad) (decide_eq_true hv1) ?_
     refine Bc rfl (B3 (Ad)) ?_
     refine B7 rfl rfl (A6 rfl <| Ay rfl <| Ar rfl <| Ad) (decide_eq_true hv1) ?_
     refine Bc rfl (Ao Cd (Ad)) ?_
     refine B7 rfl rfl (A6 rfl <| Ay rfl <| Ar rfl <| Al rfl <| Ad) (decide_eq_true hv1) ?_
     refine Bc rfl (Ao Bv (Ad)) ?_
     refine B7 rfl rfl (A3 rfl <| Ad) (decide_eq_true hv1) ?_
     refine Bc rfl (Ap Bz (Ad) (CellF.own hX.blk rfl).cell) ?_
     refine B7 rfl rfl (A3 rfl <| Al rfl <| Ad) (decide_eq_true hv1) ?_
     refine Bc rfl (Ag (Bp rfl <| A6 rfl <| Ay rfl <| Al rfl <| Ak rfl <| A3 rfl <| Al rfl <| Aj rfl)) ?_
     refine B7 rfl rfl (A3 rfl <| Ar rfl <| Ad) (decide_eq_true hv1) ?_
     refine Bc rfl (A9 (k := b1.length) B5 (Al rfl <| Ad) hX.r.eds.plain (Ad) hzi hip) ?_
     refine B7 rfl rfl (A3 rfl <| Ar rfl <| Al rfl <| Ad) (decide_eq_true hv1) ?_
     refine Bc rfl (Bo Dl (Ad)) ?_
     refine B7 rfl rfl (A3 rfl <| Ay rfl <| Ad) (decide_eq_true hv1) ?_
     refine Bc rfl (Bo Dm (Ad)) ?_
     refine B7 rfl rfl (A3 rfl <| Ay rfl <| Al rfl <| Ad) (decide_eq_true hv1) ?_
     refine Bc rfl (Ap Bj (Ad) (hX.r.eds.cell (j := 1 + 1) hip rfl)) ?_
     refine B7 rfl rfl (A3 rfl <| Ay rfl <| Ar rfl <| Ad) (decide_eq_true hv1) ?_
     refine Bc rfl (Eg (A6 rfl <| Ar rfl <| Ad) (Ad)) ?_
     refine Bc rfl (A2 (A3 rfl <| Ay rfl <| Ar rfl <| Al rfl <| Ad) (decide_eq_true hv1) (Ad)) ?_
     refine Bc rfl (Ae (Ad)) ?_
     refine C4 ?_
     refine Ac ?_
     by_cases hyr : (s.ed b1.length).hi ≤ (s.ed k).lo
     ·
      refine Aq (Ad) (by rw [e1, e2]; exact decide_eq_true hyr) ?_
      refine Bn ?_
      refine exit_past rfl (Ba (Bh ?_))
      refine Ac <| Ai fun ds => Aa rfl (Br (Bp rfl <| A3 rfl <| Ay rfl <| Al rfl <| As rfl hs45) Ab rfl (by omega) (by omega)) ?_
      refine Aa rfl (Ag (Ad)) ?_
      refine Ah <| Ac ⟨_, m - 1, Off.eq (ou32 rfl <| Cr rfl <| Dv rfl <| ou2 rfl <| Dk rfl <| Bd), by omega, ?_⟩
      refine ⟨_, _, _, hG, hFG, j + 1, by omega, (Ad), hb2l, Em hb2t, ?_, rfl⟩
      rw [Eu, if_pos (show skipT s b1 ((j : Int) - 1) = true by unfold skipT; rw [hk, Int.toNat_natCast, decide_eq_true hyr, decide_eq_true (show (k : Int) ≠ -1 by omega)]; simp), List.append_nil]; exact hJ
     ·
      refine Am (Ad) (by rw [e1, e2]; exact decide_eq_false hyr) ?_
      have hsk : skipT s b1 ((j : Int) - 1) = false := by unfold skipT; rw [decide_eq_false hvi, decide_eq_false hv1]; rw [hk, Int.toNat_natCast, decide_eq_false hyr]; simp
      have hfs : zf = firstsN (b1 ++ [(j : Int) - 1]) (b1 ++ [(j : Int) - 1]).length := by rw [hzf]; exact (firsts_snoc.trans (if_neg hv1)).symm
      obtain ⟨rest1, hsp⟩ := fillTo_split (s := s) (d := d) (b := b1) (j := j) hlt
      rw [if_neg (by rw [hsk]; simp)] at hsp
      refine Aw <| Bb <| Ac <| Af <| Ai fun ds => Aa rfl (Ag (Bp rfl <| A3 rfl <| Ay rfl <| Al rfl <| Ak rfl <| A3 rfl <| Al rfl <| Aj rfl)) ?_
      refine Aa rfl (Ae (Ad)) ?_
      refine Ah <| Ac <| Af <| Af <| Ai fun ds => Aa rfl (Ag (Bp rfl <| A3 rfl <| Ay rfl <| Ar rfl <| Al rfl <| Ak rfl <| A3 rfl <| Al rfl <| Aj rfl)) ?_
      refine Aa rfl (Bt (k := b1.length) Cs (Bp rfl <| A3 rfl <| A6 rfl <| Ak rfl <| A3 rfl <| Al rfl <| Aj rfl) (Ad) hzi hi5) ?_
      refine Aa rfl (Ap Bj (Ad) (Cell.own 0 rfl hcell)) ?_
      refine Aa rfl (Bs (Ad) Ab) ?_
      refine Ah <| Ac <| Am (Ad) (decide_eq_false hv1) ?_
      refine Aw <| Ac <| Af <| Ai fun ds => Aa rfl (Ap one_133 (Bp rfl <| A3 rfl <| A6 rfl <| Ar rfl <| Al rfl <| Ak rfl <| A3 rfl <| Al rfl <| Aj rfl) (CellF.own hC.fill rfl).cell) ?_
      refine Aa rfl (Ag (Bp rfl <| A3 rfl <| A6 rfl <| Ay rfl <| Ak rfl <| A3 rfl <| Al rfl <| Aj rfl)) ?_
      refine Aa rfl (Br (Ad) Ab rfl (by omega) (by omega)) ?_
      refine Aa rfl (Ag (Ay rfl <| Ar rfl <| Al rfl <| Ad)) ?_
      refine Bm rfl (x_callG bd_117 (Ar rfl <| Al rfl <| Ad) (.cons (Al rfl <| Ad) (.cons (Ad) .nil)) rfl (ih (pre := pre ++ fillTo s d b1 j) (rest := rest1 ++ rest) hG hX hC (by simp [hzi]) hfs (by simp; omega) hb2l hb2t (in_snoc hin hj2) (by rw [hxs, hsp]; simp) hJ) fun v16 F17 H20 hr18 hF19 => ?_)
      replace hG := Heap.le_trans hG hF19
      replace hFG := Heap.le_trans hFG hF19
      replace hJ := hm _ _ _ _ hF19 hJ
      obtain ⟨b9, RH9, rfl, hb9, ht9, hyb0⟩ := hr18
      obtain ⟨yb, rfl, hyb⟩ := yes_no hyb0
      refine Aa rfl (Ci (Ad)) ?_
      refine Ah <| Ac ?_
      rcases hyb with ⟨rfl, hJ2⟩ | ⟨rfl, hJx⟩
      ·
       refine Am (Ad) rfl ?_
       refine Aw <| Bb <| Ac <| Ai fun ds => Aa rfl (Br (Bp rfl <| Bp rfl <| Al rfl <| As rfl hs45) Ab rfl (by omega) (by omega)) ?_
       refine Aa rfl (Ag (Ad)) ?_
       refine Ah <| Ac ⟨_, m - 1, Off.eq (ou32 rfl <| ou32 rfl <| ou2 rfl <| Dk rfl <| Bd), by omega, ?_⟩
       refine ⟨_, _, _, hG, hFG, j + 1, by omega, (Ad), hb9, Em ht9, ?_, rfl⟩
       rw [Eu, if_neg (by rw [hsk]; simp), ← List.append_assoc]; exact hJ2
      ·
       refine Aq (Ad) rfl ?_
       refine Af <| Ai fun ds => Aa rfl (Ae Ab) ?_
       refine Ah <| Ac <| A4 <| Bl (Bg (Bg (Bl (Bg (scope_r ?_)))))
       refine post_retG rfl (.tmp (Ad) .nil) .all ?_
       exact ⟨_, _, rfl, hb9, Em ht9, .inr ⟨rfl, hJx⟩⟩
  ·
   refine Af <| Ai fun ds => Aa rfl (Bw (As rfl hs45) (Ak rfl <| Al rfl <| Ad)) ?_
   refine Ah <| Ac <| Af <| Am (Ad) (by first | rfl | exact decide_eq_false (by omega)) ?_
   obtain rfl : j = s.editions.length + 1 := by omega
   rw [fillTo_end] at hJ
   refine Bn ?_
   refine Ba <| Ba <| Bh <| Ac <| Af <| Ai fun ds => Aa rfl (Ae Ab) ?_
   refine Ah <| Ac <| A4 <| scope_r ?_
   refine post_retG rfl (.tmp (Ad) .nil) .all ?_
   exact ⟨_, _, rfl, hl', htk, .inl ⟨rfl, hJ⟩⟩
end Go.Proofs.Ytccogmkhijgelaa
namespace Go.Proofs.Ytccogmkhijgelaa
open Go.RowKit
theorem zr_133 : ZeroT Try.prog 133 (.nilFunc) := C7 (by kernel_rfl)
theorem sz_133 : SizeT Try.prog 133 1 := Cx (by kernel_rfl)
theorem fill_go {s : Stm} (hv : ValidT s) {ps : List (Value × Edn)} {L : Nat} {F0 : Heap} {xs : List (List Int)} {J : List (List Int) → Heap → List (Nat × Obj) → Prop} {Jx : Heap → List (Nat × Obj) → Prop} {vp ve vm : Value} {b tb d2 d4 d5 : Nat}
   (hm : ∀ pre F F' H, F.le F' → J pre F H → J pre F' H) (hmx : ∀ F F' H, F.le F' → Jx F H → Jx F' H) (hy : YieldT Try.prog L F0 xs J Jx) : ∀ d, FillOk s ps L F0 xs J Jx vp ve vm b tb d2 d4 d5 d
 | 0 => fill_nil hv hm hmx hy
 | d + 1 => fill_step hv hm hmx hy (fill_go hv hm hmx hy d)
set_option maxRecDepth 100000 in
theorem trees1_iter {F0 : Heap} {b : Nat} {vp ve vm : Value} {ps : List (Value × Edn)} {s : Stm} (hX0 : StmX F0 b vp ve vm ps s) (hv : ValidT s) {d1 : Nat} (z1 : F0 d1 = some (bx 94 [.pointer (some ⟨b, 0, none⟩)])) : IterG Try.prog 116 [.pointer (some ⟨d1, 0, none⟩)] F0 TreeA (allTrees s) := by
 intro L J Jx F RH hF hm hmx hy h0
 have hX := hX0.mono hF
 replace z1 := hF _ _ z1
 refine OkG.intro Try.func116 rfl Try.ntmps116 rfl fun w0 => ?_
 refine Af <| Ai fun ds => Bm rfl (B2 (Aj rfl) rfl fun b1 hb1 nb1 => ?_)
 refine Ah <| Ac <| Af <| Cg (i := 0) rfl hb1 (.here) fun F2 hF3 hz2 => ?_
 replace hX := hX.mono hF3
 replace h0 := hm _ _ _ _ hF3 h0
 replace hF := Heap.le_trans hF hF3
 replace z1 := hF3 _ _ z1
 refine Ai fun ds => Bm rfl (Cf Eh rfl fun b4 hb4 nb4 => ?_)
 refine Ah <| Ac <| Af <| Ai fun ds => Bm rfl (Cf zr_133 rfl fun b5 hb5 nb5 => ?_)
 refine Ah <| Ac <| Af <| Ai fun ds => Aa rfl (Cq (.cons (Ar rfl <| Al rfl <| Aj rfl) (.cons (Al rfl <| Ad) (.cons (Ar rfl <| Ad) (.cons (Ad) .nil))))) ?_
 refine Cm (Cn sz_133 (Al rfl <| Ad) (Ad) (i := 0) rfl (.here) rfl (.here) ?_)
 refine Ah <| Ac <| Cg (i := 0) rfl hb5 (.here) fun F6 hF7 hz4 => ?_
 replace hX := hX.mono hF7
 replace h0 := hm _ _ _ _ hF7 h0
 replace hF := Heap.le_trans hF hF7
 replace z1 := hF7 _ _ z1
 replace hz2 := hF7 _ _ hz2
 refine Ai fun ds => Aa rfl (Ap one_133 (Al rfl <| Ad) (CellF.own hz4 rfl).cell) ?_
 refine Bm rfl (x_callG bd_117 (Ad) (.cons Ab (.cons Ab .nil)) rfl (by have h9 := fill_go hv hm hmx hy (tb := b4) s.editions.length (b1 := []) (b' := List.replicate s.editions.length 0) (zi := 0) (zf := 0) (pre := []) (rest := []) hF hX ⟨z1, hz2, hz4⟩ rfl rfl (by simp) (by simp) rfl (fun i h => absurd h (by simp)) (by rw [fill_all]; simp) h0; rw [treeC_zero] at h9; exact h9) fun v12 F13 H16 hr14 hF15 => ?_)
 replace h0 := hm _ _ _ _ hF15 h0
 obtain ⟨b9, RH9, rfl, -, -, hyb0⟩ := hr14
 obtain ⟨yb, rfl, hyb⟩ := yes_no hyb0
 refine Ah <| post_endS rfl .nil (.cons _ (.refl _)) ?_
 rw [fill_all] at hyb
 rcases hyb with ⟨-, h⟩ | ⟨-, h⟩
 · exact .inl h
 · exact .inr h
set_option maxRecDepth 100000 in
theorem trees_ok {F : Heap} {b : Nat} {vp ve vm : Value} {ps : List (Value × Edn)} {s : Stm} (hX : StmX F b vp ve vm ps s) : Ok Try.prog 83 [.pointer (some ⟨b, 0, none⟩)].toArray F fun u F' => ∃ d, u = .func (.func 116) #[] #[.pointer (some ⟨d, 0, none⟩)] ∧ F' d = some (bx 94 [.pointer (some ⟨b, 0, none⟩)]) := by
 refine Ok.intro Try.func83 rfl Try.ntmps83 rfl fun w0 => ?_
 refine Af <| Ai fun ds => Bm rfl (B2 (Aj rfl) rfl fun b1 hb1 nb1 => ?_)
 refine Aa rfl (Ae Ab) ?_
 refine Ah <| Ac <| Af <| Cg (i := 0) rfl hb1 (.here) fun F2 hF3 hz => ?_
 refine Ai fun ds => Aa rfl (Cq (.cons (Al rfl <| Ad) .nil)) ?_
 refine Aa rfl (Ae (Ad)) ?_
 refine Ah <| Ac <| A4 <| Ax rfl (.tmp (Ad) .nil) ?_
 exact ⟨_, rfl, hz⟩
end Go.Proofs.Ytccogmkhijgelaa
namespace Go.Proofs.Ytccogmkhijgelaa
theorem flatMap_len {α β : Type} {f : α → List β} {k : Nat} (h : ∀ a, (f a).length ≤ k) : ∀ l : List α, (l.flatMap f).length ≤ l.length * k
 | [] => by simp
 | a :: l => by
   have h1 := flatMap_len h l
   have h2 := h a
   rw [List.flatMap_cons, List.length_append, List.length_cons, Nat.add_mul, Nat.one_mul]; omega
theorem trees_len {n : Nat} : ∀ {d : Nat} {b : List Int}, (treesF n d b).length ≤ (n + 1) ^ d
 | 0, b => by unfold treesF; split <;> simp
 | d + 1, b => by
   unfold treesF
   have h1 := flatMap_len (f := fun j : Nat => treesF n d (b ++ [(j : Int) - 1])) (k := (n + 1) ^ d) (fun j => trees_len) (List.range (n + 1))
   rw [List.length_range] at h1
   rw [Nat.pow_succ, Nat.mul_comm]; exact h1
theorem allTrees_len {s : Stm} (hv : ValidT s) : (allTrees s).length ≤ 7776 := by
 have h1 : (allTrees s).length ≤ (treesF s.editions.length s.editions.length []).length := List.length_filter_le _ _
 have h2 := trees_len (n := s.editions.length) (d := s.editions.length) (b := [])
 have h3 : (s.editions.length + 1) ^ s.editions.length ≤ 7776 := by
   have h4 := hv.ne.2
   generalize s.editions.length = n at *
   have : n = 0 ∨ n = 1 ∨ n = 2 ∨ n = 3 ∨ n = 4 ∨ n = 5 := by omega
   rcases this with rfl | rfl | rfl | rfl | rfl | rfl <;> decide
 omega
section
variable {top : Int} {c : List Int → Int} {xs : List (List Int)} {t : List Int}
theorem bestR_len : (bestR top c xs).1.length ≤ xs.length := by rw [best_is]; exact List.length_filter_le _ _
theorem bestR_lt (h : c t < (bestR top c xs).2) : bestR top c (xs ++ [t]) = ([t], c t) := by rw [bestR_snoc]; unfold bestStep; rw [if_pos h]
theorem bestR_eq (h : c t = (bestR top c xs).2) (h2 : c t < top) : bestR top c (xs ++ [t]) = ((bestR top c xs).1 ++ [t], (bestR top c xs).2) := by rw [bestR_snoc]; unfold bestStep; rw [if_neg (by omega), if_pos ⟨h, h2⟩]
theorem bestR_no (h : ¬ c t < (bestR top c xs).2) (h2 : ¬ (c t = (bestR top c xs).2 ∧ c t < top)) : bestR top c (xs ++ [t]) = bestR top c xs := by rw [bestR_snoc]; unfold bestStep; rw [if_neg h, if_neg h2]
end
theorem bests_one {s : Stm} (hv : ValidT s) : (bestR never (changesN s) (allTrees s)).1 = bestsL s := by rw [bests_prog hv]
theorem bests_two {s : Stm} (hv : ValidT s) : (bestR never (changesN s) (allTrees s)).2 = upV (bestsM s) := by rw [bests_prog hv]
theorem bestsL_len {s : Stm} (hv : ValidT s) : (bestsL s).length ≤ 7776 := Nat.le_trans bestR_len (allTrees_len hv)
theorem bestsL_at {s : Stm} {l : List Int} (h : l ∈ bestsL s) : l.length = s.editions.length ∧ IsTree l ∧ fitsT s l = true ∧ costL s l = bestsM s ∧ bestsM s < 1000 := by
 obtain ⟨h1, h2, h3⟩ := bestsL_mem.1 h
 obtain ⟨h4, h5, h6⟩ := allTrees_mem.1 h1
 exact ⟨h4, h5, h6, h2, by omega⟩
def askedT (s : Stm) : Int := if (checkT s).2.2 ≠ 0 then (checkT s).2.2 else if bestsL s = [] then 9 else 0
theorem askedT_bad {s : Stm} (h : (checkT s).2.2 ≠ 0) : askedT s = (checkT s).2.2 := if_pos h
theorem askedT_nil {s : Stm} (h : (checkT s).2.2 = 0) (h2 : bestsL s = []) : askedT s = 9 := by unfold askedT; rw [if_neg (fun k => k h), if_pos h2]
theorem askedT_some {s : Stm} (h : (checkT s).2.2 = 0) (h2 : bestsL s ≠ []) : askedT s = 0 := by unfold askedT; rw [if_neg (fun k => k h), if_neg h2]
theorem askedT_ok {s : Stm} (h : askedT s = 0) : (checkT s).2.2 = 0 ∧ bestsL s ≠ [] := by
 unfold askedT at h
 split at h
 · rename_i h1; exact absurd h h1
 · rename_i h1
   split at h
   · cases h
   · rename_i h2; exact ⟨Classical.not_not.1 h1, h2⟩
/-- The trees, their changes, and the error. -/
def askedE (s : Stm) : List (List Int) × Int × Int := if askedT s = 0 then (bestsL s, bestsM s, 0) else ([], 0, askedT s)
theorem askedE_ok {s : Stm} (h : askedT s = 0) : askedE s = (bestsL s, bestsM s, 0) := if_pos h
theorem askedE_bad {s : Stm} (h : askedT s ≠ 0) : askedE s = ([], 0, askedT s) := if_neg h
/-- P7.4. -/
def bestTE (s : Stm) : List Int × Int × Int × Int := if askedT s = 0 then ((bestsL s)[0]?.getD [], bestsM s, (bestsL s).length, 0) else ([], 0, 0, askedT s)
theorem bestTE_ok {s : Stm} (h : askedT s = 0) : bestTE s = ((bestsL s)[0]?.getD [], bestsM s, ((bestsL s).length : Int), 0) := if_pos h
theorem bestTE_bad {s : Stm} (h : askedT s ≠ 0) : bestTE s = ([], 0, 0, askedT s) := if_neg h
def firstB (s : Stm) (i : Nat) : Bool := (bestsL s).any fun t => decide (upN t i = -1)
def firstTE (s : Stm) : List Nat × Int := if askedT s = 0 then (selN (firstB s) s.editions.length, 0) else ([], askedT s)
theorem firstTE_ok {s : Stm} (h : askedT s = 0) : firstTE s = (selN (firstB s) s.editions.length, 0) := if_pos h
theorem firstTE_bad {s : Stm} (h : askedT s ≠ 0) : firstTE s = ([], askedT s) := if_neg h
def fromB (a b : Nat) (t : List Int) : Bool := decide (upN t b = (a : Int))
def fromE (s : Stm) (a b : Int) : Int × Int := if edsErr s a b ≠ 0 then (0, edsErr s a b) else if askedT s ≠ 0 then (0, askedT s) else
 if (bestsL s).any (fromB a.toNat b.toNat) = false then (2, 0) else if (bestsL s).any (fun t => !(fromB a.toNat b.toNat t)) = false then (1, 0) else (0, 0)
end Go.Proofs.Ytccogmkhijgelaa
namespace Go.Proofs.Ytccogmkhijgelaa
open Go.RowKit
theorem zr_110 : ZeroT Try.prog 110 (.slice none 0 0) := C7 (by kernel_rfl)
theorem bd_116 : Body Try.prog 116 := Bq (by kernel_rfl)
theorem bd_83 : Body Try.prog 83 := Bq (by kernel_rfl)
theorem el_100 : ElemT Try.prog 100 5 40 (.agg #[.int .i64 0, .int .i64 0, .int .i64 0, .int .i64 0, .int .i64 0]) := elemT_of (by kernel_rfl) rfl (by decide)
theorem one_110 : OneT Try.prog 110 := Ef (by kernel_rfl)
theorem sl_110 : SliceT Try.prog 110 100 5 := Ep (by kernel_rfl)
theorem sz_110 : SizeT Try.prog 110 1 := Cx (by kernel_rfl)
set_option maxRecDepth 100000 in
theorem best_ok {F : Heap} {b : Nat} {vp ve : Value} {kb : Nat} {ps : List (Value × Edn)} {s : Stm} (hX : StmX F b vp ve (.map (some kb)) ps s) (hv : ValidT s) {es : List (Value × Value)} (hK : KnownT Try.prog 100 es s) : OkM Try.prog 110 [.pointer (some ⟨b, 0, none⟩)].toArray F [(kb, mapO es)] fun u F' H' => ∃ es', H' = [(kb, mapO es')] ∧ KnownT Try.prog 100 es' s ∧ ∃ v, u = .tuple #[v, .int .i64 (upV (bestsM s))] ∧ Sl F' v 5 treeC (bestsL s) ∧ (bestsL s = [] → v = .slice none 0 0) := by
 refine OkM.intro Try.func110 rfl Try.ntmps110 rfl fun w0 => ?_
 have hne := hv.ne
 refine Af <| Ai fun ds => Bm rfl (B2 (Aj rfl) rfl fun b1 hb1 nb1 => ?_)
 refine Bm rfl (Cf zr_110 rfl fun b2 hb2 nb2 => ?_)
 refine Bm rfl (Cf Da rfl fun b3 hb3 nb3 => ?_)
 refine Ah <| Ac <| Af <| Ai fun ds => Cm (Cn sz_3 (Ad) Ab (i := 0) rfl (.here) rfl (.here) ?_)
 refine Ah <| Ac <| Af <| Af <| Cg (i := 2) rfl hb1 (.next <| .next <| .here) fun F4 hF5 hz1 => ?_
 replace hX := hX.mono hF5
 refine Ai fun ds => Aa rfl (Ap one_94 (Ar rfl <| Ad) (CellF.own hz1 rfl).cell) ?_
 refine Bm rfl (Ch bd_83 A0 (.cons (Ad) .nil) (trees_ok hX) fun v6 F7 hr8 hF9 => ?_)
 replace hX := hX.mono hF9
 replace hz1 := hF9 _ _ hz1
 obtain ⟨dz, rfl, hzd⟩ := hr8
 refine Ah <| Ac <| Az <| WC_rangeG rfl (Ad) (bd_116) (trees1_iter hX hv hzd) (Heap.le_refl _) (fun pre G H => ∃ es2 v4 R4, KnownT Try.prog 100 es2 s ∧ Own 100 5 v4 (bestR never (changesN s) pre).1.length ((bestR never (changesN s) pre).1.flatMap treeC) R4 ∧ ((bestR never (changesN s) pre).1 = [] → v4 = .slice none 0 0) ∧ H = (b3, bx 3 [.int .i64 (bestR never (changesN s) pre).2]) :: (b2, bx 110 [v4]) :: (kb, mapO es2) :: R4) (fun _ _ _ => False) (fun _ _ _ _ _ h => h) (fun _ _ _ _ _ h => h) ⟨es, _, [], hK, El, fun _ => rfl, rfl⟩ (fun L D fn tm pre x rest G H1 vs hxs hle hJ hA => ?_) (fun _ _ _ _ h => h.elim) (fun F2 H1 hF2 hJ => ?_)
 ·
  replace hX := hX.mono hle
  replace hz1 := hle _ _ hz1
  obtain ⟨es2, v4, R4, hK2, ho, hnl, rfl⟩ := hJ
  obtain rfl : vs = [treeV x] := hA
  have hxm : x ∈ allTrees s := by rw [hxs]; simp
  obtain ⟨hll, ht, -⟩ := allTrees_mem.1 hxm
  have hbl : (bestR never (changesN s) pre).1.length ≤ 7776 := Nat.le_trans bestR_len (Nat.le_trans (by rw [hxs]; simp) (allTrees_len hv))
  refine ⟨rfl, rfl, fun w1 => ?_⟩
  refine WC_eq (e' := (upd _ 8 (treeV x))) rfl rfl ?_
  refine Ce (.inr (by kernel_rfl)) (fun _ _ h => h) fun ds => ?_
  refine Bm rfl (Cf Eh rfl fun b10 hb10 nb10 => ?_)
  refine WL_orderB (.one (.next <| .here) <| .one (.next <| .here) <| .one (.here) <| .one (.here) <| .one (.here) <| .one (.here) <| .lastb (.last)) ?_
  refine Cm (Cj En (Ad) (Al rfl <| Ad) (i := 2) rfl rfl rfl rfl Df (.next <| .next <| .here) ?_)
  refine Ah <| Ac ⟨_, rfl, ?_⟩
  refine Az <| Af <| Ce (.inr (by kernel_rfl)) (fun _ _ h => h) fun ds => ?_
  refine Aa rfl (Ap one_94 (Ay rfl <| Ar rfl <| Ad) (CellF.own hz1 rfl).cell) ?_
  refine Aa rfl (Bf B4 (Al rfl <| Ad) rfl rfl (A8 2 rfl)) ?_
  refine WL_orderB (.one (.next <| .next <| .next <| .next <| .next <| .here) <| .one (.here) <| .one (.here) <| .one (.here) <| .one (.here) <| .one (.here) <| .lastb (.last)) ?_
  refine Bm rfl (x_callMF bd_69 A0 (.cons (Al rfl <| Ad) (.cons (Ad) .nil)) rfl (changes_ok hX ht hll hv hK2) fun v15 F16 H19 hr17 hF18 => ?_)
  replace hle := hle.mono hF18
  obtain ⟨es3, rfl, rfl, hK3⟩ := hr17
  refine Aa rfl (Ae (Ad)) ?_
  refine Ah <| Ac <| Af <| Af ?_
  by_cases h1 : changesN s x < (bestR never (changesN s) pre).2
  ·
   have hb := bestR_lt h1
   refine Ce (.inr (by kernel_rfl)) (fun _ _ h => h) fun ds => ?_
   refine Aa rfl (Ag (Ad)) ?_
   refine Aa rfl (Ap Bj (A6 rfl <| Al rfl <| Ad) (Cell.own 4 rfl rfl)) ?_
   refine Aa rfl (Bw (Al rfl <| Ad) (Ad)) ?_
   refine Ah <| Ac <| Aq (Ad) (decide_eq_true h1) ?_
   refine Ce (.inr (by kernel_rfl)) (fun _ _ h => h) fun ds => ?_
   refine Aa rfl (Ag (Ar rfl <| Al rfl <| Ad)) ?_
   refine Cm (Cn sz_110 (A6 rfl <| Ay rfl <| Al rfl <| Ad) Ab (i := 5) rfl (.here) rfl (.next <| .next <| .next <| .next <| .next <| .here) ?_)
   refine Cm (Cn sz_3 (A6 rfl <| Ay rfl <| Ad) (Ad) (i := 4) rfl (.here) rfl (.next <| .next <| .next <| .next <| .here) ?_)
   refine Ah <| Ac <| Af <| Ce (.inr (by kernel_rfl)) (fun _ _ h => h) fun ds => ?_
   refine Aa rfl (Ag (Ay rfl <| Ad)) ?_
   refine Aa rfl (Ap Bj (A6 rfl <| Ay rfl <| Al rfl <| Ad) (Cell.own 4 rfl rfl)) ?_
   refine Aa rfl (Bs (Al rfl <| Ad) (Ad)) ?_
   refine Aa rfl (Ag (Ad)) ?_
   refine Au rfl rfl (Ad) (decide_eq_true rfl) ?_
   refine Aa rfl (Ag (A6 rfl <| Ad)) ?_
   refine Au rfl rfl (Al rfl <| Ad) (decide_eq_true rfl) ?_
   refine Aa rfl (Bw (Ad) Ab) ?_
   refine Aa rfl (A2 (Ar rfl <| Ad) (decide_eq_true rfl) (Ad)) ?_
   refine Ah <| Ac <| Aq (Ad) (decide_eq_true (show changesN s x < 1048576 by have := bestR_le (top := never) (c := changesN s) (xs := pre); unfold never at *; omega)) ?_
   refine Ce (.inr (by kernel_rfl)) (fun _ _ h => h) fun ds => ?_
   refine Aa rfl (Ap one_110 (A3 rfl <| Ay rfl <| Ad) (Cell.own 5 rfl rfl)) ?_
   refine Aa rfl (Bf B4 (A3 rfl <| Ad) rfl rfl (A8 3 rfl)) ?_
   refine Bm rfl (x_buildN (offs := [(0, 5)]) (zl := [.int .i64 0, .int .i64 0, .int .i64 0, .int .i64 0, .int .i64 0]) sl_110 Eh rfl (.cons (Ad) rfl .nil) (by intro i p h; rcases i with _ | i <;> simp at h <;> subst h <;> rfl) (.cons rfl rfl (Nat.le_of_ble_eq_true rfl) (.cons (.here) (.cons (.next <| .here) (.cons (.next <| .next <| .here) (.cons (.next <| .next <| .next <| .here) (.cons (.next <| .next <| .next <| .next <| .here) .nil))))) .nil) (by decide) (by decide) fun b21 hb21 nb21 => ?_)
   refine Bm rfl (B9 sl_110 el_100 (Ar rfl <| Ad) El (Ad) (Dd (s := 5) 0 rfl rfl (by simp [Value.oneCell'])) (by decide) (by decide) (.z) .nil fun v22 R23 ho24 => ?_)
   have ho2 : Own 100 5 v22 (bestR never (changesN s) (pre ++ [x])).1.length ((bestR never (changesN s) (pre ++ [x])).1.flatMap treeC) R23 := by rw [hb]; exact ho24
   refine WL_orderB (.one (.skip <| .next <| .here) <| .one (.skip <| .next <| .here) <| .one (.skip <| .next <| .here) <| .one (.skip <| .next <| .here) <| .one (.skip <| .next <| .here) <| .one (.skip <| .next <| .here) <| .lastb (.here)) ?_
   refine Cm (Cn sz_110 (A3 rfl <| A6 rfl <| Ad) (Ad) (i := 5) rfl (.here) (Own.one ho2) (.next <| .next <| .next <| .next <| .next <| .here) ?_)
   refine Ah <| Bb ?_
   refine E0 (.one (.next <| .here) <| .one (.next <| .here) <| .one (.next <| .next <| .here) <| .one (.next <| .next <| .here) <| .one (.here) <| .lastb (.next <| .last)) ?_
   refine .inl ⟨rfl, _, rfl, hle, ?_⟩
   refine ⟨_, _, _, hK3, ho2, fun h => ?_, by rw [hb]⟩
   rw [hb] at h; simp at h
  ·
   refine Ce (.inr (by kernel_rfl)) (fun _ _ h => h) fun ds => ?_
   refine Aa rfl (Ag (Ad)) ?_
   refine Aa rfl (Ap Bj (A6 rfl <| Al rfl <| Ad) (Cell.own 4 rfl rfl)) ?_
   refine Aa rfl (Bw (Al rfl <| Ad) (Ad)) ?_
   refine Ah <| Ac <| Am (Ad) (decide_eq_false h1) ?_
   by_cases h2 : changesN s x = (bestR never (changesN s) pre).2
   ·
    refine Aw <| Ac <| Af <| Ce (.inr (by kernel_rfl)) (fun _ _ h => h) fun ds => ?_
    refine Aa rfl (Ag (Ar rfl <| Al rfl <| Ad)) ?_
    refine Aa rfl (Ap Bj (A6 rfl <| Ay rfl <| Ad) (Cell.own 4 rfl rfl)) ?_
    refine Aa rfl (Bs (Al rfl <| Ad) (Ad)) ?_
    refine Aa rfl (Ag (Ad)) ?_
    refine Au rfl rfl (Ad) (decide_eq_true h2) ?_
    refine Aa rfl (Ag (Ay rfl <| Ar rfl <| Al rfl <| Ad)) ?_
    refine Au rfl rfl (Al rfl <| Ad) (decide_eq_true h2) ?_
    refine Aa rfl (Bw (Ad) Ab) ?_
    refine Aa rfl (A2 (Ar rfl <| Ad) (decide_eq_true h2) (Ad)) ?_
    refine Ah <| Ac ?_
    by_cases h3 : changesN s x < never
    ·
     have hb := bestR_eq h2 h3
     refine Aq (Ad) (decide_eq_true h3) ?_
     refine Ce (.inr (by kernel_rfl)) (fun _ _ h => h) fun ds => ?_
     refine Aa rfl (Ap one_110 (A3 rfl <| Ar rfl <| Al rfl <| Ad) (Cell.own 5 rfl rfl)) ?_
     refine Aa rfl (Bf B4 (A6 rfl <| Ay rfl <| Ar rfl <| Al rfl <| Ad) rfl rfl (A8 3 rfl)) ?_
     refine Bm rfl (x_buildN (offs := [(0, 5)]) (zl := [.int .i64 0, .int .i64 0, .int .i64 0, .int .i64 0, .int .i64 0]) sl_110 Eh rfl (.cons (Ad) rfl .nil) (by intro i p h; rcases i with _ | i <;> simp at h <;> subst h <;> rfl) (.cons rfl rfl (Nat.le_of_ble_eq_true rfl) (.cons (.here) (.cons (.next <| .here) (.cons (.next <| .next <| .here) (.cons (.next <| .next <| .next <| .here) (.cons (.next <| .next <| .next <| .next <| .here) .nil))))) .nil) (by decide) (by decide) fun b25 hb25 nb25 => ?_)
     refine Bm rfl (B9 sl_110 el_100 (Ar rfl <| Ad) ho (Ad) (Dd (s := 5) 0 rfl rfl (by simp [Value.oneCell'])) (by omega) (by omega) (.s <| .s <| .s <| .s <| .s <| .s <| .s <| .z) .last fun v26 R27 ho28 => ?_)
     have ho2 : Own 100 5 v26 (bestR never (changesN s) (pre ++ [x])).1.length ((bestR never (changesN s) (pre ++ [x])).1.flatMap treeC) R27 := by rw [hb]; exact ho28.snoc (x := x) rfl rfl
     refine Cm (Cn sz_110 (A3 rfl <| Ay rfl <| Ar rfl <| Al rfl <| Ad) (Ad) (i := 6) rfl (.here) (Own.one ho2) (.next <| .next <| .next <| .next <| .next <| .next <| .here) ?_)
     refine Ah <| Bb ?_
     refine E0 (.one (.next <| .next <| .here) <| .one (.next <| .next <| .here) <| .one (.next <| .next <| .next <| .here) <| .one (.next <| .next <| .next <| .here) <| .one (.next <| .here) <| .lastb (.next <| .next <| .last)) ?_
     refine .inl ⟨rfl, _, rfl, hle, ?_⟩
     refine ⟨_, _, _, hK3, ho2, fun h => ?_, by rw [hb]⟩
     rw [hb] at h; simp at h
    ·
     have hb := bestR_no h1 (fun h => h3 h.2)
     refine Am (Ad) (decide_eq_false h3) ?_
     refine Aw <| Bb ?_
     refine E0 (.one (.next <| .here) <| .one (.next <| .here) <| .one (.next <| .next <| .here) <| .one (.next <| .next <| .here) <| .one (.here) <| .lastb (.next <| .last)) ?_
     refine .inl ⟨rfl, _, rfl, hle, ?_⟩
     exact ⟨_, _, _, hK3, by rw [hb]; exact ho, fun h => hnl (by rw [hb] at h; exact h), by rw [hb]⟩
   ·
    have hb := bestR_no h1 (fun h => h2 h.1)
    refine Aw <| Ac <| Af <| Ce (.inr (by kernel_rfl)) (fun _ _ h => h) fun ds => ?_
    refine Aa rfl (Ag (Ar rfl <| Al rfl <| Ad)) ?_
    refine Aa rfl (Ap Bj (A6 rfl <| Ay rfl <| Ad) (Cell.own 4 rfl rfl)) ?_
    refine Aa rfl (Bs (Al rfl <| Ad) (Ad)) ?_
    refine Aa rfl (Ag (Ad)) ?_
    refine At rfl rfl (Ad) (.inl (congrArg Value.bool (decide_eq_false h2))) rfl ?_
    refine At rfl rfl (Al rfl <| Ad) (.inl (congrArg Value.bool (decide_eq_false h2))) rfl ?_
    refine Aa rfl (A7 (Ar rfl <| Ad) (decide_eq_false h2) Ab) ?_
    refine Ah <| Ac <| Am (Ad) rfl ?_
    refine Aw <| Bb ?_
    refine E0 (.one (.next <| .here) <| .one (.next <| .here) <| .one (.next <| .next <| .here) <| .one (.next <| .next <| .here) <| .one (.here) <| .lastb (.next <| .last)) ?_
    refine .inl ⟨rfl, _, rfl, hle, ?_⟩
    exact ⟨_, _, _, hK3, by rw [hb]; exact ho, fun h => hnl (by rw [hb] at h; exact h), by rw [hb]⟩
 obtain ⟨es2, v4, R4, hK2, ho, hnl, rfl⟩ := hJ
 rw [bests_one hv] at ho hnl
 rw [bests_two hv]
 have hbl := bestsL_len hv
 refine Bb <| Ac <| WC_freezeRM (σ := ⟨_, _⟩) (by intro m hm; exact .tail _ (.tail _ hm)) ho (.s <| .s <| .s <| .z) .last fun F29 hF30 hz31 => ?_
 have hsp := ho.sl (fun _ => rfl) hz31 (by omega)
 refine Af <| Cv (.inl rfl) (fun _ _ h => h) (.cons_cons _ <| .cons_cons _ <| .cons_cons _ <| .refl _) [3] (by kernel_rfl) fun ds => ?_
 refine A5 0 rfl (by kernel_rfl) (by kernel_rfl) (by kernel_rfl) (by kernel_rfl) rfl rfl (fun _ h => h.drop (.cons_cons _ <| .cons_cons _ <| .cons_cons _ <| .refl _)) (fun _ _ _ h => h) (Ap one_110 (Ar rfl <| Al rfl <| Ad) (Cell.own 1 rfl rfl)) ?_
 refine A5 1 rfl (by kernel_rfl) (by kernel_rfl) (by kernel_rfl) (by kernel_rfl) rfl rfl (fun _ h => h.drop (.cons_cons _ <| .cons_cons _ <| .cons_cons _ <| .refl _)) (fun _ _ _ h => h) (Ap Bj (Ar rfl <| Al rfl <| Ad) (Cell.own 0 rfl rfl)) ?_
 refine WX_x0 2 rfl (by kernel_rfl) (Cn sz_110 (Ay rfl <| Al rfl <| Ad) (Al rfl <| Ad) (i := 1) rfl (.here) (by first | rfl | exact hsp.plain.one) (.next <| .here) ⟨fun _ _ => (fun _ h => h.drop (.cons_cons _ <| .cons_cons _ <| .cons_cons _ <| .refl _)), ?_⟩)
 refine WX_x0 3 rfl (by kernel_rfl) (Cn sz_3 (Ay rfl <| Ad) (Ad) (i := 0) rfl (.here) (by first | rfl | exact hsp.plain.one) (.here) ⟨(fun h => nomatch h), ?_⟩)
 refine Ct (by kernel_rfl) ?_ _
 refine Ac <| A4 <| post_retM rfl (.one one_110 (Ay rfl <| Al rfl <| Ad) (Cell.own 1 rfl rfl) (.one Bj (Ay rfl <| Ad) (Cell.own 0 rfl rfl) .nil)) (.cons (.next <| .next <| .here) <| .nil) rfl ?_
 exact ⟨es2, rfl, hK2, _, rfl, hsp, hnl⟩
end Go.Proofs.Ytccogmkhijgelaa
namespace Go.Proofs.Ytccogmkhijgelaa
open Go.RowKit
section
variable {P : Program} {n : Nat} {B : Base} {e : Env} {σ : St} {d : Option Nat} {ty : TypeId} {pos : String} {af : Array Edge} {gd : Option (Nat × Bool)}
theorem q_sliceArrAt {T E s m k j : Nat} {a : Addr} {x y : Operand} {kd : IntKind} {i : Int} (hT : P.underlying T = some (.array m E)) (hE : SizeT P E s) (hx : ev e x = .pointer (some (addc a j))) (hy : ev e y = .int kd i) (hi : i = (k : Int)) (hle : k ≤ m) (hm : 0 < m) :
   OpR P B ⟨d, .slice T x none (some y) none, ty, pos, af, gd⟩ e σ (subslice (.slice (some (addc a j)) m m) 0 k s) := fun w _ => by
 subst hi
 have hs := Cp (P := P) (T := E) (s := s) hE
 have h0 : ¬ m = 0 := by omega
 simp [execOp, hx, hy, Instr.sliceAt, Instr.sureAddr, Instr.sliceBounds, Instr.sliceBound, asIntOf, Cc hT, hs, Addr.add, subslice, hle, h0, addc]
end
theorem tree_front {F : Heap} {v : Value} {xs : List (List Int)} (h : Sl F v 5 treeC xs) {i : Nat} (hi : i < xs.length) : Ints F (.slice (some (addc (base v) (i * 5))) 5 5) ((List.range 5).map (upN xs[i])) := by
 refine ⟨⟨_, _, rfl, fun _ x hx => by cases hx; rfl, by simp, by simp, by simp⟩, fun k hk j u hu => ?_⟩
 have hk5 : k < 5 := by simpa using hk
 have hu2 : j = 0 ∧ u = .int .i64 (upN xs[i] k) := by
   cases j with
   | zero => simp [intE] at hu; exact ⟨rfl, hu.symm⟩
   | succ j => simp [intE] at hu
 obtain ⟨rfl, rfl⟩ := hu2
 have h2 := h.cells i hi k (.int .i64 (upN xs[i] k)) (by have := Cl (l := xs[i]) hk5; rwa [show 0 + k * 1 = k by omega] at this)
 have e : addc (base (.slice (some (addc (base v) (i * 5))) 5 5)) (k * 1 + 0) = addc (base v) (i * 5 + k) := by simp [base, addc]; omega
 rw [e]; exact h2
theorem tree_cut {F : Heap} {v : Value} {xs : List (List Int)} (h : Sl F v 5 treeC xs) {i k : Nat} (hi : i < xs.length) (hk : xs[i].length = k) (h5 : k ≤ 5) : Ints F (subslice (.slice (some (addc (base v) (i * 5))) 5 5) 0 k 1) xs[i] := by
 have h1 := (tree_front h hi).to (k := k) (by simpa using h5)
 have e : ((List.range 5).map (upN xs[i])).take k = xs[i] := by
   apply List.ext_getElem
   · simp; omega
   · intro j h1 h2
     simp [C8 h2]
 rw [e] at h1
 exact h1
end Go.Proofs.Ytccogmkhijgelaa
namespace Go.Proofs.Ytccogmkhijgelaa
open Go.RowKit
theorem bd_110 : Body Try.prog 110 := Bq (by kernel_rfl)
theorem bd_112 : Body Try.prog 112 := Bq (by kernel_rfl)
theorem bd_75 : Body Try.prog 75 := Bq (by kernel_rfl)
theorem bd_76 : Body Try.prog 76 := Bq (by kernel_rfl)
set_option maxRecDepth 100000 in
theorem indexTree_ok {F : Heap} {v : Value} {xs : List (List Int)} (h : Sl F v 5 treeC xs) (p : _ → Bool) {g : FuncId} {cs : List Value} (hg : Body Try.prog g) (hp : ∀ k (hk : k < xs.length), Ok Try.prog g ([Value.agg (treeC xs[k]).toArray] ++ cs).toArray F fun r _ => r = .bool (p xs[k])) : Ok Try.prog 112 [v, .func (.func g) #[] cs.toArray].toArray F fun r _ => r = .int .i64 (findI p xs) := by
 refine Ok.intro Try.func112 rfl Try.ntmps112 rfl fun w0 => ?_
 have hlen := h.plain.lt
 refine Af <| Ai fun ds => Aa rfl (Ae Ab) ?_
 refine Ah <| Ac <| Af <| Af <| Ai fun ds => Aa rfl (Ag (Al rfl <| Aj rfl)) ?_
 refine Aa rfl (Bk sl_110 (Ad) h.plain) ?_
 refine Aa rfl (Ag Ab) ?_
 refine Ah <| Ac <| Az <| Bu [4, 5, 8, 9, 10, 11, 12, 13, 14, 15, 16, 17, 18] (fun m e σ => ∃ k : Nat, m + k = xs.length ∧ e 8 = .int .i64 k ∧ σ = ⟨F, []⟩ ∧ ∀ j (hj : j < xs.length), j < k → p xs[j] = false) (xs.length) ?_ ?_
 · exact ⟨0, by omega, (Ad), rfl, fun j hj h => absurd h (by omega)⟩
 ·
  rintro m e _ ⟨k, hm, hs8, rfl, hno⟩
  by_cases hlt : k < xs.length
  ·
   refine Af <| Ai fun ds => Aa rfl (Bw (As rfl hs8) (Ak rfl <| Al rfl <| Ad)) ?_
   refine Ah <| Ac <| Af <| Aq (Ad) (by first | rfl | exact decide_eq_true (by omega)) ?_
   by_cases hpk : p xs[k] = true
   ·
    refine Aw <| Ac <| Af <| Az <| Af <| Ai fun ds => Aa rfl (Ag (Al rfl <| As rfl hs8)) ?_
    refine Aa rfl (Ae (Ad)) ?_
    refine Ah <| Ac <| Af <| Ai fun ds => Aa rfl (Ag (Ar rfl <| Al rfl <| Ak rfl <| Ay rfl <| Aj rfl)) ?_
    refine Aa rfl (Ag (Ay rfl <| Ak rfl <| Ay rfl <| Aj rfl)) ?_
    refine Aa rfl (Ag (Ar rfl <| Ad)) ?_
    refine Aa rfl (A9  sl_110 (Al rfl <| Ad) h.plain (Ad) rfl (by omega)) ?_
    refine Aa rfl (Bf B4 (Ad) rfl rfl (h.whole (by omega))) ?_
    refine Bx rfl (Bi hg (Ay rfl <| Ad) (.cons (Ad) .nil) (hp k hlt) (fun _ _ h => h)) ?_
    refine Ah <| Ac <| Aq (Ad) hpk ?_
    refine Af <| Ai fun ds => Aa rfl (Ag (Ay rfl <| Ar rfl <| Ad)) ?_
    refine Aa rfl (Ae (Ad)) ?_
    refine Ah <| Ac <| A4 <| Bl (Bg (Bg (Bl (Bg ?_))))
    refine Ax rfl (.tmp (Ad) .nil) ?_
    show _ = _
    rw [Dt hlt hpk hno]; rfl
   ·
    replace hpk : p xs[k] = false := by simpa using hpk
    refine Aw <| Ac <| Af <| Az <| Af <| Ai fun ds => Aa rfl (Ag (Al rfl <| As rfl hs8)) ?_
    refine Aa rfl (Ae (Ad)) ?_
    refine Ah <| Ac <| Af <| Ai fun ds => Aa rfl (Ag (Ar rfl <| Al rfl <| Ak rfl <| Ay rfl <| Aj rfl)) ?_
    refine Aa rfl (Ag (Ay rfl <| Ak rfl <| Ay rfl <| Aj rfl)) ?_
    refine Aa rfl (Ag (Ar rfl <| Ad)) ?_
    refine Aa rfl (A9  sl_110 (Al rfl <| Ad) h.plain (Ad) rfl (by omega)) ?_
    refine Aa rfl (Bf B4 (Ad) rfl rfl (h.whole (by omega))) ?_
    refine Bx rfl (Bi hg (Ay rfl <| Ad) (.cons (Ad) .nil) (hp k hlt) (fun _ _ h => h)) ?_
    refine Ah <| Ac <| Am (Ad) hpk ?_
    refine Aw <| Bb <| Ac <| Ai fun ds => Aa rfl (Br (A6 rfl <| Al rfl <| As rfl hs8) Ab rfl (by omega) (by omega)) ?_
    refine Aa rfl (Ag (Ad)) ?_
    refine Ah <| Ac ⟨_, m - 1, Off.eq (Dj rfl <| ou2 rfl <| Dk rfl <| Bd), by omega, ?_⟩
    refine ⟨k + 1, by omega, (Ad), rfl, fun j hj hjk => ?_⟩
    rcases Nat.lt_succ_iff_lt_or_eq.1 hjk with hjk | rfl
    · exact hno j hj hjk
    · exact hpk
  ·
   refine Af <| Ai fun ds => Aa rfl (Bw (As rfl hs8) (Ak rfl <| Al rfl <| Ad)) ?_
   refine Ah <| Ac <| Af <| Am (Ad) (by first | rfl | exact decide_eq_false (by omega)) ?_
   refine Bn ?_
   refine Ba <| Ba <| Bh <| Ac <| Af <| Ai fun ds => Aa rfl (Ae Ab) ?_
   refine Ah <| Ac <| A4 <| Ax rfl (.tmp (Ad) .nil) ?_
   show _ = _
   rw [Eo fun j hj => hno j hj (by omega)]; rfl
set_option maxRecDepth 100000 in
theorem Dg {F : Heap} {v : Value} {xs : List (List Int)} (h : Sl F v 5 treeC xs) (p : _ → Bool) {g : FuncId} {cs : List Value} (hg : Body Try.prog g) (hp : ∀ k (hk : k < xs.length), Ok Try.prog g ([Value.agg (treeC xs[k]).toArray] ++ cs).toArray F fun r _ => r = .bool (p xs[k])) : Ok Try.prog 78 [v, .func (.func g) #[] cs.toArray].toArray F fun r _ => r = .bool (xs.any p) := by
 refine Ok.intro Try.func78 rfl Try.ntmps78 rfl fun w0 => ?_
 refine Af <| Ai fun ds => Aa rfl (Ae Ab) ?_
 refine Ah <| Ac <| Af <| Ai fun ds => Aa rfl (Ag (Al rfl <| Aj rfl)) ?_
 refine Aa rfl (Ag (Ar rfl <| Aj rfl)) ?_
 refine Bx rfl (Bi bd_112 A0 (.cons (Al rfl <| Ad) (.cons (Ad) .nil)) (indexTree_ok h p hg hp) (fun _ _ h => h)) ?_
 refine Aa rfl (Eg (Ad) Ab) ?_
 refine Aa rfl (Ae (Ad)) ?_
 refine Ah <| Ac <| A4 <| Ax rfl (.tmp (Ad) .nil) ?_
 show _ = _
 rw [← findI_any]; rfl
set_option maxRecDepth 100000 in
theorem cloneInt_ok {F : Heap} {v : Value} {xs : List Int} (h : Ints F v xs) (hn : xs.length ≤ 1000) : Ok Try.prog 76 [v].toArray F fun u F' => Ints F' u xs := by
 obtain ⟨a0, c0, rfl, g1, g2, g3, g4⟩ := h.plain
 refine Ok.intro Try.func76 rfl Try.ntmps76 rfl fun w0 => ?_
 cases a0
 ·
  refine Af <| Ai fun ds => Aa rfl (Ae Ab) ?_
  refine Ah <| Ac <| Af <| Af <| Ai fun ds => Aa rfl (Ag (Al rfl <| Aj rfl)) ?_
  refine Aa rfl (q_eqlNil Try.underlying26 (Ad) Ab) ?_
  refine Ah <| Ac <| Aq (Ad) rfl ?_
  refine Af <| Ai fun ds => Aa rfl (Ae Ab) ?_
  refine Ah <| Ac <| A4 <| Bg ?_
  refine Ax rfl (.tmp (Ad) .nil) ?_
  obtain ⟨h0, -⟩ := g2 rfl
  have : xs = [] := List.eq_nil_of_length_eq_zero h0
  subst this
  exact Sl.nil
 ·
  refine Af <| Ai fun ds => Aa rfl (Ae Ab) ?_
  refine Ah <| Ac <| Af <| Af <| Ai fun ds => Aa rfl (Ag (Al rfl <| Aj rfl)) ?_
  refine Aa rfl (q_eqlNil Try.underlying26 (Ad) Ab) ?_
  refine Ah <| Ac <| Am (Ad) rfl ?_
  refine Aw <| Ac <| Af <| Ai fun ds => Bm rfl (B6 Be Da rfl .nil rfl rfl (by decide) (by simp [Value.oneCell']) fun b1 hb1 nb1 => ?_)
  refine Aa rfl (Ag (Ay rfl <| Aj rfl)) ?_
  refine Bm rfl (B9 Be el_3 (Al rfl <| Ad) (E2 rfl) (Ad) h.srcInt (by omega) (by omega) (.z) .box fun v2 R3 ho4 => ?_)
  have ho1 : Own 3 1 v2 xs.length (xs.flatMap intE) R3 := by simpa using ho4
  refine WL_freezeR (σ := ⟨_, _⟩) (by rfl) ho1 (.z) .more fun F5 hF6 hz7 => ?_
  have hn7 := ho1.sl (fun _ => rfl) hz7 (by omega)
  refine Aa rfl (Ae (Ad)) ?_
  refine Ah <| Ac <| A4 <| Ax rfl (.tmp (Ad) .nil) ?_
  exact hn7
set_option maxRecDepth 100000 in
theorem cloneInt_own {F : Heap} {v : Value} {xs : List Int} (h : Ints F v xs) (hn : xs.length ≤ 1000) : OkN Try.prog 76 [v].toArray F fun u _F' Hn => Own 3 1 u xs.length (xs.flatMap intE) Hn := by
 obtain ⟨a0, c0, rfl, g1, g2, g3, g4⟩ := h.plain
 refine OkN.intro Try.func76 rfl Try.ntmps76 rfl fun w0 => ?_
 cases a0
 ·
  refine Af <| Ai fun ds => Aa rfl (Ae Ab) ?_
  refine Ah <| Ac <| Af <| Af <| Ai fun ds => Aa rfl (Ag (Al rfl <| Aj rfl)) ?_
  refine Aa rfl (q_eqlNil Try.underlying26 (Ad) Ab) ?_
  refine Ah <| Ac <| Aq (Ad) rfl ?_
  refine Af <| Ai fun ds => Aa rfl (Ae Ab) ?_
  refine Ah <| Ac <| A4 <| Bg ?_
  refine Es rfl (.tmp (Ad) .nil) (List.nil_sublist _) ?_
  obtain ⟨h0, -⟩ := g2 rfl
  have : xs = [] := List.eq_nil_of_length_eq_zero h0
  subst this
  exact El
 ·
  refine Af <| Ai fun ds => Aa rfl (Ae Ab) ?_
  refine Ah <| Ac <| Af <| Af <| Ai fun ds => Aa rfl (Ag (Al rfl <| Aj rfl)) ?_
  refine Aa rfl (q_eqlNil Try.underlying26 (Ad) Ab) ?_
  refine Ah <| Ac <| Am (Ad) rfl ?_
  refine Aw <| Ac <| Af <| Ai fun ds => Bm rfl (B6 Be Da rfl .nil rfl rfl (by decide) (by simp [Value.oneCell']) fun b1 hb1 nb1 => ?_)
  refine Aa rfl (Ag (Ay rfl <| Aj rfl)) ?_
  refine Bm rfl (B9 Be el_3 (Al rfl <| Ad) (E2 rfl) (Ad) h.srcInt (by omega) (by omega) (.z) .box fun v2 R3 ho4 => ?_)
  have ho1 : Own 3 1 v2 xs.length (xs.flatMap intE) R3 := by simpa using ho4
  refine Aa rfl (Ae (Ad)) ?_
  refine Ah <| Ac <| A4 <| Es rfl (.tmp (Ad) .nil) (List.sublist_append_left _ _) ?_
  exact ho1
def AskR (F : Heap) (u : Value) (s : Stm) : Prop := ∃ v, u = .tuple #[v, .int .i64 (askedE s).2.1, .int .i64 (askedE s).2.2] ∧ Sl F v 5 treeC (askedE s).1
theorem AskR.ok {F : Heap} {u : Value} {s : Stm} (h : AskR F u s) (h0 : askedT s = 0) : ∃ v, u = .tuple #[v, .int .i64 (bestsM s), .int .i64 0] ∧ Sl F v 5 treeC (bestsL s) := by
 unfold AskR at h; rw [askedE_ok h0] at h; exact h
theorem AskR.bad {F : Heap} {u : Value} {s : Stm} (h : AskR F u s) (h0 : askedT s ≠ 0) : ∃ v, u = .tuple #[v, .int .i64 0, .int .i64 (askedT s)] := by
 unfold AskR at h; rw [askedE_bad h0] at h; obtain ⟨v, rfl, -⟩ := h; exact ⟨v, rfl⟩
theorem upV_ok {s : Stm} (h : bestsL s ≠ []) : upV (bestsM s) = bestsM s := if_neg fun h2 => h (bestsL_nil.2 h2)
set_option maxRecDepth 100000 in
theorem asked_ok {F : Heap} {vp ve : Value} {ps : List (Value × Edn)} {s : Stm} (hr : StmR F vp ve ps s) : Ok Try.prog 75 [.agg #[vp, ve]].toArray F fun u F' => AskR F' u s := by
 refine Ok.intro Try.func75 rfl Try.ntmps75 rfl fun w0 => ?_
 by_cases h0 : (checkT s).2.2 = 0
 ·
  have hv := Ea h0
  have hne := hv.ne
  refine Af <| Ai fun ds => Bm rfl (B2 (Aj rfl) rfl fun b1 hb1 nb1 => ?_)
  refine Aa rfl (Ae Ab) ?_
  refine Aa rfl (Ae Ab) ?_
  refine Aa rfl (Ae Ab) ?_
  refine Ah <| Ac <| Af <| Ai fun ds => Aa rfl (Bf B0 (Ar rfl <| Al rfl <| Ad) rfl rfl (A8 0 rfl)) ?_
  refine Bm rfl (D1 bd_65 A0 (.cons (Ad) .nil) (open_ok hr h0) fun v2 F3 R6 hr4 hF5 => ?_)
  obtain ⟨ba, kb, rfl, hX, rfl⟩ := hr4
  refine Aa rfl (Ag (Ad)) ?_
  refine Aa rfl (A1 (Ad) rfl) ?_
  refine Aa rfl (A1 (Al rfl <| Ad) rfl) ?_
  refine Aa rfl (Ae (Al rfl <| Ad)) ?_
  refine Aa rfl (Ae (Al rfl <| Ad)) ?_
  refine Ah <| Ac <| Af <| Af <| Ai fun ds => Aa rfl (Ag (Ad)) ?_
  refine Aa rfl (By (Ad) Ab) ?_
  refine Ah <| Ac <| Am (Ad) (by decide) ?_
  refine Aw <| Ac <| Af <| Ai fun ds => Aa rfl (Ag (Ar rfl <| Al rfl <| Ad)) ?_
  refine WL_order (.cons (.next <| .here) <| .cons (.here) <| .nil) ?_
  refine Bm rfl (x_callM bd_110 A0 (.cons (Ad) .nil) rfl (best_ok hX hv KnownT.nil) fun v11 F12 H15 hr13 hF14 => ?_)
  obtain ⟨es2, rfl, hK2, vb9, rfl, hsp, hnl⟩ := hr13
  refine Aa rfl (Ag (Ad)) ?_
  refine Aa rfl (A1 (Ad) rfl) ?_
  refine Aa rfl (A1 (Al rfl <| Ad) rfl) ?_
  refine Aa rfl (Ae (Al rfl <| Ad)) ?_
  refine Aa rfl (Ae (Al rfl <| Ad)) ?_
  refine Ah <| Ac <| Af <| Af ?_
  by_cases hb : bestsL s = []
  ·
   obtain rfl := hnl hb
   refine Ai fun ds => Aa rfl (Ag (Al rfl <| Ad)) ?_
   refine Aa rfl (q_eqlNil Try.underlying110 (Ad) Ab) ?_
   refine Ah <| Ac <| Aq (Ad) rfl ?_
   refine Af <| Ai fun ds => Aa rfl (Ae Ab) ?_
   refine Aa rfl (Ae Ab) ?_
   refine Aa rfl (Ae Ab) ?_
   refine Ah <| Ac <| A4 <| Bg ?_
   refine Ax rfl (.tmp (Ar rfl <| Ad) (.tmp (Al rfl <| Ad) (.tmp (Ad) .nil))) ?_
   unfold AskR; rw [askedE_bad (by rw [askedT_nil h0 hb]; decide), askedT_nil h0 hb]
   exact ⟨_, rfl, Sl.nil⟩
  ·
   obtain ⟨a0, c0, hv9, -, g2, -, -⟩ := hsp.plain
   subst hv9
   obtain ⟨a1, rfl⟩ : ∃ a1, a0 = some a1 := by cases a0 with | none => exact absurd (List.eq_nil_of_length_eq_zero (g2 rfl).1) hb | some a1 => exact ⟨a1, rfl⟩
   refine Ai fun ds => Aa rfl (Ag (Al rfl <| Ad)) ?_
   refine Aa rfl (q_eqlNil Try.underlying110 (Ad) Ab) ?_
   refine Ah <| Ac <| Am (Ad) rfl ?_
   refine Aw <| Ac <| Af <| Ai fun ds => Aa rfl (Ag (Ar rfl <| Al rfl <| Ad)) ?_
   refine Aa rfl (Ag (Ar rfl <| Al rfl <| Ad)) ?_
   refine Aa rfl (Ae (Al rfl <| Ad)) ?_
   refine Aa rfl (Ae (Al rfl <| Ad)) ?_
   refine Aa rfl (Ae Ab) ?_
   refine Ah <| Ac <| A4 <| Ax rfl (.tmp (Ar rfl <| Ad) (.tmp (Al rfl <| Ad) (.tmp (Ad) .nil))) ?_
   unfold AskR; rw [askedE_ok (askedT_some h0 hb), upV_ok hb]
   exact ⟨_, rfl, hsp⟩
 ·
  refine Af <| Ai fun ds => Bm rfl (B2 (Aj rfl) rfl fun b16 hb16 nb16 => ?_)
  refine Aa rfl (Ae Ab) ?_
  refine Aa rfl (Ae Ab) ?_
  refine Aa rfl (Ae Ab) ?_
  refine Ah <| Ac <| Af <| Ai fun ds => Aa rfl (Bf B0 (Ar rfl <| Al rfl <| Ad) rfl rfl (A8 0 rfl)) ?_
  refine Bx rfl (Bi bd_65 A0 (.cons (Ad) .nil) (open_bad hr h0) (fun _ _ h => h)) ?_
  refine Aa rfl (Ag (Ad)) ?_
  refine Aa rfl (A1 (Ad) rfl) ?_
  refine Aa rfl (A1 (Al rfl <| Ad) rfl) ?_
  refine Aa rfl (Ae (Al rfl <| Ad)) ?_
  refine Aa rfl (Ae (Al rfl <| Ad)) ?_
  refine Ah <| Ac <| Af <| Af <| Ai fun ds => Aa rfl (Ag (Ad)) ?_
  refine Aa rfl (By (Ad) Ab) ?_
  refine Ah <| Ac <| Aq (Ad) (decide_eq_true h0) ?_
  refine Af <| Ai fun ds => Aa rfl (Ag (Ar rfl <| Ad)) ?_
  refine Aa rfl (Ae Ab) ?_
  refine Aa rfl (Ae Ab) ?_
  refine Aa rfl (Ae (Ar rfl <| Ad)) ?_
  refine Ah <| Ac <| A4 <| Bg ?_
  refine Ax rfl (.tmp (Ar rfl <| Ad) (.tmp (Al rfl <| Ad) (.tmp (Ad) .nil))) ?_
  unfold AskR; rw [askedE_bad (by rw [askedT_bad h0]; exact h0), askedT_bad h0]
  exact ⟨_, rfl, Sl.nil⟩
def BestTR (F : Heap) (u : Value) (p : List Int × Int × Int × Int) : Prop := ∃ v, u = .tuple #[v, .int .i64 p.2.1, .int .i64 p.2.2.1, .int .i64 p.2.2.2] ∧ Ints F v p.1
theorem BestTR.mono {F F' : Heap} {u : Value} {p : List Int × Int × Int × Int} (h : BestTR F u p) (hF : F.le F') : BestTR F' u p := by obtain ⟨v, h1, h2⟩ := h; exact ⟨v, h1, h2.mono hF⟩
set_option maxRecDepth 100000 in
theorem best_top_ok {F : Heap} {vp ve : Value} {ps : List (Value × Edn)} {s : Stm} (hr : StmR F vp ve ps s) : Ok Try.prog 27 [.agg #[vp, ve]].toArray F fun u F' => BestTR F' u (bestTE s) := by
 have hle0 : F.le F := Heap.le_refl _
 refine Ok.intro Try.func27 rfl Try.ntmps27 rfl fun w0 => ?_
 by_cases hok : askedT s = 0
 ·
  obtain ⟨h0, hb⟩ := askedT_ok hok
  have hv := Ea h0
  have hne := hv.ne
  have hlen := hr.len
  have hL1 := hr.eds.plain.lt
  have h0l : 0 < (bestsL s).length := List.length_pos_iff.2 hb
  have hbl : ((bestsL s)[0]'h0l).length = s.editions.length := (bestsL_at (List.getElem_mem h0l)).1
  have hbl2 := bestsL_len hv
  refine Af <| Ai fun ds => Bm rfl (B2 (Aj rfl) rfl fun b1 hb1 nb1 => ?_)
  refine Aa rfl (Ae Ab) ?_
  refine Aa rfl (Ae Ab) ?_
  refine Aa rfl (Ae Ab) ?_
  refine Aa rfl (Ae Ab) ?_
  refine Ah <| Ac <| Af <| Ai fun ds => Aa rfl (Bf B0 (Ay rfl <| Ad) rfl rfl (A8 0 rfl)) ?_
  refine Bm rfl (Ch bd_75 A0 (.cons (Ad) .nil) (asked_ok hr) fun v2 F3 hr4 hF5 => ?_)
  replace hr := hr.mono hF5
  replace hle0 := Heap.le_trans hle0 hF5
  obtain ⟨vq, rfl, hq⟩ := hr4.ok hok
  refine Aa rfl (Ag (Ad)) ?_
  refine Aa rfl (A1 (Ad) rfl) ?_
  refine Aa rfl (A1 (Al rfl <| Ad) rfl) ?_
  refine Aa rfl (A1 (Ar rfl <| Ad) rfl) ?_
  refine Aa rfl (Ae (Ar rfl <| Ad)) ?_
  refine Aa rfl (Ae (Ar rfl <| Ad)) ?_
  refine Aa rfl (Ae (Ar rfl <| Ad)) ?_
  refine Ah <| Ac <| Af <| Af <| Ai fun ds => Aa rfl (Ag (Ad)) ?_
  refine Aa rfl (By (Ad) Ab) ?_
  refine Ah <| Ac <| Am (Ad) (by decide) ?_
  refine Aw <| Ac <| Af ?_
  have hleS := hle0
  refine Cv (.inl rfl) (fun _ _ h => h) (.cons_cons _ <| .refl _) [] (by kernel_rfl) fun ds => ?_
  refine A5 0 rfl (by kernel_rfl) (by kernel_rfl) (by kernel_rfl) (by kernel_rfl) rfl rfl (fun _ h => h.drop (.cons_cons _ <| .refl _)) (fun _ _ _ h => h) (Ag (Ay rfl <| Ad)) ?_
  refine A5 1 rfl (by kernel_rfl) (by kernel_rfl) (by kernel_rfl) (by kernel_rfl) rfl rfl (fun _ h => h.drop (.cons_cons _ <| .refl _)) (fun _ _ _ h => h) (A9 (k := 0) sl_110 (Ad) hq.plain Ab rfl h0l) ?_
  refine A5 2 rfl (by kernel_rfl) (by kernel_rfl) (by kernel_rfl) (by kernel_rfl) rfl rfl (fun _ h => h.drop (.cons_cons _ <| .refl _)) (fun _ _ _ h => h) (Ao Bv (A3 rfl <| Al rfl <| Ad)) ?_
  refine A5 3 rfl (by kernel_rfl) (by kernel_rfl) (by kernel_rfl) (by kernel_rfl) rfl rfl (fun _ h => h.drop (.cons_cons _ <| .refl _)) (fun _ _ _ h => h) (Ap Bz (Ad) (Cell.own 0 rfl rfl)) ?_
  refine A5 4 rfl (by kernel_rfl) (by kernel_rfl) (by kernel_rfl) (by kernel_rfl) rfl rfl (fun _ h => h.drop (.cons_cons _ <| .refl _)) (fun _ _ _ h => h) (Bk B5 (Ad) hr.eds.plain) ?_
  refine A5 5 rfl (by kernel_rfl) (by kernel_rfl) (by kernel_rfl) (by kernel_rfl) rfl rfl (fun _ h => h.drop (.cons_cons _ <| .refl _)) (fun _ _ _ h => h) (q_sliceArrAt (s := 1) (k := s.editions.length) Try.underlying100 (Cx (by kernel_rfl)) (Ar rfl <| Al rfl <| Ad) (Ad) (by omega) (by omega) (by omega)) ?_
  refine A5 7 rfl (by kernel_rfl) (by kernel_rfl) (by kernel_rfl) (by kernel_rfl) rfl rfl (fun _ h => h.drop (.cons_cons _ <| .refl _)) (fun _ _ _ h => h) (Ag (A6 rfl <| Al rfl <| Ad)) ?_
  refine A5 8 rfl (by kernel_rfl) (by kernel_rfl) (by kernel_rfl) (by kernel_rfl) rfl rfl (fun _ h => h.drop (.cons_cons _ <| .refl _)) (fun _ _ _ h => h) (Ag (A6 rfl <| Ar rfl <| Al rfl <| Ad)) ?_
  refine A5 9 rfl (by kernel_rfl) (by kernel_rfl) (by kernel_rfl) (by kernel_rfl) rfl rfl (fun _ h => h.drop (.cons_cons _ <| .refl _)) (fun _ _ _ h => h) (Bk sl_110 (Ad) hq.plain) ?_
  refine Dz 6 rfl (by kernel_rfl) rfl (Ch bd_76 A0 (.cons (Ar rfl <| Al rfl <| Ad) .nil) (cloneInt_ok (tree_cut hq h0l hbl (by omega)) (by omega)) fun v6 F7 hr8 hF9 => ⟨fun _ _ _ h => (h.drop (.cons_cons _ <| .refl _)).weak hF9 hleS, ?_⟩)
  have hcl := hr8
  refine A5 10 rfl (by kernel_rfl) (by kernel_rfl) (by kernel_rfl) (by kernel_rfl) rfl rfl (fun _ h => (h.drop (.cons_cons _ <| .refl _)).weak hF9 hleS) (fun _ _ _ h => h) (Ae (Ad)) ?_
  refine A5 11 rfl (by kernel_rfl) (by kernel_rfl) (by kernel_rfl) (by kernel_rfl) rfl rfl (fun _ h => (h.drop (.cons_cons _ <| .refl _)).weak hF9 hleS) (fun _ _ _ h => h) (Ae (Ay rfl <| Ad)) ?_
  refine A5 12 rfl (by kernel_rfl) (by kernel_rfl) (by kernel_rfl) (by kernel_rfl) rfl rfl (fun _ h => (h.drop (.cons_cons _ <| .refl _)).weak hF9 hleS) (fun _ _ _ h => h) (Ae (Ar rfl <| Al rfl <| Ad)) ?_
  refine A5 13 rfl (by kernel_rfl) (by kernel_rfl) (by kernel_rfl) (by kernel_rfl) rfl rfl (fun _ h => (h.drop (.cons_cons _ <| .refl _)).weak hF9 hleS) (fun _ _ _ h => h) (Ae Ab) ?_
  refine Ct (by kernel_rfl) ?_ _
  refine Ac <| A4 <| Ax rfl (.tmp (Ar rfl <| Al rfl <| Ad) (.tmp (Ar rfl <| Ad) (.tmp (Al rfl <| Ad) (.tmp (Ad) .nil)))) ?_
  rw [bestTE_ok hok, List.getElem?_eq_getElem h0l]
  exact ⟨_, rfl, hcl⟩
 ·
  refine Af <| Ai fun ds => Bm rfl (B2 (Aj rfl) rfl fun b10 hb10 nb10 => ?_)
  refine Aa rfl (Ae Ab) ?_
  refine Aa rfl (Ae Ab) ?_
  refine Aa rfl (Ae Ab) ?_
  refine Aa rfl (Ae Ab) ?_
  refine Ah <| Ac <| Af <| Ai fun ds => Aa rfl (Bf B0 (Ay rfl <| Ad) rfl rfl (A8 0 rfl)) ?_
  refine Bm rfl (Ch bd_75 A0 (.cons (Ad) .nil) (asked_ok hr) fun v11 F12 hr13 hF14 => ?_)
  obtain ⟨vq, rfl⟩ := hr13.bad hok
  refine Aa rfl (Ag (Ad)) ?_
  refine Aa rfl (A1 (Ad) rfl) ?_
  refine Aa rfl (A1 (Al rfl <| Ad) rfl) ?_
  refine Aa rfl (A1 (Ar rfl <| Ad) rfl) ?_
  refine Aa rfl (Ae (Ar rfl <| Ad)) ?_
  refine Aa rfl (Ae (Ar rfl <| Ad)) ?_
  refine Aa rfl (Ae (Ar rfl <| Ad)) ?_
  refine Ah <| Ac <| Af <| Af <| Ai fun ds => Aa rfl (Ag (Ad)) ?_
  refine Aa rfl (By (Ad) Ab) ?_
  refine Ah <| Ac <| Aq (Ad) (decide_eq_true hok) ?_
  refine Af <| Ai fun ds => Aa rfl (Ag (Ar rfl <| Ad)) ?_
  refine Aa rfl (Ae Ab) ?_
  refine Aa rfl (Ae Ab) ?_
  refine Aa rfl (Ae Ab) ?_
  refine Aa rfl (Ae (Ar rfl <| Al rfl <| Ad)) ?_
  refine Ah <| Ac <| A4 <| Bg ?_
  refine Ax rfl (.tmp (Ar rfl <| Al rfl <| Ad) (.tmp (Ar rfl <| Ad) (.tmp (Al rfl <| Ad) (.tmp (Ad) .nil)))) ?_
  rw [bestTE_bad hok]
  exact ⟨_, rfl, Sl.nil⟩
end Go.Proofs.Ytccogmkhijgelaa
namespace Go.Proofs.Ytccogmkhijgelaa
open Go.RowKit
theorem zr_118 : ZeroT Try.prog 118 (.nilFunc) := C7 (by kernel_rfl)
theorem bd_18 : Body Try.prog 18 := Bq (by kernel_rfl)
theorem bd_78 : Body Try.prog 78 := Bq (by kernel_rfl)
theorem bd_79 : Body Try.prog 79 := Bq (by kernel_rfl)
theorem bd_80 : Body Try.prog 80 := Bq (by kernel_rfl)
theorem bd_81 : Body Try.prog 81 := Bq (by kernel_rfl)
theorem sz_118 : SizeT Try.prog 118 1 := Cx (by kernel_rfl)
set_option maxRecDepth 100000 in
theorem first1_ok {F : Heap} {c TB i : Nat} (hc : F c = some (bx TB [.int .i64 (i : Int)])) (hi : i < 5) (t : List Int) : Ok Try.prog 79 [.agg (treeC t).toArray, .pointer (some ⟨c, 0, none⟩)].toArray F fun u _ => u = .bool (decide (upN t i = -1)) := by
 refine Ok.intro Try.func79 rfl Try.ntmps79 rfl fun w0 => ?_
 refine Af <| Ai fun ds => Bm rfl (B2 (Aj rfl) rfl fun b1 hb1 nb1 => ?_)
 refine Aa rfl (Ae Ab) ?_
 refine Ah <| Ac <| Af <| Ai fun ds => Aa rfl (Ap Bj (Ar rfl <| Aj rfl) (CellF.own hc rfl).cell) ?_
 refine Aa rfl (Bt (k := i) Cs (Ar rfl <| Ad) (Ad) rfl hi) ?_
 refine Aa rfl (Ap Bj (Ad) (Cell.own 0 rfl (Cl hi))) ?_
 refine Aa rfl (Bs (Ad) Ab) ?_
 refine Aa rfl (Ae (Ad)) ?_
 refine Ah <| Ac <| A4 <| Ax rfl (.tmp (Ad) .nil) ?_
 rfl
set_option maxRecDepth 100000 in
theorem from1_ok {F : Heap} {c e TB TE a i : Nat} (hc : F c = some (bx TB [.int .i64 (i : Int)])) (he : F e = some (bx TE [.int .i64 (a : Int)])) (hi : i < 5) (t : List Int) : Ok Try.prog 80 [.agg (treeC t).toArray, .pointer (some ⟨c, 0, none⟩), .pointer (some ⟨e, 0, none⟩)].toArray F fun u _ => u = .bool (fromB a i t) := by
 refine Ok.intro Try.func80 rfl Try.ntmps80 rfl fun w0 => ?_
 refine Af <| Ai fun ds => Bm rfl (B2 (Aj rfl) rfl fun b1 hb1 nb1 => ?_)
 refine Aa rfl (Ae Ab) ?_
 refine Ah <| Ac <| Af <| Cu (.inl rfl) (fun _ _ h => h) (by kernel_rfl) (by kernel_rfl) fun ds => ?_
 refine Bc rfl (Ap Bj (Ar rfl <| Aj rfl) (CellF.own hc rfl).cell) ?_
 refine Bc rfl (Bt (k := i) Cs (Ar rfl <| Ad) (Ad) rfl hi) ?_
 refine Bc rfl (Ap Bj (Ad) (Cell.own 0 rfl (Cl hi))) ?_
 refine Bc rfl (Ap Bj (Ay rfl <| Al rfl <| Aj rfl) (CellF.own he rfl).cell) ?_
 refine Bc rfl (Bs (Al rfl <| Ad) (Ad)) ?_
 refine Bc rfl (Ae (Ad)) ?_
 refine C4 ?_
 refine Ac <| A4 <| Ax rfl (.tmp (Ad) .nil) ?_
 rfl
set_option maxRecDepth 100000 in
theorem from2_ok {F : Heap} {c e g TB TE TG a i : Nat} (hc : F c = some (bx TB [.int .i64 (i : Int)])) (he : F e = some (bx TE [.int .i64 (a : Int)])) (hg : F g = some (bx TG [.func (.func 80) #[] #[.pointer (some ⟨c, 0, none⟩), .pointer (some ⟨e, 0, none⟩)]])) (hi : i < 5) (t : List Int) : Ok Try.prog 81 [.agg (treeC t).toArray, .pointer (some ⟨g, 0, none⟩)].toArray F fun u _ => u = .bool (!(fromB a i t)) := by
 refine Ok.intro Try.func81 rfl Try.ntmps81 rfl fun w0 => ?_
 refine Af <| Ai fun ds => Bm rfl (B2 (Aj rfl) rfl fun b1 hb1 nb1 => ?_)
 refine Aa rfl (Ae Ab) ?_
 refine Ah <| Ac <| Af <| Ai fun ds => Aa rfl (Ap one_118 (Ar rfl <| Aj rfl) (CellF.own hg rfl).cell) ?_
 refine Aa rfl (Bf B4 (Ar rfl <| Ad) rfl rfl (A8 0 rfl)) ?_
 refine Bx rfl (Bi bd_80 (Al rfl <| Ad) (.cons (Ad) .nil) (from1_ok hc he hi t) (fun _ _ h => h)) ?_
 refine Aa rfl (Ci (Ad)) ?_
 refine Aa rfl (Ae (Ad)) ?_
 refine Ah <| Ac <| A4 <| Ax rfl (.tmp (Ad) .nil) ?_
 rfl
set_option maxRecDepth 100000 in
theorem first_top_ok {F : Heap} {vp ve : Value} {ps : List (Value × Edn)} {s : Stm} (hr : StmR F vp ve ps s) : Ok Try.prog 29 [.agg #[vp, ve]].toArray F fun u F' => NatsR F' u (firstTE s) := by
 have hle0 : F.le F := Heap.le_refl _
 refine Ok.intro Try.func29 rfl Try.ntmps29 rfl fun w0 => ?_
 by_cases hok : askedT s = 0
 ·
  obtain ⟨h0, hb⟩ := askedT_ok hok
  have hv := Ea h0
  have hne := hv.ne
  have hlen := hr.len
  have hL1 := hr.eds.plain.lt
  refine Af <| Ai fun ds => Bm rfl (B2 (Aj rfl) rfl fun b1 hb1 nb1 => ?_)
  refine Aa rfl (Ae Ab) ?_
  refine Aa rfl (Ae Ab) ?_
  refine Ah <| Ac <| Af <| Ai fun ds => Aa rfl (Bf B0 (Ar rfl <| Ad) rfl rfl (A8 0 rfl)) ?_
  refine Bm rfl (Ch bd_75 A0 (.cons (Ad) .nil) (asked_ok hr) fun v2 F3 hr4 hF5 => ?_)
  replace hr := hr.mono hF5
  obtain ⟨vq, rfl, hq⟩ := hr4.ok hok
  refine Aa rfl (Ag (Ad)) ?_
  refine Aa rfl (A1 (Ad) rfl) ?_
  refine Aa rfl (A1 (Al rfl <| Ad) rfl) ?_
  refine Aa rfl (A1 (Ar rfl <| Ad) rfl) ?_
  refine Aa rfl (Ae (Ar rfl <| Ad)) ?_
  refine Aa rfl (Ae (Ar rfl <| Ad)) ?_
  refine Aa rfl (Ae (Ar rfl <| Ad)) ?_
  refine Ah <| Ac <| Af <| Af <| Ai fun ds => Aa rfl (Ag (Ad)) ?_
  refine Aa rfl (By (Ad) Ab) ?_
  refine Ah <| Ac <| Am (Ad) (by decide) ?_
  refine Aw <| Ac <| Af <| Af <| Ai fun ds => Aa rfl (Ao Bv (A6 rfl <| Ay rfl <| Al rfl <| Ad)) ?_
  refine Aa rfl (Ap Bz (Ad) (Cell.own 0 rfl rfl)) ?_
  refine Aa rfl (Bk B5 (Ad) hr.eds.plain) ?_
  refine Aa rfl (Ag Ab) ?_
  refine Ah <| Ac <| Az <| Bu [2, 6, 19, 20, 21, 22, 23, 24, 25, 26, 27, 28, 29] (fun m e σ => ∃ G, F3.le G ∧ ∃ k : Nat, m + k = ps.length ∧ e 19 = .int .i64 (k : Int) ∧ ∃ v2 R2, e 2 = v2 ∧ Own 3 1 v2 (selN (firstB s) k).length ((selN (firstB s) k).flatMap natE) R2 ∧ σ = ⟨G, (b1, bx 25 [vp, ve]) :: R2⟩) (ps.length) ?_ ?_
  · exact ⟨_, Heap.le_refl _, 0, by omega, (Ad), _, _, (A3 rfl <| Ad), Own.nil, rfl⟩
  ·
   rintro m e _ ⟨G, hFG2, k, hm, hs19, v2, R2, hs2, ho, rfl⟩; have hsl := Dq (p := firstB s) (k := k); replace hr := hr.mono hFG2; replace hq := hq.mono hFG2
   by_cases hlt : k < ps.length
   ·
    have hk5 : k < 5 := by omega
    refine Af <| Ai fun ds => Aa rfl (Bw (As rfl hs19) (Ak rfl <| Al rfl <| Ad)) ?_
    refine Ah <| Ac <| Af <| Aq (Ad) (by first | rfl | exact decide_eq_true (by omega)) ?_
    refine Aw <| Ac <| Af <| Az <| Af <| Ai fun ds => Aa rfl (Ag (Al rfl <| As rfl hs19)) ?_
    refine Bm rfl (Cf Da rfl fun b7 hb7 nb7 => ?_)
    refine Cm (Cn sz_3 (Ad) (Al rfl <| Ad) (i := 0) rfl (.here) rfl (.here) ?_)
    refine Ah <| Ac <| Af <| Cg (i := 0) rfl hb7 (.here) fun F8 hF9 hz6 => ?_
    replace hq := hq.mono hF9
    replace hFG2 := Heap.le_trans hFG2 hF9
    by_cases hfb : firstB s k = true
    ·
     refine Ai fun ds => Aa rfl (Ag (Ar rfl <| Al rfl <| Ak rfl <| A6 rfl <| Ad)) ?_
     refine Aa rfl (Cq (.cons (Al rfl <| Ad) .nil)) ?_
     refine Bx rfl (Bi bd_78 A0 (.cons (Al rfl <| Ad) (.cons (Ad) .nil)) (Dg hq (fun t => decide (upN t k = -1)) bd_79 fun j hj => first1_ok hz6 hk5 _) (fun _ _ h => h)) ?_
     refine Ah <| Ac <| Aq (Ad) hfb ?_
     refine Ai fun ds => Aa rfl (Ag (Ay rfl <| Ar rfl <| As rfl hs2)) ?_
     refine Aa rfl (Ap Bj (Ay rfl <| Ad) (CellF.own hz6 rfl).cell) ?_
     refine Bm rfl (B6 Be Da rfl (.cons (Ad) .nil) rfl rfl (by decide) (by simp [Value.oneCell']) fun b10 hb10 nb10 => ?_)
     refine Bm rfl (B9 Be el_3 (Ar rfl <| Ad) ho (Ad) (Dd (s := 1) 0 rfl rfl (by simp [Value.oneCell'])) (by omega) (by omega) (.s <| .s <| .z) .last fun v11 R12 ho13 => ?_)
     have ho2 := ho13.snoc (x := k) rfl rfl
     refine Aa rfl (Ae (Ad)) ?_
     refine Ah <| Bb <| Ac <| C5 (fun _ _ h => h.drop (.cons _ <| .cons_cons _ <| .refl _)) ?_
     refine Ai fun ds => Aa rfl (Br (A6 rfl <| Ar rfl <| Al rfl <| As rfl hs19) Ab rfl (by omega) (by omega)) ?_
     refine Aa rfl (Ag (Ad)) ?_
     refine Ah <| Ac ⟨_, m - 1, Off.eq (Dj rfl <| Dv rfl <| Dk rfl <| Bd), by omega, ?_⟩
     exact ⟨_, hFG2, k + 1, by omega, (Ad), _, _, (Ar rfl <| Ad), by rw [D0, if_pos hfb]; exact ho2, rfl⟩
    ·
     replace hfb : firstB s k = false := by simpa using hfb
     refine Ai fun ds => Aa rfl (Ag (Ar rfl <| Al rfl <| Ak rfl <| A6 rfl <| Ad)) ?_
     refine Aa rfl (Cq (.cons (Al rfl <| Ad) .nil)) ?_
     refine Bx rfl (Bi bd_78 A0 (.cons (Al rfl <| Ad) (.cons (Ad) .nil)) (Dg hq (fun t => decide (upN t k = -1)) bd_79 fun j hj => first1_ok hz6 hk5 _) (fun _ _ h => h)) ?_
     refine Ah <| Ac <| Am (Ad) hfb ?_
     refine Aw <| Bb <| Ac <| Ai fun ds => Aa rfl (Br (Ay rfl <| Ar rfl <| As rfl hs19) Ab rfl (by omega) (by omega)) ?_
     refine Aa rfl (Ag (Ad)) ?_
     refine Ah <| Ac ⟨_, m - 1, Off.eq (Dj rfl <| Bd), by omega, ?_⟩
     exact ⟨_, hFG2, k + 1, by omega, (Ad), _, _, (A6 rfl <| As rfl hs2), by rw [D0, if_neg (by rw [hfb]; simp)]; exact ho, rfl⟩
   ·
    refine Af <| Ai fun ds => Aa rfl (Bw (As rfl hs19) (Ak rfl <| Al rfl <| Ad)) ?_
    refine Ah <| Ac <| Af <| Am (Ad) (by first | rfl | exact decide_eq_false (by omega)) ?_
    obtain rfl : k = s.editions.length := by omega
    refine Cw (σ := ⟨_, _⟩) (by rfl) ho (.s <| .z) .last fun F14 hF15 hz16 => ?_
    have hn2 := ho.sl (fun _ => rfl) hz16 (by omega)
    refine Bn ?_
    refine Ba <| Ba <| Bh <| Ac <| Af <| Ai fun ds => Aa rfl (Ag (Al rfl <| As rfl hs2)) ?_
    refine Aa rfl (Ae (Ad)) ?_
    refine Aa rfl (Ae Ab) ?_
    refine Ah <| Ac <| A4 <| Ax rfl (.tmp (Al rfl <| Ad) (.tmp (Ad) .nil)) ?_
    rw [firstTE_ok hok]
    exact ⟨_, rfl, hn2⟩
 ·
  refine Af <| Ai fun ds => Bm rfl (B2 (Aj rfl) rfl fun b17 hb17 nb17 => ?_)
  refine Aa rfl (Ae Ab) ?_
  refine Aa rfl (Ae Ab) ?_
  refine Ah <| Ac <| Af <| Ai fun ds => Aa rfl (Bf B0 (Ar rfl <| Ad) rfl rfl (A8 0 rfl)) ?_
  refine Bm rfl (Ch bd_75 A0 (.cons (Ad) .nil) (asked_ok hr) fun v18 F19 hr20 hF21 => ?_)
  obtain ⟨vq, rfl⟩ := hr20.bad hok
  refine Aa rfl (Ag (Ad)) ?_
  refine Aa rfl (A1 (Ad) rfl) ?_
  refine Aa rfl (A1 (Al rfl <| Ad) rfl) ?_
  refine Aa rfl (A1 (Ar rfl <| Ad) rfl) ?_
  refine Aa rfl (Ae (Ar rfl <| Ad)) ?_
  refine Aa rfl (Ae (Ar rfl <| Ad)) ?_
  refine Aa rfl (Ae (Ar rfl <| Ad)) ?_
  refine Ah <| Ac <| Af <| Af <| Ai fun ds => Aa rfl (Ag (Ad)) ?_
  refine Aa rfl (By (Ad) Ab) ?_
  refine Ah <| Ac <| Aq (Ad) (decide_eq_true hok) ?_
  refine Af <| Ai fun ds => Aa rfl (Ag (Ar rfl <| Ad)) ?_
  refine Aa rfl (Ae Ab) ?_
  refine Aa rfl (Ae (Al rfl <| Ad)) ?_
  refine Ah <| Ac <| A4 <| Bg ?_
  refine Ax rfl (.tmp (Al rfl <| Ad) (.tmp (Ad) .nil)) ?_
  rw [firstTE_bad hok]
  exact ⟨_, rfl, Sl.nil⟩
theorem eds_cases {s : Stm} {a b : Int} (h : edsErr s a b = 0) : (checkT s).2.2 = 0 ∧ ∃ i j : Nat, a = (i : Int) ∧ b = (j : Int) ∧ i < s.editions.length ∧ j < s.editions.length := by
 unfold edsErr at h
 split at h
 · rename_i h1; exact absurd h h1
 · rename_i h1
   split at h
   · cases h
   · rename_i h2
     have h3 : (inB 0 (s.editions.length - 1) a && inB 0 (s.editions.length - 1) b) = true := by simpa using h2
     rw [Bool.and_eq_true] at h3
     obtain ⟨i, rfl, hi⟩ := inB_nat h3.1
     obtain ⟨j, rfl, hj⟩ := inB_nat h3.2
     exact ⟨Classical.not_not.1 h1, i, j, rfl, rfl, hi, hj⟩
theorem apartE_snd {s : Stm} {a b : Int} : (apartE s a b).2 = edsErr s a b := by
 unfold apartE
 split
 · rfl
 · rename_i h; exact (Classical.not_not.1 h).symm
def fromV (s : Stm) (a b : Int) : Value := .tuple #[.int .i64 (fromE s a b).1, .int .i64 (fromE s a b).2]
set_option maxRecDepth 100000 in
theorem from_top_ok {F : Heap} {vp ve : Value} {ps : List (Value × Edn)} {s : Stm} (hr : StmR F vp ve ps s) (a b : Int) : Ok Try.prog 31 [.agg #[vp, ve], .int .i64 a, .int .i64 b].toArray F fun u _ => u = fromV s a b := by
 have hle0 : F.le F := Heap.le_refl _
 refine Ok.intro Try.func31 rfl Try.ntmps31 rfl fun w0 => ?_
 by_cases he0 : edsErr s a b = 0
 ·
  obtain ⟨h0, i, j, rfl, rfl, hi, hj⟩ := eds_cases he0
  have hv := Ea h0
  have hne := hv.ne
  refine Af <| Ai fun ds => Bm rfl (B2 (Aj rfl) rfl fun b1 hb1 nb1 => ?_)
  refine Bm rfl (B2 (Al rfl <| Aj rfl) rfl fun b2 hb2 nb2 => ?_)
  refine Bm rfl (B2 (Ar rfl <| Aj rfl) rfl fun b3 hb3 nb3 => ?_)
  refine Aa rfl (Ae Ab) ?_
  refine Aa rfl (Ae Ab) ?_
  refine Ah <| Ac <| Af <| Af <| Ai fun ds => Aa rfl (Bf B0 (Ay rfl <| Ad) rfl rfl (A8 2 rfl)) ?_
  refine Aa rfl (Ap Bj (Ay rfl <| Ad) (Cell.own 1 rfl rfl)) ?_
  refine Aa rfl (Ap Bj (Ay rfl <| Ad) (Cell.own 0 rfl rfl)) ?_
  refine Bm rfl (Ch bd_18 A0 (.cons (Ar rfl <| Ad) (.cons (Al rfl <| Ad) (.cons (Ad) .nil))) (apart_top_ok hr _ _) fun v4 F5 hr6 hF7 => ?_)
  replace hr := hr.mono hF7
  obtain ⟨vap, rfl, hap⟩ := hr6
  refine Aa rfl (Ag (Ad)) ?_
  refine Aa rfl (A1 (Ad) rfl) ?_
  refine Aa rfl (A1 (Al rfl <| Ad) rfl) ?_
  refine Aa rfl (Ae (Al rfl <| Ad)) ?_
  refine Aa rfl (Ae (Al rfl <| Ad)) ?_
  refine Ah <| Ac <| Af <| Ai fun ds => Aa rfl (Ag (Ad)) ?_
  refine Aa rfl (By (Ad) Ab) ?_
  refine Ah <| Ac <| Am (Ad) (by rw [apartE_snd, he0]; decide) ?_
  by_cases hok : askedT s = 0
  ·
   refine Aw <| Ac <| Af <| Ai fun ds => Aa rfl (Bf B0 (A6 rfl <| Ay rfl <| Ar rfl <| Al rfl <| Ad) rfl rfl (A8 2 rfl)) ?_
   refine Bm rfl (Ch bd_75 A0 (.cons (Ad) .nil) (asked_ok hr) fun v8 F9 hr10 hF11 => ?_)
   obtain ⟨vq, rfl, hq⟩ := hr10.ok hok
   refine Aa rfl (Ag (Ad)) ?_
   refine Aa rfl (A1 (Ad) rfl) ?_
   refine Aa rfl (A1 (Al rfl <| Ad) rfl) ?_
   refine Aa rfl (A1 (Ar rfl <| Ad) rfl) ?_
   refine Aa rfl (Ae (Ar rfl <| Ad)) ?_
   refine Aa rfl (Ae (Ar rfl <| Ad)) ?_
   refine Aa rfl (Ae (Ar rfl <| Ad)) ?_
   refine Ah <| Ac <| Af <| Af <| Ai fun ds => Aa rfl (Ag (Ad)) ?_
   refine Aa rfl (By (Ad) Ab) ?_
   refine Ah <| Ac <| Am (Ad) (by decide) ?_
   refine Aw <| Ac <| Af <| Cg (i := 0) rfl hb3 (.here) fun F12 hF13 hz5 => ?_
   replace hq := hq.mono hF13
   refine Cg (i := 0) rfl hb2 (.here) fun F14 hF15 hz4 => ?_
   replace hq := hq.mono hF15
   replace hz5 := hF15 _ _ hz5
   refine Ai fun ds => Aa rfl (Cq (.cons (A3 rfl <| A6 rfl <| Ad) (.cons (A3 rfl <| A6 rfl <| Al rfl <| Ad) .nil))) ?_
   refine Bm rfl (Cf zr_118 rfl fun b16 hb16 nb16 => ?_)
   refine Cm (Cn sz_118 (Ad) (Al rfl <| Ad) (i := 0) rfl (.here) rfl (.here) ?_)
   refine Ah <| Ac <| Af <| Az <| Af <| Cg (i := 0) rfl hb16 (.here) fun F17 hF18 hz13 => ?_
   replace hq := hq.mono hF18
   replace hz5 := hF18 _ _ hz5
   replace hz4 := hF18 _ _ hz4
   by_cases ha : (bestsL s).any (fromB i j) = true
   ·
    refine Ai fun ds => Aa rfl (Ag (Ay rfl <| Ar rfl <| Ad)) ?_
    refine Aa rfl (Ap one_118 (Al rfl <| Ad) (CellF.own hz13 rfl).cell) ?_
    refine Bx rfl (Bi bd_78 A0 (.cons (Al rfl <| Ad) (.cons (Ad) .nil)) (Dg hq (fromB i j) bd_80 fun k hk => from1_ok hz5 hz4 (by omega) _) (fun _ _ h => h)) ?_
    refine Aa rfl (Ci (Ad)) ?_
    refine Aa rfl (Ae (Ad)) ?_
    refine Ah <| Ac <| Am (Ad) (by rw [ha]; rfl) ?_
    by_cases ha2 : (bestsL s).any (fun t => !(fromB i j t)) = true
    ·
     refine Af <| Ai fun ds => Aa rfl (Ag (A6 rfl <| Ar rfl <| Al rfl <| Ad)) ?_
     refine Aa rfl (Cq (.cons (Ay rfl <| Ar rfl <| Ad) .nil)) ?_
     refine Bx rfl (Bi bd_78 A0 (.cons (Al rfl <| Ad) (.cons (Ad) .nil)) (Dg hq (fun t => !(fromB i j t)) bd_81 fun k hk => from2_ok hz5 hz4 hz13 (by omega) _) (fun _ _ h => h)) ?_
     refine Aa rfl (Ci (Ad)) ?_
     refine Aa rfl (Ae (Ad)) ?_
     refine Ah <| Ac <| Am (Ad) (by rw [ha2]; rfl) ?_
     refine Aw <| Bb <| Ac <| Af <| Ai fun ds => Aa rfl (Ae Ab) ?_
     refine Aa rfl (Ae Ab) ?_
     refine Ah <| Ac <| A4 <| Ax rfl (.tmp (Al rfl <| Ad) (.tmp (Ad) .nil)) ?_
     show _ = _
     rw [fromV, fromE, if_neg (fun k : edsErr s (i : Int) (j : Int) ≠ 0 => k he0), if_neg (fun k : askedT s ≠ 0 => k hok), Int.toNat_natCast, Int.toNat_natCast, if_neg (by rw [ha]; simp), if_neg (by rw [ha2]; simp)]; rfl
    ·
     replace ha2 : (bestsL s).any (fun t => !(fromB i j t)) = false := by simpa using ha2
     refine Af <| Ai fun ds => Aa rfl (Ag (A6 rfl <| Ar rfl <| Al rfl <| Ad)) ?_
     refine Aa rfl (Cq (.cons (Ay rfl <| Ar rfl <| Ad) .nil)) ?_
     refine Bx rfl (Bi bd_78 A0 (.cons (Al rfl <| Ad) (.cons (Ad) .nil)) (Dg hq (fun t => !(fromB i j t)) bd_81 fun k hk => from2_ok hz5 hz4 hz13 (by omega) _) (fun _ _ h => h)) ?_
     refine Aa rfl (Ci (Ad)) ?_
     refine Aa rfl (Ae (Ad)) ?_
     refine Ah <| Ac <| Aq (Ad) (by rw [ha2]; rfl) ?_
     refine Af <| Ai fun ds => Aa rfl (Ae Ab) ?_
     refine Aa rfl (Ae Ab) ?_
     refine Ah <| Ac <| A4 <| Bl (Bg ?_)
     refine Ax rfl (.tmp (Al rfl <| Ad) (.tmp (Ad) .nil)) ?_
     show _ = _
     rw [fromV, fromE, if_neg (fun k : edsErr s (i : Int) (j : Int) ≠ 0 => k he0), if_neg (fun k : askedT s ≠ 0 => k hok), Int.toNat_natCast, Int.toNat_natCast, if_neg (by rw [ha]; simp), if_pos ha2]; rfl
   ·
    replace ha : (bestsL s).any (fromB i j) = false := by simpa using ha
    refine Ai fun ds => Aa rfl (Ag (Ay rfl <| Ar rfl <| Ad)) ?_
    refine Aa rfl (Ap one_118 (Al rfl <| Ad) (CellF.own hz13 rfl).cell) ?_
    refine Bx rfl (Bi bd_78 A0 (.cons (Al rfl <| Ad) (.cons (Ad) .nil)) (Dg hq (fromB i j) bd_80 fun k hk => from1_ok hz5 hz4 (by omega) _) (fun _ _ h => h)) ?_
    refine Aa rfl (Ci (Ad)) ?_
    refine Aa rfl (Ae (Ad)) ?_
    refine Ah <| Ac <| Aq (Ad) (by rw [ha]; rfl) ?_
    refine Af <| Ai fun ds => Aa rfl (Ae Ab) ?_
    refine Aa rfl (Ae Ab) ?_
    refine Ah <| Ac <| A4 <| Bl (Bg ?_)
    refine Ax rfl (.tmp (Al rfl <| Ad) (.tmp (Ad) .nil)) ?_
    show _ = _
    rw [fromV, fromE, if_neg (fun k : edsErr s (i : Int) (j : Int) ≠ 0 => k he0), if_neg (fun k : askedT s ≠ 0 => k hok), Int.toNat_natCast, Int.toNat_natCast, if_pos ha]; rfl
  ·
   refine Aw <| Ac <| Af <| Ai fun ds => Aa rfl (Bf B0 (A6 rfl <| Ay rfl <| Ar rfl <| Al rfl <| Ad) rfl rfl (A8 2 rfl)) ?_
   refine Bm rfl (Ch bd_75 A0 (.cons (Ad) .nil) (asked_ok hr) fun v19 F20 hr21 hF22 => ?_)
   obtain ⟨vq, rfl⟩ := hr21.bad hok
   refine Aa rfl (Ag (Ad)) ?_
   refine Aa rfl (A1 (Ad) rfl) ?_
   refine Aa rfl (A1 (Al rfl <| Ad) rfl) ?_
   refine Aa rfl (A1 (Ar rfl <| Ad) rfl) ?_
   refine Aa rfl (Ae (Ar rfl <| Ad)) ?_
   refine Aa rfl (Ae (Ar rfl <| Ad)) ?_
   refine Aa rfl (Ae (Ar rfl <| Ad)) ?_
   refine Ah <| Ac <| Af <| Af <| Ai fun ds => Aa rfl (Ag (Ad)) ?_
   refine Aa rfl (By (Ad) Ab) ?_
   refine Ah <| Ac <| Aq (Ad) (decide_eq_true hok) ?_
   refine Af <| Ai fun ds => Aa rfl (Ag (Ar rfl <| Ad)) ?_
   refine Aa rfl (Ae Ab) ?_
   refine Aa rfl (Ae (Al rfl <| Ad)) ?_
   refine Ah <| Ac <| A4 <| Bg ?_
   refine Ax rfl (.tmp (Al rfl <| Ad) (.tmp (Ad) .nil)) ?_
   show _ = _
   unfold fromV fromE; rw [if_neg (fun k => k he0), if_pos hok]; rfl
 ·
  refine Af <| Ai fun ds => Bm rfl (B2 (Aj rfl) rfl fun b23 hb23 nb23 => ?_)
  refine Bm rfl (B2 (Al rfl <| Aj rfl) rfl fun b24 hb24 nb24 => ?_)
  refine Bm rfl (B2 (Ar rfl <| Aj rfl) rfl fun b25 hb25 nb25 => ?_)
  refine Aa rfl (Ae Ab) ?_
  refine Aa rfl (Ae Ab) ?_
  refine Ah <| Ac <| Af <| Af <| Ai fun ds => Aa rfl (Bf B0 (Ay rfl <| Ad) rfl rfl (A8 2 rfl)) ?_
  refine Aa rfl (Ap Bj (Ay rfl <| Ad) (Cell.own 1 rfl rfl)) ?_
  refine Aa rfl (Ap Bj (Ay rfl <| Ad) (Cell.own 0 rfl rfl)) ?_
  refine Bm rfl (Ch bd_18 A0 (.cons (Ar rfl <| Ad) (.cons (Al rfl <| Ad) (.cons (Ad) .nil))) (apart_top_ok hr _ _) fun v26 F27 hr28 hF29 => ?_)
  obtain ⟨vap, rfl, hap⟩ := hr28
  refine Aa rfl (Ag (Ad)) ?_
  refine Aa rfl (A1 (Ad) rfl) ?_
  refine Aa rfl (A1 (Al rfl <| Ad) rfl) ?_
  refine Aa rfl (Ae (Al rfl <| Ad)) ?_
  refine Aa rfl (Ae (Al rfl <| Ad)) ?_
  refine Ah <| Ac <| Af <| Ai fun ds => Aa rfl (Ag (Ad)) ?_
  refine Aa rfl (By (Ad) Ab) ?_
  refine Ah <| Ac <| Aq (Ad) (by rw [apartE_snd]; exact decide_eq_true he0) ?_
  refine Af <| Ai fun ds => Aa rfl (Ag (Ar rfl <| Ad)) ?_
  refine Aa rfl (Ae Ab) ?_
  refine Aa rfl (Ae (Al rfl <| Ad)) ?_
  refine Ah <| Ac <| A4 <| Bg ?_
  refine Ax rfl (.tmp (Al rfl <| Ad) (.tmp (Ad) .nil)) ?_
  show _ = _
  unfold fromV fromE; rw [if_pos he0, apartE_snd]; rfl
end Go.Proofs.Ytccogmkhijgelaa
namespace Go.Proofs.Ytccogmkhijgelaa
def sharedB (s : Stm) (x o p : Nat) : Bool := decide (s.r o p = s.r x p)
def ownL (s : Stm) (l : List Int) (x : Nat) : List Nat := apartL s (upN l x).toNat x
def savesTo (s : Stm) (own : List Nat) (x o : Nat) (k : Nat) : Int := ((own.take k).countP (sharedB s x o) : Nat)
def savesN (s : Stm) (l : List Int) (x o : Nat) : Int := ((ownL s l x).countP (sharedB s x o) : Nat)
theorem savesTo_succ {s : Stm} {own : List Nat} {x o k : Nat} (h : k < own.length) : savesTo s own x o (k + 1) = if sharedB s x o own[k] = true then savesTo s own x o k + 1 else savesTo s own x o k := by
 unfold savesTo
 rw [List.take_succ_eq_append_getElem h, List.countP_append, List.countP_singleton]
 split <;> simp
theorem Eq {s : Stm} {l : List Int} {x o : Nat} : savesTo s (ownL s l x) x o (ownL s l x).length = savesN s l x o := by unfold savesTo savesN; rw [List.take_length]
theorem savesTo_bound {s : Stm} {own : List Nat} {x o k : Nat} : 0 ≤ savesTo s own x o k ∧ savesTo s own x o k ≤ own.length := by
 unfold savesTo
 have h1 := List.countP_le_length (p := sharedB s x o) (l := own.take k)
 rw [List.length_take] at h1
 omega
def fitsT2 (s : Stm) (l : List Int) (x o : Nat) : Bool := fitsE s (treeE l ++ [(o, x)])
def canT (s : Stm) (l : List Int) (x o : Nat) : Bool := decide ((o : Int) ≠ upN l x) && (!(underB l o x) && fitsT2 s l x o)
def secTo (s : Stm) (l : List Int) (x : Nat) : Nat → Int × Int
 | 0 => (0, 0)
 | k + 1 => if canT s l x k = true ∧ (secTo s l x k).2 < savesN s l x k then ((k : Int), savesN s l x k) else secTo s l x k
theorem savesN_bound {s : Stm} {l : List Int} {x o : Nat} : 0 ≤ savesN s l x o ∧ savesN s l x o ≤ s.places.length := by
 have h1 := savesTo_bound (s := s) (own := ownL s l x) (x := x) (o := o) (k := (ownL s l x).length)
 rw [Eq] at h1
 have h2 : (ownL s l x).length ≤ s.places.length := Dq
 omega
theorem secTo_bound {s : Stm} {l : List Int} {x : Nat} : ∀ k, 0 ≤ (secTo s l x k).2 ∧ (secTo s l x k).2 ≤ s.places.length
 | 0 => by simp [secTo]
 | k + 1 => by
   have := secTo_bound (s := s) (l := l) (x := x) k
   have := savesN_bound (s := s) (l := l) (x := x) (o := k)
   unfold secTo
   split <;> (try simp only) <;> omega
theorem secTo_yes {s : Stm} {l : List Int} {x k : Nat} (h : canT s l x k = true) (h2 : (secTo s l x k).2 < savesN s l x k) : secTo s l x (k + 1) = ((k : Int), savesN s l x k) := if_pos ⟨h, h2⟩
theorem Dx {s : Stm} {l : List Int} {x k : Nat} (h : ¬ (canT s l x k = true ∧ (secTo s l x k).2 < savesN s l x k)) : secTo s l x (k + 1) = secTo s l x k := if_neg h
def secErr (s : Stm) (l : List Int) (z : Int) : Int := if treeErr s l ≠ 0 then treeErr s l else if inB 0 (s.editions.length - 1) z = false then 4 else if fitsT s l = false then 9 else if upN l z.toNat = -1 then 2 else 0
def secE (s : Stm) (l : List Int) (z : Int) : Int × Int × Int := if secErr s l z ≠ 0 then (0, 0, secErr s l z) else if (secTo s l z.toNat s.editions.length).2 = 0 then (0, 0, 8) else ((secTo s l z.toNat s.editions.length).1, (secTo s l z.toNat s.editions.length).2, 0)
def secV (s : Stm) (l : List Int) (z : Int) : Go.Value := .tuple #[.int .i64 (secE s l z).1, .int .i64 (secE s l z).2.1, .int .i64 (secE s l z).2.2]
section
variable {s : Stm} {l : List Int} {z : Int}
theorem secE_bad {e : Int} (h : secErr s l z = e) (he : e ≠ 0) : secV s l z = .tuple #[.int .i64 0, .int .i64 0, .int .i64 e] := by subst h; unfold secV secE; rw [if_pos he]
theorem secE_zero (h : secErr s l z = 0) (h2 : (secTo s l z.toNat s.editions.length).2 = 0) : secV s l z = .tuple #[.int .i64 0, .int .i64 0, .int .i64 8] := by unfold secV secE; rw [if_neg (fun k => k h), if_pos h2]
theorem secE_ok (h : secErr s l z = 0) (h2 : (secTo s l z.toNat s.editions.length).2 ≠ 0) : secV s l z = .tuple #[.int .i64 (secTo s l z.toNat s.editions.length).1, .int .i64 (secTo s l z.toNat s.editions.length).2, .int .i64 0] := by unfold secV secE; rw [if_neg (fun k => k h), if_neg h2]
theorem secErr_1 (h : treeErr s l ≠ 0) : secErr s l z = treeErr s l := if_pos h
theorem secErr_2 (h : treeErr s l = 0) (h2 : inB 0 (s.editions.length - 1) z = false) : secErr s l z = 4 := by unfold secErr; rw [if_neg (fun k => k h), if_pos h2]
theorem secErr_3 (h : treeErr s l = 0) (h2 : inB 0 (s.editions.length - 1) z = true) (h3 : fitsT s l = false) : secErr s l z = 9 := by unfold secErr; rw [if_neg (fun k => k h), if_neg (by rw [h2]; simp), if_pos h3]
theorem secErr_4 (h : treeErr s l = 0) (h2 : inB 0 (s.editions.length - 1) z = true) (h3 : fitsT s l = true) (h4 : upN l z.toNat = -1) : secErr s l z = 2 := by unfold secErr; rw [if_neg (fun k => k h), if_neg (by rw [h2]; simp), if_neg (by rw [h3]; simp), if_pos h4]
theorem secErr_0 (h : treeErr s l = 0) (h2 : inB 0 (s.editions.length - 1) z = true) (h3 : fitsT s l = true) (h4 : upN l z.toNat ≠ -1) : secErr s l z = 0 := by unfold secErr; rw [if_neg (fun k => k h), if_neg (by rw [h2]; simp), if_neg (by rw [h3]; simp), if_neg h4]
end
/-- What comes before an edition, with one more. -/
def srcL (l : List Int) (i : Nat) : List Nat := if upN l i = -1 then [] else [(upN l i).toNat]
def befL (l : List Int) (x o k : Nat) : List Nat := if k = x then srcL l k ++ [o] else srcL l k
theorem befL_mem {l : List Int} {x o : Nat} (hx : x < l.length) {k i : Nat} : (k, i) ∈ treeE l ++ [(o, x)] ↔ i < l.length ∧ k ∈ befL l x o i := by
 have h1 : (k, i) ∈ treeE l ↔ i < l.length ∧ k ∈ srcL l i := by
   rw [treeE_mem]
   unfold srcL
   by_cases h : upN l i = -1
   · simp [h]
   · rw [if_neg h]; simp [h]
 rw [List.mem_append, h1]
 unfold befL
 by_cases h : i = x
 · subst h; simp [hx]
 · rw [if_neg h]; simp [h]
/-- Up from an edition, step by step. -/
theorem under_up {l : List Int} (ht : IsTree l) {k o : Nat} (hk : k < l.length) : underB l k o = (decide (k = o) || (if upN l k = -1 then false else underB l (upN l k).toNat o)) := by
 by_cases h : upN l k = -1
 · rw [if_pos h]
   unfold underB
   cases hl : l.length with
   | zero => omega
   | succ n => unfold under; rw [if_pos h]
 · rw [if_neg h]
   obtain ⟨j, hj, hjl⟩ := ht.in_.nat hk h
   unfold underB
   rw [under_edge hj (ht.reach k hk), hj, Int.toNat_natCast]
theorem under_self' {l : List Int} {k : Nat} : underB l k k = true := under_self
def metB (s : Stm) (p v : Nat) : Bool := (List.range s.editions.length).any fun i => decide (s.r i p = (v : Int))
def kindTo (s : Stm) (p : Nat) (k : Nat) : Int := sumN k fun j => if metB s p (j + 1) = true then 1 else 0
def kindsN (s : Stm) (p : Nat) : Int := kindTo s p 3
def needN (s : Stm) (p : Nat) : Int := max 0 (kindsN s p - 1)
def setTo (s : Stm) (p : Nat) : Nat → Nat
 | 0 => 0
 | k + 1 => setTo s p k ||| 2 ^ (s.r k p).toNat
theorem kindTo_bound {s : Stm} {p : Nat} : ∀ k, 0 ≤ kindTo s p k ∧ kindTo s p k ≤ k
 | 0 => by simp [kindTo, sumN]
 | k + 1 => by
   have h1 := kindTo_bound (s := s) (p := p) k
   have h2 : kindTo s p (k + 1) = kindTo s p k + if metB s p (k + 1) = true then 1 else 0 := rfl
   rw [h2]; split <;> omega
theorem needN_bound {s : Stm} {p : Nat} : 0 ≤ needN s p ∧ needN s p ≤ 2 := by have := kindTo_bound (s := s) (p := p) 3; unfold needN kindsN; omega
theorem setTo_bit {s : Stm} {p v : Nat} (hp : ∀ i, i < s.editions.length → 0 ≤ s.r i p) : ∀ {k : Nat}, k ≤ s.editions.length → (setTo s p k).testBit v = (List.range k).any fun i => decide (s.r i p = (v : Int))
 | 0, _ => by simp [setTo]
 | k + 1, hk => by
   unfold setTo
   rw [Nat.testBit_or, setTo_bit hp (by omega), List.range_succ, List.any_append, Nat.testBit_two_pow]
   have := hp k (by omega)
   simp
   congr 1
   rw [decide_eq_decide]
   omega
theorem setTo_lt {s : Stm} {p : Nat} (hp : ∀ i, i < s.editions.length → 0 ≤ s.r i p ∧ s.r i p ≤ 3) : ∀ {k : Nat}, k ≤ s.editions.length → setTo s p k < 16
 | 0, _ => by simp [setTo]
 | k + 1, hk => by
   have h1 := setTo_lt hp (k := k) (by omega)
   have h2 := hp k (by omega)
   unfold setTo
   refine Nat.or_lt_two_pow (n := 4) h1 ?_
   exact Nat.pow_lt_pow_right (by omega) (by omega)
def uncleanB (s : Stm) (l : List Int) (p : Nat) : Bool := decide (leastL s l p ≠ needN s p)
def uncleanL (s : Stm) (l : List Int) : List Nat := selN (uncleanB s l) s.places.length
theorem unclean_place {s : Stm} {l : List Int} (ht : IsTree l) (hv : ValidT s) (hl : l.length = s.editions.length) {p : Nat} : (placeN s l p ≠ needN s p) ↔ uncleanB s l p = true := by
 have h1 := place_leastV (p := p) ht hv hl
 have h2 := needN_bound (s := s) (p := p)
 have h3 := Dh (s := s) (l := l) (p := p)
 unfold uncleanB
 rw [decide_eq_true_eq, h1]
 unfold never
 split <;> omega
def cleanStep (s : Stm) (st : Option (List Nat)) (t : List Int) : Option (List Nat) := match st with
 | none => some (uncleanL s t)
 | some b => if (uncleanL s t).length < b.length ∨ ((uncleanL s t).length = b.length ∧ cmpL (uncleanL s t) b < 0) then some (uncleanL s t) else some b
def cleanR (s : Stm) (xs : List (List Int)) : Option (List Nat) := xs.foldl (cleanStep s) none
theorem cleanR_snoc {s : Stm} {xs : List (List Int)} {t : List Int} : cleanR s (xs ++ [t]) = cleanStep s (cleanR s xs) t := by unfold cleanR; rw [List.foldl_append]; rfl
def cleanE (s : Stm) : List Nat × Int := if (checkT s).2.2 ≠ 0 then ([], (checkT s).2.2) else match cleanR s (allTrees s) with
 | none => ([], 9)
 | some b => (b, 0)
theorem cleanE_bad {s : Stm} (h : (checkT s).2.2 ≠ 0) : cleanE s = ([], (checkT s).2.2) := if_pos h
theorem cleanE_none {s : Stm} (h : (checkT s).2.2 = 0) (h2 : cleanR s (allTrees s) = none) : cleanE s = ([], 9) := by unfold cleanE; rw [if_neg (fun k => k h), h2]
theorem cleanE_some {s : Stm} (h : (checkT s).2.2 = 0) {b : List Nat} (h2 : cleanR s (allTrees s) = some b) : cleanE s = (b, 0) := by unfold cleanE; rw [if_neg (fun k => k h), h2]
def Edn.setR (x : Edn) (p : Nat) (v : Int) : Edn := ⟨x.name, x.lo, x.hi, x.rd.set p v⟩
/-- With another reading. -/
def setS (s : Stm) (x p : Nat) (v : Int) : Stm := ⟨s.places, s.editions.set x ((s.ed x).setR p v)⟩
section
variable {s : Stm} {x p : Nat} {v : Int}
theorem Dw : (setS s x p v).editions.length = s.editions.length := by simp [setS]
theorem setS_ed {i : Nat} (hx : x < s.editions.length) : (setS s x p v).ed i = if i = x then (s.ed x).setR p v else s.ed i := by
 unfold setS
 show ((s.editions.set x ((s.ed x).setR p v))[i]?).getD _ = _
 rw [List.getElem?_set]
 by_cases h : x = i
 · subst h; rw [if_pos rfl, if_pos hx, if_pos rfl]; rfl
 · rw [if_neg h, if_neg (fun k => h k.symm)]; rfl
theorem setS_r {i q : Nat} (hx : x < s.editions.length) (hp : p < (s.ed x).rd.length) : (setS s x p v).r i q = if i = x ∧ q = p then v else s.r i q := by
 unfold Stm.r
 rw [setS_ed hx]
 by_cases h : i = x
 · subst h
   rw [if_pos rfl]
   show ((s.ed i).rd.set p v)[q]?.getD 0 = _
   rw [List.getElem?_set]
   by_cases h2 : p = q
   · subst h2; rw [if_pos rfl, if_pos hp, if_pos ⟨rfl, rfl⟩]; rfl
   · rw [if_neg h2, if_neg (fun k => h2 k.2.symm)]
 · rw [if_neg h, if_neg (fun k => h k.1)]
theorem setS_valid (hv : ValidT s) (hx : x < s.editions.length) (hp : p < s.places.length) (h3 : 0 ≤ v ∧ v ≤ 3) : ValidT (setS s x p v) := by
 have hpl : p < (s.ed x).rd.length := by rw [hv.rdl x hx]; exact hp
 refine ⟨hv.np, by rw [Dw]; exact hv.ne, hv.kind, fun i hi => ?_, fun i hi => ?_, fun i q hi hq => ?_⟩
 · rw [Dw] at hi
   rw [setS_ed hx]
   split
   · exact hv.year x hx
   · exact hv.year i hi
 · rw [Dw] at hi
   rw [setS_ed hx]
   split
   · show ((s.ed x).rd.set p v).length = _; rw [List.length_set]; exact hv.rdl x hx
   · exact hv.rdl i hi
 · rw [Dw] at hi
   rw [setS_r hx hpl]
   split
   · exact h3
   · exact hv.rd i q hi hq
end
def readB (s : Stm) (l : List Int) (x p n : Nat) : Bool := (decide (s.r x p = 0) || decide (s.r x p = (n : Int) + 1)) && decide (placeN (setS s x p ((n : Int) + 1)) l p = placeN s l p)
def readTo (s : Stm) (l : List Int) (x p k : Nat) : List Int := (selN (readB s l x p) k).map fun n : Nat => (n : Int) + 1
theorem D5 {s : Stm} {l : List Int} {x p k : Nat} : readTo s l x p (k + 1) = if readB s l x p k = true then readTo s l x p k ++ [(k : Int) + 1] else readTo s l x p k := by
 unfold readTo
 rw [D0]
 split
 · rw [List.map_append]; rfl
 · rfl
theorem readTo_len {s : Stm} {l : List Int} {x p k : Nat} : (readTo s l x p k).length ≤ k := by unfold readTo; rw [List.length_map]; exact Dq
def readErr (s : Stm) (l : List Int) (z q : Int) : Int := if treeErr s l ≠ 0 then treeErr s l else if (inB 0 (s.editions.length - 1) z && inB 0 (s.places.length - 1) q) = false then 4 else if costL s l = 1000 then 9 else 0
def readE (s : Stm) (l : List Int) (z q : Int) : List Int × Int := if readErr s l z q ≠ 0 then ([], readErr s l z q) else (readTo s l z.toNat q.toNat 3, 0)
section
variable {s : Stm} {l : List Int} {z q : Int}
theorem Er {e : Int} (h : readErr s l z q = e) (he : e ≠ 0) : readE s l z q = ([], e) := by subst h; exact if_pos he
theorem readE_ok (h : readErr s l z q = 0) : readE s l z q = (readTo s l z.toNat q.toNat 3, 0) := if_neg (fun k => k h)
theorem readErr_1 (h : treeErr s l ≠ 0) : readErr s l z q = treeErr s l := if_pos h
theorem readErr_2 (h : treeErr s l = 0) (h2 : (inB 0 (s.editions.length - 1) z && inB 0 (s.places.length - 1) q) = false) : readErr s l z q = 4 := by unfold readErr; rw [if_neg (fun k => k h), if_pos h2]
theorem readErr_3 (h : treeErr s l = 0) (h2 : (inB 0 (s.editions.length - 1) z && inB 0 (s.places.length - 1) q) = true) (h3 : costL s l = 1000) : readErr s l z q = 9 := by unfold readErr; rw [if_neg (fun k => k h), if_neg (by rw [h2]; simp), if_pos h3]
theorem readErr_0 (h : treeErr s l = 0) (h2 : (inB 0 (s.editions.length - 1) z && inB 0 (s.places.length - 1) q) = true) (h3 : costL s l ≠ 1000) : readErr s l z q = 0 := by unfold readErr; rw [if_neg (fun k => k h), if_neg (by rw [h2]; simp), if_neg h3]
end
end Go.Proofs.Ytccogmkhijgelaa
namespace Go.Proofs.Ytccogmkhijgelaa
open Go.RowKit
set_option maxRecDepth 100000 in
theorem under_ok {F : Heap} {l : List Int} (ht : IsTree l) (h5 : l.length ≤ 5) {i : Nat} (hi : i < l.length) (o : Nat) : Ok Try.prog 92 [treeV l, .int .i64 (i : Int), .int .i64 (o : Int)].toArray F fun u _ => u = .bool (underB l i o) := by
 refine Ok.intro Try.func92 rfl Try.ntmps92 rfl fun w0 => ?_
 have hl5 : l.length ≤ 5 := h5
 refine Af <| Ai fun ds => Bm rfl (B2 (Aj rfl) rfl fun b1 hb1 nb1 => ?_)
 refine Aa rfl (Ae Ab) ?_
 refine Ah <| Ac <| Af <| Az <| Bu [1, 6, 7, 8, 9, 10, 11, 12, 13, 14] (fun m e σ => ∃ z : Int, e 1 = .int .i64 z ∧ (z = -1 ∧ m = 0 ∧ underB l i o = false ∨ ∃ k : Nat, z = (k : Int) ∧ k < l.length ∧ m = dep l l.length k + 1 ∧ underB l i o = underB l k o) ∧ σ = ⟨F, [(b1, bx 100 (treeC l))]⟩) (dep l l.length i + 1) ?_ ?_
 · exact ⟨_, (Ar rfl <| Aj rfl), .inr ⟨i, rfl, hi, rfl, rfl⟩, rfl⟩
 ·
  rintro m e _ ⟨z, hs1, hz, rfl⟩
  rcases hz with ⟨hz, hm0, hu⟩ | ⟨k, hz, hk, hm0, hu⟩
  ·
   refine Af <| Af <| Ai fun ds => Aa rfl (Ag (As rfl hs1)) ?_
   refine Aa rfl (By (Ad) Ab) ?_
   refine Ah <| Ac <| Am (Ad) (decide_eq_false (fun h => h hz)) ?_
   refine Bn ?_
   refine Ba <| Ba <| Bh <| Ac <| Af <| Ai fun ds => Aa rfl (Ae Ab) ?_
   refine Ah <| Ac <| A4 <| Ax rfl (.tmp (Ad) .nil) ?_
   show _ = _
   rw [hu]; rfl
  ·
   have hk5 : k < 5 := by omega
   refine Af <| Af <| Ai fun ds => Aa rfl (Ag (As rfl hs1)) ?_
   refine Aa rfl (By (Ad) Ab) ?_
   refine Ah <| Ac <| Aq (Ad) (decide_eq_true (by omega)) ?_
   by_cases hko : k = o
   ·
    refine Aw <| Ac <| Af <| Az <| Af <| Ai fun ds => Aa rfl (Ag (Ar rfl <| As rfl hs1)) ?_
    refine Aa rfl (Ag (Ar rfl <| Al rfl <| Ak rfl <| Ar rfl <| Aj rfl)) ?_
    refine Aa rfl (Bs (Al rfl <| Ad) (Ad)) ?_
    refine Ah <| Ac <| Aq (Ad) (decide_eq_true (by omega)) ?_
    refine Af <| Ai fun ds => Aa rfl (Ae Ab) ?_
    refine Ah <| Ac <| A4 <| Bl (Bg (Bg (Bl (Bg ?_))))
    refine Ax rfl (.tmp (Ad) .nil) ?_
    show _ = _
    rw [hu, show k = o by omega, under_self']; rfl
   ·
    refine Aw <| Ac <| Af <| Az <| Af <| Ai fun ds => Aa rfl (Ag (Ar rfl <| As rfl hs1)) ?_
    refine Aa rfl (Ag (Ar rfl <| Al rfl <| Ak rfl <| Ar rfl <| Aj rfl)) ?_
    refine Aa rfl (Bs (Al rfl <| Ad) (Ad)) ?_
    refine Ah <| Ac <| Am (Ad) (decide_eq_false (by omega)) ?_
    have hup := under_up ht (o := o) hk
    refine Aw <| Bb <| Ac <| Ai fun ds => Aa rfl (Ag (Ay rfl <| Al rfl <| As rfl hs1)) ?_
    refine Aa rfl (Bt (k := k) Cs (Ay rfl <| Ar rfl <| Ak rfl <| Al rfl <| Ad) (Ad) hz hk5) ?_
    refine Aa rfl (Ap Bj (Ad) (Cell.own 0 rfl (Cl hk5))) ?_
    refine Aa rfl (Ae (Ad)) ?_
    refine Ah <| Ac ⟨_, (if upN l k = -1 then 0 else dep l l.length (upN l k).toNat + 1), Off.eq (Dj rfl <| Dk rfl <| Bd), (by rw [hm0]; split; omega; rename_i h1; obtain ⟨j, hj, hjl⟩ := ht.in_.nat hk h1; have := dep_edge hj (ht.reach k hk); rw [hj, Int.toNat_natCast]; omega), ?_⟩
    refine ⟨_, (Ad), ?_, rfl⟩
    by_cases h1 : upN l k = -1
    · rw [if_pos h1]; rw [if_pos h1, decide_eq_false hko] at hup; exact .inl ⟨h1, rfl, by rw [hu, hup]; rfl⟩
    · rw [if_neg h1]
      obtain ⟨j, hj, hjl⟩ := ht.in_.nat hk h1
      rw [if_neg h1, decide_eq_false hko, hj, Int.toNat_natCast] at hup
      exact .inr ⟨j, hj, hjl, by rw [hj]; rfl, by rw [hu, hup]; rfl⟩
set_option maxRecDepth 100000 in
theorem source_own {F : Heap} {l : List Int} {i : Nat} (hi : i < 5) : OkN Try.prog 73 [treeV l, .int .i64 (i : Int)].toArray F fun u _F' Hn => Own 3 1 u (sourceL l i).length ((sourceL l i).flatMap intE) Hn := by
 refine OkN.intro Try.func73 rfl Try.ntmps73 rfl fun w0 => ?_
 by_cases h1 : upN l i = -1
 ·
  refine Af <| Ai fun ds => Bm rfl (B2 (Aj rfl) rfl fun b1 hb1 nb1 => ?_)
  refine Aa rfl (Ae Ab) ?_
  refine Ah <| Ac <| Af <| Af <| Ai fun ds => Aa rfl (Ag (Ar rfl <| Aj rfl)) ?_
  refine Aa rfl (Bt (k := i) Cs (Ar rfl <| Ad) (Ad) rfl hi) ?_
  refine Aa rfl (Ap Bj (Ad) (Cell.own 0 rfl (Cl hi))) ?_
  refine Aa rfl (Bs (Ad) Ab) ?_
  refine Ah <| Ac <| Aq (Ad) (decide_eq_true h1) ?_
  refine Af <| Ai fun ds => Aa rfl (Ae Ab) ?_
  refine Ah <| Ac <| A4 <| Bg ?_
  refine Es rfl (.tmp (Ad) .nil) (List.nil_sublist _) ?_
  unfold sourceL; rw [if_pos h1]; exact El
 ·
  refine Af <| Ai fun ds => Bm rfl (B2 (Aj rfl) rfl fun b2 hb2 nb2 => ?_)
  refine Aa rfl (Ae Ab) ?_
  refine Ah <| Ac <| Af <| Af <| Ai fun ds => Aa rfl (Ag (Ar rfl <| Aj rfl)) ?_
  refine Aa rfl (Bt (k := i) Cs (Ar rfl <| Ad) (Ad) rfl hi) ?_
  refine Aa rfl (Ap Bj (Ad) (Cell.own 0 rfl (Cl hi))) ?_
  refine Aa rfl (Bs (Ad) Ab) ?_
  refine Ah <| Ac <| Am (Ad) (decide_eq_false h1) ?_
  refine Aw <| Ac <| Af <| Ai fun ds => Aa rfl (Ag (Ay rfl <| Ar rfl <| Aj rfl)) ?_
  refine Aa rfl (Bt (k := i) Cs (Ay rfl <| Ar rfl <| Ad) (Ad) rfl hi) ?_
  refine Aa rfl (Ap Bj (Ad) (Cell.own 0 rfl (Cl hi))) ?_
  refine Bm rfl (B6 Be Da rfl (.cons (Ad) .nil) rfl rfl (by decide) (by simp [Value.oneCell']) fun b3 hb3 nb3 => ?_)
  refine Aa rfl (Ae (Ad)) ?_
  refine Ah <| Ac <| A4 <| Es rfl (.tmp (Ad) .nil) (.cons_cons _ <| .cons _ <| .refl _) ?_
  unfold sourceL; rw [if_neg h1]; exact E2 rfl
theorem srcL_src {l : List Int} {i : Nat} : srcN l i = srcL l i := by
 unfold srcN sourceL srcL
 split <;> rfl
theorem sourceL_len {l : List Int} {i : Nat} : (sourceL l i).length ≤ 1 := by unfold sourceL; split <;> simp
set_option maxRecDepth 100000 in
theorem second1_ok {F : Heap} {c5 c10 c12 T5 T12 x o : Nat} {l : List Int} (ht : IsTree l) (h5 : l.length ≤ 5) (hc5 : F c5 = some (bx T5 [.int .i64 (x : Int)])) (hc10 : F c10 = some (bx 100 (treeC l))) (hc12 : F c12 = some (bx T12 [.int .i64 (o : Int)])) {k : Nat} (hk : k < l.length) : Ok Try.prog 93 [.int .i64 (k : Int), .pointer (some ⟨c5, 0, none⟩), .pointer (some ⟨c10, 0, none⟩), .pointer (some ⟨c12, 0, none⟩)].toArray F fun u F' => Nats F' u (befL l x o k) := by
 have hle0 : F.le F := Heap.le_refl _
 refine Ok.intro Try.func93 rfl Try.ntmps93 rfl fun w0 => ?_
 have hsl := sourceL_len (l := l) (i := k)
 by_cases hkx : k = x
 ·
  refine Af <| Ai fun ds => Aa rfl (Ae Ab) ?_
  refine Ah <| Ac <| Af <| Af <| Ai fun ds => Aa rfl (Ag (Al rfl <| Aj rfl)) ?_
  refine Aa rfl (Ap Bj (Ar rfl <| Aj rfl) (CellF.own hc5 rfl).cell) ?_
  refine Aa rfl (Bs (Al rfl <| Ad) (Ad)) ?_
  refine Ah <| Ac <| Aq (Ad) (decide_eq_true (by omega)) ?_
  refine Af ?_
  have hleS := hle0
  refine Cv (.inl rfl) (fun _ _ h => h) (List.nil_sublist _) [] (by kernel_rfl) fun ds => ?_
  refine A5 0 rfl (by kernel_rfl) (by kernel_rfl) (by kernel_rfl) (by kernel_rfl) rfl rfl (fun _ h => h.drop (List.nil_sublist _)) (fun _ _ _ h => h) (Bf (vs := treeC l) B4 (Ay rfl <| Aj rfl) rfl rfl (Cz hc10)) ?_
  refine A5 1 rfl (by kernel_rfl) (by kernel_rfl) (by kernel_rfl) (by kernel_rfl) rfl rfl (fun _ h => h.drop (List.nil_sublist _)) (fun _ _ _ h => h) (Ag (Ay rfl <| Al rfl <| Aj rfl)) ?_
  refine A5 3 rfl (by kernel_rfl) (by kernel_rfl) (by kernel_rfl) (by kernel_rfl) rfl rfl (fun _ h => h.drop (List.nil_sublist _)) (fun _ _ _ h => h) (Ap Bj (Ay rfl <| Ar rfl <| Aj rfl) (CellF.own hc12 rfl).cell) ?_
  refine WX_pick [2, 4] (by kernel_rfl) (by decide) (in2 ?_ ?_)
  ·
   refine WXop_x rfl rfl (D1 bd_73 A0 (.cons (Ar rfl <| Ad) (.cons (Al rfl <| Ad) .nil)) (source_own (l := l) (i := k) (by omega)) fun v1 F2 R5 hr3 hF4 => ⟨fun _ _ _ h => (h.drop (List.nil_sublist _)).weak hF4 hleS, ?_⟩)
   have hoC := hr3
   refine Dz 4 rfl (by kernel_rfl) rfl (B6 Be Da rfl (.cons (Al rfl <| Ad) .nil) rfl rfl (by decide) (by simp [Value.oneCell']) fun b6 hb6 nb6 => ⟨fun _ _ => (fun _ h => (h.drop (List.nil_sublist _)).weak hF4 hleS), ?_⟩)
   refine Dz 5 rfl (by kernel_rfl) rfl (B9 Be el_3 (Al rfl <| Ad) hoC (Ad) (Dd (s := 1) 0 rfl rfl (by simp [Value.oneCell'])) (by omega) (by omega) (.s <| .z) .last fun v7 R8 ho9 => ⟨fun _ _ => (fun _ h => (h.drop (List.nil_sublist _)).weak hF4 hleS), ?_⟩)
   have ho14 := ho9.snoc (x := (o : Int)) rfl rfl
   refine A5 6 rfl (by kernel_rfl) (by kernel_rfl) (by kernel_rfl) (by kernel_rfl) rfl rfl (fun _ h => (h.drop (List.nil_sublist _)).weak hF4 hleS) (fun _ _ _ h => h) (Ae (Ad)) ?_
   refine Ct (by kernel_rfl) ?_ _
   refine Ac <| Cw (σ := ⟨_, _⟩) (by rfl) ho14 (.s <| .z) .last fun F10 hF11 hz12 => ?_
   have hn14 := ho14.sl (fun _ => rfl) hz12 (by simp; omega)
   refine A4 <| Bg ?_
   refine Ax rfl (.tmp (Ad) .nil) ?_
   have hn := Ints.nats hn14 (by intro z hz; rcases List.mem_append.1 hz with hz | hz; exact src_nonneg ht.in_ hk z hz; simp at hz; omega)
   unfold befL; rw [if_pos hkx, ← srcL_src]
   unfold srcN
   show Nats _ _ _
   have hn2 := hn
   rw [List.map_append] at hn2
   exact hn2
  ·
   refine WXop_x rfl rfl (B6 Be Da rfl (.cons (Ad) .nil) rfl rfl (by decide) (by simp [Value.oneCell']) fun b13 hb13 nb13 => ⟨fun _ _ => (fun _ h => h.drop (List.nil_sublist _)), ?_⟩)
   refine Dz 2 rfl (by kernel_rfl) rfl (D1 bd_73 A0 (.cons (Ar rfl <| Al rfl <| Ad) (.cons (Ar rfl <| Ad) .nil)) (source_own (l := l) (i := k) (by omega)) fun v14 F15 R18 hr16 hF17 => ⟨fun _ _ _ h => (h.drop (List.nil_sublist _)).weak hF17 hleS, ?_⟩)
   have hoC := hr16
   refine Dz 5 rfl (by kernel_rfl) rfl (B9 Be el_3 (Ad) hoC (Al rfl <| Ad) (Dd (s := 1) 0 rfl rfl (by simp [Value.oneCell'])) (by omega) (by omega) (.s <| .z) .last fun v19 R20 ho21 => ⟨fun _ _ => (fun _ h => (h.drop (List.nil_sublist _)).weak hF17 hleS), ?_⟩)
   have ho14 := ho21.snoc (x := (o : Int)) rfl rfl
   refine A5 6 rfl (by kernel_rfl) (by kernel_rfl) (by kernel_rfl) (by kernel_rfl) rfl rfl (fun _ h => (h.drop (List.nil_sublist _)).weak hF17 hleS) (fun _ _ _ h => h) (Ae (Ad)) ?_
   refine Ct (by kernel_rfl) ?_ _
   refine Ac <| Cw (σ := ⟨_, _⟩) (by rfl) ho14 (.s <| .z) .last fun F22 hF23 hz24 => ?_
   have hn14 := ho14.sl (fun _ => rfl) hz24 (by simp; omega)
   refine A4 <| Bg ?_
   refine Ax rfl (.tmp (Ad) .nil) ?_
   have hn := Ints.nats hn14 (by intro z hz; rcases List.mem_append.1 hz with hz | hz; exact src_nonneg ht.in_ hk z hz; simp at hz; omega)
   unfold befL; rw [if_pos hkx, ← srcL_src]
   unfold srcN
   show Nats _ _ _
   have hn2 := hn
   rw [List.map_append] at hn2
   exact hn2
 ·
  refine Af <| Ai fun ds => Aa rfl (Ae Ab) ?_
  refine Ah <| Ac <| Af <| Af <| Ai fun ds => Aa rfl (Ag (Al rfl <| Aj rfl)) ?_
  refine Aa rfl (Ap Bj (Ar rfl <| Aj rfl) (CellF.own hc5 rfl).cell) ?_
  refine Aa rfl (Bs (Al rfl <| Ad) (Ad)) ?_
  refine Ah <| Ac <| Am (Ad) (decide_eq_false (by omega)) ?_
  refine Aw <| Ac <| Af <| Ai fun ds => Aa rfl (Bf B4 (Ay rfl <| Aj rfl) rfl rfl (Cz hc10)) ?_
  refine Aa rfl (Ag (Ay rfl <| Al rfl <| Aj rfl)) ?_
  refine Bm rfl (Ch bd_73 A0 (.cons (Al rfl <| Ad) (.cons (Ad) .nil)) (source_nat ht.in_ hk h5) fun v25 F26 hr27 hF28 => ?_)
  have hsrc := hr27
  refine Aa rfl (Ae (Ad)) ?_
  refine Ah <| Ac <| A4 <| Ax rfl (.tmp (Ad) .nil) ?_
  unfold befL; rw [if_neg hkx, ← srcL_src]
  exact hsrc
end Go.Proofs.Ytccogmkhijgelaa
