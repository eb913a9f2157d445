/-
  A part of a proof: SaleMore returns true of any sale, bid and lot by bits and sum, and leaves what it is handed as it was. No conditions.
-/
import Derived.Test.YtaikojfonleccaaPab
import Derived.Maps.Keyed
import Derived.DeepKeys4
namespace Go.Proofs.Ytaikojfonleccaa
open Go.RowKit
theorem C3 : ZeroT Try.prog 3 (.int .i64 0) := C4 (by kernel_rfl)
theorem C6 : Body Try.prog 50 := Br (by kernel_rfl)
theorem bd_55 : Body Try.prog 55 := Br (by kernel_rfl)
theorem bd_56 : Body Try.prog 56 := Br (by kernel_rfl)
theorem bd_57 : Body Try.prog 57 := Br (by kernel_rfl)
theorem bd_60 : Body Try.prog 60 := Br (by kernel_rfl)
theorem bd_61 : Body Try.prog 61 := Br (by kernel_rfl)
theorem bd_96 : Body Try.prog 96 := Br (by kernel_rfl)
theorem D2 : FieldT Try.prog 27 0 0 := Ca (by kernel_rfl)
theorem C7 : FieldT Try.prog 27 4 4 := Ca (by kernel_rfl)
theorem fd_27_5 : FieldT Try.prog 27 5 5 := Ca (by kernel_rfl)
theorem Cp : FieldT Try.prog 27 6 6 := Ca (by kernel_rfl)
theorem Dc : FieldT Try.prog 27 7 7 := Ca (by kernel_rfl)
theorem fd_69_0 : FieldT Try.prog 69 0 0 := Ca (by kernel_rfl)
theorem fd_69_1 : FieldT Try.prog 69 1 1 := Ca (by kernel_rfl)
theorem fd_69_2 : FieldT Try.prog 69 2 2 := Ca (by kernel_rfl)
theorem Dr : FieldT Try.prog 72 0 0 := Ca (by kernel_rfl)
theorem El : FieldT Try.prog 72 1 1 := Ca (by kernel_rfl)
theorem fd_72_2 : FieldT Try.prog 72 2 2 := Ca (by kernel_rfl)
theorem Eb : FieldT Try.prog 98 0 0 := Ca (by kernel_rfl)
theorem fd_98_1 : FieldT Try.prog 98 1 1 := Ca (by kernel_rfl)
theorem Ev : OneT Try.prog 22 := Dj (by kernel_rfl)
theorem Cx : OneT Try.prog 23 := Dj (by kernel_rfl)
theorem C0 : OneT Try.prog 24 := Dj (by kernel_rfl)
theorem D7 : OneT Try.prog 25 := Dj (by kernel_rfl)
set_option maxRecDepth 100000 in
theorem check1_ok {F : Heap} {vs vb vl vn vd : Value} {s : Sale} (hr : SaleR F vs vb vl vn vd s) {c TC : Nat} (hc : F c = some (bx TC [vs, .int .i64 s.premium, .int .i64 s.fee, .int .i64 s.days, vb, vl, vn, vd])) {k : Nat} (hk : k < s.steps.length) (hno : ∀ j, j < k → stepErr s.steps j = 0) : Ok Try.prog 49 [.int .i64 (k : Int), .agg (s.steps[k].enc).toArray, .pointer (some ⟨c, 0, none⟩)].toArray F fun r _ => r = .int .i64 (stepErr s.steps k) := by
 refine Ok.intro Try.func49 rfl Try.ntmps49 rfl fun w0 => ?_
 by_cases hk0 : k = 0
 ·
  subst hk0
  refine Af <| Ai fun ds => Bl rfl (Cc (Ak rfl) rfl fun b1 hb1 nb1 => ?_)
  refine Aa rfl (Ae Ab) ?_
  refine Ah <| Ad <| Af <| Ai fun ds => Aa rfl (Ae Ab) ?_
  refine Aa rfl (Ae Ab) ?_
  refine Ah <| Ad <| Af <| Af <| Ai fun ds => Aa rfl (Ag (Ay rfl <| Ak rfl)) ?_
  refine Aa rfl (Cl (Ac) Ab) ?_
  refine Ah <| Ad <| Am (Ac) (by first | rfl | exact decide_eq_false (by omega)) ?_
  by_cases hf : inB 0 0 s.steps[0].from_ = true
  ·
   refine Ax <| Ad <| Af <| Af <| Ai fun ds => Aa rfl (Ag (Ap rfl <| Al rfl <| Ac)) ?_
   refine Aa rfl (Ag (Ap rfl <| Al rfl <| Ac)) ?_
   refine Aa rfl (Aj Eb (Ay rfl <| Ap rfl <| Al rfl <| Ac)) ?_
   refine Aa rfl (Aq Bd (Ac) (Cell.own 0 rfl rfl)) ?_
   refine Bl rfl (Bz Bs C3 rfl (.cons (Ac) .nil) rfl rfl (by decide) (by simp [Value.oneCell']) fun b2 hb2 nb2 => ?_)
   refine Bp (i := 0) rfl hb2 .here fun F3 hF4 hz5 => ?_
   have hsl6 := Ci hz5
   refine Bv rfl (A9 C6 Az (.cons (Ay rfl <| Ac) (.cons (Ap rfl <| Al rfl <| Ac) (.cons (Ac) .nil))) (B2 _ _ hsl6) (fun _ _ h => h)) ?_
   refine Aa rfl (Ag (Ac)) ?_
   refine As rfl rfl (Ac) (by simp [hf]) ?_
   refine Aa rfl (Aj fd_98_1 (Ba rfl <| Ay rfl <| Ac)) ?_
   refine As rfl rfl (Al rfl <| Ac) (by simp [hf]) ?_
   refine Aa rfl (Aq Bd (Ac) (Cell.own 0 rfl rfl)) ?_
   refine As rfl rfl (Ap rfl <| Ac) (by simp [hf]) ?_
   refine Bl rfl (Bz Bs C3 rfl (.cons (Ac) .nil) rfl rfl (by decide) (by simp [Value.oneCell']) fun b7 hb7 nb7 => ?_)
   refine Bp (i := 0) rfl hb7 .here fun F8 hF9 hz10 => ?_
   have hsl11 := Ci hz10
   refine As rfl rfl (Ap rfl <| Al rfl <| Ac) (by simp [hf]) ?_
   refine Bv rfl (A9 C6 Az (.cons Ab (.cons Ab (.cons (Ac) .nil))) (B2 _ _ hsl11) (fun _ _ h => h)) ?_
   refine Aa rfl (A8 (Ay rfl <| Ac) (by simp [hf]) (Ac)) ?_
   refine Ah <| Ad ?_
   by_cases hb : inB 1 100000 s.steps[0].by_ = true
   ·
    refine Am (Ac) (by simp [hb]) ?_
    refine Ax <| Ad <| Af <| Ai fun ds => Aa rfl (Ae Ab) ?_
    refine Ah <| Ad <| A5 <| Aw rfl (.tmp (Ac) .nil) ?_
    show _ = _
    rw [D5 hk]; simp [outOf, hf, hb]
   ·
    replace hb : inB 1 100000 s.steps[0].by_ = false := by simpa using hb
    refine Ar (Ac) (by simp [hb]) ?_
    refine Af <| Ai fun ds => Aa rfl (Ae Ab) ?_
    refine Ah <| Ad <| A5 <| A7 ?_
    refine Aw rfl (.tmp (Ac) .nil) ?_
    show _ = _
    rw [D5 hk]; simp [outOf, hf, hb]
  ·
   replace hf : inB 0 0 s.steps[0].from_ = false := by simpa using hf
   refine Ax <| Ad <| Af <| Af <| Ai fun ds => Aa rfl (Ag (Ap rfl <| Al rfl <| Ac)) ?_
   refine Aa rfl (Ag (Ap rfl <| Al rfl <| Ac)) ?_
   refine Aa rfl (Aj Eb (Ay rfl <| Ap rfl <| Al rfl <| Ac)) ?_
   refine Aa rfl (Aq Bd (Ac) (Cell.own 0 rfl rfl)) ?_
   refine Bl rfl (Bz Bs C3 rfl (.cons (Ac) .nil) rfl rfl (by decide) (by simp [Value.oneCell']) fun b12 hb12 nb12 => ?_)
   refine Bp (i := 0) rfl hb12 .here fun F13 hF14 hz15 => ?_
   have hsl16 := Ci hz15
   refine Bv rfl (A9 C6 Az (.cons (Ay rfl <| Ac) (.cons (Ap rfl <| Al rfl <| Ac) (.cons (Ac) .nil))) (B2 _ _ hsl16) (fun _ _ h => h)) ?_
   refine Aa rfl (Ag (Ac)) ?_
   refine At rfl rfl (Ac) (.inl (congrArg Value.bool (by simp [hf]))) rfl ?_
   refine At rfl rfl (Al rfl <| Ac) (.inl (congrArg Value.bool (by simp [hf]))) rfl ?_
   refine At rfl rfl (Ap rfl <| Ac) (.inl (congrArg Value.bool (by simp [hf]))) rfl ?_
   refine At rfl rfl (Ap rfl <| Al rfl <| Ac) (.inl (congrArg Value.bool (by simp [hf]))) rfl ?_
   refine Aa rfl (A6 (Ay rfl <| Ac) (by simp [hf]) Ab) ?_
   refine Ah <| Ad <| Ar (Ac) rfl ?_
   refine Af <| Ai fun ds => Aa rfl (Ae Ab) ?_
   refine Ah <| Ad <| A5 <| A7 ?_
   refine Aw rfl (.tmp (Ac) .nil) ?_
   show _ = _
   rw [D5 hk]; simp [outOf, hf]
 ·
  have hL1 := hr.steps.plain.lt
  have hk1 : k - 1 < s.steps.length := by omega
  have hprev := step_most hk1 (hno (k - 1) (by omega)) (.inr trivial)
  have hlow := step_least hk1 (fun j hj => hno j (by omega))
  refine Af <| Ai fun ds => Bl rfl (Cc (Ak rfl) rfl fun b17 hb17 nb17 => ?_)
  refine Aa rfl (Ae Ab) ?_
  refine Ah <| Ad <| Af <| Ai fun ds => Aa rfl (Ae Ab) ?_
  refine Aa rfl (Ae Ab) ?_
  refine Ah <| Ad <| Af <| Af <| Ai fun ds => Aa rfl (Ag (Ay rfl <| Ak rfl)) ?_
  refine Aa rfl (Cl (Ac) Ab) ?_
  refine Ah <| Ad <| Ar (Ac) (by first | rfl | exact decide_eq_true (by omega)) ?_
  by_cases hf : inB ((s.steps[k - 1]'hk1).from_ + 1) 100000 s.steps[k].from_ = true
  ·
   refine Ai fun ds => Aa rfl (Aj D2 (Ay rfl <| Ap rfl <| Ak rfl)) ?_
   refine Aa rfl (Aq Ev (Ac) (CellF.own hc rfl).cell) ?_
   refine Aa rfl (Ag (Ba rfl <| Ak rfl)) ?_
   refine Aa rfl (Dh (Ac) Ab rfl (by omega) (by omega)) ?_
   refine Aa rfl (Be (k := k - 1) Ec (Ap rfl <| Ac) hr.steps.plain (Ac) (by omega) hk1) ?_
   refine Aa rfl (Bq Eb (Ac)) ?_
   refine Aa rfl (Aq Bd (Ac) (hr.steps.cell hk1 rfl)) ?_
   refine Aa rfl (B3 (Ac) Ab rfl (by omega) (by omega)) ?_
   refine Aa rfl (Ae (Ac)) ?_
   refine Aa rfl (Ae Ab) ?_
   refine Ah <| Ad <| Af <| Af <| Ai fun ds => Aa rfl (Ag (Al rfl <| Ac)) ?_
   refine Aa rfl (Ag (Al rfl <| Ac)) ?_
   refine Aa rfl (Aj Eb (Bb rfl <| Al rfl <| Ac)) ?_
   refine Aa rfl (Aq Bd (Ac) (Cell.own 0 rfl rfl)) ?_
   refine Bl rfl (Bz Bs C3 rfl (.cons (Ac) .nil) rfl rfl (by decide) (by simp [Value.oneCell']) fun b18 hb18 nb18 => ?_)
   refine Bp (i := 0) rfl hb18 .here fun F19 hF20 hz21 => ?_
   have hsl22 := Ci hz21
   refine Bv rfl (A9 C6 Az (.cons (Ay rfl <| Ac) (.cons (Ap rfl <| Al rfl <| Ac) (.cons (Ac) .nil))) (B2 _ _ hsl22) (fun _ _ h => h)) ?_
   refine Aa rfl (Ag (Ac)) ?_
   refine As rfl rfl (Ac) (by simp [hf]) ?_
   refine Aa rfl (Aj fd_98_1 (Bb rfl <| Ay rfl <| Ap rfl <| Ac)) ?_
   refine As rfl rfl (Al rfl <| Ac) (by simp [hf]) ?_
   refine Aa rfl (Aq Bd (Ac) (Cell.own 0 rfl rfl)) ?_
   refine As rfl rfl (Ap rfl <| Ac) (by simp [hf]) ?_
   refine Bl rfl (Bz Bs C3 rfl (.cons (Ac) .nil) rfl rfl (by decide) (by simp [Value.oneCell']) fun b23 hb23 nb23 => ?_)
   refine Bp (i := 0) rfl hb23 .here fun F24 hF25 hz26 => ?_
   have hsl27 := Ci hz26
   refine As rfl rfl (Ap rfl <| Al rfl <| Ac) (by simp [hf]) ?_
   refine Bv rfl (A9 C6 Az (.cons Ab (.cons Ab (.cons (Ac) .nil))) (B2 _ _ hsl27) (fun _ _ h => h)) ?_
   refine Aa rfl (A8 (Ay rfl <| Ac) (by simp [hf]) (Ac)) ?_
   refine Ah <| Ad ?_
   by_cases hb : inB 1 100000 s.steps[k].by_ = true
   ·
    refine Am (Ac) (by simp [hb]) ?_
    refine Ax <| Ad <| Af <| Ai fun ds => Aa rfl (Ae Ab) ?_
    refine Ah <| Ad <| A5 <| Aw rfl (.tmp (Ac) .nil) ?_
    show _ = _
    rw [Do (by omega) hk]; simp [outOf, hf, hb]
   ·
    replace hb : inB 1 100000 s.steps[k].by_ = false := by simpa using hb
    refine Ar (Ac) (by simp [hb]) ?_
    refine Af <| Ai fun ds => Aa rfl (Ae Ab) ?_
    refine Ah <| Ad <| A5 <| A7 ?_
    refine Aw rfl (.tmp (Ac) .nil) ?_
    show _ = _
    rw [Do (by omega) hk]; simp [outOf, hf, hb]
  ·
   replace hf : inB ((s.steps[k - 1]'hk1).from_ + 1) 100000 s.steps[k].from_ = false := by simpa using hf
   refine Ai fun ds => Aa rfl (Aj D2 (Ay rfl <| Ap rfl <| Ak rfl)) ?_
   refine Aa rfl (Aq Ev (Ac) (CellF.own hc rfl).cell) ?_
   refine Aa rfl (Ag (Ba rfl <| Ak rfl)) ?_
   refine Aa rfl (Dh (Ac) Ab rfl (by omega) (by omega)) ?_
   refine Aa rfl (Be (k := k - 1) Ec (Ap rfl <| Ac) hr.steps.plain (Ac) (by omega) hk1) ?_
   refine Aa rfl (Bq Eb (Ac)) ?_
   refine Aa rfl (Aq Bd (Ac) (hr.steps.cell hk1 rfl)) ?_
   refine Aa rfl (B3 (Ac) Ab rfl (by omega) (by omega)) ?_
   refine Aa rfl (Ae (Ac)) ?_
   refine Aa rfl (Ae Ab) ?_
   refine Ah <| Ad <| Af <| Af <| Ai fun ds => Aa rfl (Ag (Al rfl <| Ac)) ?_
   refine Aa rfl (Ag (Al rfl <| Ac)) ?_
   refine Aa rfl (Aj Eb (Bb rfl <| Al rfl <| Ac)) ?_
   refine Aa rfl (Aq Bd (Ac) (Cell.own 0 rfl rfl)) ?_
   refine Bl rfl (Bz Bs C3 rfl (.cons (Ac) .nil) rfl rfl (by decide) (by simp [Value.oneCell']) fun b28 hb28 nb28 => ?_)
   refine Bp (i := 0) rfl hb28 .here fun F29 hF30 hz31 => ?_
   have hsl32 := Ci hz31
   refine Bv rfl (A9 C6 Az (.cons (Ay rfl <| Ac) (.cons (Ap rfl <| Al rfl <| Ac) (.cons (Ac) .nil))) (B2 _ _ hsl32) (fun _ _ h => h)) ?_
   refine Aa rfl (Ag (Ac)) ?_
   refine At rfl rfl (Ac) (.inl (congrArg Value.bool (by simp [hf]))) rfl ?_
   refine At rfl rfl (Al rfl <| Ac) (.inl (congrArg Value.bool (by simp [hf]))) rfl ?_
   refine At rfl rfl (Ap rfl <| Ac) (.inl (congrArg Value.bool (by simp [hf]))) rfl ?_
   refine At rfl rfl (Ap rfl <| Al rfl <| Ac) (.inl (congrArg Value.bool (by simp [hf]))) rfl ?_
   refine Aa rfl (A6 (Ay rfl <| Ac) (by simp [hf]) Ab) ?_
   refine Ah <| Ad <| Ar (Ac) rfl ?_
   refine Af <| Ai fun ds => Aa rfl (Ae Ab) ?_
   refine Ah <| Ad <| A5 <| A7 ?_
   refine Aw rfl (.tmp (Ac) .nil) ?_
   show _ = _
   rw [Do (by omega) hk]; simp [outOf, hf]
set_option maxRecDepth 100000 in
theorem named1_ok {F : Heap} {c TC : Nat} {v : Value} {ns : List ByteArray} (hc : F c = some (bx TC [v])) (h : Sl F v 1 strE ns) {k : Nat} (hk : k < ns.length) : Ok Try.prog 95 [.int .i64 (k : Int), .string ns[k], .pointer (some ⟨c, 0, none⟩)].toArray F fun r _ => r = .int .i64 (nameErr ns k) := by
 refine Ok.intro Try.func95 rfl Try.ntmps95 rfl fun w0 => ?_
 by_cases hn : nameOk ns[k] = true
 ·
  refine Af <| Ai fun ds => Aa rfl (Ae Ab) ?_
  refine Ah <| Ad <| Af <| A4 <| Af <| Ai fun ds => Aa rfl (Ag (Al rfl <| Ak rfl)) ?_
  refine Bv rfl (A9 bd_55 Az (.cons (Ac) .nil) (quireName_ok _) (fun _ _ h => h)) ?_
  refine Aa rfl (Cu (Ac)) ?_
  refine Aa rfl (Ae (Ac)) ?_
  refine Ah <| Ad <| Am (Ac) (by rw [hn]; rfl) ?_
  by_cases ht : (ns.take k).any (fun x => sameS x ns[k]) = true
  ·
   refine Af <| Ai fun ds => Aa rfl (Aq Cx (Ay rfl <| Al rfl <| Ak rfl) (CellF.own hc rfl).cell) ?_
   refine Aa rfl (Ag (Ay rfl <| Ap rfl <| Ak rfl)) ?_
   refine Aa rfl (E0 Cr (Al rfl <| Ac) h.plain (Ac) (k := k) rfl (by omega)) ?_
   refine Aa rfl (Ag (Ba rfl <| Ak rfl)) ?_
   refine Bv rfl (A9 bd_96 Az (.cons (Al rfl <| Ac) (.cons (Ac) .nil)) (containsStr_ok (h.to (k := k) (by omega)) _) (fun _ _ h => h)) ?_
   refine Aa rfl (Ae (Ac)) ?_
   refine Ah <| Ad <| Ar (Ac) ht ?_
   refine Af <| Ai fun ds => Aa rfl (Ae Ab) ?_
   refine Ah <| Ad <| A5 <| Bc (A7 ?_)
   refine Aw rfl (.tmp (Ac) .nil) ?_
   show _ = _
   rw [nameErr_at hk]; simp [outOf, hn, ht]
  ·
   replace ht : (ns.take k).any (fun x => sameS x ns[k]) = false := by simpa using ht
   refine Af <| Ai fun ds => Aa rfl (Aq Cx (Ay rfl <| Al rfl <| Ak rfl) (CellF.own hc rfl).cell) ?_
   refine Aa rfl (Ag (Ay rfl <| Ap rfl <| Ak rfl)) ?_
   refine Aa rfl (E0 Cr (Al rfl <| Ac) h.plain (Ac) (k := k) rfl (by omega)) ?_
   refine Aa rfl (Ag (Ba rfl <| Ak rfl)) ?_
   refine Bv rfl (A9 bd_96 Az (.cons (Al rfl <| Ac) (.cons (Ac) .nil)) (containsStr_ok (h.to (k := k) (by omega)) _) (fun _ _ h => h)) ?_
   refine Aa rfl (Ae (Ac)) ?_
   refine Ah <| Ad <| Am (Ac) ht ?_
   refine Ax <| Bh <| Ad <| Af <| Ai fun ds => Aa rfl (Ae Ab) ?_
   refine Ah <| Ad <| A5 <| Aw rfl (.tmp (Ac) .nil) ?_
   show _ = _
   rw [nameErr_at hk]; simp [outOf, hn, ht]
 ·
  replace hn : nameOk ns[k] = false := by simpa using hn
  refine Af <| Ai fun ds => Aa rfl (Ae Ab) ?_
  refine Ah <| Ad <| Af <| A4 <| Af <| Ai fun ds => Aa rfl (Ag (Al rfl <| Ak rfl)) ?_
  refine Bv rfl (A9 bd_55 Az (.cons (Ac) .nil) (quireName_ok _) (fun _ _ h => h)) ?_
  refine Aa rfl (Cu (Ac)) ?_
  refine Aa rfl (Ae (Ac)) ?_
  refine Ah <| Ad <| Ar (Ac) (by rw [hn]; rfl) ?_
  refine Af <| Ai fun ds => Aa rfl (Ae Ab) ?_
  refine Ah <| Ad <| A5 <| Bc (A7 ?_)
  refine Aw rfl (.tmp (Ac) .nil) ?_
  show _ = _
  rw [nameErr_at hk]; simp [outOf, hn]
set_option maxRecDepth 100000 in
theorem named_ok {F : Heap} {v : Value} {ns : List ByteArray} (h : Sl F v 1 strE ns) : Ok Try.prog 52 [v].toArray F fun u F' => ∃ b, u = .func (.func 95) #[] #[.pointer (some ⟨b, 0, none⟩)] ∧ F' b = some (bx 23 [v]) := by
 refine Ok.intro Try.func52 rfl Try.ntmps52 rfl fun w0 => ?_
 refine Af <| Ai fun ds => Bl rfl (Cc (Ak rfl) (Df h.plain.one) fun b1 hb1 nb1 => ?_)
 refine Aa rfl (Ae Ab) ?_
 refine Ah <| Ad <| Af <| Cq (i := 0) rfl hb1 (.here) fun F2 hF3 hz => ?_
 refine Ai fun ds => Aa rfl (Cw (.cons (Al rfl <| Ac) .nil)) ?_
 refine Aa rfl (Ae (Ac)) ?_
 refine Ah <| Ad <| A5 <| Aw rfl (.tmp (Ac) .nil) ?_
 exact ⟨_, rfl, hz⟩
set_option maxRecDepth 100000 in
theorem check21_ok {F : Heap} {c TB : Nat} {b : Lot} (hb : F c = some (bx TB b.enc)) (x : Lot) : Ok Try.prog 57 [.agg x.enc.toArray, .pointer (some ⟨c, 0, none⟩)].toArray F fun r _ => r = .bool (sameS x.name b.name) := by
 refine Ok.intro Try.func57 rfl Try.ntmps57 rfl fun w0 => ?_
 refine Af <| Ai fun ds => Bl rfl (Cc (Ak rfl) rfl fun b1 hb1 nb1 => ?_)
 refine Aa rfl (Ae Ab) ?_
 refine Ah <| Ad <| Af <| Ai fun ds => Aa rfl (Aj fd_69_0 (Al rfl <| Ac)) ?_
 refine Aa rfl (Aq one_9 (Ac) (Cell.own 0 rfl rfl)) ?_
 refine Aa rfl (Aj fd_69_0 (Ay rfl <| Ak rfl)) ?_
 refine Aa rfl (Aq one_9 (Ac) (CellF.own hb rfl).cell) ?_
 refine Aa rfl (q_eqs (Ap rfl <| Ac) (Ac)) ?_
 refine Aa rfl (Ae (Ac)) ?_
 refine Ah <| Ad <| A5 <| Aw rfl (.tmp (Ac) .nil) ?_
 rfl
set_option maxRecDepth 100000 in
theorem check31_ok {F : Heap} {c TB : Nat} {b : Bid} (hb : F c = some (bx TB b.enc)) (x : Bid) : Ok Try.prog 61 [.agg x.enc.toArray, .pointer (some ⟨c, 0, none⟩)].toArray F fun r _ => r = .bool (decide (x.bidder = b.bidder) && decide (x.lot = b.lot)) := by
 refine Ok.intro Try.func61 rfl Try.ntmps61 rfl fun w0 => ?_
 by_cases h1 : x.bidder = b.bidder
 ·
  refine Af <| Ai fun ds => Bl rfl (Cc (Ak rfl) rfl fun b1 hb1 nb1 => ?_)
  refine Aa rfl (Ae Ab) ?_
  refine Ah <| Ad <| Af <| Ai fun ds => Aa rfl (Aj Dr (Al rfl <| Ac)) ?_
  refine Aa rfl (Aq Bd (Ac) (Cell.own 0 rfl rfl)) ?_
  refine Aa rfl (Aj Dr (Ay rfl <| Ak rfl)) ?_
  refine Aa rfl (Aq Bd (Ac) (CellF.own hb rfl).cell) ?_
  refine Aa rfl (B9 (Ap rfl <| Ac) (Ac)) ?_
  refine Aa rfl (Ag (Ac)) ?_
  refine As rfl rfl (Ac) (decide_eq_true h1) ?_
  refine Aa rfl (Aj El (Ay rfl <| Ap rfl <| Al rfl <| Ac)) ?_
  refine As rfl rfl (Al rfl <| Ac) (decide_eq_true h1) ?_
  refine Aa rfl (Aq Bd (Ac) (Cell.own 0 rfl rfl)) ?_
  refine As rfl rfl (Ap rfl <| Ac) (decide_eq_true h1) ?_
  refine Aa rfl (Aj El (Ba rfl <| Ap rfl <| Ak rfl)) ?_
  refine As rfl rfl (Ap rfl <| Al rfl <| Ac) (decide_eq_true h1) ?_
  refine Aa rfl (Aq Bd (Ac) (CellF.own hb rfl).cell) ?_
  refine As rfl rfl (Ay rfl <| Ac) (decide_eq_true h1) ?_
  refine Aa rfl (B9 (Ap rfl <| Ac) (Ac)) ?_
  refine Aa rfl (A6 (Ay rfl <| Al rfl <| Ac) (decide_eq_true h1) (Ac)) ?_
  refine Aa rfl (Ae (Ac)) ?_
  refine Ah <| Ad <| A5 <| Aw rfl (.tmp (Ac) .nil) ?_
  show _ = _
  simp [outOf, h1]
 ·
  refine Af <| Ai fun ds => Bl rfl (Cc (Ak rfl) rfl fun b2 hb2 nb2 => ?_)
  refine Aa rfl (Ae Ab) ?_
  refine Ah <| Ad <| Af <| Ai fun ds => Aa rfl (Aj Dr (Al rfl <| Ac)) ?_
  refine Aa rfl (Aq Bd (Ac) (Cell.own 0 rfl rfl)) ?_
  refine Aa rfl (Aj Dr (Ay rfl <| Ak rfl)) ?_
  refine Aa rfl (Aq Bd (Ac) (CellF.own hb rfl).cell) ?_
  refine Aa rfl (B9 (Ap rfl <| Ac) (Ac)) ?_
  refine Aa rfl (Ag (Ac)) ?_
  refine At rfl rfl (Ac) (.inl (congrArg Value.bool (decide_eq_false h1))) rfl ?_
  refine At rfl rfl (Al rfl <| Ac) (.inl (congrArg Value.bool (decide_eq_false h1))) rfl ?_
  refine At rfl rfl (Ap rfl <| Ac) (.inl (congrArg Value.bool (decide_eq_false h1))) rfl ?_
  refine At rfl rfl (Ap rfl <| Al rfl <| Ac) (.inl (congrArg Value.bool (decide_eq_false h1))) rfl ?_
  refine At rfl rfl (Ay rfl <| Ac) (.inl (congrArg Value.bool (decide_eq_false h1))) rfl ?_
  refine Aa rfl (A8 (Ay rfl <| Al rfl <| Ac) (decide_eq_false h1) Ab) ?_
  refine Aa rfl (Ae (Ac)) ?_
  refine Ah <| Ad <| A5 <| Aw rfl (.tmp (Ac) .nil) ?_
  show _ = _
  simp [outOf, h1]
set_option maxRecDepth 100000 in
theorem check2_ok {F : Heap} {vs vb vl vn vd : Value} {s : Sale} (hr : SaleR F vs vb vl vn vd s) {c TC : Nat} (hc : F c = some (bx TC [vs, .int .i64 s.premium, .int .i64 s.fee, .int .i64 s.days, vb, vl, vn, vd])) {k : Nat} (hk : k < s.lots.length) : Ok Try.prog 54 [.int .i64 (k : Int), .agg (s.lots[k].enc).toArray, .pointer (some ⟨c, 0, none⟩)].toArray F fun r _ => r = .int .i64 (lotErr s k) := by
 refine Ok.intro Try.func54 rfl Try.ntmps54 rfl fun w0 => ?_
 have hL1 := hr.lots.plain.lt
 have hL2 := hr.sellers.plain.lt
 by_cases hn : nameOk s.lots[k].name = true
 ·
  refine Af <| Ai fun ds => Bl rfl (Cc (Ak rfl) rfl fun b1 hb1 nb1 => ?_)
  refine Aa rfl (Ae Ab) ?_
  refine Ah <| Ad <| Af <| A4 <| Af <| Ai fun ds => Aa rfl (Aj fd_69_0 (Al rfl <| Ac)) ?_
  refine Aa rfl (Aq one_9 (Ac) (Cell.own 0 rfl rfl)) ?_
  refine Bv rfl (A9 bd_55 Az (.cons (Ac) .nil) (quireName_ok _) (fun _ _ h => h)) ?_
  refine Aa rfl (Cu (Ac)) ?_
  refine Aa rfl (Ae (Ac)) ?_
  refine Ah <| Ad <| Am (Ac) (by rw [hn]; rfl) ?_
  refine Af <| Cq (i := 0) rfl hb1 (.here) fun F2 hF3 hq => ?_
  replace hr := hr.mono hF3
  replace hc := hF3 _ _ hc
  by_cases ht : (s.lots.take k).any (fun y => sameS y.name s.lots[k].name) = true
  ·
   refine Ai fun ds => Aa rfl (Aj Cp (Ay rfl <| Ap rfl <| Al rfl <| Ak rfl)) ?_
   refine Aa rfl (Aq C0 (Ac) (CellF.own hc rfl).cell) ?_
   refine Aa rfl (Ag (Ba rfl <| Al rfl <| Ak rfl)) ?_
   refine Aa rfl (E0 C1 (Al rfl <| Ac) hr.lots.plain (Ac) (k := k) rfl (by omega)) ?_
   refine Aa rfl (Cw (.cons (Ba rfl <| Ap rfl <| Ac) .nil)) ?_
   refine Bv rfl (A9 bd_56 Az (.cons (Al rfl <| Ac) (.cons (Ac) .nil)) (containsLot_ok (hr.lots.to (k := k) (by omega)) (fun y => sameS y.name s.lots[k].name) bd_57 fun i hi => check21_ok hq _) (fun _ _ h => h)) ?_
   refine Aa rfl (Ae (Ac)) ?_
   refine Ah <| Ad <| Ar (Ac) ht ?_
   refine Af <| Ai fun ds => Aa rfl (Ae Ab) ?_
   refine Ah <| Ad <| A5 <| Bc (A7 ?_)
   refine Aw rfl (.tmp (Ac) .nil) ?_
   show _ = _
   rw [lotErr_at hk]; simp [outOf, hn, ht]
  ·
   replace ht : (s.lots.take k).any (fun y => sameS y.name s.lots[k].name) = false := by simpa using ht
   refine Ai fun ds => Aa rfl (Aj Cp (Ay rfl <| Ap rfl <| Al rfl <| Ak rfl)) ?_
   refine Aa rfl (Aq C0 (Ac) (CellF.own hc rfl).cell) ?_
   refine Aa rfl (Ag (Ba rfl <| Al rfl <| Ak rfl)) ?_
   refine Aa rfl (E0 C1 (Al rfl <| Ac) hr.lots.plain (Ac) (k := k) rfl (by omega)) ?_
   refine Aa rfl (Cw (.cons (Ba rfl <| Ap rfl <| Ac) .nil)) ?_
   refine Bv rfl (A9 bd_56 Az (.cons (Al rfl <| Ac) (.cons (Ac) .nil)) (containsLot_ok (hr.lots.to (k := k) (by omega)) (fun y => sameS y.name s.lots[k].name) bd_57 fun i hi => check21_ok hq _) (fun _ _ h => h)) ?_
   refine Aa rfl (Ae (Ac)) ?_
   refine Ah <| Ad <| Am (Ac) ht ?_
   by_cases hs : inB 0 (s.sellers.length - 1) s.lots[k].seller = true
   ·
    refine Af <| Ai fun ds => Aa rfl (Aj fd_27_5 (Ba rfl <| Ay rfl <| Ap rfl <| Ak rfl)) ?_
    refine Aa rfl (Aq Cx (Ac) (CellF.own hc rfl).cell) ?_
    refine Aa rfl (Bf Cr (Ac) hr.sellers.plain) ?_
    refine Aa rfl (Dh (Ac) Ab rfl (by omega) (by omega)) ?_
    refine Aa rfl (Aj fd_69_1 (Bb rfl <| Al rfl <| Ac)) ?_
    refine Aa rfl (Aq Bd (Ac) (CellF.own hq rfl).cell) ?_
    refine Bl rfl (Bz Bs C3 rfl (.cons (Ac) .nil) rfl rfl (by decide) (by simp [Value.oneCell']) fun b4 hb4 nb4 => ?_)
    refine Bp (i := 0) rfl hb4 .here fun F5 hF6 hz7 => ?_
    replace hq := hF6 _ _ hq
    have hsl8 := Ci hz7
    refine Bv rfl (A9 C6 Az (.cons Ab (.cons (Ap rfl <| Al rfl <| Ac) (.cons (Ac) .nil))) (B2 _ _ hsl8) (fun _ _ h => h)) ?_
    refine Aa rfl (Ae (Ac)) ?_
    refine Ah <| Ad <| Am (Ac) (by simp [hs]) ?_
    by_cases hv : inB 1 100000 s.lots[k].reserve = true
    ·
     refine Af <| Ai fun ds => Aa rfl (Aj fd_69_2 (Bb rfl <| Ay rfl <| Ap rfl <| Ac)) ?_
     refine Aa rfl (Aq Bd (Ac) (CellF.own hq rfl).cell) ?_
     refine Bl rfl (Bz Bs C3 rfl (.cons (Ac) .nil) rfl rfl (by decide) (by simp [Value.oneCell']) fun b9 hb9 nb9 => ?_)
     refine Bp (i := 0) rfl hb9 .here fun F10 hF11 hz12 => ?_
     have hsl13 := Ci hz12
     refine Bv rfl (A9 C6 Az (.cons Ab (.cons Ab (.cons (Ac) .nil))) (B2 _ _ hsl13) (fun _ _ h => h)) ?_
     refine Aa rfl (Ae (Ac)) ?_
     refine Ah <| Ad <| Am (Ac) (by simp [hv]) ?_
     refine Ax <| Bh <| Ad <| Af <| Ai fun ds => Aa rfl (Ae Ab) ?_
     refine Ah <| Ad <| A5 <| Aw rfl (.tmp (Ac) .nil) ?_
     show _ = _
     rw [lotErr_at hk]; simp [outOf, hn, ht, hs, hv]
    ·
     replace hv : inB 1 100000 s.lots[k].reserve = false := by simpa using hv
     refine Af <| Ai fun ds => Aa rfl (Aj fd_69_2 (Bb rfl <| Ay rfl <| Ap rfl <| Ac)) ?_
     refine Aa rfl (Aq Bd (Ac) (CellF.own hq rfl).cell) ?_
     refine Bl rfl (Bz Bs C3 rfl (.cons (Ac) .nil) rfl rfl (by decide) (by simp [Value.oneCell']) fun b14 hb14 nb14 => ?_)
     refine Bp (i := 0) rfl hb14 .here fun F15 hF16 hz17 => ?_
     have hsl18 := Ci hz17
     refine Bv rfl (A9 C6 Az (.cons Ab (.cons Ab (.cons (Ac) .nil))) (B2 _ _ hsl18) (fun _ _ h => h)) ?_
     refine Aa rfl (Ae (Ac)) ?_
     refine Ah <| Ad <| Ar (Ac) (by simp [hv]) ?_
     refine Af <| Ai fun ds => Aa rfl (Ae Ab) ?_
     refine Ah <| Ad <| A5 <| Bc (A7 ?_)
     refine Aw rfl (.tmp (Ac) .nil) ?_
     show _ = _
     rw [lotErr_at hk]; simp [outOf, hn, ht, hs, hv]
   ·
    replace hs : inB 0 (s.sellers.length - 1) s.lots[k].seller = false := by simpa using hs
    refine Af <| Ai fun ds => Aa rfl (Aj fd_27_5 (Ba rfl <| Ay rfl <| Ap rfl <| Ak rfl)) ?_
    refine Aa rfl (Aq Cx (Ac) (CellF.own hc rfl).cell) ?_
    refine Aa rfl (Bf Cr (Ac) hr.sellers.plain) ?_
    refine Aa rfl (Dh (Ac) Ab rfl (by omega) (by omega)) ?_
    refine Aa rfl (Aj fd_69_1 (Bb rfl <| Al rfl <| Ac)) ?_
    refine Aa rfl (Aq Bd (Ac) (CellF.own hq rfl).cell) ?_
    refine Bl rfl (Bz Bs C3 rfl (.cons (Ac) .nil) rfl rfl (by decide) (by simp [Value.oneCell']) fun b19 hb19 nb19 => ?_)
    refine Bp (i := 0) rfl hb19 .here fun F20 hF21 hz22 => ?_
    have hsl23 := Ci hz22
    refine Bv rfl (A9 C6 Az (.cons Ab (.cons (Ap rfl <| Al rfl <| Ac) (.cons (Ac) .nil))) (B2 _ _ hsl23) (fun _ _ h => h)) ?_
    refine Aa rfl (Ae (Ac)) ?_
    refine Ah <| Ad <| Ar (Ac) (by simp [hs]) ?_
    refine Af <| Ai fun ds => Aa rfl (Ae Ab) ?_
    refine Ah <| Ad <| A5 <| Bc (A7 ?_)
    refine Aw rfl (.tmp (Ac) .nil) ?_
    show _ = _
    rw [lotErr_at hk]; simp [outOf, hn, ht, hs]
 ·
  replace hn : nameOk s.lots[k].name = false := by simpa using hn
  refine Af <| Ai fun ds => Bl rfl (Cc (Ak rfl) rfl fun b24 hb24 nb24 => ?_)
  refine Aa rfl (Ae Ab) ?_
  refine Ah <| Ad <| Af <| A4 <| Af <| Ai fun ds => Aa rfl (Aj fd_69_0 (Al rfl <| Ac)) ?_
  refine Aa rfl (Aq one_9 (Ac) (Cell.own 0 rfl rfl)) ?_
  refine Bv rfl (A9 bd_55 Az (.cons (Ac) .nil) (quireName_ok _) (fun _ _ h => h)) ?_
  refine Aa rfl (Cu (Ac)) ?_
  refine Aa rfl (Ae (Ac)) ?_
  refine Ah <| Ad <| Ar (Ac) (by rw [hn]; rfl) ?_
  refine Af <| Ai fun ds => Aa rfl (Ae Ab) ?_
  refine Ah <| Ad <| A5 <| Bc (A7 ?_)
  refine Aw rfl (.tmp (Ac) .nil) ?_
  show _ = _
  rw [lotErr_at hk]; simp [outOf, hn]
set_option maxRecDepth 100000 in
theorem check3_ok {F : Heap} {vs vb vl vn vd : Value} {s : Sale} (hr : SaleR F vs vb vl vn vd s) {c TC : Nat} (hc : F c = some (bx TC [vs, .int .i64 s.premium, .int .i64 s.fee, .int .i64 s.days, vb, vl, vn, vd])) {k : Nat} (hk : k < s.bids.length) : Ok Try.prog 59 [.int .i64 (k : Int), .agg (s.bids[k].enc).toArray, .pointer (some ⟨c, 0, none⟩)].toArray F fun r _ => r = .int .i64 (bidErr s k) := by
 refine Ok.intro Try.func59 rfl Try.ntmps59 rfl fun w0 => ?_
 have hL1 := hr.bids.plain.lt
 have hL2 := hr.bidders.plain.lt
 have hL3 := hr.lots.plain.lt
 by_cases h1 : inB 0 (s.bidders.length - 1) s.bids[k].bidder = true
 ·
  refine Af <| Ai fun ds => Bl rfl (Cc (Ak rfl) rfl fun b1 hb1 nb1 => ?_)
  refine Aa rfl (Ae Ab) ?_
  refine Ah <| Ad <| Af <| A4 <| Af <| Ai fun ds => Aa rfl (Aj C7 (Ap rfl <| Ak rfl)) ?_
  refine Aa rfl (Aq Cx (Ac) (CellF.own hc rfl).cell) ?_
  refine Aa rfl (Bf Cr (Ac) hr.bidders.plain) ?_
  refine Aa rfl (Dh (Ac) Ab rfl (by omega) (by omega)) ?_
  refine Aa rfl (Aj Dr (Ay rfl <| Al rfl <| Ac)) ?_
  refine Aa rfl (Aq Bd (Ac) (Cell.own 0 rfl rfl)) ?_
  refine Bl rfl (Bz Bs C3 rfl (.cons (Ac) .nil) rfl rfl (by decide) (by simp [Value.oneCell']) fun b2 hb2 nb2 => ?_)
  refine Bp (i := 0) rfl hb2 .here fun F3 hF4 hz5 => ?_
  replace hr := hr.mono hF4
  replace hc := hF4 _ _ hc
  have hsl6 := Ci hz5
  refine Bv rfl (A9 C6 Az (.cons Ab (.cons (Ap rfl <| Al rfl <| Ac) (.cons (Ac) .nil))) (B2 _ _ hsl6) (fun _ _ h => h)) ?_
  refine Aa rfl (Ag (Ac)) ?_
  refine As rfl rfl (Ac) (by simp [h1]) ?_
  refine Aa rfl (Aj Cp (Ba rfl <| Ap rfl <| Al rfl <| Ak rfl)) ?_
  refine As rfl rfl (Al rfl <| Ac) (by simp [h1]) ?_
  refine Aa rfl (Aq C0 (Ac) (CellF.own hc rfl).cell) ?_
  refine As rfl rfl (Ap rfl <| Ac) (by simp [h1]) ?_
  refine Aa rfl (Bf C1 (Ac) hr.lots.plain) ?_
  refine As rfl rfl (Ap rfl <| Al rfl <| Ac) (by simp [h1]) ?_
  refine Aa rfl (Dh (Ac) Ab rfl (by omega) (by omega)) ?_
  refine As rfl rfl (Ay rfl <| Ac) (by simp [h1]) ?_
  refine Aa rfl (Aj El (Ba rfl <| Ay rfl <| Ap rfl <| Ac)) ?_
  refine As rfl rfl (Ay rfl <| Al rfl <| Ac) (by simp [h1]) ?_
  refine Aa rfl (Aq Bd (Ac) (Cell.own 0 rfl rfl)) ?_
  refine As rfl rfl (Ay rfl <| Ap rfl <| Ac) (by simp [h1]) ?_
  refine Bl rfl (Bz Bs C3 rfl (.cons (Ac) .nil) rfl rfl (by decide) (by simp [Value.oneCell']) fun b7 hb7 nb7 => ?_)
  refine Bp (i := 0) rfl hb7 .here fun F8 hF9 hz10 => ?_
  replace hr := hr.mono hF9
  replace hc := hF9 _ _ hc
  have hsl11 := Ci hz10
  refine As rfl rfl (Ay rfl <| Ap rfl <| Al rfl <| Ac) (by simp [h1]) ?_
  refine Bv rfl (A9 C6 Az (.cons Ab (.cons (Ap rfl <| Al rfl <| Ac) (.cons (Ac) .nil))) (B2 _ _ hsl11) (fun _ _ h => h)) ?_
  refine Aa rfl (A8 (Ba rfl <| Ac) (by simp [h1]) (Ac)) ?_
  refine Aa rfl (Ae (Ac)) ?_
  refine Ah <| Ad ?_
  by_cases h2 : inB 0 (s.lots.length - 1) s.bids[k].lot = true
  ·
   refine Am (Ac) (by simp [h2]) ?_
   by_cases h3 : inB 1 100000 s.bids[k].most = true
   ·
    refine Af <| Ai fun ds => Aa rfl (Aj fd_72_2 (Bb rfl <| Ay rfl <| Ac)) ?_
    refine Aa rfl (Aq Bd (Ac) (Cell.own 0 rfl rfl)) ?_
    refine Bl rfl (Bz Bs C3 rfl (.cons (Ac) .nil) rfl rfl (by decide) (by simp [Value.oneCell']) fun b12 hb12 nb12 => ?_)
    refine Bp (i := 0) rfl hb12 .here fun F13 hF14 hz15 => ?_
    replace hr := hr.mono hF14
    replace hc := hF14 _ _ hc
    have hsl16 := Ci hz15
    refine Bv rfl (A9 C6 Az (.cons Ab (.cons Ab (.cons (Ac) .nil))) (B2 _ _ hsl16) (fun _ _ h => h)) ?_
    refine Aa rfl (Ae (Ac)) ?_
    refine Ah <| Ad <| Am (Ac) (by simp [h3]) ?_
    refine Af <| Cq (i := 0) rfl hb1 (.here) fun F17 hF18 hq => ?_
    replace hr := hr.mono hF18
    replace hc := hF18 _ _ hc
    by_cases ht : (s.bids.take k).any (fun y => decide (y.bidder = s.bids[k].bidder) && decide (y.lot = s.bids[k].lot)) = true
    ·
     refine Ai fun ds => Aa rfl (Aj Dc (Bb rfl <| Ba rfl <| Ap rfl <| Ak rfl)) ?_
     refine Aa rfl (Aq D7 (Ac) (CellF.own hc rfl).cell) ?_
     refine Aa rfl (Ag (Bb rfl <| Ba rfl <| Ay rfl <| Ak rfl)) ?_
     refine Aa rfl (E0 Dz (Al rfl <| Ac) hr.bids.plain (Ac) (k := k) rfl (by omega)) ?_
     refine Aa rfl (Cw (.cons (Bb rfl <| Ba rfl <| Ay rfl <| Al rfl <| Ac) .nil)) ?_
     refine Bv rfl (A9 bd_60 Az (.cons (Al rfl <| Ac) (.cons (Ac) .nil)) (containsBid_ok (hr.bids.to (k := k) (by omega)) (fun y => decide (y.bidder = s.bids[k].bidder) && decide (y.lot = s.bids[k].lot)) bd_61 fun i hi => check31_ok hq _) (fun _ _ h => h)) ?_
     refine Aa rfl (Ae (Ac)) ?_
     refine Ah <| Ad <| Ar (Ac) ht ?_
     refine Af <| Ai fun ds => Aa rfl (Ae Ab) ?_
     refine Ah <| Ad <| A5 <| Bc (A7 ?_)
     refine Aw rfl (.tmp (Ac) .nil) ?_
     show _ = _
     rw [D6 hk]; simp [outOf, h1, h2, h3, ht]
    ·
     replace ht : (s.bids.take k).any (fun y => decide (y.bidder = s.bids[k].bidder) && decide (y.lot = s.bids[k].lot)) = false := by simpa using ht
     refine Ai fun ds => Aa rfl (Aj Dc (Bb rfl <| Ba rfl <| Ap rfl <| Ak rfl)) ?_
     refine Aa rfl (Aq D7 (Ac) (CellF.own hc rfl).cell) ?_
     refine Aa rfl (Ag (Bb rfl <| Ba rfl <| Ay rfl <| Ak rfl)) ?_
     refine Aa rfl (E0 Dz (Al rfl <| Ac) hr.bids.plain (Ac) (k := k) rfl (by omega)) ?_
     refine Aa rfl (Cw (.cons (Bb rfl <| Ba rfl <| Ay rfl <| Al rfl <| Ac) .nil)) ?_
     refine Bv rfl (A9 bd_60 Az (.cons (Al rfl <| Ac) (.cons (Ac) .nil)) (containsBid_ok (hr.bids.to (k := k) (by omega)) (fun y => decide (y.bidder = s.bids[k].bidder) && decide (y.lot = s.bids[k].lot)) bd_61 fun i hi => check31_ok hq _) (fun _ _ h => h)) ?_
     refine Aa rfl (Ae (Ac)) ?_
     refine Ah <| Ad <| Am (Ac) ht ?_
     refine Ax <| Bh <| Ad <| Af <| Ai fun ds => Aa rfl (Ae Ab) ?_
     refine Ah <| Ad <| A5 <| Aw rfl (.tmp (Ac) .nil) ?_
     show _ = _
     rw [D6 hk]; simp [outOf, h1, h2, h3, ht]
   ·
    replace h3 : inB 1 100000 s.bids[k].most = false := by simpa using h3
    refine Af <| Ai fun ds => Aa rfl (Aj fd_72_2 (Bb rfl <| Ay rfl <| Ac)) ?_
    refine Aa rfl (Aq Bd (Ac) (Cell.own 0 rfl rfl)) ?_
    refine Bl rfl (Bz Bs C3 rfl (.cons (Ac) .nil) rfl rfl (by decide) (by simp [Value.oneCell']) fun b19 hb19 nb19 => ?_)
    refine Bp (i := 0) rfl hb19 .here fun F20 hF21 hz22 => ?_
    have hsl23 := Ci hz22
    refine Bv rfl (A9 C6 Az (.cons Ab (.cons Ab (.cons (Ac) .nil))) (B2 _ _ hsl23) (fun _ _ h => h)) ?_
    refine Aa rfl (Ae (Ac)) ?_
    refine Ah <| Ad <| Ar (Ac) (by simp [h3]) ?_
    refine Af <| Ai fun ds => Aa rfl (Ae Ab) ?_
    refine Ah <| Ad <| A5 <| Bc (A7 ?_)
    refine Aw rfl (.tmp (Ac) .nil) ?_
    show _ = _
    rw [D6 hk]; simp [outOf, h1, h2, h3]
  ·
   replace h2 : inB 0 (s.lots.length - 1) s.bids[k].lot = false := by simpa using h2
   refine Ar (Ac) (by simp [h2]) ?_
   refine Af <| Ai fun ds => Aa rfl (Ae Ab) ?_
   refine Ah <| Ad <| A5 <| Bc (A7 ?_)
   refine Aw rfl (.tmp (Ac) .nil) ?_
   show _ = _
   rw [D6 hk]; simp [outOf, h1, h2]
 ·
  replace h1 : inB 0 (s.bidders.length - 1) s.bids[k].bidder = false := by simpa using h1
  refine Af <| Ai fun ds => Bl rfl (Cc (Ak rfl) rfl fun b24 hb24 nb24 => ?_)
  refine Aa rfl (Ae Ab) ?_
  refine Ah <| Ad <| Af <| A4 <| Af <| Ai fun ds => Aa rfl (Aj C7 (Ap rfl <| Ak rfl)) ?_
  refine Aa rfl (Aq Cx (Ac) (CellF.own hc rfl).cell) ?_
  refine Aa rfl (Bf Cr (Ac) hr.bidders.plain) ?_
  refine Aa rfl (Dh (Ac) Ab rfl (by omega) (by omega)) ?_
  refine Aa rfl (Aj Dr (Ay rfl <| Al rfl <| Ac)) ?_
  refine Aa rfl (Aq Bd (Ac) (Cell.own 0 rfl rfl)) ?_
  refine Bl rfl (Bz Bs C3 rfl (.cons (Ac) .nil) rfl rfl (by decide) (by simp [Value.oneCell']) fun b25 hb25 nb25 => ?_)
  refine Bp (i := 0) rfl hb25 .here fun F26 hF27 hz28 => ?_
  have hsl29 := Ci hz28
  refine Bv rfl (A9 C6 Az (.cons Ab (.cons (Ap rfl <| Al rfl <| Ac) (.cons (Ac) .nil))) (B2 _ _ hsl29) (fun _ _ h => h)) ?_
  refine Aa rfl (Ag (Ac)) ?_
  refine At rfl rfl (Ac) (.inl (congrArg Value.bool (by simp [h1]))) rfl ?_
  refine At rfl rfl (Al rfl <| Ac) (.inl (congrArg Value.bool (by simp [h1]))) rfl ?_
  refine At rfl rfl (Ap rfl <| Ac) (.inl (congrArg Value.bool (by simp [h1]))) rfl ?_
  refine At rfl rfl (Ap rfl <| Al rfl <| Ac) (.inl (congrArg Value.bool (by simp [h1]))) rfl ?_
  refine At rfl rfl (Ay rfl <| Ac) (.inl (congrArg Value.bool (by simp [h1]))) rfl ?_
  refine At rfl rfl (Ay rfl <| Al rfl <| Ac) (.inl (congrArg Value.bool (by simp [h1]))) rfl ?_
  refine At rfl rfl (Ay rfl <| Ap rfl <| Ac) (.inl (congrArg Value.bool (by simp [h1]))) rfl ?_
  refine At rfl rfl (Ay rfl <| Ap rfl <| Al rfl <| Ac) (.inl (congrArg Value.bool (by simp [h1]))) rfl ?_
  refine Aa rfl (A6 (Ba rfl <| Ac) (by simp [h1]) Ab) ?_
  refine Aa rfl (Ae (Ac)) ?_
  refine Ah <| Ad <| Ar (Ac) rfl ?_
  refine Af <| Ai fun ds => Aa rfl (Ae Ab) ?_
  refine Ah <| Ad <| A5 <| Bc (A7 ?_)
  refine Aw rfl (.tmp (Ac) .nil) ?_
  show _ = _
  rw [D6 hk]; simp [outOf, h1]
end Go.Proofs.Ytaikojfonleccaa
namespace Go.Proofs.Ytaikojfonleccaa
open Go.RowKit
section
variable {P : Program} {n : Nat} {B : Base} {e : Env} {σ : St} {d : Option Nat} {ty : TypeId} {pos : String} {af : Array Edge} {gd : Option (Nat × Bool)}
inductive OutE {α : Type} (p : α) : List α → List α → Prop
 | here {us : List α} : OutE p (p :: us) us
 | next {u : α} {us us' : List α} : OutE p us us' → OutE p (u :: us) (u :: us')
 | skip {S us us' : List α} : OutE p us us' → OutE p (S ++ us) (S ++ us')
 | lastS {S : List α} : OutE p (S ++ [p]) S
inductive OutB {α : Type} (R : List α) : List α → List α → Prop
 | here {us : List α} : OutB R (R ++ us) us
 | last : OutB R R []
 | next {u : α} {us us' : List α} : OutB R us us' → OutB R (u :: us) (u :: us')
 | skip {S us us' : List α} : OutB R us us' → OutB R (S ++ us) (S ++ us')
 | lastS {S : List α} : OutB R (S ++ R) S
theorem OutE.perm {α : Type} {p : α} {H H1 : List α} (h : OutE p H H1) : H.Perm (p :: H1) := by
 induction h with
 | here => exact .refl _
 | next _ ih => exact (ih.cons _).trans (.swap _ _ _)
 | skip _ ih => exact (ih.append_left _).trans List.perm_middle
 | lastS => exact List.perm_append_comm
theorem OutB.perm {α : Type} {R H H1 : List α} (h : OutB R H H1) : H.Perm (R ++ H1) := by
 induction h with
 | here => exact .refl _
 | last => rw [List.append_nil]
 | next _ ih => exact (ih.cons _).trans List.perm_middle.symm
 | skip _ ih =>
   refine (ih.append_left _).trans ?_
   rw [← List.append_assoc, ← List.append_assoc]
   exact List.perm_append_comm.append_right _
 | lastS => exact List.perm_append_comm
inductive PickB {α : Type} : List α → List α → Prop
 | nil {H : List α} : PickB H []
 | all {H : List α} : PickB H H
 | one {p : α} {H H1 H' : List α} : OutE p H H1 → PickB H1 H' → PickB H (p :: H')
 | blk {R H H1 H' : List α} : OutB R H H1 → PickB H1 H' → PickB H (R ++ H')
 | lastb {R H H1 : List α} : OutB R H H1 → PickB H R
theorem PickB.sub {α : Type} {H H' : List α} (h : PickB H H') : ∃ D, H.Perm (H' ++ D) := by
 induction h with
 | @nil H => exact ⟨H, by simp⟩
 | all => exact ⟨[], by simp⟩
 | one ho _ ih => obtain ⟨D, hD⟩ := ih; exact ⟨D, ho.perm.trans (hD.cons _)⟩
 | blk ho _ ih => obtain ⟨D, hD⟩ := ih; exact ⟨D, by rw [List.append_assoc]; exact ho.perm.trans (hD.append_left _)⟩
 | lastb ho => exact ⟨_, ho.perm⟩
theorem Holds.pickB {w : World} (h : Holds B σ w) {H' : List (Nat × Obj)} (hp : PickB σ.H H') : Holds B ⟨σ.F, H'⟩ w := by
 obtain ⟨D, hD⟩ := hp.sub
 refine h.perm (fun p hm => hD.symm.mem_iff.1 (List.mem_append_left _ hm)) fun hn => ?_
 have := (hD.map (·.1)).nodup_iff.1 hn
 rw [List.map_append, List.nodup_append] at this
 exact this.1
theorem WX_orderB {ops : Array Oper} {Q : Exit → Env → St → Prop} {σS : St} {ts : List Nat} {fuel : Nat} {listed : Array Bool} {H' : List (Nat × Obj)} (hp : PickB σ.H H') (h : WX P n B ops Q σS ts fuel listed e ⟨σ.F, H'⟩) : WX P n B ops Q σS ts fuel listed e σ := WX_imp (fun _ hw => hw.pickB hp) h
end
end Go.Proofs.Ytaikojfonleccaa
namespace Go.Proofs.Ytaikojfonleccaa
open Go.RowKit
theorem none_le {F F' : Heap} (hF : F.le F') {b : Nat} (h : F' b = none) : F b = none := by
 cases hb : F b with
 | none => rfl
 | some o => have := hF _ _ hb; rw [h] at this; cases this
theorem ext_le {F0 F F' : Heap} (h0 : F0.le F) (hF : F.le F') {b : Nat} (h : F' b = F0 b) : F b = F0 b := by
 cases h2 : F b with
 | some o => rw [← h]; exact (hF _ _ h2).symm
 | none => exact (none_le h0 h2).symm
theorem Holds.weak {B : Base} {F F' : Heap} {H : List (Nat × Obj)} {w : World} (h : Holds B ⟨F', H⟩ w) (hF : F.le F') (h0 : B.F0.le F) : Holds B ⟨F, H⟩ w :=
 ⟨h.os, h.tape, h.output, h.size, h.old, fun b o hb => h.sub b o (hF b o hb), fun p hp => let ⟨h1, h2, h3⟩ := h.own p hp; ⟨h1, none_le hF h2, h3⟩, h.nodup, fun b hb => ext_le h0 hF (h.ext b hb), h0,
   fun D hD => let ⟨h1, h2, h3, h4⟩ := h.marks D hD; ⟨h1, none_le hF h2, h3, h4⟩, h.dnodup⟩
end Go.Proofs.Ytaikojfonleccaa
namespace Go.Proofs.Ytaikojfonleccaa
open Go.RowKit
theorem bd_48 : Body Try.prog 48 := Br (by kernel_rfl)
theorem bd_49 : Body Try.prog 49 := Br (by kernel_rfl)
theorem bd_51 : Body Try.prog 51 := Br (by kernel_rfl)
theorem bd_52 : Body Try.prog 52 := Br (by kernel_rfl)
theorem bd_53 : Body Try.prog 53 := Br (by kernel_rfl)
theorem bd_54 : Body Try.prog 54 := Br (by kernel_rfl)
theorem bd_58 : Body Try.prog 58 := Br (by kernel_rfl)
theorem bd_59 : Body Try.prog 59 := Br (by kernel_rfl)
theorem bd_95 : Body Try.prog 95 := Br (by kernel_rfl)
theorem fd_27_1 : FieldT Try.prog 27 1 1 := Ca (by kernel_rfl)
theorem fd_27_2 : FieldT Try.prog 27 2 2 := Ca (by kernel_rfl)
theorem fd_27_3 : FieldT Try.prog 27 3 3 := Ca (by kernel_rfl)
theorem SaleR.ones {F : Heap} {vs vb vl vn vd : Value} {s : Sale} (hr : SaleR F vs vb vl vn vd s) : ∀ u ∈ [vs, .int .i64 s.premium, .int .i64 s.fee, .int .i64 s.days, vb, vl, vn, vd], u.oneCell' = true := by
 intro u hu
 simp only [List.mem_cons, List.not_mem_nil, or_false] at hu
 rcases hu with rfl | rfl | rfl | rfl | rfl | rfl | rfl | rfl
 · exact hr.steps.plain.one
 · rfl
 · rfl
 · rfl
 · exact hr.bidders.plain.one
 · exact hr.sellers.plain.one
 · exact hr.lots.plain.one
 · exact hr.bids.plain.one
set_option maxRecDepth 100000 in
theorem checkS_ok {F : Heap} {vs vb vl vn vd : Value} {s : Sale} (hr : SaleR F vs vb vl vn vd s) : Ok Try.prog 15 [.agg #[vs, .int .i64 s.premium, .int .i64 s.fee, .int .i64 s.days, vb, vl, vn, vd]].toArray F fun r _ => r = checkSV s := by
 refine Ok.intro Try.func15 rfl Try.ntmps15 rfl fun w0 => ?_
 have hle0 : F.le F := Heap.le_refl _
 by_cases hlen0 : s.steps.length = 0
 ·
  refine Af <| Ai fun ds => Bl rfl (Cc (Ak rfl) rfl fun b1 hb1 nb1 => ?_)
  refine Aa rfl (Ae Ab) ?_
  refine Aa rfl (Ae Ab) ?_
  refine Aa rfl (Ae Ab) ?_
  refine Ah <| Ad <| Af <| Af <| Ai fun ds => Aa rfl (Aj D2 (Ap rfl <| Al rfl <| Ac)) ?_
  refine Aa rfl (Aq Ev (Ac) (Cell.own 0 rfl rfl)) ?_
  refine Aa rfl (Bf Ec (Ac) hr.steps.plain) ?_
  refine Aa rfl (B9 (Ac) Ab) ?_
  refine Ah <| Ad <| Ar (Ac) (decide_eq_true (by omega)) ?_
  refine Af <| Ai fun ds => Aa rfl (Ae Ab) ?_
  refine Aa rfl (Ae Ab) ?_
  refine Aa rfl (Ae Ab) ?_
  refine Ah <| Ad <| A5 <| A7 ?_
  refine Aw rfl (.tmp (Ap rfl <| Ac) (.tmp (Al rfl <| Ac) (.tmp (Ac) .nil))) ?_
  exact (E1 (i := 0) (e := 3) (by unfold stepsE; rw [if_pos hlen0])).symm
 ·
  refine Af <| Ai fun ds => Bl rfl (Cc (Ak rfl) rfl fun b2 hb2 nb2 => ?_)
  refine Aa rfl (Ae Ab) ?_
  refine Aa rfl (Ae Ab) ?_
  refine Aa rfl (Ae Ab) ?_
  refine Ah <| Ad <| Af <| Af <| Ai fun ds => Aa rfl (Aj D2 (Ap rfl <| Al rfl <| Ac)) ?_
  refine Aa rfl (Aq Ev (Ac) (Cell.own 0 rfl rfl)) ?_
  refine Aa rfl (Bf Ec (Ac) hr.steps.plain) ?_
  refine Aa rfl (B9 (Ac) Ab) ?_
  refine Ah <| Ad <| Am (Ac) (decide_eq_false (by omega)) ?_
  refine Ax <| Ad <| Af <| Cq (i := 0) rfl hb2 (.here) fun F3 hF4 hc1 => ?_
  replace hr := hr.mono hF4
  replace hle0 := Heap.le_trans hle0 hF4
  rcases hS : firstE s.steps.length 5 (stepErr s.steps) with _ | ⟨i1, e1⟩
  ·
   refine Ai fun ds => Aa rfl (Aj D2 (Ay rfl <| Ap rfl <| Al rfl <| Ac)) ?_
   refine Aa rfl (Aq Ev (Ac) (CellF.own hc1 rfl).cell) ?_
   refine Aa rfl (Cw (.cons (Ba rfl <| Al rfl <| Ac) .nil)) ?_
   refine Bv rfl (A9 bd_48 Az (.cons (Al rfl <| Ac) (.cons Ab (.cons (Ac) .nil))) (firstStp_ok hr.steps (most := 5) (stepErr s.steps) bd_49 fun k hk hno => check1_ok hr hc1 hk hno) (fun _ _ h => h.trans (show optV _ = .tuple #[.int .i64 0, .int .i64 0] from by rw [hS]; rfl))) ?_
   refine Aa rfl (Ag (Ac)) ?_
   refine Aa rfl (A1 (Ac) rfl) ?_
   refine Aa rfl (A1 (Al rfl <| Ac) rfl) ?_
   refine Aa rfl (Ae (Al rfl <| Ac)) ?_
   refine Aa rfl (Ae (Al rfl <| Ac)) ?_
   refine Ah <| Ad <| Af <| A4 <| Af <| Ai fun ds => Aa rfl (Ag (Ac)) ?_
   refine Aa rfl (B5 (Ac) Ab) ?_
   refine Aa rfl (Ae (Ac)) ?_
   refine Ah <| Ad <| Am (Ac) rfl ?_
   by_cases p1 : (inB 0 500 s.premium && inB 0 500 s.fee) = true
   ·
    refine Af <| Ai fun ds => Aa rfl (Aj fd_27_1 (Bb rfl <| Ap rfl <| Al rfl <| Ac)) ?_
    refine Aa rfl (Aq Bd (Ac) (CellF.own hc1 rfl).cell) ?_
    refine Aa rfl (Aj fd_27_2 (Bb rfl <| Ay rfl <| Al rfl <| Ac)) ?_
    refine Aa rfl (Aq Bd (Ac) (CellF.own hc1 rfl).cell) ?_
    refine Bl rfl (Bz Bs C3 rfl (.cons (Ap rfl <| Ac) (.cons (Ac) .nil)) rfl rfl (by decide) (by simp [Value.oneCell']) fun b5 hb5 nb5 => ?_)
    refine Bp (i := 0) rfl hb5 .here fun F6 hF7 hz8 => ?_
    replace hr := hr.mono hF7
    replace hle0 := Heap.le_trans hle0 hF7
    replace hc1 := hF7 _ _ hc1
    have hsl9 := Dl hz8
    refine Bv rfl (A9 C6 Az (.cons Ab (.cons Ab (.cons (Ac) .nil))) (B2 _ _ hsl9) (fun _ _ h => h)) ?_
    refine Aa rfl (Ag (Ac)) ?_
    refine As rfl rfl (Ac) (by first | (rw [Cg, p1]; done) | (rw [Cg, p1]; rfl)) ?_
    refine Aa rfl (Aj fd_27_3 (Bb rfl <| Ba rfl <| Ap rfl <| Ac)) ?_
    refine As rfl rfl (Al rfl <| Ac) (by first | (rw [Cg, p1]; done) | (rw [Cg, p1]; rfl)) ?_
    refine Aa rfl (Aq Bd (Ac) (CellF.own hc1 rfl).cell) ?_
    refine As rfl rfl (Ap rfl <| Ac) (by first | (rw [Cg, p1]; done) | (rw [Cg, p1]; rfl)) ?_
    refine Bl rfl (Bz Bs C3 rfl (.cons (Ac) .nil) rfl rfl (by decide) (by simp [Value.oneCell']) fun b10 hb10 nb10 => ?_)
    refine Bp (i := 0) rfl hb10 .here fun F11 hF12 hz13 => ?_
    replace hr := hr.mono hF12
    replace hle0 := Heap.le_trans hle0 hF12
    replace hc1 := hF12 _ _ hc1
    have hsl14 := Ci hz13
    refine As rfl rfl (Ap rfl <| Al rfl <| Ac) (by first | (rw [Cg, p1]; done) | (rw [Cg, p1]; rfl)) ?_
    refine Bv rfl (A9 C6 Az (.cons Ab (.cons Ab (.cons (Ac) .nil))) (B2 _ _ hsl14) (fun _ _ h => h)) ?_
    refine Aa rfl (A8 (Ay rfl <| Ac) (by first | (rw [Cg, p1]; done) | (rw [Cg, p1]; rfl)) (Ac)) ?_
    refine Aa rfl (Ae (Ac)) ?_
    refine Ah <| Ad ?_
    by_cases p2 : inB 0 60 s.days = true
    ·
     refine Am (Ac) (by simp [p2]) ?_
     have hP : ((inB 0 500 s.premium && inB 0 500 s.fee) && inB 0 60 s.days) = true := by simp [p1, p2]
     rcases h3 : firstE s.bidders.length 6 (nameErr s.bidders) with _ | ⟨i3, e3⟩
     ·
      refine Ax <| Bh <| Ad <| Af <| Af <| WC_cut [3, 4, 34, 35, 36, 37, 38, 39, 40, 41, 42] (fun st σ => st 3 = .int .i64 0 ∧ st 4 = .int .i64 0 ∧ ∃ G, F.le G ∧ SaleR G vs vb vl vn vd s ∧ G b2 = some (bx 27 [vs, .int .i64 s.premium, .int .i64 s.fee, .int .i64 s.days, vb, vl, vn, vd]) ∧ σ = ⟨G, []⟩) ?_ ?_
      ·
       have hleS := hle0
       refine Er (.inl rfl) (fun _ _ h => h) (List.nil_sublist _) [5, 6, 7, 8, 9, 10] (by kernel_rfl) fun ds => ?_
       refine Bi 0 rfl (by kernel_rfl) (by kernel_rfl) (by kernel_rfl) (by kernel_rfl) rfl rfl (fun _ h => h.drop (List.nil_sublist _)) (fun _ _ _ h => h) (Aj C7 (Bt rfl <| Ac)) ?_
       refine Bi 1 rfl (by kernel_rfl) (by kernel_rfl) (by kernel_rfl) (by kernel_rfl) rfl rfl (fun _ h => h.drop (List.nil_sublist _)) (fun _ _ _ h => h) (Aq Cx (Ac) (CellF.own hc1 rfl).cell) ?_
       refine Bi 2 rfl (by kernel_rfl) (by kernel_rfl) (by kernel_rfl) (by kernel_rfl) rfl rfl (fun _ h => h.drop (List.nil_sublist _)) (fun _ _ _ h => h) (Aj C7 (Bt rfl <| Ap rfl <| Ac)) ?_
       refine Bi 3 rfl (by kernel_rfl) (by kernel_rfl) (by kernel_rfl) (by kernel_rfl) rfl rfl (fun _ h => h.drop (List.nil_sublist _)) (fun _ _ _ h => h) (Aq Cx (Ac) (CellF.own hc1 rfl).cell) ?_
       refine Dd 4 rfl (by kernel_rfl) rfl (Cz bd_52 Az (.cons (Ac) .nil) (named_ok hr.bidders) fun v15 F16 hr17 hF18 => ⟨fun _ _ _ h => (h.drop (List.nil_sublist _)).weak hF18 hleS, ?_⟩)
       replace hr := hr.mono hF18
       replace hle0 := Heap.le_trans hle0 hF18
       replace hc1 := hF18 _ _ hc1
       obtain ⟨b5, rfl, hzb⟩ := hr17
       refine Dd 5 rfl (by kernel_rfl) rfl (Cz bd_51 Az (.cons (Ap rfl <| Al rfl <| Ac) (.cons Ab (.cons (Ac) .nil))) ((firstStr_ok hr.bidders (most := 6) (nameErr s.bidders) bd_95 fun k hk _ => named1_ok hzb hr.bidders hk).mono fun u F2 _ h => h.trans (show optV _ = .tuple #[.int .i64 0, .int .i64 0] from by rw [h3]; rfl)) fun v19 F20 hr21 hF22 => ⟨(fun h => nomatch h), ?_⟩)
       replace hr := hr.mono hF22
       replace hle0 := Heap.le_trans hle0 hF22
       replace hc1 := hF22 _ _ hc1
       obtain rfl := hr21
       refine Dd 6 rfl (by kernel_rfl) rfl (Bo (Ag (Ac)).quiet ⟨(fun h => nomatch h), ?_⟩)
       refine WX_pick [7, 8] (by kernel_rfl) (by decide) (in2 ?_ ?_)
       ·
        refine D9 rfl rfl (Bo (A1 (Ac) rfl).quiet ⟨(fun h => nomatch h), ?_⟩)
        refine WX_pick [8, 9] (by kernel_rfl) (by decide) (in2 ?_ ?_)
        ·
         refine D9 rfl rfl (Bo (A1 (Al rfl <| Ac) rfl).quiet ⟨(fun h => nomatch h), ?_⟩)
         refine Dd 9 rfl (by kernel_rfl) rfl (Bo (Ae (Al rfl <| Ac)).quiet ⟨(fun h => nomatch h), ?_⟩)
         refine Dd 10 rfl (by kernel_rfl) rfl (Bo (Ae (Al rfl <| Ac)).quiet ⟨(fun h => nomatch h), ?_⟩)
         refine De (by kernel_rfl) ?_ _
         refine Ad ⟨_, Off.eq (Ei rfl <| Et rfl <| Eu rfl <| C9), ?_⟩
         exact ⟨(Al rfl <| Ac), (Ac), _, hle0, hr, hc1, rfl⟩
        ·
         refine D9 rfl rfl (Bo (Ae (Ac)).quiet ⟨(fun h => nomatch h), ?_⟩)
         refine Dd 8 rfl (by kernel_rfl) rfl (Bo (A1 (Ap rfl <| Ac) rfl).quiet ⟨(fun h => nomatch h), ?_⟩)
         refine Dd 10 rfl (by kernel_rfl) rfl (Bo (Ae (Ac)).quiet ⟨(fun h => nomatch h), ?_⟩)
         refine De (by kernel_rfl) ?_ _
         refine Ad ⟨_, Off.eq (Ei rfl <| Et rfl <| Eu rfl <| C9), ?_⟩
         exact ⟨(Ap rfl <| Ac), (Ac), _, hle0, hr, hc1, rfl⟩
       ·
        refine D9 rfl rfl (Bo (A1 (Ac) rfl).quiet ⟨(fun h => nomatch h), ?_⟩)
        refine Dd 7 rfl (by kernel_rfl) rfl (Bo (A1 (Al rfl <| Ac) rfl).quiet ⟨(fun h => nomatch h), ?_⟩)
        refine Dd 9 rfl (by kernel_rfl) rfl (Bo (Ae (Ac)).quiet ⟨(fun h => nomatch h), ?_⟩)
        refine Dd 10 rfl (by kernel_rfl) rfl (Bo (Ae (Ap rfl <| Ac)).quiet ⟨(fun h => nomatch h), ?_⟩)
        refine De (by kernel_rfl) ?_ _
        refine Ad ⟨_, Off.eq (Ei rfl <| Et rfl <| Eu rfl <| C9), ?_⟩
        exact ⟨(Al rfl <| Ac), (Ac), _, hle0, hr, hc1, rfl⟩
      rintro e8 _ ⟨hc3, hc4, G8, hle0, hr, hc1, rfl⟩
      refine Af <| Ai fun ds => Aa rfl (Ag (Au rfl hc4)) ?_
      refine Aa rfl (B5 (Ac) Ab) ?_
      refine Ah <| Ad <| Am (Ac) rfl ?_
      rcases h4 : firstE s.sellers.length 4 (nameErr s.sellers) with _ | ⟨i4, e4⟩
      ·
       refine Ax <| Ad <| Af <| Af <| WC_cut [3, 4, 47, 48, 49, 50, 51, 52, 53, 54, 55] (fun st σ => st 3 = .int .i64 0 ∧ st 4 = .int .i64 0 ∧ ∃ G, F.le G ∧ SaleR G vs vb vl vn vd s ∧ G b2 = some (bx 27 [vs, .int .i64 s.premium, .int .i64 s.fee, .int .i64 s.days, vb, vl, vn, vd]) ∧ σ = ⟨G, []⟩) ?_ ?_
       ·
        have hleS := hle0
        refine Er (.inl rfl) (fun _ _ h => h) (List.nil_sublist _) [5, 6, 7, 8, 9, 10] (by kernel_rfl) fun ds => ?_
        refine Bi 0 rfl (by kernel_rfl) (by kernel_rfl) (by kernel_rfl) (by kernel_rfl) rfl rfl (fun _ h => h.drop (List.nil_sublist _)) (fun _ _ _ h => h) (Aj fd_27_5 (Ap rfl <| Ao rfl <| Bt rfl <| Ac)) ?_
        refine Bi 1 rfl (by kernel_rfl) (by kernel_rfl) (by kernel_rfl) (by kernel_rfl) rfl rfl (fun _ h => h.drop (List.nil_sublist _)) (fun _ _ _ h => h) (Aq Cx (Ac) (CellF.own hc1 rfl).cell) ?_
        refine Bi 2 rfl (by kernel_rfl) (by kernel_rfl) (by kernel_rfl) (by kernel_rfl) rfl rfl (fun _ h => h.drop (List.nil_sublist _)) (fun _ _ _ h => h) (Aj fd_27_5 (Ay rfl <| Ao rfl <| Bt rfl <| Ac)) ?_
        refine Bi 3 rfl (by kernel_rfl) (by kernel_rfl) (by kernel_rfl) (by kernel_rfl) rfl rfl (fun _ h => h.drop (List.nil_sublist _)) (fun _ _ _ h => h) (Aq Cx (Ac) (CellF.own hc1 rfl).cell) ?_
        refine Dd 4 rfl (by kernel_rfl) rfl (Cz bd_52 Az (.cons (Ac) .nil) (named_ok hr.sellers) fun v23 F24 hr25 hF26 => ⟨fun _ _ _ h => (h.drop (List.nil_sublist _)).weak hF26 hleS, ?_⟩)
        replace hr := hr.mono hF26
        replace hle0 := Heap.le_trans hle0 hF26
        replace hc1 := hF26 _ _ hc1
        obtain ⟨b5, rfl, hzb⟩ := hr25
        refine Dd 5 rfl (by kernel_rfl) rfl (Cz bd_51 Az (.cons (Ap rfl <| Al rfl <| Ac) (.cons Ab (.cons (Ac) .nil))) ((firstStr_ok hr.sellers (most := 4) (nameErr s.sellers) bd_95 fun k hk _ => named1_ok hzb hr.sellers hk).mono fun u F2 _ h => h.trans (show optV _ = .tuple #[.int .i64 0, .int .i64 0] from by rw [h4]; rfl)) fun v27 F28 hr29 hF30 => ⟨(fun h => nomatch h), ?_⟩)
        replace hr := hr.mono hF30
        replace hle0 := Heap.le_trans hle0 hF30
        replace hc1 := hF30 _ _ hc1
        obtain rfl := hr29
        refine Dd 6 rfl (by kernel_rfl) rfl (Bo (Ag (Ac)).quiet ⟨(fun h => nomatch h), ?_⟩)
        refine WX_pick [7, 8] (by kernel_rfl) (by decide) (in2 ?_ ?_)
        ·
         refine D9 rfl rfl (Bo (A1 (Ac) rfl).quiet ⟨(fun h => nomatch h), ?_⟩)
         refine WX_pick [8, 9] (by kernel_rfl) (by decide) (in2 ?_ ?_)
         ·
          refine D9 rfl rfl (Bo (A1 (Al rfl <| Ac) rfl).quiet ⟨(fun h => nomatch h), ?_⟩)
          refine Dd 9 rfl (by kernel_rfl) rfl (Bo (Ae (Al rfl <| Ac)).quiet ⟨(fun h => nomatch h), ?_⟩)
          refine Dd 10 rfl (by kernel_rfl) rfl (Bo (Ae (Al rfl <| Ac)).quiet ⟨(fun h => nomatch h), ?_⟩)
          refine De (by kernel_rfl) ?_ _
          refine Ad ⟨_, Off.eq (Ei rfl <| Et rfl <| Eu rfl <| C9), ?_⟩
          exact ⟨(Al rfl <| Ac), (Ac), _, hle0, hr, hc1, rfl⟩
         ·
          refine D9 rfl rfl (Bo (Ae (Ac)).quiet ⟨(fun h => nomatch h), ?_⟩)
          refine Dd 8 rfl (by kernel_rfl) rfl (Bo (A1 (Ap rfl <| Ac) rfl).quiet ⟨(fun h => nomatch h), ?_⟩)
          refine Dd 10 rfl (by kernel_rfl) rfl (Bo (Ae (Ac)).quiet ⟨(fun h => nomatch h), ?_⟩)
          refine De (by kernel_rfl) ?_ _
          refine Ad ⟨_, Off.eq (Ei rfl <| Et rfl <| Eu rfl <| C9), ?_⟩
          exact ⟨(Ap rfl <| Ac), (Ac), _, hle0, hr, hc1, rfl⟩
        ·
         refine D9 rfl rfl (Bo (A1 (Ac) rfl).quiet ⟨(fun h => nomatch h), ?_⟩)
         refine Dd 7 rfl (by kernel_rfl) rfl (Bo (A1 (Al rfl <| Ac) rfl).quiet ⟨(fun h => nomatch h), ?_⟩)
         refine Dd 9 rfl (by kernel_rfl) rfl (Bo (Ae (Ac)).quiet ⟨(fun h => nomatch h), ?_⟩)
         refine Dd 10 rfl (by kernel_rfl) rfl (Bo (Ae (Ap rfl <| Ac)).quiet ⟨(fun h => nomatch h), ?_⟩)
         refine De (by kernel_rfl) ?_ _
         refine Ad ⟨_, Off.eq (Ei rfl <| Et rfl <| Eu rfl <| C9), ?_⟩
         exact ⟨(Al rfl <| Ac), (Ac), _, hle0, hr, hc1, rfl⟩
       rintro e11 _ ⟨hc3, hc4, G11, hle0, hr, hc1, rfl⟩
       refine Af <| Ai fun ds => Aa rfl (Ag (Au rfl hc4)) ?_
       refine Aa rfl (B5 (Ac) Ab) ?_
       refine Ah <| Ad <| Am (Ac) rfl ?_
       rcases h5 : firstE s.lots.length 6 (lotErr s) with _ | ⟨i5, e5⟩
       ·
        refine Ax <| Ad <| Af <| Ai fun ds => Aa rfl (Aj Cp (Ap rfl <| Ao rfl <| Ap rfl <| Ao rfl <| Bt rfl <| Ac)) ?_
        refine Aa rfl (Aq C0 (Ac) (CellF.own hc1 rfl).cell) ?_
        refine Aa rfl (Cw (.cons (Ay rfl <| Ao rfl <| Ap rfl <| Ao rfl <| Bt rfl <| Ac) .nil)) ?_
        refine Bv rfl (A9 bd_53 Az (.cons (Al rfl <| Ac) (.cons Ab (.cons (Ac) .nil))) (firstLot_ok hr.lots (most := 6) (lotErr s) bd_54 fun k hk _ => check2_ok hr hc1 hk) (fun _ _ h => h.trans (show optV _ = .tuple #[.int .i64 0, .int .i64 0] from by rw [h5]; rfl))) ?_
        refine Aa rfl (Ag (Ac)) ?_
        refine Aa rfl (A1 (Ac) rfl) ?_
        refine Aa rfl (A1 (Al rfl <| Ac) rfl) ?_
        refine Aa rfl (Ae (Al rfl <| Ac)) ?_
        refine Aa rfl (Ae (Al rfl <| Ac)) ?_
        refine Ah <| Ad <| Af <| Af <| Ai fun ds => Aa rfl (Ag (Ac)) ?_
        refine Aa rfl (B5 (Ac) Ab) ?_
        refine Ah <| Ad <| Am (Ac) rfl ?_
        rcases h6 : firstE s.bids.length 16 (bidErr s) with _ | ⟨i6, e6⟩
        ·
         refine Ax <| Ad <| Af <| Ai fun ds => Aa rfl (Aj Dc (Ba rfl <| Ay rfl <| Al rfl <| Ao rfl <| Ap rfl <| Ao rfl <| Bt rfl <| Ac)) ?_
         refine Aa rfl (Aq D7 (Ac) (CellF.own hc1 rfl).cell) ?_
         refine Aa rfl (Cw (.cons (Ba rfl <| Ay rfl <| Ap rfl <| Al rfl <| Ao rfl <| Ap rfl <| Ao rfl <| Bt rfl <| Ac) .nil)) ?_
         refine Bv rfl (A9 bd_58 Az (.cons (Al rfl <| Ac) (.cons Ab (.cons (Ac) .nil))) (firstBid_ok hr.bids (most := 16) (bidErr s) bd_59 fun k hk _ => check3_ok hr hc1 hk) (fun _ _ h => h.trans (show optV _ = .tuple #[.int .i64 0, .int .i64 0] from by rw [h6]; rfl))) ?_
         refine Aa rfl (Ag (Ac)) ?_
         refine Aa rfl (A1 (Ac) rfl) ?_
         refine Aa rfl (A1 (Al rfl <| Ac) rfl) ?_
         refine Aa rfl (Ae (Al rfl <| Ac)) ?_
         refine Aa rfl (Ae (Al rfl <| Ac)) ?_
         refine Ah <| Ad <| Af <| Af <| Ai fun ds => Aa rfl (Ag (Ac)) ?_
         refine Aa rfl (B5 (Ac) Ab) ?_
         refine Ah <| Ad <| Am (Ac) rfl ?_
         refine Ax <| Ad <| Af <| Ai fun ds => Aa rfl (Ae Ab) ?_
         refine Aa rfl (Ae Ab) ?_
         refine Aa rfl (Ae Ab) ?_
         refine Ah <| Ad <| A5 <| Aw rfl (.tmp (Ap rfl <| Ac) (.tmp (Al rfl <| Ac) (.tmp (Ac) .nil))) ?_
         exact (checkS_v0 (by unfold stepsE; rw [if_neg hlen0, hS]) hP h3 h4 h5 h6).symm
        ·
         refine Ax <| Ad <| Af <| Ai fun ds => Aa rfl (Aj Dc (Ba rfl <| Ay rfl <| Al rfl <| Ao rfl <| Ap rfl <| Ao rfl <| Bt rfl <| Ac)) ?_
         refine Aa rfl (Aq D7 (Ac) (CellF.own hc1 rfl).cell) ?_
         refine Aa rfl (Cw (.cons (Ba rfl <| Ay rfl <| Ap rfl <| Al rfl <| Ao rfl <| Ap rfl <| Ao rfl <| Bt rfl <| Ac) .nil)) ?_
         refine Bv rfl (A9 bd_58 Az (.cons (Al rfl <| Ac) (.cons Ab (.cons (Ac) .nil))) (firstBid_ok hr.bids (most := 16) (bidErr s) bd_59 fun k hk _ => check3_ok hr hc1 hk) (fun _ _ h => h.trans (show optV _ = .tuple #[.int .i64 i6, .int .i64 e6] from by rw [h6]; rfl))) ?_
         refine Aa rfl (Ag (Ac)) ?_
         refine Aa rfl (A1 (Ac) rfl) ?_
         refine Aa rfl (A1 (Al rfl <| Ac) rfl) ?_
         refine Aa rfl (Ae (Al rfl <| Ac)) ?_
         refine Aa rfl (Ae (Al rfl <| Ac)) ?_
         refine Ah <| Ad <| Af <| Af <| Ai fun ds => Aa rfl (Ag (Ac)) ?_
         refine Aa rfl (B5 (Ac) Ab) ?_
         refine Ah <| Ad <| Ar (Ac) (decide_eq_true (D1 h6)) ?_
         refine Af <| Ai fun ds => Aa rfl (Ag (Ap rfl <| Al rfl <| Ac)) ?_
         refine Aa rfl (Ag (Ap rfl <| Al rfl <| Ac)) ?_
         refine Aa rfl (Ae Ab) ?_
         refine Aa rfl (Ae (Ap rfl <| Ac)) ?_
         refine Aa rfl (Ae (Ap rfl <| Ac)) ?_
         refine Ah <| Ad <| A5 <| A7 ?_
         refine Aw rfl (.tmp (Ap rfl <| Ac) (.tmp (Al rfl <| Ac) (.tmp (Ac) .nil))) ?_
         exact (checkS_v6 (by unfold stepsE; rw [if_neg hlen0, hS]) hP h3 h4 h5 h6).symm
       ·
        refine Ax <| Ad <| Af <| Ai fun ds => Aa rfl (Aj Cp (Ap rfl <| Ao rfl <| Ap rfl <| Ao rfl <| Bt rfl <| Ac)) ?_
        refine Aa rfl (Aq C0 (Ac) (CellF.own hc1 rfl).cell) ?_
        refine Aa rfl (Cw (.cons (Ay rfl <| Ao rfl <| Ap rfl <| Ao rfl <| Bt rfl <| Ac) .nil)) ?_
        refine Bv rfl (A9 bd_53 Az (.cons (Al rfl <| Ac) (.cons Ab (.cons (Ac) .nil))) (firstLot_ok hr.lots (most := 6) (lotErr s) bd_54 fun k hk _ => check2_ok hr hc1 hk) (fun _ _ h => h.trans (show optV _ = .tuple #[.int .i64 i5, .int .i64 e5] from by rw [h5]; rfl))) ?_
        refine Aa rfl (Ag (Ac)) ?_
        refine Aa rfl (A1 (Ac) rfl) ?_
        refine Aa rfl (A1 (Al rfl <| Ac) rfl) ?_
        refine Aa rfl (Ae (Al rfl <| Ac)) ?_
        refine Aa rfl (Ae (Al rfl <| Ac)) ?_
        refine Ah <| Ad <| Af <| Af <| Ai fun ds => Aa rfl (Ag (Ac)) ?_
        refine Aa rfl (B5 (Ac) Ab) ?_
        refine Ah <| Ad <| Ar (Ac) (decide_eq_true (D1 h5)) ?_
        refine Af <| Ai fun ds => Aa rfl (Ag (Ap rfl <| Al rfl <| Ac)) ?_
        refine Aa rfl (Ag (Ap rfl <| Al rfl <| Ac)) ?_
        refine Aa rfl (Ae Ab) ?_
        refine Aa rfl (Ae (Ap rfl <| Ac)) ?_
        refine Aa rfl (Ae (Ap rfl <| Ac)) ?_
        refine Ah <| Ad <| A5 <| A7 ?_
        refine Aw rfl (.tmp (Ap rfl <| Ac) (.tmp (Al rfl <| Ac) (.tmp (Ac) .nil))) ?_
        exact (checkS_v5 (by unfold stepsE; rw [if_neg hlen0, hS]) hP h3 h4 h5).symm
      ·
       refine Ax <| Ad <| Af <| Af <| WC_cut [3, 4, 47, 48, 49, 50, 51, 52, 53, 54, 55] (fun st σ => st 3 = .int .i64 i4 ∧ st 4 = .int .i64 e4 ∧ ∃ G, F.le G ∧ SaleR G vs vb vl vn vd s ∧ G b2 = some (bx 27 [vs, .int .i64 s.premium, .int .i64 s.fee, .int .i64 s.days, vb, vl, vn, vd]) ∧ σ = ⟨G, []⟩) ?_ ?_
       ·
        have hleS := hle0
        refine Er (.inl rfl) (fun _ _ h => h) (List.nil_sublist _) [5, 6, 7, 8, 9, 10] (by kernel_rfl) fun ds => ?_
        refine Bi 0 rfl (by kernel_rfl) (by kernel_rfl) (by kernel_rfl) (by kernel_rfl) rfl rfl (fun _ h => h.drop (List.nil_sublist _)) (fun _ _ _ h => h) (Aj fd_27_5 (Ap rfl <| Ao rfl <| Bt rfl <| Ac)) ?_
        refine Bi 1 rfl (by kernel_rfl) (by kernel_rfl) (by kernel_rfl) (by kernel_rfl) rfl rfl (fun _ h => h.drop (List.nil_sublist _)) (fun _ _ _ h => h) (Aq Cx (Ac) (CellF.own hc1 rfl).cell) ?_
        refine Bi 2 rfl (by kernel_rfl) (by kernel_rfl) (by kernel_rfl) (by kernel_rfl) rfl rfl (fun _ h => h.drop (List.nil_sublist _)) (fun _ _ _ h => h) (Aj fd_27_5 (Ay rfl <| Ao rfl <| Bt rfl <| Ac)) ?_
        refine Bi 3 rfl (by kernel_rfl) (by kernel_rfl) (by kernel_rfl) (by kernel_rfl) rfl rfl (fun _ h => h.drop (List.nil_sublist _)) (fun _ _ _ h => h) (Aq Cx (Ac) (CellF.own hc1 rfl).cell) ?_
        refine Dd 4 rfl (by kernel_rfl) rfl (Cz bd_52 Az (.cons (Ac) .nil) (named_ok hr.sellers) fun v31 F32 hr33 hF34 => ⟨fun _ _ _ h => (h.drop (List.nil_sublist _)).weak hF34 hleS, ?_⟩)
        replace hr := hr.mono hF34
        replace hle0 := Heap.le_trans hle0 hF34
        replace hc1 := hF34 _ _ hc1
        obtain ⟨b5, rfl, hzb⟩ := hr33
        refine Dd 5 rfl (by kernel_rfl) rfl (Cz bd_51 Az (.cons (Ap rfl <| Al rfl <| Ac) (.cons Ab (.cons (Ac) .nil))) ((firstStr_ok hr.sellers (most := 4) (nameErr s.sellers) bd_95 fun k hk _ => named1_ok hzb hr.sellers hk).mono fun u F2 _ h => h.trans (show optV _ = .tuple #[.int .i64 i4, .int .i64 e4] from by rw [h4]; rfl)) fun v35 F36 hr37 hF38 => ⟨(fun h => nomatch h), ?_⟩)
        replace hr := hr.mono hF38
        replace hle0 := Heap.le_trans hle0 hF38
        replace hc1 := hF38 _ _ hc1
        obtain rfl := hr37
        refine Dd 6 rfl (by kernel_rfl) rfl (Bo (Ag (Ac)).quiet ⟨(fun h => nomatch h), ?_⟩)
        refine WX_pick [7, 8] (by kernel_rfl) (by decide) (in2 ?_ ?_)
        ·
         refine D9 rfl rfl (Bo (A1 (Ac) rfl).quiet ⟨(fun h => nomatch h), ?_⟩)
         refine WX_pick [8, 9] (by kernel_rfl) (by decide) (in2 ?_ ?_)
         ·
          refine D9 rfl rfl (Bo (A1 (Al rfl <| Ac) rfl).quiet ⟨(fun h => nomatch h), ?_⟩)
          refine Dd 9 rfl (by kernel_rfl) rfl (Bo (Ae (Al rfl <| Ac)).quiet ⟨(fun h => nomatch h), ?_⟩)
          refine Dd 10 rfl (by kernel_rfl) rfl (Bo (Ae (Al rfl <| Ac)).quiet ⟨(fun h => nomatch h), ?_⟩)
          refine De (by kernel_rfl) ?_ _
          refine Ad ⟨_, Off.eq (Ei rfl <| Et rfl <| Eu rfl <| C9), ?_⟩
          exact ⟨(Al rfl <| Ac), (Ac), _, hle0, hr, hc1, rfl⟩
         ·
          refine D9 rfl rfl (Bo (Ae (Ac)).quiet ⟨(fun h => nomatch h), ?_⟩)
          refine Dd 8 rfl (by kernel_rfl) rfl (Bo (A1 (Ap rfl <| Ac) rfl).quiet ⟨(fun h => nomatch h), ?_⟩)
          refine Dd 10 rfl (by kernel_rfl) rfl (Bo (Ae (Ac)).quiet ⟨(fun h => nomatch h), ?_⟩)
          refine De (by kernel_rfl) ?_ _
          refine Ad ⟨_, Off.eq (Ei rfl <| Et rfl <| Eu rfl <| C9), ?_⟩
          exact ⟨(Ap rfl <| Ac), (Ac), _, hle0, hr, hc1, rfl⟩
        ·
         refine D9 rfl rfl (Bo (A1 (Ac) rfl).quiet ⟨(fun h => nomatch h), ?_⟩)
         refine Dd 7 rfl (by kernel_rfl) rfl (Bo (A1 (Al rfl <| Ac) rfl).quiet ⟨(fun h => nomatch h), ?_⟩)
         refine Dd 9 rfl (by kernel_rfl) rfl (Bo (Ae (Ac)).quiet ⟨(fun h => nomatch h), ?_⟩)
         refine Dd 10 rfl (by kernel_rfl) rfl (Bo (Ae (Ap rfl <| Ac)).quiet ⟨(fun h => nomatch h), ?_⟩)
         refine De (by kernel_rfl) ?_ _
         refine Ad ⟨_, Off.eq (Ei rfl <| Et rfl <| Eu rfl <| C9), ?_⟩
         exact ⟨(Al rfl <| Ac), (Ac), _, hle0, hr, hc1, rfl⟩
       rintro e11 _ ⟨hc3, hc4, G11, hle0, hr, hc1, rfl⟩
       refine Af <| Ai fun ds => Aa rfl (Ag (Au rfl hc4)) ?_
       refine Aa rfl (B5 (Ac) Ab) ?_
       refine Ah <| Ad <| Ar (Ac) (decide_eq_true (D1 h4)) ?_
       refine Af <| Ai fun ds => Aa rfl (Ag (Ap rfl <| Au rfl hc3)) ?_
       refine Aa rfl (Ag (Ap rfl <| Al rfl <| Au rfl hc4)) ?_
       refine Aa rfl (Ae Ab) ?_
       refine Aa rfl (Ae (Ap rfl <| Ac)) ?_
       refine Aa rfl (Ae (Ap rfl <| Ac)) ?_
       refine Ah <| Ad <| A5 <| A7 ?_
       refine Aw rfl (.tmp (Ap rfl <| Ac) (.tmp (Al rfl <| Ac) (.tmp (Ac) .nil))) ?_
       exact (checkS_v4 (by unfold stepsE; rw [if_neg hlen0, hS]) hP h3 h4).symm
     ·
      refine Ax <| Bh <| Ad <| Af <| Af <| WC_cut [3, 4, 34, 35, 36, 37, 38, 39, 40, 41, 42] (fun st σ => st 3 = .int .i64 i3 ∧ st 4 = .int .i64 e3 ∧ ∃ G, F.le G ∧ SaleR G vs vb vl vn vd s ∧ G b2 = some (bx 27 [vs, .int .i64 s.premium, .int .i64 s.fee, .int .i64 s.days, vb, vl, vn, vd]) ∧ σ = ⟨G, []⟩) ?_ ?_
      ·
       have hleS := hle0
       refine Er (.inl rfl) (fun _ _ h => h) (List.nil_sublist _) [5, 6, 7, 8, 9, 10] (by kernel_rfl) fun ds => ?_
       refine Bi 0 rfl (by kernel_rfl) (by kernel_rfl) (by kernel_rfl) (by kernel_rfl) rfl rfl (fun _ h => h.drop (List.nil_sublist _)) (fun _ _ _ h => h) (Aj C7 (Bt rfl <| Ac)) ?_
       refine Bi 1 rfl (by kernel_rfl) (by kernel_rfl) (by kernel_rfl) (by kernel_rfl) rfl rfl (fun _ h => h.drop (List.nil_sublist _)) (fun _ _ _ h => h) (Aq Cx (Ac) (CellF.own hc1 rfl).cell) ?_
       refine Bi 2 rfl (by kernel_rfl) (by kernel_rfl) (by kernel_rfl) (by kernel_rfl) rfl rfl (fun _ h => h.drop (List.nil_sublist _)) (fun _ _ _ h => h) (Aj C7 (Bt rfl <| Ap rfl <| Ac)) ?_
       refine Bi 3 rfl (by kernel_rfl) (by kernel_rfl) (by kernel_rfl) (by kernel_rfl) rfl rfl (fun _ h => h.drop (List.nil_sublist _)) (fun _ _ _ h => h) (Aq Cx (Ac) (CellF.own hc1 rfl).cell) ?_
       refine Dd 4 rfl (by kernel_rfl) rfl (Cz bd_52 Az (.cons (Ac) .nil) (named_ok hr.bidders) fun v39 F40 hr41 hF42 => ⟨fun _ _ _ h => (h.drop (List.nil_sublist _)).weak hF42 hleS, ?_⟩)
       replace hr := hr.mono hF42
       replace hle0 := Heap.le_trans hle0 hF42
       replace hc1 := hF42 _ _ hc1
       obtain ⟨b5, rfl, hzb⟩ := hr41
       refine Dd 5 rfl (by kernel_rfl) rfl (Cz bd_51 Az (.cons (Ap rfl <| Al rfl <| Ac) (.cons Ab (.cons (Ac) .nil))) ((firstStr_ok hr.bidders (most := 6) (nameErr s.bidders) bd_95 fun k hk _ => named1_ok hzb hr.bidders hk).mono fun u F2 _ h => h.trans (show optV _ = .tuple #[.int .i64 i3, .int .i64 e3] from by rw [h3]; rfl)) fun v43 F44 hr45 hF46 => ⟨(fun h => nomatch h), ?_⟩)
       replace hr := hr.mono hF46
       replace hle0 := Heap.le_trans hle0 hF46
       replace hc1 := hF46 _ _ hc1
       obtain rfl := hr45
       refine Dd 6 rfl (by kernel_rfl) rfl (Bo (Ag (Ac)).quiet ⟨(fun h => nomatch h), ?_⟩)
       refine WX_pick [7, 8] (by kernel_rfl) (by decide) (in2 ?_ ?_)
       ·
        refine D9 rfl rfl (Bo (A1 (Ac) rfl).quiet ⟨(fun h => nomatch h), ?_⟩)
        refine WX_pick [8, 9] (by kernel_rfl) (by decide) (in2 ?_ ?_)
        ·
         refine D9 rfl rfl (Bo (A1 (Al rfl <| Ac) rfl).quiet ⟨(fun h => nomatch h), ?_⟩)
         refine Dd 9 rfl (by kernel_rfl) rfl (Bo (Ae (Al rfl <| Ac)).quiet ⟨(fun h => nomatch h), ?_⟩)
         refine Dd 10 rfl (by kernel_rfl) rfl (Bo (Ae (Al rfl <| Ac)).quiet ⟨(fun h => nomatch h), ?_⟩)
         refine De (by kernel_rfl) ?_ _
         refine Ad ⟨_, Off.eq (Ei rfl <| Et rfl <| Eu rfl <| C9), ?_⟩
         exact ⟨(Al rfl <| Ac), (Ac), _, hle0, hr, hc1, rfl⟩
        ·
         refine D9 rfl rfl (Bo (Ae (Ac)).quiet ⟨(fun h => nomatch h), ?_⟩)
         refine Dd 8 rfl (by kernel_rfl) rfl (Bo (A1 (Ap rfl <| Ac) rfl).quiet ⟨(fun h => nomatch h), ?_⟩)
         refine Dd 10 rfl (by kernel_rfl) rfl (Bo (Ae (Ac)).quiet ⟨(fun h => nomatch h), ?_⟩)
         refine De (by kernel_rfl) ?_ _
         refine Ad ⟨_, Off.eq (Ei rfl <| Et rfl <| Eu rfl <| C9), ?_⟩
         exact ⟨(Ap rfl <| Ac), (Ac), _, hle0, hr, hc1, rfl⟩
       ·
        refine D9 rfl rfl (Bo (A1 (Ac) rfl).quiet ⟨(fun h => nomatch h), ?_⟩)
        refine Dd 7 rfl (by kernel_rfl) rfl (Bo (A1 (Al rfl <| Ac) rfl).quiet ⟨(fun h => nomatch h), ?_⟩)
        refine Dd 9 rfl (by kernel_rfl) rfl (Bo (Ae (Ac)).quiet ⟨(fun h => nomatch h), ?_⟩)
        refine Dd 10 rfl (by kernel_rfl) rfl (Bo (Ae (Ap rfl <| Ac)).quiet ⟨(fun h => nomatch h), ?_⟩)
        refine De (by kernel_rfl) ?_ _
        refine Ad ⟨_, Off.eq (Ei rfl <| Et rfl <| Eu rfl <| C9), ?_⟩
        exact ⟨(Al rfl <| Ac), (Ac), _, hle0, hr, hc1, rfl⟩
      rintro e8 _ ⟨hc3, hc4, G8, hle0, hr, hc1, rfl⟩
      refine Af <| Ai fun ds => Aa rfl (Ag (Au rfl hc4)) ?_
      refine Aa rfl (B5 (Ac) Ab) ?_
      refine Ah <| Ad <| Ar (Ac) (decide_eq_true (D1 h3)) ?_
      refine Af <| Ai fun ds => Aa rfl (Ag (Ap rfl <| Au rfl hc3)) ?_
      refine Aa rfl (Ag (Ap rfl <| Al rfl <| Au rfl hc4)) ?_
      refine Aa rfl (Ae Ab) ?_
      refine Aa rfl (Ae (Ap rfl <| Ac)) ?_
      refine Aa rfl (Ae (Ap rfl <| Ac)) ?_
      refine Ah <| Ad <| A5 <| A7 ?_
      refine Aw rfl (.tmp (Ap rfl <| Ac) (.tmp (Al rfl <| Ac) (.tmp (Ac) .nil))) ?_
      exact (checkS_v3 (by unfold stepsE; rw [if_neg hlen0, hS]) hP h3).symm
    ·
     replace p2 : inB 0 60 s.days = false := by simpa using p2
     refine Ar (Ac) (by simp [p2]) ?_
     have hP : ((inB 0 500 s.premium && inB 0 500 s.fee) && inB 0 60 s.days) = false := by simp [p2]
     refine Af <| Ai fun ds => Aa rfl (Ae Ab) ?_
     refine Aa rfl (Ae Ab) ?_
     refine Aa rfl (Ae Ab) ?_
     refine Ah <| Ad <| A5 <| Bc (A7 ?_)
     refine Aw rfl (.tmp (Ap rfl <| Ac) (.tmp (Al rfl <| Ac) (.tmp (Ac) .nil))) ?_
     exact (checkS_v2 (by unfold stepsE; rw [if_neg hlen0, hS]) hP).symm
   ·
    replace p1 : (inB 0 500 s.premium && inB 0 500 s.fee) = false := by simpa using p1
    refine Af <| Ai fun ds => Aa rfl (Aj fd_27_1 (Bb rfl <| Ap rfl <| Al rfl <| Ac)) ?_
    refine Aa rfl (Aq Bd (Ac) (CellF.own hc1 rfl).cell) ?_
    refine Aa rfl (Aj fd_27_2 (Bb rfl <| Ay rfl <| Al rfl <| Ac)) ?_
    refine Aa rfl (Aq Bd (Ac) (CellF.own hc1 rfl).cell) ?_
    refine Bl rfl (Bz Bs C3 rfl (.cons (Ap rfl <| Ac) (.cons (Ac) .nil)) rfl rfl (by decide) (by simp [Value.oneCell']) fun b47 hb47 nb47 => ?_)
    refine Bp (i := 0) rfl hb47 .here fun F48 hF49 hz50 => ?_
    have hsl51 := Dl hz50
    refine Bv rfl (A9 C6 Az (.cons Ab (.cons Ab (.cons (Ac) .nil))) (B2 _ _ hsl51) (fun _ _ h => h)) ?_
    refine Aa rfl (Ag (Ac)) ?_
    refine At rfl rfl (Ac) (.inl (congrArg Value.bool (by first | (rw [Cg, p1]; done) | (rw [Cg, p1]; rfl)))) rfl ?_
    refine At rfl rfl (Al rfl <| Ac) (.inl (congrArg Value.bool (by first | (rw [Cg, p1]; done) | (rw [Cg, p1]; rfl)))) rfl ?_
    refine At rfl rfl (Ap rfl <| Ac) (.inl (congrArg Value.bool (by first | (rw [Cg, p1]; done) | (rw [Cg, p1]; rfl)))) rfl ?_
    refine At rfl rfl (Ap rfl <| Al rfl <| Ac) (.inl (congrArg Value.bool (by first | (rw [Cg, p1]; done) | (rw [Cg, p1]; rfl)))) rfl ?_
    refine Aa rfl (A6 (Ay rfl <| Ac) (by first | (rw [Cg, p1]; done) | (rw [Cg, p1]; rfl)) Ab) ?_
    refine Aa rfl (Ae (Ac)) ?_
    refine Ah <| Ad <| Ar (Ac) rfl ?_
    have hP : ((inB 0 500 s.premium && inB 0 500 s.fee) && inB 0 60 s.days) = false := by rw [p1]; rfl
    refine Af <| Ai fun ds => Aa rfl (Ae Ab) ?_
    refine Aa rfl (Ae Ab) ?_
    refine Aa rfl (Ae Ab) ?_
    refine Ah <| Ad <| A5 <| Bc (A7 ?_)
    refine Aw rfl (.tmp (Ap rfl <| Ac) (.tmp (Al rfl <| Ac) (.tmp (Ac) .nil))) ?_
    exact (checkS_v2 (by unfold stepsE; rw [if_neg hlen0, hS]) hP).symm
  ·
   refine Ai fun ds => Aa rfl (Aj D2 (Ay rfl <| Ap rfl <| Al rfl <| Ac)) ?_
   refine Aa rfl (Aq Ev (Ac) (CellF.own hc1 rfl).cell) ?_
   refine Aa rfl (Cw (.cons (Ba rfl <| Al rfl <| Ac) .nil)) ?_
   refine Bv rfl (A9 bd_48 Az (.cons (Al rfl <| Ac) (.cons Ab (.cons (Ac) .nil))) (firstStp_ok hr.steps (most := 5) (stepErr s.steps) bd_49 fun k hk hno => check1_ok hr hc1 hk hno) (fun _ _ h => h.trans (show optV _ = .tuple #[.int .i64 i1, .int .i64 e1] from by rw [hS]; rfl))) ?_
   refine Aa rfl (Ag (Ac)) ?_
   refine Aa rfl (A1 (Ac) rfl) ?_
   refine Aa rfl (A1 (Al rfl <| Ac) rfl) ?_
   refine Aa rfl (Ae (Al rfl <| Ac)) ?_
   refine Aa rfl (Ae (Al rfl <| Ac)) ?_
   refine Ah <| Ad <| Af <| A4 <| Af <| Ai fun ds => Aa rfl (Ag (Ac)) ?_
   refine Aa rfl (B5 (Ac) Ab) ?_
   refine Aa rfl (Ae (Ac)) ?_
   refine Ah <| Ad <| Ar (Ac) (decide_eq_true (D1 hS)) ?_
   refine Af <| Ai fun ds => Aa rfl (Ag (Ay rfl <| Ac)) ?_
   refine Aa rfl (Ag (Ay rfl <| Ac)) ?_
   refine Aa rfl (Ae Ab) ?_
   refine Aa rfl (Ae (Ap rfl <| Ac)) ?_
   refine Aa rfl (Ae (Ap rfl <| Ac)) ?_
   refine Ah <| Ad <| A5 <| Bc (A7 ?_)
   refine Aw rfl (.tmp (Ap rfl <| Ac) (.tmp (Al rfl <| Ac) (.tmp (Ac) .nil))) ?_
   exact (E1 (by unfold stepsE; rw [if_neg hlen0, hS])).symm
end Go.Proofs.Ytaikojfonleccaa
namespace Go.Proofs.Ytaikojfonleccaa
open Go.RowKit
theorem zr_9 : ZeroT Try.prog 9 (.string ⟨#[]⟩) := C4 (by kernel_rfl)
theorem bd_62 : Body Try.prog 62 := Br (by kernel_rfl)
theorem bd_99 : Body Try.prog 99 := Br (by kernel_rfl)
theorem el_9 : ElemT Try.prog 9 1 16 (.string ⟨#[]⟩) := elemT_of (by kernel_rfl) rfl (by decide)
set_option maxRecDepth 100000 in
theorem refNames_ok {F : Heap} {v : Value} {ns : List ByteArray} (h : Sl F v 1 strE ns) (most : Nat) : Ok Try.prog 63 [v, .int .i64 (most : Int)].toArray F fun r _ => r = optV (firstE ns.length most (nameErr ns)) := by
 refine Ok.intro Try.func63 rfl Try.ntmps63 rfl fun w0 => ?_
 have hlen := h.plain.lt
 by_cases hml : most < ns.length
 ·
  refine Af <| Ai fun ds => Aa rfl (Ae Ab) ?_
  refine Aa rfl (Ae Ab) ?_
  refine Ah <| Ad <| Af <| Af <| Ai fun ds => Aa rfl (Ag (Ap rfl <| Ak rfl)) ?_
  refine Aa rfl (Bf Cr (Ac) h.plain) ?_
  refine Aa rfl (Ag (Ay rfl <| Ak rfl)) ?_
  refine Aa rfl (Cl (Al rfl <| Ac) (Ac)) ?_
  refine Ah <| Ad <| Ar (Ac) (by first | rfl | exact decide_eq_true (by omega)) ?_
  refine Af <| Ai fun ds => Aa rfl (Ae Ab) ?_
  refine Aa rfl (Ae Ab) ?_
  refine Ah <| Ad <| A5 <| A7 ?_
  refine Aw rfl (.tmp (Al rfl <| Ac) (.tmp (Ac) .nil)) ?_
  show _ = _
  rw [Dq hml]; rfl
 ·
  refine Af <| Ai fun ds => Aa rfl (Ae Ab) ?_
  refine Aa rfl (Ae Ab) ?_
  refine Ah <| Ad <| Af <| Af <| Ai fun ds => Aa rfl (Ag (Ap rfl <| Ak rfl)) ?_
  refine Aa rfl (Bf Cr (Ac) h.plain) ?_
  refine Aa rfl (Ag (Ay rfl <| Ak rfl)) ?_
  refine Aa rfl (Cl (Al rfl <| Ac) (Ac)) ?_
  refine Ah <| Ad <| Am (Ac) (by first | rfl | exact decide_eq_false (by omega)) ?_
  refine Ax <| Ad <| Af <| Af <| Ai fun ds => Aa rfl (Ae Ab) ?_
  refine Ah <| Ad <| A4 <| B4 [4, 5, 6, 7, 12, 13, 14, 15, 16, 17, 18, 19, 20, 21, 22, 23, 24, 25, 26, 27, 28, 29] (fun m e σ => ∃ k : Nat, m + k = ns.length ∧ e 6 = .int .i64 (k : Int) ∧ σ = ⟨F, []⟩ ∧ ∀ j, j < k → nameErr ns j = 0) (ns.length) ?_ ?_
  · exact ⟨0, by omega, (Ac), rfl, fun j h => absurd h (by omega)⟩
  ·
   rintro m e _ ⟨k, hm, hs6, rfl, hno⟩
   by_cases hlt : k < ns.length
   ·
    refine Af <| Af <| Ai fun ds => Aa rfl (Ag (Au rfl hs6)) ?_
    refine Aa rfl (Ag (Al rfl <| Ao rfl <| Ay rfl <| Ap rfl <| Al rfl <| Ak rfl)) ?_
    refine Aa rfl (Bf Cr (Ac) h.plain) ?_
    refine Aa rfl (B0 (Ap rfl <| Ac) (Ac)) ?_
    refine Ah <| Ad <| Ar (Ac) (by first | rfl | exact decide_eq_true (by omega)) ?_
    by_cases hf : freshE ns[k] (ns.take k) = 0
    ·
     refine Ax <| Ad <| Af <| A4 <| Af <| Ch (.inl rfl) (fun _ _ h => h) (by kernel_rfl) (by kernel_rfl) fun ds => ?_
     refine A0 rfl (Ag (Ay rfl <| Ao rfl <| Ay rfl <| Ap rfl <| Al rfl <| Ak rfl)) ?_
     refine A0 rfl (Ag (Ay rfl <| Al rfl <| Au rfl hs6)) ?_
     refine A0 rfl (Be (k := k) Cr (Al rfl <| Ac) h.plain (Ac) rfl hlt) ?_
     refine A0 rfl (Aq one_9 (Ac) (h.cell1 hlt rfl)) ?_
     refine A0 rfl (Ag (Ba rfl <| Ao rfl <| Ay rfl <| Ap rfl <| Al rfl <| Ak rfl)) ?_
     refine A0 rfl (Ag (Ba rfl <| Al rfl <| Au rfl hs6)) ?_
     refine A0 rfl (E0 Cr (Al rfl <| Ac) h.plain (Ac) (k := k) rfl (by omega)) ?_
     refine WQ_c rfl (A9 bd_99 Az (.cons (Ap rfl <| Al rfl <| Ac) (.cons (Ac) .nil)) (fresh_ok (h.to (k := k) (by omega)) _) (fun _ _ h => h)) ?_
     refine A0 rfl (Ae (Ac)) ?_
     refine Cj ?_
     refine Ad <| Af <| Ai fun ds => Aa rfl (Ag (Ac)) ?_
     refine Aa rfl (B5 (Ac) Ab) ?_
     refine Ah <| Ad <| Am (Ac) (decide_eq_false (fun h => h hf)) ?_
     refine Ax <| Bh <| Ad <| Ai fun ds => Aa rfl (Ag (Ba rfl <| Ay rfl <| Ap rfl <| Al rfl <| Au rfl hs6)) ?_
     refine Aa rfl (B3 (Ac) Ab rfl (by omega) (by omega)) ?_
     refine Aa rfl (Ae (Ac)) ?_
     refine Ah <| Ad ⟨_, m - 1, Off.eq (C5 rfl <| Et rfl <| Bj), by omega, ?_⟩
     refine ⟨k + 1, by omega, (Ac), rfl, fun j hjk => ?_⟩
     rcases Nat.lt_succ_iff_lt_or_eq.1 hjk with hjk | rfl
     · exact hno j hjk
     · rw [nameErr_fresh hlt]; exact hf
    ·
     refine Ax <| Ad <| Af <| A4 <| Af <| Ch (.inl rfl) (fun _ _ h => h) (by kernel_rfl) (by kernel_rfl) fun ds => ?_
     refine A0 rfl (Ag (Ay rfl <| Ao rfl <| Ay rfl <| Ap rfl <| Al rfl <| Ak rfl)) ?_
     refine A0 rfl (Ag (Ay rfl <| Al rfl <| Au rfl hs6)) ?_
     refine A0 rfl (Be (k := k) Cr (Al rfl <| Ac) h.plain (Ac) rfl hlt) ?_
     refine A0 rfl (Aq one_9 (Ac) (h.cell1 hlt rfl)) ?_
     refine A0 rfl (Ag (Ba rfl <| Ao rfl <| Ay rfl <| Ap rfl <| Al rfl <| Ak rfl)) ?_
     refine A0 rfl (Ag (Ba rfl <| Al rfl <| Au rfl hs6)) ?_
     refine A0 rfl (E0 Cr (Al rfl <| Ac) h.plain (Ac) (k := k) rfl (by omega)) ?_
     refine WQ_c rfl (A9 bd_99 Az (.cons (Ap rfl <| Al rfl <| Ac) (.cons (Ac) .nil)) (fresh_ok (h.to (k := k) (by omega)) _) (fun _ _ h => h)) ?_
     refine A0 rfl (Ae (Ac)) ?_
     refine Cj ?_
     refine Ad <| Af <| Ai fun ds => Aa rfl (Ag (Ac)) ?_
     refine Aa rfl (B5 (Ac) Ab) ?_
     refine Ah <| Ad <| Ar (Ac) (decide_eq_true hf) ?_
     refine Af <| Ai fun ds => Aa rfl (Ag (Ba rfl <| Ay rfl <| Ap rfl <| Al rfl <| Au rfl hs6)) ?_
     refine Aa rfl (Ag (Ap rfl <| Al rfl <| Ac)) ?_
     refine Aa rfl (Ae (Al rfl <| Ac)) ?_
     refine Aa rfl (Ae (Al rfl <| Ac)) ?_
     refine Ah <| Ad <| A5 <| Bc (A7 (A7 (Bc (A7 ?_))))
     refine Aw rfl (.tmp (Al rfl <| Ac) (.tmp (Ac) .nil)) ?_
     show _ = _
     rw [Cs hml hlt hno (nameErr_fresh hlt) hf]; rfl
   ·
    refine Af <| Af <| Ai fun ds => Aa rfl (Ag (Au rfl hs6)) ?_
    refine Aa rfl (Ag (Al rfl <| Ao rfl <| Ay rfl <| Ap rfl <| Al rfl <| Ak rfl)) ?_
    refine Aa rfl (Bf Cr (Ac) h.plain) ?_
    refine Aa rfl (B0 (Ap rfl <| Ac) (Ac)) ?_
    refine Ah <| Ad <| Am (Ac) (by first | rfl | exact decide_eq_false (by omega)) ?_
    refine Bx ?_
    refine Bk <| Bk <| Bn <| Ad <| Af <| Ai fun ds => Aa rfl (Ae Ab) ?_
    refine Aa rfl (Ae Ab) ?_
    refine Ah <| Ad <| A5 <| Aw rfl (.tmp (Al rfl <| Ac) (.tmp (Ac) .nil)) ?_
    show _ = _
    rw [Dm hml fun j hj => hno j (by omega)]; rfl
set_option maxRecDepth 100000 in
theorem refLots_ok {F : Heap} {vs vb vl vn vd : Value} {s : Sale} (hr : SaleR F vs vb vl vn vd s) : Ok Try.prog 64 [.agg #[vs, .int .i64 s.premium, .int .i64 s.fee, .int .i64 s.days, vb, vl, vn, vd]].toArray F fun r _ => r = optV (firstE s.lots.length 6 (lotErr s)) := by
 refine Ok.intro Try.func64 rfl Try.ntmps64 rfl fun w0 => ?_
 have hL1 := hr.lots.plain.lt
 have hL2 := hr.sellers.plain.lt
 by_cases h1 : 6 < s.lots.length
 ·
  refine Af <| Ai fun ds => Bl rfl (Cc (Ak rfl) rfl fun b1 hb1 nb1 => ?_)
  refine Aa rfl (Ae Ab) ?_
  refine Aa rfl (Ae Ab) ?_
  refine Ah <| Ad <| Af <| Af <| Ai fun ds => Aa rfl (Aj Cp (Ap rfl <| Ac)) ?_
  refine Aa rfl (Aq C0 (Ac) (Cell.own 0 rfl rfl)) ?_
  refine Aa rfl (Bf C1 (Ac) hr.lots.plain) ?_
  refine Aa rfl (Cl (Ac) Ab) ?_
  refine Ah <| Ad <| Ar (Ac) (by first | rfl | exact decide_eq_true (by omega)) ?_
  refine Af <| Ai fun ds => Aa rfl (Ae Ab) ?_
  refine Aa rfl (Ae Ab) ?_
  refine Ah <| Ad <| A5 <| A7 ?_
  refine Aw rfl (.tmp (Al rfl <| Ac) (.tmp (Ac) .nil)) ?_
  show _ = _
  rw [Dq h1]; rfl
 ·
  refine Af <| Ai fun ds => Bl rfl (Cc (Ak rfl) rfl fun b2 hb2 nb2 => ?_)
  refine Aa rfl (Ae Ab) ?_
  refine Aa rfl (Ae Ab) ?_
  refine Ah <| Ad <| Af <| Af <| Ai fun ds => Aa rfl (Aj Cp (Ap rfl <| Ac)) ?_
  refine Aa rfl (Aq C0 (Ac) (Cell.own 0 rfl rfl)) ?_
  refine Aa rfl (Bf C1 (Ac) hr.lots.plain) ?_
  refine Aa rfl (Cl (Ac) Ab) ?_
  refine Ah <| Ad <| Am (Ac) (by first | rfl | exact decide_eq_false (by omega)) ?_
  refine Ax <| Ad <| Af <| Ai fun ds => Aa rfl (Ae Ab) ?_
  refine Ah <| Ad <| Af <| Af <| Ai fun ds => Aa rfl (Ae Ab) ?_
  refine Ah <| Ad <| A4 <| B4 [2, 3, 4, 5, 6, 11, 12, 13, 14, 15, 16, 17, 18, 19, 20, 21, 22, 23, 24, 25, 26, 27, 28, 29, 30, 31, 32, 33, 34, 35, 36, 37, 38, 39, 40, 41, 42, 43, 44, 45, 46, 47, 48, 49, 50, 51, 52, 53, 54, 55, 56, 57, 58, 59, 60, 61, 62, 63, 64, 65, 66] (fun m e σ => ∃ k : Nat, m + k = s.lots.length ∧ e 5 = .int .i64 (k : Int) ∧ ∃ (v : Value) (R : List (Nat × Obj)), e 4 = v ∧ Own 9 1 v (lnames s k).length ((lnames s k).flatMap strE) R ∧ σ = ⟨F, (b2, bx 27 [vs, .int .i64 s.premium, .int .i64 s.fee, .int .i64 s.days, vb, vl, vn, vd]) :: R⟩ ∧ ∀ j, j < k → lotErr s j = 0) (s.lots.length) ?_ ?_
  · exact ⟨0, by omega, (Ac), _, _, (Al rfl <| Ac), Own.nil, rfl, fun j h => absurd h (by omega)⟩
  ·
   rintro m e _ ⟨k, hm, hs5, v4, R4, hs4, ho, rfl, hno⟩
   by_cases hlt : k < s.lots.length
   ·
    have hnl := lnames_len (Nat.le_of_lt hlt)
    refine Af <| Af <| Ai fun ds => Aa rfl (Ag (Au rfl hs5)) ?_
    refine Aa rfl (Aj Cp (Al rfl <| Ao rfl <| Ba rfl <| Ac)) ?_
    refine Aa rfl (Aq C0 (Ac) (Cell.own 0 rfl rfl)) ?_
    refine Aa rfl (Bf C1 (Ac) hr.lots.plain) ?_
    refine Aa rfl (B0 (Ap rfl <| Al rfl <| Ac) (Ac)) ?_
    refine Ah <| Ad <| Ar (Ac) (by first | rfl | exact decide_eq_true (by omega)) ?_
    by_cases hf : freshE s.lots[k].name (lnames s k) = 0
    ·
     refine Ax <| Ad <| Af <| A4 <| Af <| Ai fun ds => Aa rfl (Aj Cp (Ay rfl <| Al rfl <| Ao rfl <| Ba rfl <| Ac)) ?_
     refine Aa rfl (Aq C0 (Ac) (Cell.own 0 rfl rfl)) ?_
     refine Aa rfl (Ag (Ay rfl <| Ap rfl <| Al rfl <| Au rfl hs5)) ?_
     refine Aa rfl (Be (k := k) C1 (Al rfl <| Ac) hr.lots.plain (Ac) rfl hlt) ?_
     refine Aa rfl (Bq fd_69_0 (Ac)) ?_
     refine Aa rfl (Aq one_9 (Ac) (hr.lots.cell hlt rfl)) ?_
     refine Aa rfl (Ag (Ba rfl <| Ap rfl <| Al rfl <| Au rfl hs4)) ?_
     refine Bv rfl (q_callH bd_99 Az (.cons (Al rfl <| Ac) (.cons (Ac) .nil)) (fun G _ hG => fresh_ok (ho.sl (fun _ => rfl) (fun p hp => hG p (List.mem_cons_of_mem _ hp)) (by omega)) _) (fun _ _ h => h)) ?_
     refine Aa rfl (Ae (Ac)) ?_
     refine Ah <| Ad <| Af <| Ai fun ds => Aa rfl (Ag (Ba rfl <| Ay rfl <| Ap rfl <| Au rfl hs4)) ?_
     refine Aa rfl (Aj Cp (Ba rfl <| Ay rfl <| Ap rfl <| Al rfl <| Ao rfl <| Ba rfl <| Ac)) ?_
     refine Aa rfl (Aq C0 (Ac) (Cell.own 0 rfl rfl)) ?_
     refine Aa rfl (Ag (Bb rfl <| Al rfl <| Au rfl hs5)) ?_
     refine Aa rfl (Be (k := k) C1 (Al rfl <| Ac) hr.lots.plain (Ac) rfl hlt) ?_
     refine Aa rfl (Bq fd_69_0 (Ac)) ?_
     refine Aa rfl (Aq one_9 (Ac) (hr.lots.cell hlt rfl)) ?_
     refine Bl rfl (Bz Cr zr_9 rfl (.cons (Ac) .nil) rfl rfl (by decide) (by simp [Value.oneCell']) fun b4 hb4 nb4 => ?_)
     refine Bl rfl (Dg Cr el_9 (Ay rfl <| Ap rfl <| Al rfl <| Ac) ho (Ac) (Ea (s := 1) 0 rfl rfl (by simp [Value.oneCell'])) (by omega) (by omega) (.s <| .s <| .z) .last fun v5 R6 ho7 => ?_)
     have ho2 := ho7.snoc (x := s.lots[k].name) rfl rfl
     refine Aa rfl (Ae (Ac)) ?_
     refine Ah <| Ad <| Af <| Af <| Ch (.inl rfl) (fun _ _ h => h) (by kernel_rfl) (by kernel_rfl) fun ds => ?_
     refine A0 rfl (Ag (Ba rfl <| Ap rfl <| Ac)) ?_
     refine A0 rfl (B9 (Ac) Ab) ?_
     refine A0 rfl (Ag (Ac)) ?_
     refine A3 rfl rfl (Ac) (decide_eq_true hf) ?_
     refine A0 rfl (Aj Cp (Bb rfl <| Ba rfl <| Ap rfl <| Al rfl <| Ao rfl <| Ba rfl <| Ac)) ?_
     refine A3 rfl rfl (Al rfl <| Ac) (decide_eq_true hf) ?_
     refine A0 rfl (Aq C0 (Ac) (Cell.own 1 rfl rfl)) ?_
     refine A3 rfl rfl (Ap rfl <| Ac) (decide_eq_true hf) ?_
     refine A0 rfl (Ag (Bb rfl <| Ba rfl <| Ay rfl <| Al rfl <| Au rfl hs5)) ?_
     refine A3 rfl rfl (Ap rfl <| Al rfl <| Ac) (decide_eq_true hf) ?_
     refine A0 rfl (Be (k := k) C1 (Al rfl <| Ac) hr.lots.plain (Ac) rfl hlt) ?_
     refine A3 rfl rfl (Ay rfl <| Ac) (decide_eq_true hf) ?_
     refine A0 rfl (Bq fd_69_1 (Ac)) ?_
     refine A3 rfl rfl (Ay rfl <| Al rfl <| Ac) (decide_eq_true hf) ?_
     refine A0 rfl (Aq Bd (Ac) (hr.lots.cell hlt rfl)) ?_
     refine A3 rfl rfl (Ay rfl <| Ap rfl <| Ac) (decide_eq_true hf) ?_
     refine A0 rfl (Aj fd_27_5 (Bt rfl <| Al rfl <| Ao rfl <| Ba rfl <| Ac)) ?_
     refine A3 rfl rfl (Ay rfl <| Ap rfl <| Al rfl <| Ac) (decide_eq_true hf) ?_
     refine A0 rfl (Aq Cx (Ac) (Cell.own 1 rfl rfl)) ?_
     refine A3 rfl rfl (Ba rfl <| Ac) (decide_eq_true hf) ?_
     refine A0 rfl (Bf Cr (Ac) hr.sellers.plain) ?_
     refine A3 rfl rfl (Ba rfl <| Al rfl <| Ac) (decide_eq_true hf) ?_
     refine A0 rfl (Dh (Ac) Ab rfl (by omega) (by omega)) ?_
     refine A3 rfl rfl (Ba rfl <| Ap rfl <| Ac) (decide_eq_true hf) ?_
     refine WQ_c rfl (A9 bd_62 Az (.cons (Ay rfl <| Ac) (.cons Ab (.cons (Ac) .nil))) (Dx _ _ _) (fun _ _ h => h)) ?_
     refine A3 rfl rfl (Ba rfl <| Ap rfl <| Al rfl <| Ac) (decide_eq_true hf) ?_
     refine A0 rfl (Cu (Ac)) ?_
     refine A0 rfl (A6 (Ba rfl <| Ay rfl <| Ac) (decide_eq_true hf) (Ac)) ?_
     refine Cj ?_
     refine Ad ?_
     by_cases hs : inB 0 (s.sellers.length - 1) s.lots[k].seller = true
     ·
      refine Am (Ac) (by rw [hs]; rfl) ?_
      refine Ax <| Ad <| Af <| Af <| Ai fun ds => Aa rfl (Ag (Bb rfl <| Ba rfl <| Ap rfl <| Ac)) ?_
      refine Aa rfl (B9 (Ac) Ab) ?_
      refine Aa rfl (Ag (Ac)) ?_
      refine As rfl rfl (Ac) (decide_eq_true hf) ?_
      refine Aa rfl (Aj Cp (Bt rfl <| Ba rfl <| Ap rfl <| Al rfl <| Ao rfl <| Ba rfl <| Ac)) ?_
      refine As rfl rfl (Al rfl <| Ac) (decide_eq_true hf) ?_
      refine Aa rfl (Aq C0 (Ac) (Cell.own 1 rfl rfl)) ?_
      refine As rfl rfl (Ap rfl <| Ac) (decide_eq_true hf) ?_
      refine Aa rfl (Ag (Bt rfl <| Ba rfl <| Ay rfl <| Al rfl <| Au rfl hs5)) ?_
      refine As rfl rfl (Ap rfl <| Al rfl <| Ac) (decide_eq_true hf) ?_
      refine Aa rfl (Be (k := k) C1 (Al rfl <| Ac) hr.lots.plain (Ac) rfl hlt) ?_
      refine As rfl rfl (Ay rfl <| Ac) (decide_eq_true hf) ?_
      refine Aa rfl (Bq fd_69_2 (Ac)) ?_
      refine As rfl rfl (Ay rfl <| Al rfl <| Ac) (decide_eq_true hf) ?_
      refine Aa rfl (Aq Bd (Ac) (hr.lots.cell hlt rfl)) ?_
      refine As rfl rfl (Ay rfl <| Ap rfl <| Ac) (decide_eq_true hf) ?_
      refine Bv rfl (A9 bd_62 Az (.cons (Ac) (.cons Ab (.cons Ab .nil))) (Dx _ _ _) (fun _ _ h => h)) ?_
      refine As rfl rfl (Ay rfl <| Ap rfl <| Al rfl <| Ac) (decide_eq_true hf) ?_
      refine Aa rfl (Cu (Ac)) ?_
      refine Aa rfl (A6 (Ba rfl <| Ac) (decide_eq_true hf) (Ac)) ?_
      refine Ah <| Ad ?_
      by_cases hv : inB 1 100000 s.lots[k].reserve = true
      ·
       refine Am (Ac) (by rw [hv]; rfl) ?_
       refine Ax <| Ad <| Af <| Ai fun ds => Aa rfl (Ag (Bt rfl <| Ay rfl <| Ap rfl <| Ac)) ?_
       refine Aa rfl (B5 (Ac) Ab) ?_
       refine Ah <| Ad <| Am (Ac) (decide_eq_false (fun h => h hf)) ?_
       refine Ax <| Bh <| Ad <| Ct (fun _ _ h => h.drop (.cons _ <| .cons_cons _ <| .refl _)) ?_
       refine Ai fun ds => Aa rfl (Ag (Bt rfl <| Bb rfl <| Ay rfl <| Ap rfl <| Au rfl hs5)) ?_
       refine Aa rfl (B3 (Ac) Ab rfl (by omega) (by omega)) ?_
       refine Aa rfl (Ae (Ac)) ?_
       refine Ah <| Ad ⟨_, m - 1, Off.eq (ou32 rfl <| C5 rfl <| Ei rfl <| Eu rfl <| Bj), by omega, ?_⟩
       refine ⟨k + 1, by omega, (Ac), _, _, (Bt rfl <| Al rfl <| Ac), by rw [lnames_succ hlt]; exact ho2, rfl, fun j hjk => ?_⟩
       rcases Nat.lt_succ_iff_lt_or_eq.1 hjk with hjk | rfl
       · exact hno j hjk
       · rw [lotErr_fresh hlt, if_neg (fun h => h hf), hs, hv]; rfl
      ·
       replace hv : inB 1 100000 s.lots[k].reserve = false := by simpa using hv
       refine Ar (Ac) (by rw [hv]; rfl) ?_
       refine Ai fun ds => Aa rfl (Ae Ab) ?_
       refine Ah <| Ad <| Af <| Ai fun ds => Aa rfl (Ag (Ac)) ?_
       refine Aa rfl (B5 (Ac) Ab) ?_
       refine Ah <| Ad <| Ar (Ac) rfl ?_
       refine Af <| Ai fun ds => Aa rfl (Ag (Bt rfl <| Bb rfl <| Ay rfl <| Ap rfl <| Al rfl <| Au rfl hs5)) ?_
       refine Aa rfl (Ag (Ap rfl <| Al rfl <| Ac)) ?_
       refine Aa rfl (Ae (Al rfl <| Ac)) ?_
       refine Aa rfl (Ae (Al rfl <| Ac)) ?_
       refine Ah <| Ad <| A5 <| Bc (A7 (A7 (Bc (A7 ?_))))
       refine Aw rfl (.tmp (Al rfl <| Ac) (.tmp (Ac) .nil)) ?_
       show _ = _
       rw [Cs h1 hlt hno (lotErr_fresh hlt) (by simp [hf, hs, hv])]; simp [optV, outOf, hf, hs, hv]
     ·
      replace hs : inB 0 (s.sellers.length - 1) s.lots[k].seller = false := by simpa using hs
      refine Ar (Ac) (by rw [hs]; rfl) ?_
      refine Ai fun ds => Aa rfl (Ae Ab) ?_
      refine Ah <| Ad <| Af <| Af <| Ai fun ds => Aa rfl (Ag (Ac)) ?_
      refine Aa rfl (B9 (Ac) Ab) ?_
      refine Aa rfl (Ag (Ac)) ?_
      refine At rfl rfl (Ac) (.inl (congrArg Value.bool rfl)) rfl ?_
      refine At rfl rfl (Al rfl <| Ac) (.inl (congrArg Value.bool rfl)) rfl ?_
      refine At rfl rfl (Ap rfl <| Ac) (.inl (congrArg Value.bool rfl)) rfl ?_
      refine At rfl rfl (Ap rfl <| Al rfl <| Ac) (.inl (congrArg Value.bool rfl)) rfl ?_
      refine At rfl rfl (Ay rfl <| Ac) (.inl (congrArg Value.bool rfl)) rfl ?_
      refine At rfl rfl (Ay rfl <| Al rfl <| Ac) (.inl (congrArg Value.bool rfl)) rfl ?_
      refine At rfl rfl (Ay rfl <| Ap rfl <| Ac) (.inl (congrArg Value.bool rfl)) rfl ?_
      refine At rfl rfl (Ay rfl <| Ap rfl <| Al rfl <| Ac) (.inl (congrArg Value.bool rfl)) rfl ?_
      refine Aa rfl (A8 (Ba rfl <| Ac) rfl Ab) ?_
      refine Ah <| Ad <| Am (Ac) rfl ?_
      refine Ax <| Ad <| Af <| Ai fun ds => Aa rfl (Ag (Ba rfl <| Ay rfl <| Ac)) ?_
      refine Aa rfl (B5 (Ac) Ab) ?_
      refine Ah <| Ad <| Ar (Ac) rfl ?_
      refine Af <| Ai fun ds => Aa rfl (Ag (Bt rfl <| Bb rfl <| Ay rfl <| Ap rfl <| Al rfl <| Au rfl hs5)) ?_
      refine Aa rfl (Ag (Ba rfl <| Ay rfl <| Ap rfl <| Al rfl <| Ac)) ?_
      refine Aa rfl (Ae (Al rfl <| Ac)) ?_
      refine Aa rfl (Ae (Al rfl <| Ac)) ?_
      refine Ah <| Ad <| A5 <| Bc (A7 (A7 (Bc (A7 ?_))))
      refine Aw rfl (.tmp (Al rfl <| Ac) (.tmp (Ac) .nil)) ?_
      show _ = _
      rw [Cs h1 hlt hno (lotErr_fresh hlt) (by simp [hf, hs])]; simp [optV, outOf, hf, hs]
    ·
     refine Ax <| Ad <| Af <| A4 <| Af <| Ai fun ds => Aa rfl (Aj Cp (Ay rfl <| Al rfl <| Ao rfl <| Ba rfl <| Ac)) ?_
     refine Aa rfl (Aq C0 (Ac) (Cell.own 0 rfl rfl)) ?_
     refine Aa rfl (Ag (Ay rfl <| Ap rfl <| Al rfl <| Au rfl hs5)) ?_
     refine Aa rfl (Be (k := k) C1 (Al rfl <| Ac) hr.lots.plain (Ac) rfl hlt) ?_
     refine Aa rfl (Bq fd_69_0 (Ac)) ?_
     refine Aa rfl (Aq one_9 (Ac) (hr.lots.cell hlt rfl)) ?_
     refine Aa rfl (Ag (Ba rfl <| Ap rfl <| Al rfl <| Au rfl hs4)) ?_
     refine Bv rfl (q_callH bd_99 Az (.cons (Al rfl <| Ac) (.cons (Ac) .nil)) (fun G _ hG => fresh_ok (ho.sl (fun _ => rfl) (fun p hp => hG p (List.mem_cons_of_mem _ hp)) (by omega)) _) (fun _ _ h => h)) ?_
     refine Aa rfl (Ae (Ac)) ?_
     refine Ah <| Ad <| Af <| Ai fun ds => Aa rfl (Ag (Ba rfl <| Ay rfl <| Ap rfl <| Au rfl hs4)) ?_
     refine Aa rfl (Aj Cp (Ba rfl <| Ay rfl <| Ap rfl <| Al rfl <| Ao rfl <| Ba rfl <| Ac)) ?_
     refine Aa rfl (Aq C0 (Ac) (Cell.own 0 rfl rfl)) ?_
     refine Aa rfl (Ag (Bb rfl <| Al rfl <| Au rfl hs5)) ?_
     refine Aa rfl (Be (k := k) C1 (Al rfl <| Ac) hr.lots.plain (Ac) rfl hlt) ?_
     refine Aa rfl (Bq fd_69_0 (Ac)) ?_
     refine Aa rfl (Aq one_9 (Ac) (hr.lots.cell hlt rfl)) ?_
     refine Bl rfl (Bz Cr zr_9 rfl (.cons (Ac) .nil) rfl rfl (by decide) (by simp [Value.oneCell']) fun b8 hb8 nb8 => ?_)
     refine Bl rfl (Dg Cr el_9 (Ay rfl <| Ap rfl <| Al rfl <| Ac) ho (Ac) (Ea (s := 1) 0 rfl rfl (by simp [Value.oneCell'])) (by omega) (by omega) (.s <| .s <| .z) .last fun v9 R10 ho11 => ?_)
     have ho2 := ho11.snoc (x := s.lots[k].name) rfl rfl
     refine Aa rfl (Ae (Ac)) ?_
     refine Ah <| Ad <| Af <| Af <| Ch (.inl rfl) (fun _ _ h => h) (by kernel_rfl) (by kernel_rfl) fun ds => ?_
     refine A0 rfl (Ag (Ba rfl <| Ap rfl <| Ac)) ?_
     refine A0 rfl (B9 (Ac) Ab) ?_
     refine A0 rfl (Ag (Ac)) ?_
     refine A2 rfl rfl (Ac) (.inl (congrArg Value.bool (decide_eq_false hf))) rfl ?_
     refine A2 rfl rfl (Al rfl <| Ac) (.inl (congrArg Value.bool (decide_eq_false hf))) rfl ?_
     refine A2 rfl rfl (Ap rfl <| Ac) (.inl (congrArg Value.bool (decide_eq_false hf))) rfl ?_
     refine A2 rfl rfl (Ap rfl <| Al rfl <| Ac) (.inl (congrArg Value.bool (decide_eq_false hf))) rfl ?_
     refine A2 rfl rfl (Ay rfl <| Ac) (.inl (congrArg Value.bool (decide_eq_false hf))) rfl ?_
     refine A2 rfl rfl (Ay rfl <| Al rfl <| Ac) (.inl (congrArg Value.bool (decide_eq_false hf))) rfl ?_
     refine A2 rfl rfl (Ay rfl <| Ap rfl <| Ac) (.inl (congrArg Value.bool (decide_eq_false hf))) rfl ?_
     refine A2 rfl rfl (Ay rfl <| Ap rfl <| Al rfl <| Ac) (.inl (congrArg Value.bool (decide_eq_false hf))) rfl ?_
     refine A2 rfl rfl (Ba rfl <| Ac) (.inl (congrArg Value.bool (decide_eq_false hf))) rfl ?_
     refine A2 rfl rfl (Ba rfl <| Al rfl <| Ac) (.inl (congrArg Value.bool (decide_eq_false hf))) rfl ?_
     refine A2 rfl rfl (Ba rfl <| Ap rfl <| Ac) (.inl (congrArg Value.bool (decide_eq_false hf))) rfl ?_
     refine A2 rfl rfl (Ba rfl <| Ap rfl <| Al rfl <| Ac) (.inl (congrArg Value.bool (decide_eq_false hf))) rfl ?_
     refine A0 rfl (A8 (Ba rfl <| Ay rfl <| Ac) (decide_eq_false hf) Ab) ?_
     refine Cj ?_
     refine Ad <| Am (Ac) (by first | rfl | exact decide_eq_false hf) ?_
     refine Ax <| Ad <| Af <| Af <| Ai fun ds => Aa rfl (Ag (Bb rfl <| Ba rfl <| Ap rfl <| Ac)) ?_
     refine Aa rfl (B9 (Ac) Ab) ?_
     refine Aa rfl (Ag (Ac)) ?_
     refine At rfl rfl (Ac) (.inl (congrArg Value.bool (decide_eq_false hf))) rfl ?_
     refine At rfl rfl (Al rfl <| Ac) (.inl (congrArg Value.bool (decide_eq_false hf))) rfl ?_
     refine At rfl rfl (Ap rfl <| Ac) (.inl (congrArg Value.bool (decide_eq_false hf))) rfl ?_
     refine At rfl rfl (Ap rfl <| Al rfl <| Ac) (.inl (congrArg Value.bool (decide_eq_false hf))) rfl ?_
     refine At rfl rfl (Ay rfl <| Ac) (.inl (congrArg Value.bool (decide_eq_false hf))) rfl ?_
     refine At rfl rfl (Ay rfl <| Al rfl <| Ac) (.inl (congrArg Value.bool (decide_eq_false hf))) rfl ?_
     refine At rfl rfl (Ay rfl <| Ap rfl <| Ac) (.inl (congrArg Value.bool (decide_eq_false hf))) rfl ?_
     refine At rfl rfl (Ay rfl <| Ap rfl <| Al rfl <| Ac) (.inl (congrArg Value.bool (decide_eq_false hf))) rfl ?_
     refine Aa rfl (A8 (Ba rfl <| Ac) (decide_eq_false hf) Ab) ?_
     refine Ah <| Ad <| Am (Ac) (by first | rfl | exact decide_eq_false hf) ?_
     refine Ax <| Ad <| Af <| Ai fun ds => Aa rfl (Ag (Bt rfl <| Ay rfl <| Ap rfl <| Ac)) ?_
     refine Aa rfl (B5 (Ac) Ab) ?_
     refine Ah <| Ad <| Ar (Ac) (decide_eq_true hf) ?_
     refine Af <| Ai fun ds => Aa rfl (Ag (Bt rfl <| Bb rfl <| Ay rfl <| Ap rfl <| Au rfl hs5)) ?_
     refine Aa rfl (Ag (Bt rfl <| Ba rfl <| Al rfl <| Ac)) ?_
     refine Aa rfl (Ae (Al rfl <| Ac)) ?_
     refine Aa rfl (Ae (Al rfl <| Ac)) ?_
     refine Ah <| Ad <| A5 <| Bc (A7 (A7 (Bc (A7 ?_))))
     refine Aw rfl (.tmp (Al rfl <| Ac) (.tmp (Ac) .nil)) ?_
     show _ = _
     rw [Cs h1 hlt hno (lotErr_fresh hlt) (by simp [hf])]; simp [optV, outOf, hf]
   ·
    refine Af <| Af <| Ai fun ds => Aa rfl (Ag (Au rfl hs5)) ?_
    refine Aa rfl (Aj Cp (Al rfl <| Ao rfl <| Ba rfl <| Ac)) ?_
    refine Aa rfl (Aq C0 (Ac) (Cell.own 0 rfl rfl)) ?_
    refine Aa rfl (Bf C1 (Ac) hr.lots.plain) ?_
    refine Aa rfl (B0 (Ap rfl <| Al rfl <| Ac) (Ac)) ?_
    refine Ah <| Ad <| Am (Ac) (by first | rfl | exact decide_eq_false (by omega)) ?_
    refine Bx ?_
    refine Bk <| Bk <| Bn <| Ad <| Af <| Ai fun ds => Aa rfl (Ae Ab) ?_
    refine Aa rfl (Ae Ab) ?_
    refine Ah <| Ad <| A5 <| Aw rfl (.tmp (Al rfl <| Ac) (.tmp (Ac) .nil)) ?_
    show _ = _
    rw [Dm h1 fun j hj => hno j (by omega)]; rfl
end Go.Proofs.Ytaikojfonleccaa
namespace Go.Proofs.Ytaikojfonleccaa
open Go.RowKit
theorem Cd : AggT Try.prog 27 8 := aggT_of (by kernel_rfl)
theorem bd_63 : Body Try.prog 63 := Br (by kernel_rfl)
theorem bd_64 : Body Try.prog 64 := Br (by kernel_rfl)
theorem bd_65 : Body Try.prog 65 := Br (by kernel_rfl)
theorem any_take_no {α : Type} {p : α → Bool} {xs : List α} {k : Nat} (h : ∀ j (hj : j < xs.length), j < k → p xs[j] = false) : (xs.take k).any p = false := by
 rw [List.any_eq_false]
 intro x hx
 obtain ⟨j, hj, rfl⟩ := List.getElem_of_mem hx
 rw [List.length_take] at hj
 rw [List.getElem_take]
 simp [h j (by omega) (by omega)]
theorem stepErr_first0 {ss : List Stp} {k : Nat} (h0 : k = 0) (h : k < ss.length) : stepErr ss k = if inB 0 0 ss[k].from_ = false then 7 else if inB 1 100000 ss[k].by_ = false then 7 else 0 := by
 subst h0; exact D5 h
theorem any_take_yes {α : Type} {p : α → Bool} {xs : List α} {k j : Nat} (hj : j < xs.length) (hjk : j < k) (h : p xs[j] = true) : (xs.take k).any p = true :=
 List.any_eq_true.2 ⟨xs[j], by rw [List.mem_take_iff_getElem]; exact ⟨j, by omega, rfl⟩, h⟩
set_option maxRecDepth 100000 in
theorem refBids_ok {F : Heap} {vs vb vl vn vd : Value} {s : Sale} (hr : SaleR F vs vb vl vn vd s) : Ok Try.prog 65 [.agg #[vs, .int .i64 s.premium, .int .i64 s.fee, .int .i64 s.days, vb, vl, vn, vd]].toArray F fun r _ => r = optV (firstE s.bids.length 16 (bidErr s)) := by
 refine Ok.intro Try.func65 rfl Try.ntmps65 rfl fun w0 => ?_
 have hL1 := hr.lots.plain.lt
 have hL2 := hr.bidders.plain.lt
 have hL3 := hr.bids.plain.lt
 by_cases h1 : 16 < s.bids.length
 ·
  refine Af <| Ai fun ds => Bl rfl (Cc (Ak rfl) rfl fun b1 hb1 nb1 => ?_)
  refine Aa rfl (Ae Ab) ?_
  refine Aa rfl (Ae Ab) ?_
  refine Ah <| Ad <| Af <| Af <| Ai fun ds => Aa rfl (Aj Dc (Ap rfl <| Ac)) ?_
  refine Aa rfl (Aq D7 (Ac) (Cell.own 0 rfl rfl)) ?_
  refine Aa rfl (Bf Dz (Ac) hr.bids.plain) ?_
  refine Aa rfl (Cl (Ac) Ab) ?_
  refine Ah <| Ad <| Ar (Ac) (by first | rfl | exact decide_eq_true (by omega)) ?_
  refine Af <| Ai fun ds => Aa rfl (Ae Ab) ?_
  refine Aa rfl (Ae Ab) ?_
  refine Ah <| Ad <| A5 <| A7 ?_
  refine Aw rfl (.tmp (Al rfl <| Ac) (.tmp (Ac) .nil)) ?_
  show _ = _
  rw [Dq h1]; rfl
 ·
  refine Af <| Ai fun ds => Bl rfl (Cc (Ak rfl) rfl fun b2 hb2 nb2 => ?_)
  refine Aa rfl (Ae Ab) ?_
  refine Aa rfl (Ae Ab) ?_
  refine Ah <| Ad <| Af <| Af <| Ai fun ds => Aa rfl (Aj Dc (Ap rfl <| Ac)) ?_
  refine Aa rfl (Aq D7 (Ac) (Cell.own 0 rfl rfl)) ?_
  refine Aa rfl (Bf Dz (Ac) hr.bids.plain) ?_
  refine Aa rfl (Cl (Ac) Ab) ?_
  refine Ah <| Ad <| Am (Ac) (by first | rfl | exact decide_eq_false (by omega)) ?_
  refine Ax <| Ad <| Af <| Af <| Ai fun ds => Aa rfl (Ae Ab) ?_
  refine Ah <| Ad <| A4 <| B4 [2, 3, 4, 5, 6, 11, 12, 13, 14, 15, 16, 17, 18, 19, 20, 21, 22, 23, 24, 25, 26, 27, 28, 29, 30, 31, 32, 33, 34, 35, 36, 37, 38, 39, 40, 41, 42, 43, 44, 45, 46, 47, 48, 49, 50, 51, 52, 53, 54, 55, 56, 57, 58, 59, 60, 61, 62, 63, 64, 65, 66, 67, 68, 69, 70, 71, 72] (fun m e σ => ∃ k : Nat, m + k = s.bids.length ∧ e 4 = .int .i64 (k : Int) ∧ σ = ⟨F, [(b2, bx 27 [vs, .int .i64 s.premium, .int .i64 s.fee, .int .i64 s.days, vb, vl, vn, vd])]⟩ ∧ ∀ j, j < k → bidErr s j = 0) (s.bids.length) ?_ ?_
  · exact ⟨0, by omega, (Ac), rfl, fun j h => absurd h (by omega)⟩
  ·
   rintro m e _ ⟨k, hm, hs4, rfl, hno⟩
   by_cases hlt : k < s.bids.length
   ·
    refine Af <| Af <| Ai fun ds => Aa rfl (Ag (Au rfl hs4)) ?_
    refine Aa rfl (Aj Dc (Al rfl <| Ao rfl <| Ay rfl <| Ap rfl <| Al rfl <| Ac)) ?_
    refine Aa rfl (Aq D7 (Ac) (Cell.own 0 rfl rfl)) ?_
    refine Aa rfl (Bf Dz (Ac) hr.bids.plain) ?_
    refine Aa rfl (B0 (Ap rfl <| Al rfl <| Ac) (Ac)) ?_
    refine Ah <| Ad <| Ar (Ac) (by first | rfl | exact decide_eq_true (by omega)) ?_
    by_cases h1_ : inB 0 (s.bidders.length - 1) s.bids[k].bidder = true
    ·
     refine Ax <| Ad <| Af <| A4 <| Af <| Ai fun ds => Aa rfl (Aj Dc (Ay rfl <| Al rfl <| Ao rfl <| Ay rfl <| Ap rfl <| Al rfl <| Ac)) ?_
     refine Aa rfl (Aq D7 (Ac) (Cell.own 0 rfl rfl)) ?_
     refine Aa rfl (Ag (Ay rfl <| Ap rfl <| Al rfl <| Au rfl hs4)) ?_
     refine Aa rfl (Be (k := k) Dz (Al rfl <| Ac) hr.bids.plain (Ac) rfl hlt) ?_
     refine Aa rfl (Bg agg_72 (Ac) rfl rfl (hr.bids.whole hlt)) ?_
     refine Bl rfl (B6 zr_72 rfl fun b4 hb4 nb4 => ?_)
     refine Ck (B8 sz_72 (Ac) (Al rfl <| Ac) (i := 0) rfl rfl rfl rfl Bid.enc_one (.here) ?_)
     refine Ah <| Ad <| Af <| Af <| Ai fun ds => Aa rfl (Aj Dr (Ac)) ?_
     refine Aa rfl (Aq Bd (Ac) (Cell.own 0 rfl rfl)) ?_
     refine Aa rfl (Aj C7 (Ba rfl <| Ay rfl <| Al rfl <| Ao rfl <| Ay rfl <| Ap rfl <| Al rfl <| Ac)) ?_
     refine Aa rfl (Aq Cx (Ac) (Cell.own 1 rfl rfl)) ?_
     refine Aa rfl (Bf Cr (Ac) hr.bidders.plain) ?_
     refine Aa rfl (Dh (Ac) Ab rfl (by omega) (by omega)) ?_
     refine Bv rfl (A9 bd_62 Az (.cons (Ay rfl <| Ac) (.cons Ab (.cons (Ac) .nil))) (Dx _ _ _) (fun _ _ h => h)) ?_
     refine Aa rfl (Cu (Ac)) ?_
     refine Aa rfl (Ag (Ac)) ?_
     refine As rfl rfl (Ac) (by simp [h1_]) ?_
     refine Aa rfl (Aj El (Ba rfl <| Al rfl <| Ac)) ?_
     refine As rfl rfl (Al rfl <| Ac) (by simp [h1_]) ?_
     refine Aa rfl (Aq Bd (Ac) (Cell.own 0 rfl rfl)) ?_
     refine As rfl rfl (Ap rfl <| Ac) (by simp [h1_]) ?_
     refine Aa rfl (Aj Cp (Bb rfl <| Ay rfl <| Ap rfl <| Ao rfl <| Ay rfl <| Ap rfl <| Al rfl <| Ac)) ?_
     refine As rfl rfl (Ap rfl <| Al rfl <| Ac) (by simp [h1_]) ?_
     refine Aa rfl (Aq C0 (Ac) (Cell.own 1 rfl rfl)) ?_
     refine As rfl rfl (Ay rfl <| Ac) (by simp [h1_]) ?_
     refine Aa rfl (Bf C1 (Ac) hr.lots.plain) ?_
     refine As rfl rfl (Ay rfl <| Al rfl <| Ac) (by simp [h1_]) ?_
     refine Aa rfl (Dh (Ac) Ab rfl (by omega) (by omega)) ?_
     refine As rfl rfl (Ay rfl <| Ap rfl <| Ac) (by simp [h1_]) ?_
     refine Bv rfl (A9 bd_62 Az (.cons (Ay rfl <| Ac) (.cons Ab (.cons (Ac) .nil))) (Dx _ _ _) (fun _ _ h => h)) ?_
     refine As rfl rfl (Ay rfl <| Ap rfl <| Al rfl <| Ac) (by simp [h1_]) ?_
     refine Aa rfl (Cu (Ac)) ?_
     refine Aa rfl (A8 (Ba rfl <| Ac) (by simp [h1_]) (Ac)) ?_
     refine Ah <| Ad ?_
     by_cases h2_ : inB 0 (s.lots.length - 1) s.bids[k].lot = true
     ·
      refine Am (Ac) (by simp [h2_]) ?_
      by_cases h3_ : inB 1 100000 s.bids[k].most = true
      ·
       refine Ax <| Ad <| Af <| Af <| Ai fun ds => Aa rfl (Aj fd_72_2 (Bb rfl <| Ap rfl <| Ac)) ?_
       refine Aa rfl (Aq Bd (Ac) (Cell.own 0 rfl rfl)) ?_
       refine Bv rfl (A9 bd_62 Az (.cons (Ac) (.cons Ab (.cons Ab .nil))) (Dx _ _ _) (fun _ _ h => h)) ?_
       refine Aa rfl (Cu (Ac)) ?_
       refine Ah <| Ad <| Am (Ac) (by simp [h3_]) ?_
       refine Ax <| Ad <| Af <| Ai fun ds => Aa rfl (Ae Ab) ?_
       refine Ah <| Ad <| A4 <| B4 [2, 3, 6, 47, 48, 49, 50, 51, 52, 53, 54, 55, 56, 57, 58, 59, 60, 61, 62, 63, 64, 65, 66, 67, 68, 69, 70, 71, 72] (fun m e σ => ∃ t : Nat, m + t = k ∧ e 6 = .int .i64 (t : Int) ∧ σ = ⟨F, [(b4, bx 72 (s.bids[k].enc)), (b2, bx 27 [vs, .int .i64 s.premium, .int .i64 s.fee, .int .i64 s.days, vb, vl, vn, vd])]⟩ ∧ ∀ j (hj : j < s.bids.length), j < t → (decide (s.bids[j].bidder = s.bids[k].bidder) && decide (s.bids[j].lot = s.bids[k].lot)) = false) (k) ?_ ?_
       · exact ⟨0, by omega, (Ac), rfl, fun j hj h => absurd h (by omega)⟩
       ·
        rintro m2 e2 _ ⟨t, hm2, ht6, rfl, hnt⟩
        by_cases htk : t < k
        ·
         have htl : t < s.bids.length := by omega
         refine Af <| Af <| Ai fun ds => Aa rfl (Ag (Au rfl ht6)) ?_
         refine Aa rfl (Ag (Al rfl <| Ao rfl <| Bt rfl <| Ap rfl <| Au rfl hs4)) ?_
         refine Aa rfl (B0 (Al rfl <| Ac) (Ac)) ?_
         refine Ah <| Ad <| Ar (Ac) (by first | rfl | exact decide_eq_true (by omega)) ?_
         by_cases g1 : s.bids[t].bidder = s.bids[k].bidder
         ·
          refine Ax <| Ad <| Af <| A4 <| Af <| Ch (.inl rfl) (fun _ _ h => h) (by kernel_rfl) (by kernel_rfl) fun ds => ?_
          refine A0 rfl (Aj Dc (Ap rfl <| Al rfl <| Ao rfl <| Bt rfl <| Ap rfl <| Ao rfl <| Ay rfl <| Ap rfl <| Al rfl <| Ac)) ?_
          refine A0 rfl (Aq D7 (Ac) (Cell.own 1 rfl rfl)) ?_
          refine A0 rfl (Ag (Ay rfl <| Al rfl <| Au rfl ht6)) ?_
          refine A0 rfl (Be (k := t) Dz (Al rfl <| Ac) hr.bids.plain (Ac) rfl htl) ?_
          refine A0 rfl (Bq Dr (Ac)) ?_
          refine A0 rfl (Aq Bd (Ac) (hr.bids.cell htl rfl)) ?_
          refine A0 rfl (Aj Dr (Ba rfl <| Al rfl <| Ao rfl <| Bb rfl <| Ay rfl <| Ap rfl <| Al rfl <| Ac)) ?_
          refine A0 rfl (Aq Bd (Ac) (Cell.own 0 rfl rfl)) ?_
          refine A0 rfl (B9 (Ap rfl <| Ac) (Ac)) ?_
          refine A0 rfl (Ag (Ac)) ?_
          refine A3 rfl rfl (Ac) (decide_eq_true g1) ?_
          refine A0 rfl (Aj Dc (Ba rfl <| Ay rfl <| Al rfl <| Ao rfl <| Bt rfl <| Ap rfl <| Ao rfl <| Ay rfl <| Ap rfl <| Al rfl <| Ac)) ?_
          refine A3 rfl rfl (Al rfl <| Ac) (decide_eq_true g1) ?_
          refine A0 rfl (Aq D7 (Ac) (Cell.own 1 rfl rfl)) ?_
          refine A3 rfl rfl (Ap rfl <| Ac) (decide_eq_true g1) ?_
          refine A0 rfl (Ag (Ba rfl <| Ay rfl <| Ap rfl <| Al rfl <| Au rfl ht6)) ?_
          refine A3 rfl rfl (Ap rfl <| Al rfl <| Ac) (decide_eq_true g1) ?_
          refine A0 rfl (Be (k := t) Dz (Al rfl <| Ac) hr.bids.plain (Ac) rfl htl) ?_
          refine A3 rfl rfl (Ay rfl <| Ac) (decide_eq_true g1) ?_
          refine A0 rfl (Bq El (Ac)) ?_
          refine A3 rfl rfl (Ay rfl <| Al rfl <| Ac) (decide_eq_true g1) ?_
          refine A0 rfl (Aq Bd (Ac) (hr.bids.cell htl rfl)) ?_
          refine A3 rfl rfl (Ay rfl <| Ap rfl <| Ac) (decide_eq_true g1) ?_
          refine A0 rfl (Aj El (Bb rfl <| Ap rfl <| Al rfl <| Ao rfl <| Bb rfl <| Ay rfl <| Ap rfl <| Al rfl <| Ac)) ?_
          refine A3 rfl rfl (Ay rfl <| Ap rfl <| Al rfl <| Ac) (decide_eq_true g1) ?_
          refine A0 rfl (Aq Bd (Ac) (Cell.own 0 rfl rfl)) ?_
          refine A3 rfl rfl (Ba rfl <| Ac) (decide_eq_true g1) ?_
          refine A0 rfl (B9 (Ap rfl <| Ac) (Ac)) ?_
          refine A0 rfl (A6 (Ba rfl <| Al rfl <| Ac) (decide_eq_true g1) (Ac)) ?_
          refine Cj ?_
          refine Ad ?_
          by_cases g2 : s.bids[t].lot = s.bids[k].lot
          ·
           refine Ar (Ac) (decide_eq_true g2) ?_
           have hany := any_take_yes (p := fun y : Bid => decide (y.bidder = s.bids[k].bidder) && decide (y.lot = s.bids[k].lot)) htl htk (by simp [g1, g2])
           refine Af <| Ai fun ds => Aa rfl (Ag (Bb rfl <| Ay rfl <| Ap rfl <| Al rfl <| Ao rfl <| Bt rfl <| Ap rfl <| Au rfl hs4)) ?_
           refine Aa rfl (Ae (Ac)) ?_
           refine Aa rfl (Ae Ab) ?_
           refine Ah <| Ad <| A5 <| Bc (A7 (A7 (Bc (Bc (A7 (A7 (Bc (A7 ?_))))))))
           refine Aw rfl (.tmp (Al rfl <| Ac) (.tmp (Ac) .nil)) ?_
           show _ = _
           rw [Cs h1 hlt hno (D6 hlt) (by simp [h1_, h2_, h3_, hany])]; simp [optV, outOf, h1_, h2_, h3_, hany]
          ·
           refine Am (Ac) (decide_eq_false g2) ?_
           refine Ax <| Bh <| Ad <| Ai fun ds => Aa rfl (Ag (Bb rfl <| Ay rfl <| Ap rfl <| Al rfl <| Au rfl ht6)) ?_
           refine Aa rfl (B3 (Ac) Ab rfl (by omega) (by omega)) ?_
           refine Aa rfl (Ae (Ac)) ?_
           refine Ah <| Ad ⟨_, m2 - 1, Off.eq (C5 rfl <| Ei rfl <| Et rfl <| Bj), by omega, ?_⟩
           refine ⟨t + 1, by omega, (Ac), rfl, fun j hj hjk => ?_⟩
           rcases Nat.lt_succ_iff_lt_or_eq.1 hjk with hjk | rfl
           · exact hnt j hj hjk
           · simp [g2]
         ·
          refine Ax <| Ad <| Af <| A4 <| Af <| Ch (.inl rfl) (fun _ _ h => h) (by kernel_rfl) (by kernel_rfl) fun ds => ?_
          refine A0 rfl (Aj Dc (Ap rfl <| Al rfl <| Ao rfl <| Bt rfl <| Ap rfl <| Ao rfl <| Ay rfl <| Ap rfl <| Al rfl <| Ac)) ?_
          refine A0 rfl (Aq D7 (Ac) (Cell.own 1 rfl rfl)) ?_
          refine A0 rfl (Ag (Ay rfl <| Al rfl <| Au rfl ht6)) ?_
          refine A0 rfl (Be (k := t) Dz (Al rfl <| Ac) hr.bids.plain (Ac) rfl htl) ?_
          refine A0 rfl (Bq Dr (Ac)) ?_
          refine A0 rfl (Aq Bd (Ac) (hr.bids.cell htl rfl)) ?_
          refine A0 rfl (Aj Dr (Ba rfl <| Al rfl <| Ao rfl <| Bb rfl <| Ay rfl <| Ap rfl <| Al rfl <| Ac)) ?_
          refine A0 rfl (Aq Bd (Ac) (Cell.own 0 rfl rfl)) ?_
          refine A0 rfl (B9 (Ap rfl <| Ac) (Ac)) ?_
          refine A0 rfl (Ag (Ac)) ?_
          refine A2 rfl rfl (Ac) (.inl (congrArg Value.bool (decide_eq_false g1))) rfl ?_
          refine A2 rfl rfl (Al rfl <| Ac) (.inl (congrArg Value.bool (decide_eq_false g1))) rfl ?_
          refine A2 rfl rfl (Ap rfl <| Ac) (.inl (congrArg Value.bool (decide_eq_false g1))) rfl ?_
          refine A2 rfl rfl (Ap rfl <| Al rfl <| Ac) (.inl (congrArg Value.bool (decide_eq_false g1))) rfl ?_
          refine A2 rfl rfl (Ay rfl <| Ac) (.inl (congrArg Value.bool (decide_eq_false g1))) rfl ?_
          refine A2 rfl rfl (Ay rfl <| Al rfl <| Ac) (.inl (congrArg Value.bool (decide_eq_false g1))) rfl ?_
          refine A2 rfl rfl (Ay rfl <| Ap rfl <| Ac) (.inl (congrArg Value.bool (decide_eq_false g1))) rfl ?_
          refine A2 rfl rfl (Ay rfl <| Ap rfl <| Al rfl <| Ac) (.inl (congrArg Value.bool (decide_eq_false g1))) rfl ?_
          refine A2 rfl rfl (Ba rfl <| Ac) (.inl (congrArg Value.bool (decide_eq_false g1))) rfl ?_
          refine A0 rfl (A8 (Ba rfl <| Al rfl <| Ac) (decide_eq_false g1) Ab) ?_
          refine Cj ?_
          refine Ad <| Am (Ac) rfl ?_
          refine Ax <| Bh <| Ad <| Ai fun ds => Aa rfl (Ag (Bb rfl <| Ay rfl <| Ap rfl <| Al rfl <| Au rfl ht6)) ?_
          refine Aa rfl (B3 (Ac) Ab rfl (by omega) (by omega)) ?_
          refine Aa rfl (Ae (Ac)) ?_
          refine Ah <| Ad ⟨_, m2 - 1, Off.eq (C5 rfl <| Ei rfl <| Et rfl <| Bj), by omega, ?_⟩
          refine ⟨t + 1, by omega, (Ac), rfl, fun j hj hjk => ?_⟩
          rcases Nat.lt_succ_iff_lt_or_eq.1 hjk with hjk | rfl
          · exact hnt j hj hjk
          · simp [g1]
        ·
         refine Af <| Af <| Ai fun ds => Aa rfl (Ag (Au rfl ht6)) ?_
         refine Aa rfl (Ag (Al rfl <| Ao rfl <| Bt rfl <| Ap rfl <| Au rfl hs4)) ?_
         refine Aa rfl (B0 (Al rfl <| Ac) (Ac)) ?_
         refine Ah <| Ad <| Am (Ac) (by first | rfl | exact decide_eq_false (by omega)) ?_
         refine Bx ?_
         refine Bk <| Bk <| Bn <| Bh <| Ad <| Ct (fun _ _ h => h.drop (.cons _ <| .cons_cons _ <| .refl _)) ?_
         refine Ai fun ds => Aa rfl (Ag (Ap rfl <| Al rfl <| Ao rfl <| Bt rfl <| Ap rfl <| Au rfl hs4)) ?_
         refine Aa rfl (B3 (Ac) Ab rfl (by omega) (by omega)) ?_
         refine Aa rfl (Ae (Ac)) ?_
         refine Ah <| Ad ⟨_, m - 1, Off.eq (ou4 rfl <| Et rfl <| off_in rfl <| ou32 rfl <| Et rfl <| Bj), by omega, ?_⟩
         refine ⟨k + 1, by omega, (Ac), rfl, fun j hjk => ?_⟩
         rcases Nat.lt_succ_iff_lt_or_eq.1 hjk with hjk | rfl
         · exact hno j hjk
         · rw [D6 hlt, h1_, h2_, h3_, any_take_no (fun j hj hjk => hnt j hj (by omega))]; rfl
      ·
       replace h3_ : inB 1 100000 s.bids[k].most = false := by simpa using h3_
       refine Ax <| Ad <| Af <| Af <| Ai fun ds => Aa rfl (Aj fd_72_2 (Bb rfl <| Ap rfl <| Ac)) ?_
       refine Aa rfl (Aq Bd (Ac) (Cell.own 0 rfl rfl)) ?_
       refine Bv rfl (A9 bd_62 Az (.cons (Ac) (.cons Ab (.cons Ab .nil))) (Dx _ _ _) (fun _ _ h => h)) ?_
       refine Aa rfl (Cu (Ac)) ?_
       refine Ah <| Ad <| Ar (Ac) (by simp [h3_]) ?_
       refine Af <| Ai fun ds => Aa rfl (Ag (Bt rfl <| Al rfl <| Au rfl hs4)) ?_
       refine Aa rfl (Ae (Ac)) ?_
       refine Aa rfl (Ae Ab) ?_
       refine Ah <| Ad <| A5 <| A7 (Bc (A7 (A7 (Bc (A7 ?_)))))
       refine Aw rfl (.tmp (Al rfl <| Ac) (.tmp (Ac) .nil)) ?_
       show _ = _
       rw [Cs h1 hlt hno (D6 hlt) (by simp [h1_, h2_, h3_])]; simp [optV, outOf, h1_, h2_, h3_]
     ·
      replace h2_ : inB 0 (s.lots.length - 1) s.bids[k].lot = false := by simpa using h2_
      refine Ar (Ac) (by simp [h2_]) ?_
      refine Af <| Ai fun ds => Aa rfl (Ag (Bb rfl <| Ba rfl <| Ay rfl <| Al rfl <| Au rfl hs4)) ?_
      refine Aa rfl (Ae (Ac)) ?_
      refine Aa rfl (Ae Ab) ?_
      refine Ah <| Ad <| A5 <| A7 (Bc (A7 (A7 (Bc (A7 ?_)))))
      refine Aw rfl (.tmp (Al rfl <| Ac) (.tmp (Ac) .nil)) ?_
      show _ = _
      rw [Cs h1 hlt hno (D6 hlt) (by simp [h1_, h2_])]; simp [optV, outOf, h1_, h2_]
    ·
     replace h1_ : inB 0 (s.bidders.length - 1) s.bids[k].bidder = false := by simpa using h1_
     refine Ax <| Ad <| Af <| A4 <| Af <| Ai fun ds => Aa rfl (Aj Dc (Ay rfl <| Al rfl <| Ao rfl <| Ay rfl <| Ap rfl <| Al rfl <| Ac)) ?_
     refine Aa rfl (Aq D7 (Ac) (Cell.own 0 rfl rfl)) ?_
     refine Aa rfl (Ag (Ay rfl <| Ap rfl <| Al rfl <| Au rfl hs4)) ?_
     refine Aa rfl (Be (k := k) Dz (Al rfl <| Ac) hr.bids.plain (Ac) rfl hlt) ?_
     refine Aa rfl (Bg agg_72 (Ac) rfl rfl (hr.bids.whole hlt)) ?_
     refine Bl rfl (B6 zr_72 rfl fun b6 hb6 nb6 => ?_)
     refine Ck (B8 sz_72 (Ac) (Al rfl <| Ac) (i := 0) rfl rfl rfl rfl Bid.enc_one (.here) ?_)
     refine Ah <| Ad <| Af <| Af <| Ai fun ds => Aa rfl (Aj Dr (Ac)) ?_
     refine Aa rfl (Aq Bd (Ac) (Cell.own 0 rfl rfl)) ?_
     refine Aa rfl (Aj C7 (Ba rfl <| Ay rfl <| Al rfl <| Ao rfl <| Ay rfl <| Ap rfl <| Al rfl <| Ac)) ?_
     refine Aa rfl (Aq Cx (Ac) (Cell.own 1 rfl rfl)) ?_
     refine Aa rfl (Bf Cr (Ac) hr.bidders.plain) ?_
     refine Aa rfl (Dh (Ac) Ab rfl (by omega) (by omega)) ?_
     refine Bv rfl (A9 bd_62 Az (.cons (Ay rfl <| Ac) (.cons Ab (.cons (Ac) .nil))) (Dx _ _ _) (fun _ _ h => h)) ?_
     refine Aa rfl (Cu (Ac)) ?_
     refine Aa rfl (Ag (Ac)) ?_
     refine At rfl rfl (Ac) (.inl (congrArg Value.bool (by simp [h1_]))) rfl ?_
     refine At rfl rfl (Al rfl <| Ac) (.inl (congrArg Value.bool (by simp [h1_]))) rfl ?_
     refine At rfl rfl (Ap rfl <| Ac) (.inl (congrArg Value.bool (by simp [h1_]))) rfl ?_
     refine At rfl rfl (Ap rfl <| Al rfl <| Ac) (.inl (congrArg Value.bool (by simp [h1_]))) rfl ?_
     refine At rfl rfl (Ay rfl <| Ac) (.inl (congrArg Value.bool (by simp [h1_]))) rfl ?_
     refine At rfl rfl (Ay rfl <| Al rfl <| Ac) (.inl (congrArg Value.bool (by simp [h1_]))) rfl ?_
     refine At rfl rfl (Ay rfl <| Ap rfl <| Ac) (.inl (congrArg Value.bool (by simp [h1_]))) rfl ?_
     refine At rfl rfl (Ay rfl <| Ap rfl <| Al rfl <| Ac) (.inl (congrArg Value.bool (by simp [h1_]))) rfl ?_
     refine Aa rfl (A6 (Ba rfl <| Ac) (by simp [h1_]) Ab) ?_
     refine Ah <| Ad <| Ar (Ac) rfl ?_
     refine Af <| Ai fun ds => Aa rfl (Ag (Bb rfl <| Ba rfl <| Ay rfl <| Al rfl <| Au rfl hs4)) ?_
     refine Aa rfl (Ae (Ac)) ?_
     refine Aa rfl (Ae Ab) ?_
     refine Ah <| Ad <| A5 <| A7 (Bc (A7 (A7 (Bc (A7 ?_)))))
     refine Aw rfl (.tmp (Al rfl <| Ac) (.tmp (Ac) .nil)) ?_
     show _ = _
     rw [Cs h1 hlt hno (D6 hlt) (by simp [h1_])]; simp [optV, outOf, h1_]
   ·
    refine Af <| Af <| Ai fun ds => Aa rfl (Ag (Au rfl hs4)) ?_
    refine Aa rfl (Aj Dc (Al rfl <| Ao rfl <| Ay rfl <| Ap rfl <| Al rfl <| Ac)) ?_
    refine Aa rfl (Aq D7 (Ac) (Cell.own 0 rfl rfl)) ?_
    refine Aa rfl (Bf Dz (Ac) hr.bids.plain) ?_
    refine Aa rfl (B0 (Ap rfl <| Al rfl <| Ac) (Ac)) ?_
    refine Ah <| Ad <| Am (Ac) (by first | rfl | exact decide_eq_false (by omega)) ?_
    refine Bx ?_
    refine Bk <| Bk <| Bn <| Ad <| Af <| Ai fun ds => Aa rfl (Ae Ab) ?_
    refine Aa rfl (Ae Ab) ?_
    refine Ah <| Ad <| A5 <| Aw rfl (.tmp (Al rfl <| Ac) (.tmp (Ac) .nil)) ?_
    show _ = _
    rw [Dm h1 fun j hj => hno j (by omega)]; rfl
set_option maxRecDepth 100000 in
theorem refCheckS_ok {F : Heap} {vs vb vl vn vd : Value} {s : Sale} (hr : SaleR F vs vb vl vn vd s) : Ok Try.prog 16 [.agg #[vs, .int .i64 s.premium, .int .i64 s.fee, .int .i64 s.days, vb, vl, vn, vd]].toArray F fun r _ => r = checkSV s := by
 refine Ok.intro Try.func16 rfl Try.ntmps16 rfl fun w0 => ?_
 have hL1 := hr.steps.plain.lt
 by_cases hl : inB 1 5 (s.steps.length : Int) = true
 ·
  refine Af <| Ai fun ds => Bl rfl (Cc (Ak rfl) rfl fun b1 hb1 nb1 => ?_)
  refine Aa rfl (Ae Ab) ?_
  refine Aa rfl (Ae Ab) ?_
  refine Aa rfl (Ae Ab) ?_
  refine Ah <| Ad <| Af <| Af <| Ai fun ds => Aa rfl (Aj D2 (Ap rfl <| Al rfl <| Ac)) ?_
  refine Aa rfl (Aq Ev (Ac) (Cell.own 0 rfl rfl)) ?_
  refine Aa rfl (Bf Ec (Ac) hr.steps.plain) ?_
  refine Bv rfl (A9 bd_62 Az (.cons (Ac) (.cons Ab (.cons Ab .nil))) (Dx _ _ _) (fun _ _ h => h)) ?_
  refine Aa rfl (Cu (Ac)) ?_
  refine Ah <| Ad <| Am (Ac) (by simp [hl]) ?_
  have hl5 : 1 ≤ s.steps.length ∧ s.steps.length ≤ 5 := by simp [inB] at hl; omega
  have hl0 : ¬ s.steps.length = 0 := by omega
  refine Ax <| Ad <| Af <| Af <| Ai fun ds => Aa rfl (Ae Ab) ?_
  refine Ah <| Ad <| A4 <| B4 [2, 3, 4, 5, 6, 14, 15, 16, 17, 18, 19, 20, 21, 22, 23, 24, 25, 26, 27, 28, 29, 30, 31, 32, 33, 34, 35, 36, 37, 38, 39, 40, 41, 42, 43, 44, 45, 46, 47, 48, 49, 50, 51, 52, 53, 54, 55, 56, 57] (fun m e σ => ∃ k : Nat, m + k = s.steps.length ∧ e 5 = .int .i64 (k : Int) ∧ σ = ⟨F, [(b1, bx 27 [vs, .int .i64 s.premium, .int .i64 s.fee, .int .i64 s.days, vb, vl, vn, vd])]⟩ ∧ ∀ j, j < k → stepErr s.steps j = 0) (s.steps.length) ?_ ?_
  · exact ⟨0, by omega, (Ac), rfl, fun j h => absurd h (by omega)⟩
  ·
   rintro m e _ ⟨k, hm, hs5, rfl, hno⟩
   by_cases hlt : k < s.steps.length
   ·
    refine Af <| Af <| Ai fun ds => Aa rfl (Ag (Au rfl hs5)) ?_
    refine Aa rfl (Aj D2 (Al rfl <| Ao rfl <| Ba rfl <| Al rfl <| Ac)) ?_
    refine Aa rfl (Aq Ev (Ac) (Cell.own 0 rfl rfl)) ?_
    refine Aa rfl (Bf Ec (Ac) hr.steps.plain) ?_
    refine Aa rfl (B0 (Ap rfl <| Al rfl <| Ac) (Ac)) ?_
    refine Ah <| Ad <| Ar (Ac) (by first | rfl | exact decide_eq_true (by omega)) ?_
    rcases Nat.eq_zero_or_pos k with hk0 | hk0
    ·
     refine Ax <| Ad <| Af <| A4 <| Af <| Ai fun ds => Aa rfl (Aj D2 (Ay rfl <| Al rfl <| Ao rfl <| Ba rfl <| Al rfl <| Ac)) ?_
     refine Aa rfl (Aq Ev (Ac) (Cell.own 0 rfl rfl)) ?_
     refine Aa rfl (Ag (Ay rfl <| Ap rfl <| Al rfl <| Au rfl hs5)) ?_
     refine Aa rfl (Be (k := k) Ec (Al rfl <| Ac) hr.steps.plain (Ac) rfl hlt) ?_
     refine Aa rfl (Bg agg_98 (Ac) rfl rfl (hr.steps.whole hlt)) ?_
     refine Bl rfl (B6 zr_98 rfl fun b3 hb3 nb3 => ?_)
     refine Ck (B8 sz_98 (Ac) (Al rfl <| Ac) (i := 0) rfl rfl rfl rfl Stp.enc_one (.here) ?_)
     refine Ah <| Ad <| Af <| Ch (.inl rfl) (fun _ _ h => h) (by kernel_rfl) (by kernel_rfl) fun ds => ?_
     refine A0 rfl (Ag (Ba rfl <| Ap rfl <| Al rfl <| Au rfl hs5)) ?_
     refine A0 rfl (B9 (Ac) Ab) ?_
     refine A0 rfl (Ag (Ac)) ?_
     refine A3 rfl rfl (Ac) (decide_eq_true (by omega)) ?_
     refine A0 rfl (Aj Eb (Ap rfl <| Al rfl <| Ac)) ?_
     refine A3 rfl rfl (Al rfl <| Ac) (decide_eq_true (by omega)) ?_
     refine A0 rfl (Aq Bd (Ac) (Cell.own 0 rfl rfl)) ?_
     refine A3 rfl rfl (Ap rfl <| Ac) (decide_eq_true (by omega)) ?_
     refine A0 rfl (B5 (Ac) Ab) ?_
     refine A0 rfl (A6 (Ap rfl <| Al rfl <| Ac) (decide_eq_true (by omega)) (Ac)) ?_
     refine A0 rfl (Ag (Ac)) ?_
     by_cases hf : s.steps[k].from_ = 0
     ·
      have hfB : inB 0 0 (s.steps[k].from_) = true := by rw [hf]; rfl
      refine A3 rfl rfl (Ac) (decide_eq_false (fun h => h hf)) ?_
      refine A0 rfl (Ag (Bb rfl <| Ap rfl <| Al rfl <| Au rfl hs5)) ?_
      refine A3 rfl rfl (Al rfl <| Ac) (decide_eq_false (fun h => h hf)) ?_
      refine A0 rfl (Cl (Ac) Ab) ?_
      refine A3 rfl rfl (Ap rfl <| Ac) (decide_eq_false (fun h => h hf)) ?_
      refine A0 rfl (Ag (Ac)) ?_
      refine A2 rfl rfl (Ac) (.inl (congrArg Value.bool (decide_eq_false (by omega)))) rfl ?_
      refine A2 rfl rfl (Al rfl <| Ac) (.inl (congrArg Value.bool (decide_eq_false (by omega)))) rfl ?_
      refine A2 rfl rfl (Ap rfl <| Ac) (.inl (congrArg Value.bool (decide_eq_false (by omega)))) rfl ?_
      refine A2 rfl rfl (Ap rfl <| Al rfl <| Ac) (.inl (congrArg Value.bool (decide_eq_false (by omega)))) rfl ?_
      refine A2 rfl rfl (Ay rfl <| Ac) (.inl (congrArg Value.bool (decide_eq_false (by omega)))) rfl ?_
      refine A2 rfl rfl (Ay rfl <| Al rfl <| Ac) (.inl (congrArg Value.bool (decide_eq_false (by omega)))) rfl ?_
      refine A2 rfl rfl (Ay rfl <| Ap rfl <| Ac) (.inl (congrArg Value.bool (decide_eq_false (by omega)))) rfl ?_
      refine A2 rfl rfl (Ay rfl <| Ap rfl <| Al rfl <| Ac) (.inl (congrArg Value.bool (decide_eq_false (by omega)))) rfl ?_
      refine A2 rfl rfl (Ba rfl <| Ac) (.inl (congrArg Value.bool (decide_eq_false (by omega)))) rfl ?_
      refine A2 rfl rfl (Ba rfl <| Al rfl <| Ac) (.inl (congrArg Value.bool (decide_eq_false (by omega)))) rfl ?_
      refine A2 rfl rfl (Ba rfl <| Ap rfl <| Ac) (.inl (congrArg Value.bool (decide_eq_false (by omega)))) rfl ?_
      refine A2 rfl rfl (Ba rfl <| Ap rfl <| Al rfl <| Ac) (.inl (congrArg Value.bool (decide_eq_false (by omega)))) rfl ?_
      refine A3 rfl rfl (Ba rfl <| Ay rfl <| Ap rfl <| Al rfl <| Ac) (decide_eq_false (fun h => h hf)) ?_
      refine A0 rfl (A8 (Ba rfl <| Ay rfl <| Ac) (decide_eq_false (by omega)) Ab) ?_
      refine A0 rfl (A8 (Bb rfl <| Ac) (decide_eq_false (fun h => h hf)) (Ac)) ?_
      refine A0 rfl (Ag (Ac)) ?_
      refine A3 rfl rfl (Ac) rfl ?_
      refine A0 rfl (Aj fd_98_1 (Bb rfl <| Ba rfl <| Ap rfl <| Ac)) ?_
      refine A3 rfl rfl (Al rfl <| Ac) rfl ?_
      refine A0 rfl (Aq Bd (Ac) (Cell.own 0 rfl rfl)) ?_
      refine A3 rfl rfl (Ap rfl <| Ac) rfl ?_
      refine WQ_c rfl (A9 bd_62 Az (.cons (Ac) (.cons Ab (.cons Ab .nil))) (Dx _ _ _) (fun _ _ h => h)) ?_
      refine A3 rfl rfl (Ap rfl <| Al rfl <| Ac) rfl ?_
      refine A0 rfl (Cu (Ac)) ?_
      refine A0 rfl (A8 (Ay rfl <| Ac) rfl (Ac)) ?_
      refine Cj ?_
      refine Ad ?_
      by_cases hb : inB 1 100000 s.steps[k].by_ = true
      ·
       refine Am (Ac) (by simp [hb]) ?_
       refine Ax <| Bh <| Ad <| Ct (fun _ _ h => h.drop (.cons _ <| .cons_cons _ <| .refl _)) ?_
       refine Ai fun ds => Aa rfl (Ag (Bt rfl <| Ba rfl <| Ap rfl <| Au rfl hs5)) ?_
       refine Aa rfl (B3 (Ac) Ab rfl (by omega) (by omega)) ?_
       refine Aa rfl (Ae (Ac)) ?_
       refine Ah <| Ad ⟨_, m - 1, Off.eq (ou32 rfl <| Ei rfl <| ou4 rfl <| Eu rfl <| Bj), by omega, ?_⟩
       refine ⟨k + 1, by omega, (Ac), rfl, fun j hjk => ?_⟩
       rcases Nat.lt_succ_iff_lt_or_eq.1 hjk with hjk | rfl
       · exact hno j hjk
       · rw [stepErr_first0 hk0 hlt]; simp [hfB, hb]
      ·
       replace hb : inB 1 100000 s.steps[k].by_ = false := by simpa using hb
       refine Ar (Ac) (by simp [hb]) ?_
       have he : stepErr s.steps k = 7 := by rw [stepErr_first0 hk0 hlt]; simp [hfB, hb]
       refine Af <| Ai fun ds => Aa rfl (Ag (Bt rfl <| Ba rfl <| Ap rfl <| Au rfl hs5)) ?_
       refine Aa rfl (Ae Ab) ?_
       refine Aa rfl (Ae (Al rfl <| Ac)) ?_
       refine Aa rfl (Ae Ab) ?_
       refine Ah <| Ad <| A5 <| Bc (A7 (A7 (Bc (A7 ?_))))
       refine Aw rfl (.tmp (Ap rfl <| Ac) (.tmp (Al rfl <| Ac) (.tmp (Ac) .nil))) ?_
       exact (E1 (by unfold stepsE; rw [if_neg hl0, Cs (by omega) hlt hno he (by decide)])).symm
     ·
      have hfB : inB 0 0 (s.steps[k].from_) = false := by simp [inB]; omega
      refine A2 rfl rfl (Ac) (.inl (congrArg Value.bool (decide_eq_true hf))) rfl ?_
      refine A2 rfl rfl (Al rfl <| Ac) (.inl (congrArg Value.bool (decide_eq_true hf))) rfl ?_
      refine A2 rfl rfl (Ap rfl <| Ac) (.inl (congrArg Value.bool (decide_eq_true hf))) rfl ?_
      refine A2 rfl rfl (Ac) (.inr rfl) rfl ?_
      refine A2 rfl rfl (Al rfl <| Ac) (.inr rfl) rfl ?_
      refine A2 rfl rfl (Ap rfl <| Ac) (.inr rfl) rfl ?_
      refine A2 rfl rfl (Ap rfl <| Al rfl <| Ac) (.inr rfl) rfl ?_
      refine A2 rfl rfl (Ay rfl <| Ac) (.inr rfl) rfl ?_
      refine A2 rfl rfl (Ay rfl <| Al rfl <| Ac) (.inr rfl) rfl ?_
      refine A2 rfl rfl (Ay rfl <| Ap rfl <| Ac) (.inr rfl) rfl ?_
      refine A2 rfl rfl (Ay rfl <| Ap rfl <| Al rfl <| Ac) (.inr rfl) rfl ?_
      refine A2 rfl rfl (Ba rfl <| Ac) (.inr rfl) rfl ?_
      refine A2 rfl rfl (Ba rfl <| Al rfl <| Ac) (.inr rfl) rfl ?_
      refine A2 rfl rfl (Ba rfl <| Ap rfl <| Ac) (.inr rfl) rfl ?_
      refine A2 rfl rfl (Ba rfl <| Ap rfl <| Al rfl <| Ac) (.inr rfl) rfl ?_
      refine A2 rfl rfl (Ba rfl <| Ay rfl <| Ap rfl <| Al rfl <| Ac) (.inl (congrArg Value.bool (decide_eq_true hf))) rfl ?_
      refine A0 rfl (A6 (Bb rfl <| Ac) (decide_eq_true hf) Ab) ?_
      refine A0 rfl (Ag (Ac)) ?_
      refine A2 rfl rfl (Ac) (.inl (congrArg Value.bool rfl)) rfl ?_
      refine A2 rfl rfl (Al rfl <| Ac) (.inl (congrArg Value.bool rfl)) rfl ?_
      refine A2 rfl rfl (Ap rfl <| Ac) (.inl (congrArg Value.bool rfl)) rfl ?_
      refine A2 rfl rfl (Ap rfl <| Al rfl <| Ac) (.inl (congrArg Value.bool rfl)) rfl ?_
      refine A0 rfl (A6 (Ay rfl <| Ac) rfl Ab) ?_
      refine Cj ?_
      refine Ad <| Ar (Ac) rfl ?_
      have he : stepErr s.steps k = 7 := by rw [stepErr_first0 hk0 hlt]; simp [hfB]
      refine Af <| Ai fun ds => Aa rfl (Ag (Bt rfl <| Ba rfl <| Ap rfl <| Au rfl hs5)) ?_
      refine Aa rfl (Ae Ab) ?_
      refine Aa rfl (Ae (Al rfl <| Ac)) ?_
      refine Aa rfl (Ae Ab) ?_
      refine Ah <| Ad <| A5 <| Bc (A7 (A7 (Bc (A7 ?_))))
      refine Aw rfl (.tmp (Ap rfl <| Ac) (.tmp (Al rfl <| Ac) (.tmp (Ac) .nil))) ?_
      exact (E1 (by unfold stepsE; rw [if_neg hl0, Cs (by omega) hlt hno he (by decide)])).symm
    ·
     have hk1 : k - 1 < s.steps.length := by omega
     have hprev := step_most hk1 (hno (k - 1) (by omega)) (.inr trivial)
     have hlow := step_least hk1 (fun j hj => hno j (by omega))
     refine Ax <| Ad <| Af <| A4 <| Af <| Ai fun ds => Aa rfl (Aj D2 (Ay rfl <| Al rfl <| Ao rfl <| Ba rfl <| Al rfl <| Ac)) ?_
     refine Aa rfl (Aq Ev (Ac) (Cell.own 0 rfl rfl)) ?_
     refine Aa rfl (Ag (Ay rfl <| Ap rfl <| Al rfl <| Au rfl hs5)) ?_
     refine Aa rfl (Be (k := k) Ec (Al rfl <| Ac) hr.steps.plain (Ac) rfl hlt) ?_
     refine Aa rfl (Bg agg_98 (Ac) rfl rfl (hr.steps.whole hlt)) ?_
     refine Bl rfl (B6 zr_98 rfl fun b4 hb4 nb4 => ?_)
     refine Ck (B8 sz_98 (Ac) (Al rfl <| Ac) (i := 0) rfl rfl rfl rfl Stp.enc_one (.here) ?_)
     refine Ah <| Ad <| Af <| Ch (.inl rfl) (fun _ _ h => h) (by kernel_rfl) (by kernel_rfl) fun ds => ?_
     refine A0 rfl (Ag (Ba rfl <| Ap rfl <| Al rfl <| Au rfl hs5)) ?_
     refine A0 rfl (B9 (Ac) Ab) ?_
     refine A0 rfl (Ag (Ac)) ?_
     refine A2 rfl rfl (Ac) (.inl (congrArg Value.bool (decide_eq_false (by omega)))) rfl ?_
     refine A2 rfl rfl (Al rfl <| Ac) (.inl (congrArg Value.bool (decide_eq_false (by omega)))) rfl ?_
     refine A2 rfl rfl (Ap rfl <| Ac) (.inl (congrArg Value.bool (decide_eq_false (by omega)))) rfl ?_
     refine A0 rfl (A8 (Ap rfl <| Al rfl <| Ac) (decide_eq_false (by omega)) Ab) ?_
     refine A0 rfl (Ag (Ac)) ?_
     refine A3 rfl rfl (Ac) rfl ?_
     refine A0 rfl (Ag (Bb rfl <| Ap rfl <| Al rfl <| Au rfl hs5)) ?_
     refine A3 rfl rfl (Al rfl <| Ac) rfl ?_
     refine A0 rfl (Cl (Ac) Ab) ?_
     refine A3 rfl rfl (Ap rfl <| Ac) rfl ?_
     refine A0 rfl (Ag (Ac)) ?_
     refine A3 rfl rfl (Ac) (decide_eq_true (by omega)) ?_
     refine A0 rfl (Aj Eb (Ba rfl <| Ap rfl <| Al rfl <| Ac)) ?_
     refine A3 rfl rfl (Al rfl <| Ac) (decide_eq_true (by omega)) ?_
     refine A0 rfl (Aq Bd (Ac) (Cell.own 0 rfl rfl)) ?_
     refine A3 rfl rfl (Ap rfl <| Ac) (decide_eq_true (by omega)) ?_
     refine A0 rfl (Aj D2 (Bb rfl <| Ba rfl <| Ao rfl <| Ba rfl <| Al rfl <| Ac)) ?_
     refine A3 rfl rfl (Ap rfl <| Al rfl <| Ac) (decide_eq_true (by omega)) ?_
     refine A0 rfl (Aq Ev (Ac) (Cell.own 1 rfl rfl)) ?_
     refine A3 rfl rfl (Ay rfl <| Ac) (decide_eq_true (by omega)) ?_
     refine A0 rfl (Ag (Bb rfl <| Ba rfl <| Ap rfl <| Au rfl hs5)) ?_
     refine A3 rfl rfl (Ay rfl <| Al rfl <| Ac) (decide_eq_true (by omega)) ?_
     refine A0 rfl (Dh (Ac) Ab rfl (by omega) (by omega)) ?_
     refine A3 rfl rfl (Ay rfl <| Ap rfl <| Ac) (decide_eq_true (by omega)) ?_
     refine A0 rfl (Be (k := k - 1) Ec (Ap rfl <| Ac) hr.steps.plain (Ac) (by omega) hk1) ?_
     refine A3 rfl rfl (Ay rfl <| Ap rfl <| Al rfl <| Ac) (decide_eq_true (by omega)) ?_
     refine A0 rfl (Bq Eb (Ac)) ?_
     refine A3 rfl rfl (Ba rfl <| Ac) (decide_eq_true (by omega)) ?_
     refine A0 rfl (Aq Bd (Ac) (hr.steps.cell hk1 rfl)) ?_
     refine A3 rfl rfl (Ba rfl <| Al rfl <| Ac) (decide_eq_true (by omega)) ?_
     refine A0 rfl (B3 (Ac) Ab rfl (by omega) (by omega)) ?_
     refine A3 rfl rfl (Ba rfl <| Ap rfl <| Ac) (decide_eq_true (by omega)) ?_
     refine WQ_c rfl (A9 bd_62 Az (.cons (Ba rfl <| Ac) (.cons (Ac) (.cons Ab .nil))) (Dx _ _ _) (fun _ _ h => h)) ?_
     refine A3 rfl rfl (Ba rfl <| Ap rfl <| Al rfl <| Ac) (decide_eq_true (by omega)) ?_
     refine A0 rfl (Cu (Ac)) ?_
     refine A3 rfl rfl (Ba rfl <| Ay rfl <| Ap rfl <| Al rfl <| Ac) rfl ?_
     refine A0 rfl (A6 (Ba rfl <| Ay rfl <| Ac) (decide_eq_true (by omega)) (Ac)) ?_
     refine A0 rfl (A8 (Bb rfl <| Ac) rfl (Ac)) ?_
     refine A0 rfl (Ag (Ac)) ?_
     by_cases hf : inB (s.steps[k - 1].from_ + 1) 100000 s.steps[k].from_ = true
     ·
      refine A3 rfl rfl (Ac) (by simp [hf]) ?_
      refine A0 rfl (Aj fd_98_1 (Bb rfl <| Ba rfl <| Ap rfl <| Ac)) ?_
      refine A3 rfl rfl (Al rfl <| Ac) (by simp [hf]) ?_
      refine A0 rfl (Aq Bd (Ac) (Cell.own 0 rfl rfl)) ?_
      refine A3 rfl rfl (Ap rfl <| Ac) (by simp [hf]) ?_
      refine WQ_c rfl (A9 bd_62 Az (.cons (Ac) (.cons Ab (.cons Ab .nil))) (Dx _ _ _) (fun _ _ h => h)) ?_
      refine A3 rfl rfl (Ap rfl <| Al rfl <| Ac) (by simp [hf]) ?_
      refine A0 rfl (Cu (Ac)) ?_
      refine A0 rfl (A8 (Ay rfl <| Ac) (by simp [hf]) (Ac)) ?_
      refine Cj ?_
      refine Ad ?_
      by_cases hb : inB 1 100000 s.steps[k].by_ = true
      ·
       refine Am (Ac) (by simp [hb]) ?_
       refine Ax <| Bh <| Ad <| Ct (fun _ _ h => h.drop (.cons _ <| .cons_cons _ <| .refl _)) ?_
       refine Ai fun ds => Aa rfl (Ag (Bt rfl <| Ba rfl <| Ap rfl <| Au rfl hs5)) ?_
       refine Aa rfl (B3 (Ac) Ab rfl (by omega) (by omega)) ?_
       refine Aa rfl (Ae (Ac)) ?_
       refine Ah <| Ad ⟨_, m - 1, Off.eq (ou32 rfl <| Ei rfl <| ou4 rfl <| Eu rfl <| Bj), by omega, ?_⟩
       refine ⟨k + 1, by omega, (Ac), rfl, fun j hjk => ?_⟩
       rcases Nat.lt_succ_iff_lt_or_eq.1 hjk with hjk | rfl
       · exact hno j hjk
       · rw [Do hk0 hlt]; simp [hf, hb]
      ·
       replace hb : inB 1 100000 s.steps[k].by_ = false := by simpa using hb
       refine Ar (Ac) (by simp [hb]) ?_
       have he : stepErr s.steps k = 7 := by rw [Do hk0 hlt]; simp [hf, hb]
       refine Af <| Ai fun ds => Aa rfl (Ag (Bt rfl <| Ba rfl <| Ap rfl <| Au rfl hs5)) ?_
       refine Aa rfl (Ae Ab) ?_
       refine Aa rfl (Ae (Al rfl <| Ac)) ?_
       refine Aa rfl (Ae Ab) ?_
       refine Ah <| Ad <| A5 <| Bc (A7 (A7 (Bc (A7 ?_))))
       refine Aw rfl (.tmp (Ap rfl <| Ac) (.tmp (Al rfl <| Ac) (.tmp (Ac) .nil))) ?_
       exact (E1 (by unfold stepsE; rw [if_neg hl0, Cs (by omega) hlt hno he (by decide)])).symm
     ·
      replace hf : inB (s.steps[k - 1].from_ + 1) 100000 s.steps[k].from_ = false := by simpa using hf
      refine A2 rfl rfl (Ac) (.inl (congrArg Value.bool (by simp [hf]))) rfl ?_
      refine A2 rfl rfl (Al rfl <| Ac) (.inl (congrArg Value.bool (by simp [hf]))) rfl ?_
      refine A2 rfl rfl (Ap rfl <| Ac) (.inl (congrArg Value.bool (by simp [hf]))) rfl ?_
      refine A2 rfl rfl (Ap rfl <| Al rfl <| Ac) (.inl (congrArg Value.bool (by simp [hf]))) rfl ?_
      refine A0 rfl (A6 (Ay rfl <| Ac) (by simp [hf]) Ab) ?_
      refine Cj ?_
      refine Ad <| Ar (Ac) rfl ?_
      have he : stepErr s.steps k = 7 := by rw [Do hk0 hlt]; simp [hf]
      refine Af <| Ai fun ds => Aa rfl (Ag (Bt rfl <| Ba rfl <| Ap rfl <| Au rfl hs5)) ?_
      refine Aa rfl (Ae Ab) ?_
      refine Aa rfl (Ae (Al rfl <| Ac)) ?_
      refine Aa rfl (Ae Ab) ?_
      refine Ah <| Ad <| A5 <| Bc (A7 (A7 (Bc (A7 ?_))))
      refine Aw rfl (.tmp (Ap rfl <| Ac) (.tmp (Al rfl <| Ac) (.tmp (Ac) .nil))) ?_
      exact (E1 (by unfold stepsE; rw [if_neg hl0, Cs (by omega) hlt hno he (by decide)])).symm
   ·
    refine Af <| Af <| Ai fun ds => Aa rfl (Ag (Au rfl hs5)) ?_
    refine Aa rfl (Aj D2 (Al rfl <| Ao rfl <| Ba rfl <| Al rfl <| Ac)) ?_
    refine Aa rfl (Aq Ev (Ac) (Cell.own 0 rfl rfl)) ?_
    refine Aa rfl (Bf Ec (Ac) hr.steps.plain) ?_
    refine Aa rfl (B0 (Ap rfl <| Al rfl <| Ac) (Ac)) ?_
    refine Ah <| Ad <| Am (Ac) (by first | rfl | exact decide_eq_false (by omega)) ?_
    have hS := Dm (n := s.steps.length) (most := 5) (f := stepErr s.steps) (by omega) (fun j hj => hno j (by omega))
    by_cases p1 : inB 0 500 s.premium = true
    ·
     refine Bx ?_
     refine Bk <| Bk <| Bn <| Ad <| Af <| Af <| Ai fun ds => Aa rfl (Aj fd_27_1 (Ay rfl <| Al rfl <| Ao rfl <| Ba rfl <| Al rfl <| Ac)) ?_
     refine Aa rfl (Aq Bd (Ac) (Cell.own 0 rfl rfl)) ?_
     refine Bv rfl (A9 bd_62 Az (.cons (Ac) (.cons Ab (.cons Ab .nil))) (Dx _ _ _) (fun _ _ h => h)) ?_
     refine Aa rfl (Cu (Ac)) ?_
     refine Aa rfl (Ag (Ac)) ?_
     refine As rfl rfl (Ac) (by simp [p1]) ?_
     refine Aa rfl (Aj fd_27_2 (Ba rfl <| Ap rfl <| Ao rfl <| Ba rfl <| Al rfl <| Ac)) ?_
     refine As rfl rfl (Al rfl <| Ac) (by simp [p1]) ?_
     refine Aa rfl (Aq Bd (Ac) (Cell.own 0 rfl rfl)) ?_
     refine As rfl rfl (Ap rfl <| Ac) (by simp [p1]) ?_
     refine Bv rfl (A9 bd_62 Az (.cons (Ac) (.cons Ab (.cons Ab .nil))) (Dx _ _ _) (fun _ _ h => h)) ?_
     refine As rfl rfl (Ap rfl <| Al rfl <| Ac) (by simp [p1]) ?_
     refine Aa rfl (Cu (Ac)) ?_
     refine Aa rfl (A8 (Ay rfl <| Ac) (by simp [p1]) (Ac)) ?_
     refine Aa rfl (Ag (Ac)) ?_
     by_cases p2 : inB 0 500 s.fee = true
     ·
      refine As rfl rfl (Ac) (by simp [p2]) ?_
      refine Aa rfl (Aj fd_27_3 (Bb rfl <| Ao rfl <| Ba rfl <| Al rfl <| Ac)) ?_
      refine As rfl rfl (Al rfl <| Ac) (by simp [p2]) ?_
      refine Aa rfl (Aq Bd (Ac) (Cell.own 0 rfl rfl)) ?_
      refine As rfl rfl (Ap rfl <| Ac) (by simp [p2]) ?_
      refine Bv rfl (A9 bd_62 Az (.cons (Ac) (.cons Ab (.cons Ab .nil))) (Dx _ _ _) (fun _ _ h => h)) ?_
      refine As rfl rfl (Ap rfl <| Al rfl <| Ac) (by simp [p2]) ?_
      refine Aa rfl (Cu (Ac)) ?_
      refine Aa rfl (A8 (Ay rfl <| Ac) (by simp [p2]) (Ac)) ?_
      refine Ah <| Ad ?_
      by_cases p3 : inB 0 60 s.days = true
      ·
       refine Am (Ac) (by simp [p3]) ?_
       have hP : ((inB 0 500 s.premium && inB 0 500 s.fee) && inB 0 60 s.days) = true := by simp [p1, p2, p3]
       rcases h3 : firstE s.bidders.length 6 (nameErr s.bidders) with _ | ⟨i3, e3⟩
       ·
        refine Ax <| Ad <| Af <| Ai fun ds => Aa rfl (Aj C7 (Bb rfl <| Ay rfl <| Al rfl <| Ao rfl <| Ba rfl <| Al rfl <| Ac)) ?_
        refine Aa rfl (Aq Cx (Ac) (Cell.own 0 rfl rfl)) ?_
        refine Bv rfl (A9 bd_63 Az (.cons (Ac) (.cons Ab .nil)) (refNames_ok hr.bidders 6) (fun _ _ h => h.trans (show optV _ = .tuple #[.int .i64 0, .int .i64 0] from by rw [h3]; rfl))) ?_
        refine Aa rfl (Ag (Ac)) ?_
        refine Aa rfl (A1 (Ac) rfl) ?_
        refine Aa rfl (A1 (Al rfl <| Ac) rfl) ?_
        refine Aa rfl (Ae (Al rfl <| Ac)) ?_
        refine Aa rfl (Ae (Al rfl <| Ac)) ?_
        refine Ah <| Ad <| Af <| Af <| Ai fun ds => Aa rfl (Ag (Ac)) ?_
        refine Aa rfl (B5 (Ac) Ab) ?_
        refine Ah <| Ad <| Am (Ac) rfl ?_
        rcases h4 : firstE s.sellers.length 4 (nameErr s.sellers) with _ | ⟨i4, e4⟩
        ·
         refine Ax <| Ad <| Af <| Ai fun ds => Aa rfl (Aj fd_27_5 (Bb rfl <| Ba rfl <| Ay rfl <| Ap rfl <| Al rfl <| Ao rfl <| Ba rfl <| Al rfl <| Ac)) ?_
         refine Aa rfl (Aq Cx (Ac) (Cell.own 0 rfl rfl)) ?_
         refine Bv rfl (A9 bd_63 Az (.cons (Ac) (.cons Ab .nil)) (refNames_ok hr.sellers 4) (fun _ _ h => h.trans (show optV _ = .tuple #[.int .i64 0, .int .i64 0] from by rw [h4]; rfl))) ?_
         refine Aa rfl (Ag (Ac)) ?_
         refine Aa rfl (A1 (Ac) rfl) ?_
         refine Aa rfl (A1 (Al rfl <| Ac) rfl) ?_
         refine Aa rfl (Ae (Al rfl <| Ac)) ?_
         refine Aa rfl (Ae (Al rfl <| Ac)) ?_
         refine Ah <| Ad <| Af <| Af <| Ai fun ds => Aa rfl (Ag (Ac)) ?_
         refine Aa rfl (B5 (Ac) Ab) ?_
         refine Ah <| Ad <| Am (Ac) rfl ?_
         rcases h5 : firstE s.lots.length 6 (lotErr s) with _ | ⟨i5, e5⟩
         ·
          refine Ax <| Ad <| Af <| Ai fun ds => Aa rfl (Bg Cd (Bt rfl <| Ba rfl <| Al rfl <| Ao rfl <| Ba rfl <| Al rfl <| Ac) rfl rfl (Bm 0 rfl)) ?_
          refine Bv rfl (A9 bd_64 Az (.cons (Ac) .nil) (refLots_ok hr) (fun _ _ h => h.trans (show optV _ = .tuple #[.int .i64 0, .int .i64 0] from by rw [h5]; rfl))) ?_
          refine Aa rfl (Ag (Ac)) ?_
          refine Aa rfl (A1 (Ac) rfl) ?_
          refine Aa rfl (A1 (Al rfl <| Ac) rfl) ?_
          refine Aa rfl (Ae (Al rfl <| Ac)) ?_
          refine Aa rfl (Ae (Al rfl <| Ac)) ?_
          refine Ah <| Ad <| Af <| Af <| Ai fun ds => Aa rfl (Ag (Ac)) ?_
          refine Aa rfl (B5 (Ac) Ab) ?_
          refine Ah <| Ad <| Am (Ac) rfl ?_
          rcases h6 : firstE s.bids.length 16 (bidErr s) with _ | ⟨i6, e6⟩
          ·
           refine Ax <| Ad <| Af <| Ai fun ds => Aa rfl (Bg Cd (Bt rfl <| Bb rfl <| Ap rfl <| Ao rfl <| Ba rfl <| Al rfl <| Ac) rfl rfl (Bm 0 rfl)) ?_
           refine Bv rfl (A9 bd_65 Az (.cons (Ac) .nil) (refBids_ok hr) (fun _ _ h => h.trans (show optV _ = .tuple #[.int .i64 0, .int .i64 0] from by rw [h6]; rfl))) ?_
           refine Aa rfl (Ag (Ac)) ?_
           refine Aa rfl (A1 (Ac) rfl) ?_
           refine Aa rfl (A1 (Al rfl <| Ac) rfl) ?_
           refine Aa rfl (Ae (Al rfl <| Ac)) ?_
           refine Aa rfl (Ae (Al rfl <| Ac)) ?_
           refine Ah <| Ad <| Af <| Af <| Ai fun ds => Aa rfl (Ag (Ac)) ?_
           refine Aa rfl (B5 (Ac) Ab) ?_
           refine Ah <| Ad <| Am (Ac) rfl ?_
           refine Ax <| Ad <| Af <| Ai fun ds => Aa rfl (Ae Ab) ?_
           refine Aa rfl (Ae Ab) ?_
           refine Aa rfl (Ae Ab) ?_
           refine Ah <| Ad <| A5 <| Aw rfl (.tmp (Ap rfl <| Ac) (.tmp (Al rfl <| Ac) (.tmp (Ac) .nil))) ?_
           exact (checkS_v0 (by unfold stepsE; rw [if_neg hl0]; exact hS) hP h3 h4 h5 h6).symm
          ·
           refine Ax <| Ad <| Af <| Ai fun ds => Aa rfl (Bg Cd (Bt rfl <| Bb rfl <| Ap rfl <| Ao rfl <| Ba rfl <| Al rfl <| Ac) rfl rfl (Bm 0 rfl)) ?_
           refine Bv rfl (A9 bd_65 Az (.cons (Ac) .nil) (refBids_ok hr) (fun _ _ h => h.trans (show optV _ = .tuple #[.int .i64 i6, .int .i64 e6] from by rw [h6]; rfl))) ?_
           refine Aa rfl (Ag (Ac)) ?_
           refine Aa rfl (A1 (Ac) rfl) ?_
           refine Aa rfl (A1 (Al rfl <| Ac) rfl) ?_
           refine Aa rfl (Ae (Al rfl <| Ac)) ?_
           refine Aa rfl (Ae (Al rfl <| Ac)) ?_
           refine Ah <| Ad <| Af <| Af <| Ai fun ds => Aa rfl (Ag (Ac)) ?_
           refine Aa rfl (B5 (Ac) Ab) ?_
           refine Ah <| Ad <| Ar (Ac) (decide_eq_true (D1 h6)) ?_
           refine Af <| Ai fun ds => Aa rfl (Ag (Ap rfl <| Al rfl <| Ac)) ?_
           refine Aa rfl (Ag (Ap rfl <| Al rfl <| Ac)) ?_
           refine Aa rfl (Ae Ab) ?_
           refine Aa rfl (Ae (Ap rfl <| Ac)) ?_
           refine Aa rfl (Ae (Ap rfl <| Ac)) ?_
           refine Ah <| Ad <| A5 <| A7 ?_
           refine Aw rfl (.tmp (Ap rfl <| Ac) (.tmp (Al rfl <| Ac) (.tmp (Ac) .nil))) ?_
           exact (checkS_v6 (by unfold stepsE; rw [if_neg hl0]; exact hS) hP h3 h4 h5 h6).symm
         ·
          refine Ax <| Ad <| Af <| Ai fun ds => Aa rfl (Bg Cd (Bt rfl <| Ba rfl <| Al rfl <| Ao rfl <| Ba rfl <| Al rfl <| Ac) rfl rfl (Bm 0 rfl)) ?_
          refine Bv rfl (A9 bd_64 Az (.cons (Ac) .nil) (refLots_ok hr) (fun _ _ h => h.trans (show optV _ = .tuple #[.int .i64 i5, .int .i64 e5] from by rw [h5]; rfl))) ?_
          refine Aa rfl (Ag (Ac)) ?_
          refine Aa rfl (A1 (Ac) rfl) ?_
          refine Aa rfl (A1 (Al rfl <| Ac) rfl) ?_
          refine Aa rfl (Ae (Al rfl <| Ac)) ?_
          refine Aa rfl (Ae (Al rfl <| Ac)) ?_
          refine Ah <| Ad <| Af <| Af <| Ai fun ds => Aa rfl (Ag (Ac)) ?_
          refine Aa rfl (B5 (Ac) Ab) ?_
          refine Ah <| Ad <| Ar (Ac) (decide_eq_true (D1 h5)) ?_
          refine Af <| Ai fun ds => Aa rfl (Ag (Ap rfl <| Al rfl <| Ac)) ?_
          refine Aa rfl (Ag (Ap rfl <| Al rfl <| Ac)) ?_
          refine Aa rfl (Ae Ab) ?_
          refine Aa rfl (Ae (Ap rfl <| Ac)) ?_
          refine Aa rfl (Ae (Ap rfl <| Ac)) ?_
          refine Ah <| Ad <| A5 <| A7 ?_
          refine Aw rfl (.tmp (Ap rfl <| Ac) (.tmp (Al rfl <| Ac) (.tmp (Ac) .nil))) ?_
          exact (checkS_v5 (by unfold stepsE; rw [if_neg hl0]; exact hS) hP h3 h4 h5).symm
        ·
         refine Ax <| Ad <| Af <| Ai fun ds => Aa rfl (Aj fd_27_5 (Bb rfl <| Ba rfl <| Ay rfl <| Ap rfl <| Al rfl <| Ao rfl <| Ba rfl <| Al rfl <| Ac)) ?_
         refine Aa rfl (Aq Cx (Ac) (Cell.own 0 rfl rfl)) ?_
         refine Bv rfl (A9 bd_63 Az (.cons (Ac) (.cons Ab .nil)) (refNames_ok hr.sellers 4) (fun _ _ h => h.trans (show optV _ = .tuple #[.int .i64 i4, .int .i64 e4] from by rw [h4]; rfl))) ?_
         refine Aa rfl (Ag (Ac)) ?_
         refine Aa rfl (A1 (Ac) rfl) ?_
         refine Aa rfl (A1 (Al rfl <| Ac) rfl) ?_
         refine Aa rfl (Ae (Al rfl <| Ac)) ?_
         refine Aa rfl (Ae (Al rfl <| Ac)) ?_
         refine Ah <| Ad <| Af <| Af <| Ai fun ds => Aa rfl (Ag (Ac)) ?_
         refine Aa rfl (B5 (Ac) Ab) ?_
         refine Ah <| Ad <| Ar (Ac) (decide_eq_true (D1 h4)) ?_
         refine Af <| Ai fun ds => Aa rfl (Ag (Ap rfl <| Al rfl <| Ac)) ?_
         refine Aa rfl (Ag (Ap rfl <| Al rfl <| Ac)) ?_
         refine Aa rfl (Ae Ab) ?_
         refine Aa rfl (Ae (Ap rfl <| Ac)) ?_
         refine Aa rfl (Ae (Ap rfl <| Ac)) ?_
         refine Ah <| Ad <| A5 <| A7 ?_
         refine Aw rfl (.tmp (Ap rfl <| Ac) (.tmp (Al rfl <| Ac) (.tmp (Ac) .nil))) ?_
         exact (checkS_v4 (by unfold stepsE; rw [if_neg hl0]; exact hS) hP h3 h4).symm
       ·
        refine Ax <| Ad <| Af <| Ai fun ds => Aa rfl (Aj C7 (Bb rfl <| Ay rfl <| Al rfl <| Ao rfl <| Ba rfl <| Al rfl <| Ac)) ?_
        refine Aa rfl (Aq Cx (Ac) (Cell.own 0 rfl rfl)) ?_
        refine Bv rfl (A9 bd_63 Az (.cons (Ac) (.cons Ab .nil)) (refNames_ok hr.bidders 6) (fun _ _ h => h.trans (show optV _ = .tuple #[.int .i64 i3, .int .i64 e3] from by rw [h3]; rfl))) ?_
        refine Aa rfl (Ag (Ac)) ?_
        refine Aa rfl (A1 (Ac) rfl) ?_
        refine Aa rfl (A1 (Al rfl <| Ac) rfl) ?_
        refine Aa rfl (Ae (Al rfl <| Ac)) ?_
        refine Aa rfl (Ae (Al rfl <| Ac)) ?_
        refine Ah <| Ad <| Af <| Af <| Ai fun ds => Aa rfl (Ag (Ac)) ?_
        refine Aa rfl (B5 (Ac) Ab) ?_
        refine Ah <| Ad <| Ar (Ac) (decide_eq_true (D1 h3)) ?_
        refine Af <| Ai fun ds => Aa rfl (Ag (Ap rfl <| Al rfl <| Ac)) ?_
        refine Aa rfl (Ag (Ap rfl <| Al rfl <| Ac)) ?_
        refine Aa rfl (Ae Ab) ?_
        refine Aa rfl (Ae (Ap rfl <| Ac)) ?_
        refine Aa rfl (Ae (Ap rfl <| Ac)) ?_
        refine Ah <| Ad <| A5 <| A7 ?_
        refine Aw rfl (.tmp (Ap rfl <| Ac) (.tmp (Al rfl <| Ac) (.tmp (Ac) .nil))) ?_
        exact (checkS_v3 (by unfold stepsE; rw [if_neg hl0]; exact hS) hP h3).symm
      ·
       replace p3 : inB 0 60 s.days = false := by simpa using p3
       refine Ar (Ac) (by simp [p3]) ?_
       have hP : ((inB 0 500 s.premium && inB 0 500 s.fee) && inB 0 60 s.days) = false := by simp [p3]
       refine Af <| Ai fun ds => Aa rfl (Ae Ab) ?_
       refine Aa rfl (Ae Ab) ?_
       refine Aa rfl (Ae Ab) ?_
       refine Ah <| Ad <| A5 <| A7 ?_
       refine Aw rfl (.tmp (Ap rfl <| Ac) (.tmp (Al rfl <| Ac) (.tmp (Ac) .nil))) ?_
       exact (checkS_v2 (by unfold stepsE; rw [if_neg hl0]; exact hS) hP).symm
     ·
      replace p2 : inB 0 500 s.fee = false := by simpa using p2
      refine At rfl rfl (Ac) (.inl (congrArg Value.bool (by simp [p2]))) rfl ?_
      refine At rfl rfl (Al rfl <| Ac) (.inl (congrArg Value.bool (by simp [p2]))) rfl ?_
      refine At rfl rfl (Ap rfl <| Ac) (.inl (congrArg Value.bool (by simp [p2]))) rfl ?_
      refine At rfl rfl (Ap rfl <| Al rfl <| Ac) (.inl (congrArg Value.bool (by simp [p2]))) rfl ?_
      refine Aa rfl (A6 (Ay rfl <| Ac) (by simp [p2]) Ab) ?_
      refine Ah <| Ad <| Ar (Ac) rfl ?_
      have hP : ((inB 0 500 s.premium && inB 0 500 s.fee) && inB 0 60 s.days) = false := by simp [p2]
      refine Af <| Ai fun ds => Aa rfl (Ae Ab) ?_
      refine Aa rfl (Ae Ab) ?_
      refine Aa rfl (Ae Ab) ?_
      refine Ah <| Ad <| A5 <| A7 ?_
      refine Aw rfl (.tmp (Ap rfl <| Ac) (.tmp (Al rfl <| Ac) (.tmp (Ac) .nil))) ?_
      exact (checkS_v2 (by unfold stepsE; rw [if_neg hl0]; exact hS) hP).symm
    ·
     replace p1 : inB 0 500 s.premium = false := by simpa using p1
     refine Bx ?_
     refine Bk <| Bk <| Bn <| Ad <| Af <| Af <| Ai fun ds => Aa rfl (Aj fd_27_1 (Ay rfl <| Al rfl <| Ao rfl <| Ba rfl <| Al rfl <| Ac)) ?_
     refine Aa rfl (Aq Bd (Ac) (Cell.own 0 rfl rfl)) ?_
     refine Bv rfl (A9 bd_62 Az (.cons (Ac) (.cons Ab (.cons Ab .nil))) (Dx _ _ _) (fun _ _ h => h)) ?_
     refine Aa rfl (Cu (Ac)) ?_
     refine Aa rfl (Ag (Ac)) ?_
     refine At rfl rfl (Ac) (.inl (congrArg Value.bool (by simp [p1]))) rfl ?_
     refine At rfl rfl (Al rfl <| Ac) (.inl (congrArg Value.bool (by simp [p1]))) rfl ?_
     refine At rfl rfl (Ap rfl <| Ac) (.inl (congrArg Value.bool (by simp [p1]))) rfl ?_
     refine At rfl rfl (Ap rfl <| Al rfl <| Ac) (.inl (congrArg Value.bool (by simp [p1]))) rfl ?_
     refine Aa rfl (A6 (Ay rfl <| Ac) (by simp [p1]) Ab) ?_
     refine Aa rfl (Ag (Ac)) ?_
     refine At rfl rfl (Ac) (.inl (congrArg Value.bool rfl)) rfl ?_
     refine At rfl rfl (Al rfl <| Ac) (.inl (congrArg Value.bool rfl)) rfl ?_
     refine At rfl rfl (Ap rfl <| Ac) (.inl (congrArg Value.bool rfl)) rfl ?_
     refine At rfl rfl (Ap rfl <| Al rfl <| Ac) (.inl (congrArg Value.bool rfl)) rfl ?_
     refine Aa rfl (A6 (Ay rfl <| Ac) rfl Ab) ?_
     refine Ah <| Ad <| Ar (Ac) rfl ?_
     have hP : ((inB 0 500 s.premium && inB 0 500 s.fee) && inB 0 60 s.days) = false := by simp [p1]
     refine Af <| Ai fun ds => Aa rfl (Ae Ab) ?_
     refine Aa rfl (Ae Ab) ?_
     refine Aa rfl (Ae Ab) ?_
     refine Ah <| Ad <| A5 <| A7 ?_
     refine Aw rfl (.tmp (Ap rfl <| Ac) (.tmp (Al rfl <| Ac) (.tmp (Ac) .nil))) ?_
     exact (checkS_v2 (by unfold stepsE; rw [if_neg hl0]; exact hS) hP).symm
 ·
  replace hl : inB 1 5 (s.steps.length : Int) = false := by simpa using hl
  refine Af <| Ai fun ds => Bl rfl (Cc (Ak rfl) rfl fun b5 hb5 nb5 => ?_)
  refine Aa rfl (Ae Ab) ?_
  refine Aa rfl (Ae Ab) ?_
  refine Aa rfl (Ae Ab) ?_
  refine Ah <| Ad <| Af <| Af <| Ai fun ds => Aa rfl (Aj D2 (Ap rfl <| Al rfl <| Ac)) ?_
  refine Aa rfl (Aq Ev (Ac) (Cell.own 0 rfl rfl)) ?_
  refine Aa rfl (Bf Ec (Ac) hr.steps.plain) ?_
  refine Bv rfl (A9 bd_62 Az (.cons (Ac) (.cons Ab (.cons Ab .nil))) (Dx _ _ _) (fun _ _ h => h)) ?_
  refine Aa rfl (Cu (Ac)) ?_
  refine Ah <| Ad <| Ar (Ac) (by simp [hl]) ?_
  by_cases hl0 : s.steps.length = 0
  ·
   refine Af <| Ai fun ds => Aa rfl (Ae Ab) ?_
   refine Aa rfl (Ae Ab) ?_
   refine Aa rfl (Ae Ab) ?_
   refine Ah <| Ad <| A5 <| A7 ?_
   refine Aw rfl (.tmp (Ap rfl <| Ac) (.tmp (Al rfl <| Ac) (.tmp (Ac) .nil))) ?_
   exact (E1 (i := 0) (e := 3) (by unfold stepsE; rw [if_pos hl0])).symm
  ·
   have hl6 : 5 < s.steps.length := by simp [inB] at hl; omega
   refine Af <| Ai fun ds => Aa rfl (Ae Ab) ?_
   refine Aa rfl (Ae Ab) ?_
   refine Aa rfl (Ae Ab) ?_
   refine Ah <| Ad <| A5 <| A7 ?_
   refine Aw rfl (.tmp (Ap rfl <| Ac) (.tmp (Al rfl <| Ac) (.tmp (Ac) .nil))) ?_
   exact (E1 (i := 0) (e := 3) (by unfold stepsE; rw [if_neg hl0, Dq hl6])).symm
end Go.Proofs.Ytaikojfonleccaa
namespace Go.Proofs.Ytaikojfonleccaa
open Go.RowKit
def IsK (P : Program) (K : Nat) (v : Value) : Prop := ∃ l, keyOf P K v = some l
structure MapT (P : Program) (M K E : Nat) (z : Value) : Prop where
 under : P.underlying M = some (.map K E)
 zero : ZeroT P E z
 keyed : Go.Maps.Keyed P K
def entryO (p : (Value × Value) × Nat) : MapEntry := ⟨p.1.1, p.1.2, p.2⟩
/-- A map from which nothing was ever taken out. -/
def mapO (es : List (Value × Value)) : Obj := .map (es.zipIdx.map entryO).toArray es.length
theorem mapO_at {es : List (Value × Value)} {j : Nat} {e : MapEntry} (h : (es.zipIdx.map entryO)[j]? = some e) : ∃ p, es[j]? = some p ∧ e = ⟨p.1, p.2, j⟩ := by
 rw [List.getElem?_map, List.getElem?_zipIdx] at h
 cases hj : es[j]? with
 | none => rw [hj] at h; simp at h
 | some p => rw [hj] at h; simp [entryO] at h; exact ⟨p, rfl, h.symm⟩
theorem mapO_mem {es : List (Value × Value)} {e : MapEntry} (h : e ∈ es.zipIdx.map entryO) : ∃ j p, es[j]? = some p ∧ e = ⟨p.1, p.2, j⟩ := by
 obtain ⟨j, hj⟩ := List.getElem?_of_mem h
 obtain ⟨p, h1, h2⟩ := mapO_at hj
 exact ⟨j, p, h1, h2⟩
section
variable {P : Program} {n : Nat} {B : Base} {e : Env} {σ : St} {d : Option Nat} {ty : TypeId} {pos : String} {af : Array Edge} {gd : Option (Nat × Bool)}
theorem find_map {K : Nat} (hK : Go.Maps.Keyed P K) {k : Value} (hk : IsK P K k) {es : List (Value × Value)} (hall : ∀ p ∈ es, IsK P K p.1) (w : World) :
   ((Instr.findKey K k (es.zipIdx.map entryO)).run P w = .ok none w ∧ ∀ p ∈ es, p.1 ≠ k) ∨ ∃ j u, (Instr.findKey K k (es.zipIdx.map entryO)).run P w = .ok (some (j, u)) w ∧ es[j]? = some (k, u) := by
 obtain ⟨l, hl⟩ := hk
 rcases hK.find w hl (es.zipIdx.map entryO) (fun e he => by obtain ⟨j, p, h1, rfl⟩ := mapO_mem he; exact hall p (List.mem_of_getElem? h1)) with ⟨h1, h2⟩ | ⟨j, e0, h1, h2, h3⟩
 · refine .inl ⟨h1, fun p hp => ?_⟩
   obtain ⟨j, hj⟩ := List.getElem?_of_mem hp
   have : entryO (p, j) ∈ es.zipIdx.map entryO := by
     refine List.mem_map.2 ⟨(p, j), ?_, rfl⟩
     rw [List.mem_zipIdx_iff_getElem?]; exact hj
   exact h2 _ this
 · obtain ⟨p, q1, rfl⟩ := mapO_at h2
   refine .inr ⟨j, p.2, h1, ?_⟩
   rw [q1]
   simp only at h3
   rw [← h3]
theorem x_makeMap {M : Nat} {K : Value → St → Prop} (hn : ∀ b, B.w0.heap.size ≤ b → σ.F b = none → K (.map (some b)) ⟨σ.F, (b, mapO []) :: σ.H⟩) : OpX P n B ⟨d, .makeMap M none, ty, pos, af, gd⟩ e σ K :=
 .run fun w hw => ⟨_, _, _, .inl (by simp [execOp, Instr.makeMap]; rfl), hw.alloc (mapO []), hn _ hw.size hw.fresh⟩
theorem run_getMap {b : Nat} {es : List (Value × Value)} {w : World} (h : w.heap[b]? = some (mapO es)) : (Go.getObj b).run P w = .ok (mapO es) w := by
 simp only [Go.getObj, Sem.run, h]; simp [mapO]
theorem run_setMap {b : Nat} {es es' : List (Value × Value)} {w : World} (h : w.heap[b]? = some (mapO es)) : (Go.setObj b (mapO es')).run P w = .ok () { w with heap := w.heap.setIfInBounds b (mapO es') } := by
 simp only [Go.setObj, Sem.run, h]; simp [mapO]
theorem nodup_key {es : List (Value × Value)} (hd : (es.map (·.1)).Nodup) {i j : Nat} {k u v : Value} (hi : es[i]? = some (k, u)) (hj : es[j]? = some (k, v)) : i = j := by
 have h1 : (es.map (·.1))[i]? = some k := by simp [hi]
 have h2 : (es.map (·.1))[j]? = some k := by simp [hj]
 have hl : i < (es.map (·.1)).length := (List.getElem?_eq_some_iff.1 h1).1
 exact (List.getElem?_inj hl hd).1 (by rw [h1, h2])
theorem run_lookupN {M K E : Nat} {z k : Value} {b : Nat} {es : List (Value × Value)} (hT : MapT P M K E z) (hk : IsK P K k) (hall : ∀ p ∈ es, IsK P K p.1) (hno : ∀ p ∈ es, p.1 ≠ k) {w : World} (hb : w.heap[b]? = some (mapO es)) (ok : Bool) :
   (Instr.lookup M (.map (some b)) k ok).run P w = .ok (if ok then .tuple #[z, .bool false] else z) w := by
 obtain ⟨l, hl⟩ := hk
 have hc := fun em => hT.keyed.check w em hl
 have hb' := run_getMap (P := P) hb; unfold mapO at hb'
 have hf : (Instr.findKey K k (es.zipIdx.map entryO)).run P w = .ok none w := by
   rcases find_map hT.keyed ⟨l, hl⟩ hall w with ⟨h, -⟩ | ⟨j, u, -, h⟩
   · exact h
   · exact absurd rfl (hno _ (List.mem_of_getElem? h))
 cases ok <;> simp [Instr.lookup, Ce hT.under, hb', hc, hf, run_zero hT.zero]
theorem run_lookupS {M K E : Nat} {z k u : Value} {b j : Nat} {es : List (Value × Value)} (hT : MapT P M K E z) (hk : IsK P K k) (hall : ∀ p ∈ es, IsK P K p.1) (hd : (es.map (·.1)).Nodup) (hj : es[j]? = some (k, u)) {w : World} (hb : w.heap[b]? = some (mapO es)) (ok : Bool) :
   (Instr.lookup M (.map (some b)) k ok).run P w = .ok (if ok then .tuple #[u, .bool true] else u) w := by
 obtain ⟨l, hl⟩ := hk
 have hc := fun em => hT.keyed.check w em hl
 have hb' := run_getMap (P := P) hb; unfold mapO at hb'
 have hf : (Instr.findKey K k (es.zipIdx.map entryO)).run P w = .ok (some (j, u)) w := by
   rcases find_map hT.keyed ⟨l, hl⟩ hall w with ⟨-, h⟩ | ⟨i, v, h1, h2⟩
   · exact absurd rfl (h _ (List.mem_of_getElem? hj))
   · have := nodup_key hd h2 hj
     subst this
     rw [h2] at hj
     simp only [Option.some.injEq, Prod.mk.injEq] at hj
     rw [h1, hj.2]
 cases ok <;> simp [Instr.lookup, Ce hT.under, hb', hc, hf]
theorem q_lookup2N {M K E i b : Nat} {x y : Operand} {z k : Value} {es : List (Value × Value)} (hT : MapT P M K E z) (hx : ev e x = .map (some b)) (hy : ev e y = k) (hi : σ.H[i]? = some (b, mapO es)) (hk : IsK P K k) (hall : ∀ p ∈ es, IsK P K p.1) (hno : ∀ p ∈ es, p.1 ≠ k) :
   OpR P B ⟨d, .lookup M x y true, ty, pos, af, gd⟩ e σ (.tuple #[z, .bool false]) := fun w hw => by
 have := run_lookupN hT hk hall hno (hw.own _ (List.mem_of_getElem? hi)).1 true
 simp [execOp, hx, hy, this]
theorem q_lookup2S {M K E i b j : Nat} {x y : Operand} {z k u : Value} {es : List (Value × Value)} (hT : MapT P M K E z) (hx : ev e x = .map (some b)) (hy : ev e y = k) (hi : σ.H[i]? = some (b, mapO es)) (hk : IsK P K k) (hall : ∀ p ∈ es, IsK P K p.1) (hd : (es.map (·.1)).Nodup) (hj : es[j]? = some (k, u)) :
   OpR P B ⟨d, .lookup M x y true, ty, pos, af, gd⟩ e σ (.tuple #[u, .bool true]) := fun w hw => by
 have := run_lookupS hT hk hall hd hj (hw.own _ (List.mem_of_getElem? hi)).1 true
 simp [execOp, hx, hy, this]
theorem wf64 {z : Int} (h1 : -9223372036854775808 ≤ z) (h2 : z ≤ 9223372036854775807) : (Lit.int .i64 z).wf = true := by
 have e1 : IntKind.i64.min = -9223372036854775808 := by decide
 have e2 : IntKind.i64.max = 9223372036854775807 := by decide
 simp [Lit.wf, e1, e2, h1, h2]
theorem keys_or {es : List (Value × Value)} (k : Value) : (∀ p ∈ es, p.1 ≠ k) ∨ ∃ (j : Nat) (u : Value), es[j]? = some (k, u) := by
 by_cases h : ∃ p ∈ es, p.1 = k
 · obtain ⟨p, hp, rfl⟩ := h
   obtain ⟨j, hj⟩ := List.getElem?_of_mem hp
   exact .inr ⟨j, p.2, hj⟩
 · exact .inl fun p hp he => h ⟨p, hp, he⟩
theorem all_snoc {K : Nat} {es : List (Value × Value)} {k v : Value} (h : ∀ p ∈ es, IsK P K p.1) (hk : IsK P K k) : ∀ p ∈ es ++ [(k, v)], IsK P K p.1 := by
 intro p hp
 rcases List.mem_append.1 hp with hp | hp
 · exact h p hp
 · simp at hp; subst hp; exact hk
theorem nd_snoc {es : List (Value × Value)} {k v : Value} (h : (es.map (·.1)).Nodup) (hk : ∀ p ∈ es, p.1 ≠ k) : ((es ++ [(k, v)]).map (·.1)).Nodup := by
 rw [List.map_append, List.nodup_append]
 refine ⟨h, by simp, fun a ha b hb => ?_⟩
 obtain ⟨p, hp, rfl⟩ := List.mem_map.1 ha
 simp at hb; subst hb
 exact hk p hp
theorem map_set {es : List (Value × Value)} {j : Nat} {k u v : Value} (hj : es[j]? = some (k, u)) : (es.set j (k, v)).map (·.1) = es.map (·.1) := by
 apply List.ext_getElem?
 intro m
 rw [List.getElem?_map, List.getElem?_map, List.getElem?_set]
 by_cases hm : j = m
 · subst hm; rw [if_pos rfl, hj]; simp [(List.getElem?_eq_some_iff.1 hj).1]
 · rw [if_neg hm]
theorem snoc_at {es : List (Value × Value)} {p : Value × Value} : (es ++ [p])[es.length]? = some p := by simp
end
end Go.Proofs.Ytaikojfonleccaa
namespace Go.Proofs.Ytaikojfonleccaa
open Go.RowKit
section
variable {P : Program} {n : Nat} {B : Base} {e : Env} {σ : St} {d : Option Nat} {ty : TypeId} {pos : String} {af : Array Edge} {gd : Option (Nat × Bool)}
theorem q_quo {x y : Operand} {a b : Int} {t u : TypeId} (hx : ev e x = .int .i64 a) (hy : ev e y = .int .i64 b) (ha : 0 ≤ a) (ha2 : a ≤ 9223372036854775807) (hb : 0 < b) :
   OpR P B ⟨d, .binOp .quo t x y u, ty, pos, af, gd⟩ e σ (.int .i64 (a / b)) := fun w _ => by
 have h0 : ¬ b = 0 := by omega
 have h1 : 0 ≤ a / b := Int.ediv_nonneg ha (by omega)
 have h2 : a / b ≤ a := Int.ediv_le_self b ha
 have h3 : IntKind.i64.wrap (a / b) = a / b := wrap_id (by omega) (by omega)
 simp [execOp, hx, hy, eqGuard, binOp, Op.intDiv, h0, Int.tdiv_eq_ediv_of_nonneg ha, h3]
theorem neg_shr {k : Nat} : (-1 : Int) / 2 ^ k = -1 := by
 have h : (0 : Int) < 2 ^ k := Int.pow_pos (by decide)
 have := (Int.ediv_emod_unique (a := -1) (b := 2 ^ k) (r := 2 ^ k - 1) (q := -1) h).2 ⟨by omega, by omega, by omega⟩
 exact this.1
theorem q_andm1 {x y : Operand} {t u : TypeId} (hx : ev e x = .int .i64 (-1)) (hy : ev e y = .int .i64 1) : OpR P B ⟨d, .binOp .and t x y u, ty, pos, af, gd⟩ e σ (.int .i64 1) := fun w _ => by
 have e3 : Op.intBits .and .i64 (-1) 1 = pure (.int .i64 (IntKind.i64.wrap ((BitVec.ofInt 64 (-1) &&& BitVec.ofInt 64 1).toNat : Int))) := rfl
 have e1 : (IntKind.i64.wrap ((BitVec.ofInt 64 (-1) &&& BitVec.ofInt 64 1).toNat : Int)) = 1 := by decide
 rw [e1] at e3
 simp only [execOp, hx, hy, eqGuard, binOp, e3]
 simp
theorem WC_freeze0 {c : Code} {Q : Exit → Env → St → Prop} {i b : Nat} {o : Obj} {H' : List (Nat × Obj)} (hM : B.M = []) (hi : σ.H[i]? = some (b, o)) (hH : DelL σ.H i H')
   (h : ∀ F', σ.F.le F' → F' b = some o → WC P n B c Q e ⟨F', H'⟩) : WC P n B c Q e σ := by
 intro ds a w ha hw
 have h2 := hw.own _ (List.mem_of_getElem? hi)
 have hb : B.w0.heap.size ≤ b := h2.2.2.resolve_right (fun hm => by rw [show (B.at ds).M = [] from hM] at hm; cases hm)
 rw [hH.eq] at h
 exact h _ (grown_le h2.2.1) Ew ds a w ha (hw.freeze hi hb)
theorem cell_row {F : Heap} {H : List (Nat × Obj)} {b T k m c : Nat} {l : List Value} {u : Value} (i : Nat) (hi : H[i]? = some (b, bx T l)) (hc : l[c]? = some u) : Cell ⟨F, H⟩ (addc (base (.slice (some ⟨b, 0, none⟩) k m)) (c * 1)) u := by
 have := Cell.own (F := F) i hi hc
 simpa [base, addc] using this
theorem WL_order {ops : Array Oper} {Q : Exit → Env → St → Prop} {l : List Oper} {H' : List (Nat × Obj)} (hp : Pick σ.H H') (h : WL P n B ops Q l e ⟨σ.F, H'⟩) : WL P n B ops Q l e σ := WL_imp (fun _ hw => hw.pick hp) h
/-- The same where the blocks that one was handed stand among the others. -/
theorem Holds.freezeRM {w : World} (hw : Holds B σ w) {E s k : Nat} {v : Value} {cs : List Value} {R TT : List (Nat × Obj)} {f g : List (Nat × Obj) → List (Nat × Obj)} (hM : ∀ m ∈ B.M, m ∈ keys (f (g []))) (hown : Own E s v k cs R) (hH : Hole σ.H TT f) (hR : Tail TT R g) :
   ∃ F', σ.F.le F' ∧ (∀ p ∈ R, F' p.1 = some p.2) ∧ Holds B ⟨F', f (g [])⟩ w := by
 obtain ⟨A, q1, q2⟩ := hH.eq
 obtain ⟨C, r1, r2⟩ := hR.eq
 rw [q2, r2] at hM ⊢
 simp only [List.nil_append] at hM ⊢
 match R, hown with
 | [], _ =>
   have hs : σ = ⟨σ.F, A ++ C⟩ := by
     cases σ with
     | mk F H => simp only at q1; rw [q1, r1]; simp
   exact ⟨σ.F, Heap.le_refl _, by simp, by rw [← hs]; exact hw⟩
 | [(b, o)], _ =>
   have hi : σ.H[A.length]? = some (b, o) := by rw [q1, r1]; simp
   have hm := hw.own _ (List.mem_of_getElem? hi)
   have hb : B.w0.heap.size ≤ b := by
     rcases hm.2.2 with h1 | h1
     · exact h1
     · have hk := hM _ h1
       have hnd := hw.nodup
       rw [q1, r1] at hnd
       simp only [List.map_append, List.map_cons, List.map_nil] at hnd
       rw [List.nodup_append] at hnd
       obtain ⟨-, n2, n3⟩ := hnd
       have hk' : b ∈ (A ++ C).map (·.1) := hk
       rw [List.map_append] at hk'
       rcases List.mem_append.1 hk' with hk' | hk'
       · exact absurd rfl (n3 _ hk' b (by simp))
       · simp at n2 hk'
         obtain ⟨x, hx⟩ := hk'
         exact absurd hx (n2.1 x)
   have hfz := hw.freeze hi hb
   have herase : σ.H.eraseIdx A.length = A ++ C := by
     rw [q1, r1, List.eraseIdx_append_of_length_le (Nat.le_refl _)]; simp
   rw [herase] at hfz
   exact ⟨_, grown_le hm.2.1, fun p hp => by simp at hp; subst hp; exact Ew, hfz⟩
theorem WC_freezeRM {c : Code} {Q : Exit → Env → St → Prop} {E s k : Nat} {v : Value} {cs : List Value} {R TT : List (Nat × Obj)} {f g : List (Nat × Obj) → List (Nat × Obj)} (hM : ∀ m ∈ B.M, m ∈ keys (f (g []))) (hown : Own E s v k cs R) (hH : Hole σ.H TT f) (hR : Tail TT R g)
   (h : ∀ F', σ.F.le F' → (∀ p ∈ R, F' p.1 = some p.2) → WC P n B c Q e ⟨F', f (g [])⟩) : WC P n B c Q e σ := fun ds a w ha hw => by
 obtain ⟨F', k1, k2, k3⟩ := hw.freezeRM (B := B.at ds) hM hown hH hR
 exact h F' k1 k2 ds a w ha k3
/-- A key that a map does not have is put into it. -/
theorem x_updateN {M K E i b : Nat} {x y y2 : Operand} {z k v : Value} {es : List (Value × Value)} {H' : List (Nat × Obj)} {Q : Value → St → Prop} (hT : MapT P M K E z) (hx : ev e x = .map (some b)) (hy : ev e y = k) (hy2 : ev e y2 = v) (hi : σ.H[i]? = some (b, mapO es)) (hk : IsK P K k) (hall : ∀ p ∈ es, IsK P K p.1) (hno : ∀ p ∈ es, p.1 ≠ k)
   (hH : SetL σ.H i (b, mapO (es ++ [(k, v)])) H') (hn : Q undef ⟨σ.F, H'⟩) : OpX P n B ⟨d, .mapUpdate M x y y2, ty, pos, af, gd⟩ e σ Q := .run fun w hw => by
 have hb := (hw.own _ (List.mem_of_getElem? hi)).1
 obtain ⟨l, hl⟩ := hk
 have hc := fun em => hT.keyed.check w em hl
 have hf : (Instr.findKey K k (es.zipIdx.map entryO)).run P w = .ok none w := by
   rcases find_map hT.keyed ⟨l, hl⟩ hall w with ⟨h, -⟩ | ⟨j, u, -, h⟩
   · exact h
   · exact absurd rfl (hno _ (List.mem_of_getElem? h))
 have hobj : Obj.map ((es.zipIdx.map entryO).toArray.push ⟨k, v, es.length⟩) (es.length + 1) = mapO (es ++ [(k, v)]) := by
   unfold mapO
   congr 1
   · simp [List.zipIdx_append, entryO]
   · simp
 rw [hH.eq.1] at hn
 refine ⟨_, _, _, .inr ⟨?_, rfl⟩, hw.setObj hi (o' := mapO (es ++ [(k, v)])), hn⟩
 have hg := run_getMap (P := P) hb
 have hs := run_setMap (P := P) (es' := (es ++ [(k, v)])) hb
 simp only [execOp, hx, hy, hy2, Instr.mapUpdate, Sem.run_bind, Ce hT.under, Result.andThen_ok, hg]
 simp only [mapO, hc, Result.andThen_ok, hf, Sem.run_bind]
 rw [hobj, hs]
 simp [mapO]
end
end Go.Proofs.Ytaikojfonleccaa
namespace Go.Proofs.Ytaikojfonleccaa
open Go.RowKit
def aucCells (s : Sale) (vs vb vl vn vd : Value) (ms ps : List Value) (vk : Value) : List Value := vs :: .int .i64 s.premium :: .int .i64 s.fee :: .int .i64 s.days :: vb :: vl :: vn :: vd :: (ms ++ (ps ++ [vk]))
def mosts (s : Sale) (k : Nat) : List Value := cells36 fun l b => mostTo s l b k
def places (s : Sale) (k : Nat) : List Value := cells36 fun l b => placeTo s l b k
theorem mosts_zero {s : Sale} : mosts s 0 = List.replicate 36 (.int .i64 0) := cells36_zero fun _ _ => rfl
theorem places_zero {s : Sale} : places s 0 = List.replicate 36 (.int .i64 0) := cells36_zero fun _ _ => rfl
theorem aucCells_length {s : Sale} {vs vb vl vn vd vk : Value} {ms ps : List Value} (h1 : ms.length = 36) (h2 : ps.length = 36) : (aucCells s vs vb vl vn vd ms ps vk).length = 81 := by simp [aucCells, h1, h2]
theorem auc_set1 {s : Sale} {vs vb vl vn vd vk : Value} {ps : List Value} {k l b : Nat} (hl : l < 6) (hb : b < 6) (h1 : (s.bid k).lot = (l : Int)) (h2 : (s.bid k).bidder = (b : Int)) :
   (aucCells s vs vb vl vn vd (mosts s k) ps vk).set (0 + 8 + l * 6 + b * 1) (.int .i64 (s.bid k).most) = aucCells s vs vb vl vn vd (mosts s (k + 1)) ps vk := by
 have : 0 + 8 + l * 6 + b * 1 = (l * 6 + b) + 1 + 1 + 1 + 1 + 1 + 1 + 1 + 1 := by omega
 unfold aucCells
 rw [this]
 simp only [List.set_cons_succ]
 rw [List.set_append_left (l * 6 + b) _ (by unfold mosts; rw [Cn]; omega)]
 unfold mosts
 rw [mostTo_set hl hb h1 h2]
theorem auc_set2 {s : Sale} {vs vb vl vn vd vk : Value} {ms : List Value} (hm : ms.length = 36) {k l b : Nat} (hl : l < 6) (hb : b < 6) (h1 : (s.bid k).lot = (l : Int)) (h2 : (s.bid k).bidder = (b : Int)) :
   (aucCells s vs vb vl vn vd ms (places s k) vk).set (0 + 44 + l * 6 + b * 1) (.int .i64 ((k : Int) + 1)) = aucCells s vs vb vl vn vd ms (places s (k + 1)) vk := by
 have : 0 + 44 + l * 6 + b * 1 = (36 + (l * 6 + b)) + 1 + 1 + 1 + 1 + 1 + 1 + 1 + 1 := by omega
 unfold aucCells
 rw [this]
 simp only [List.set_cons_succ]
 rw [List.set_append_right _ _ (by omega), hm, Nat.add_sub_cancel_left, List.set_append_left _ _ (by unfold places; rw [Cn]; omega)]
 unfold places
 rw [placeTo_set hl hb h1 h2]
structure AucX (T : Nat) (F : Heap) (b : Nat) (vs vb vl vn vd : Value) (kb : Nat) (s : Sale) : Prop where
 sale : SaleR F vs vb vl vn vd s
 blk : F b = some (bx T (aucCells s vs vb vl vn vd (mosts s s.bids.length) (places s s.bids.length) (.map (some kb))))
theorem AucX.mono {T : Nat} {F F' : Heap} {b : Nat} {vs vb vl vn vd : Value} {kb : Nat} {s : Sale} (h : AucX T F b vs vb vl vn vd kb s) (hF : F.le F') : AucX T F' b vs vb vl vn vd kb s := ⟨h.sale.mono hF, hF _ _ h.blk⟩
theorem AucX.most_cell {T : Nat} {F : Heap} {b : Nat} {vs vb vl vn vd : Value} {kb : Nat} {s : Sale} (h : AucX T F b vs vb vl vn vd kb s) {l c : Nat} (hl : l < 6) (hc : c < 6) : CellF F ⟨b, 0 + 8 + l * 6 + c * 1, none⟩ (.int .i64 (mostN s l c)) :=
 CellF.own h.blk (by
   have : 0 + 8 + l * 6 + c * 1 = (l * 6 + c) + 1 + 1 + 1 + 1 + 1 + 1 + 1 + 1 := by omega
   rw [this]
   unfold aucCells
   simp only [List.getElem?_cons_succ]
   rw [List.getElem?_append_left (by unfold mosts; rw [Cn]; omega)]
   exact cells36_get hl hc)
theorem AucX.place_cell {T : Nat} {F : Heap} {b : Nat} {vs vb vl vn vd : Value} {kb : Nat} {s : Sale} (h : AucX T F b vs vb vl vn vd kb s) {l c : Nat} (hl : l < 6) (hc : c < 6) : CellF F ⟨b, 0 + 44 + l * 6 + c * 1, none⟩ (.int .i64 (placeN s l c)) :=
 CellF.own h.blk (by
   have : 0 + 44 + l * 6 + c * 1 = (36 + (l * 6 + c)) + 1 + 1 + 1 + 1 + 1 + 1 + 1 + 1 := by omega
   rw [this]
   unfold aucCells
   simp only [List.getElem?_cons_succ]
   rw [List.getElem?_append_right (by unfold mosts; rw [Cn]; omega)]
   unfold mosts
   rw [Cn, Nat.add_sub_cancel_left, List.getElem?_append_left (by unfold places; rw [Cn]; omega)]
   exact cells36_get hl hc)
theorem AucX.known_cell {T : Nat} {F : Heap} {b : Nat} {vs vb vl vn vd : Value} {kb : Nat} {s : Sale} (h : AucX T F b vs vb vl vn vd kb s) : CellF F ⟨b, 0 + 80, none⟩ (.map (some kb)) :=
 CellF.own h.blk (by
   have : 0 + 80 = 72 + 1 + 1 + 1 + 1 + 1 + 1 + 1 + 1 := by omega
   rw [this]
   unfold aucCells
   simp only [List.getElem?_cons_succ]
   rw [List.getElem?_append_right (by unfold mosts; rw [Cn]; omega), List.getElem?_append_right (by unfold mosts places; rw [Cn, Cn]; omega)]
   unfold mosts places
   rw [Cn, Cn]; rfl)
/-- What is known of rings: by their members, as bits. -/
structure KnownC (P : Program) (K : Nat) (F : Heap) (es : List (Value × Value)) (s : Sale) : Prop where
 keys : ∀ p ∈ es, IsK P K p.1
 nodup : (es.map (·.1)).Nodup
 vals : ∀ (j : Nat) (set : Nat) (u : Value), es[j]? = some (.int .i64 (set : Int), u) → Sl F u 2 Res.enc (sellL s set s.lots.length)
theorem KnownC.mono {P : Program} {K : Nat} {F F' : Heap} {es : List (Value × Value)} {s : Sale} (h : KnownC P K F es s) (hF : F.le F') : KnownC P K F' es s := ⟨h.keys, h.nodup, fun j set u hj => (h.vals j set u hj).mono hF⟩
theorem KnownC.nil {P : Program} {K : Nat} {F : Heap} {s : Sale} : KnownC P K F [] s := ⟨by simp, by simp, by simp⟩
theorem KnownC.snoc {P : Program} {K : Nat} {F : Heap} {es : List (Value × Value)} {s : Sale} (h : KnownC P K F es s) {set : Nat} {v : Value} (hk : IsK P K (.int .i64 (set : Int))) (hno : ∀ p ∈ es, p.1 ≠ .int .i64 (set : Int)) (hv : Sl F v 2 Res.enc (sellL s set s.lots.length)) :
   KnownC P K F (es ++ [(.int .i64 (set : Int), v)]) s :=
 ⟨all_snoc h.keys hk, nd_snoc h.nodup hno, fun j st u hj => by
   rcases Nat.lt_trichotomy j es.length with h1 | h1 | h1
   · rw [List.getElem?_append_left h1] at hj; exact h.vals j st u hj
   · subst h1
     rw [snoc_at] at hj
     simp only [Option.some.injEq, Prod.mk.injEq, Value.int.injEq, true_and] at hj
     obtain ⟨hj, rfl⟩ := hj
     have : set = st := by omega
     subst this; exact hv
   · rw [List.getElem?_eq_none (by simp; omega)] at hj; cases hj⟩
theorem isK_int {P : Program} {T : Nat} (hu : P.underlying T = some (.int .i64)) {z : Int} (h1 : -9223372036854775808 ≤ z) (h2 : z ≤ 9223372036854775807) : IsK P T (.int .i64 z) := by
 refine ⟨.int .i64 z, ?_⟩
 unfold keyOf mapKey
 rw [hu]
 simp [wf64 h1 h2]
end Go.Proofs.Ytaikojfonleccaa
namespace Go.Proofs.Ytaikojfonleccaa
open Go.RowKit
theorem Ep : ArrT Try.prog 153 6 3 1 := arrT_of (by kernel_rfl)
theorem Eo : ArrT Try.prog 154 6 153 6 := arrT_of (by kernel_rfl)
theorem bd_116 : Body Try.prog 116 := Br (by kernel_rfl)
theorem bd_67 : Body Try.prog 67 := Br (by kernel_rfl)
theorem E4 : FieldT Try.prog 156 0 0 := Ca (by kernel_rfl)
theorem E3 : FieldT Try.prog 156 1 8 := Ca (by kernel_rfl)
theorem fd_156_2 : FieldT Try.prog 156 2 44 := Ca (by kernel_rfl)
set_option maxRecDepth 100000 in
theorem behind_ok {F : Heap} {b kb : Nat} {vs vb vl vn vd : Value} {s : Sale} (hX : AucX 156 F b vs vb vl vn vd kb s) (hv : ValidS s) {p : Int} (h0 : 0 ≤ p) (h1 : p ≤ 1000000) : Ok Try.prog 67 [.pointer (some ⟨b, 0, none⟩), .int .i64 p].toArray F fun r _ => r = .int .i64 (behindS s p) := by
 refine Ok.intro Try.func67 rfl Try.ntmps67 rfl fun w0 => ?_
 have hL1 := hX.sale.steps.plain.lt
 refine Af <| Ai fun ds => Aa rfl (Ae Ab) ?_
 refine Ah <| Ad <| Af <| Ai fun ds => Aa rfl (Ae Ab) ?_
 refine Ah <| Ad <| Af <| Af <| Ai fun ds => Aa rfl (Ag (Ap rfl <| Ak rfl)) ?_
 refine Aa rfl (Bu (Ac)) ?_
 refine Aa rfl (Aj E4 (Ac)) ?_
 refine Aa rfl (Aj D2 (Ac)) ?_
 refine Aa rfl (Aq Ev (Ac) (CellF.own hX.blk rfl).cell) ?_
 refine Aa rfl (Bf Ec (Ac) hX.sale.steps.plain) ?_
 refine Aa rfl (Ag Ab) ?_
 refine Ah <| Ad <| A4 <| B4 [5, 7, 14, 15, 16, 17, 18, 19, 20, 21, 22, 23, 24] (fun m e σ => ∃ k : Nat, m + k = s.steps.length ∧ e 14 = .int .i64 (k : Int) ∧ e 5 = .int .i64 (behindBy (s.steps.take k) p) ∧ σ = ⟨F, []⟩) (s.steps.length) ?_ ?_
 · exact ⟨0, by omega, (Ac), (Ay rfl <| Ap rfl <| Al rfl <| Ac), rfl⟩
 ·
  rintro m e _ ⟨k, hm, hs14, hs5, rfl⟩
  by_cases hlt : k < s.steps.length
  ·
   refine Af <| Ai fun ds => Aa rfl (B0 (Au rfl hs14) (Ao rfl <| Al rfl <| Ac)) ?_
   refine Ah <| Ad <| Af <| Ar (Ac) (by first | rfl | exact decide_eq_true (by omega)) ?_
   by_cases hf : s.steps[k].from_ ≤ p
   ·
    refine Ax <| Ad <| Af <| A4 <| Af <| Ai fun ds => Aa rfl (Be  Ec (Al rfl <| Ao rfl <| Ap rfl <| Ac) hX.sale.steps.plain (Al rfl <| Au rfl hs14) rfl hlt) ?_
    refine Aa rfl (Bg agg_98 (Ac) rfl rfl (hX.sale.steps.whole hlt)) ?_
    refine Bl rfl (B6 zr_98 rfl fun b2 hb2 nb2 => ?_)
    refine Ck (B8 sz_98 (Ac) (Al rfl <| Ac) (i := 0) rfl rfl rfl rfl Stp.enc_one (.here) ?_)
    refine Ah <| Ad <| Af <| Ai fun ds => Aa rfl (Aj Eb (Ac)) ?_
    refine Aa rfl (Aq Bd (Ac) (Cell.own 0 rfl rfl)) ?_
    refine Aa rfl (Ag (Ay rfl <| Ap rfl <| Ao rfl <| Ba rfl <| Al rfl <| Ak rfl)) ?_
    refine Aa rfl (q_leq (Al rfl <| Ac) (Ac)) ?_
    refine Ah <| Ad <| Ar (Ac) (decide_eq_true hf) ?_
    refine Ai fun ds => Aa rfl (Aj fd_98_1 (Ay rfl <| Ac)) ?_
    refine Aa rfl (Aq Bd (Ac) (Cell.own 0 rfl rfl)) ?_
    refine Aa rfl (Ae (Ac)) ?_
    refine Ah <| Bh <| Ad <| Ct (fun _ _ h => h.drop (.cons _ <| .refl _)) ?_
    refine Ai fun ds => Aa rfl (B3 (Ba rfl <| Ap rfl <| Al rfl <| Au rfl hs14) Ab rfl (by omega) (by omega)) ?_
    refine Aa rfl (Ag (Ac)) ?_
    refine Ah <| Ad ⟨_, m - 1, Off.eq (Ei rfl <| ou4 rfl <| Eu rfl <| Bj), by omega, ?_⟩
    exact ⟨k + 1, by omega, (Ac), by rw [behindBy_take hlt, if_pos hf]; exact (Ap rfl <| Ac), rfl⟩
   ·
    refine Ax <| Ad <| Af <| A4 <| Af <| Ai fun ds => Aa rfl (Be  Ec (Al rfl <| Ao rfl <| Ap rfl <| Ac) hX.sale.steps.plain (Al rfl <| Au rfl hs14) rfl hlt) ?_
    refine Aa rfl (Bg agg_98 (Ac) rfl rfl (hX.sale.steps.whole hlt)) ?_
    refine Bl rfl (B6 zr_98 rfl fun b3 hb3 nb3 => ?_)
    refine Ck (B8 sz_98 (Ac) (Al rfl <| Ac) (i := 0) rfl rfl rfl rfl Stp.enc_one (.here) ?_)
    refine Ah <| Ad <| Af <| Ai fun ds => Aa rfl (Aj Eb (Ac)) ?_
    refine Aa rfl (Aq Bd (Ac) (Cell.own 0 rfl rfl)) ?_
    refine Aa rfl (Ag (Ay rfl <| Ap rfl <| Ao rfl <| Ba rfl <| Al rfl <| Ak rfl)) ?_
    refine Aa rfl (q_leq (Al rfl <| Ac) (Ac)) ?_
    refine Ah <| Ad <| Am (Ac) (decide_eq_false hf) ?_
    refine Ax <| Bh <| Ad <| Ct (fun _ _ h => h.drop (.cons _ <| .refl _)) ?_
    refine Ai fun ds => Aa rfl (B3 (Ba rfl <| Au rfl hs14) Ab rfl (by omega) (by omega)) ?_
    refine Aa rfl (Ag (Ac)) ?_
    refine Ah <| Ad ⟨_, m - 1, Off.eq (Ei rfl <| Et rfl <| Bj), by omega, ?_⟩
    exact ⟨k + 1, by omega, (Ac), by rw [behindBy_take hlt, if_neg hf]; exact (Ba rfl <| Ap rfl <| Au rfl hs5), rfl⟩
  ·
   refine Af <| Ai fun ds => Aa rfl (B0 (Au rfl hs14) (Ao rfl <| Al rfl <| Ac)) ?_
   refine Ah <| Ad <| Af <| Am (Ac) (by first | rfl | exact decide_eq_false (by omega)) ?_
   have hb0 := behindBy_any hv k p (by omega)
   obtain rfl : k = s.steps.length := by omega
   refine Bx ?_
   refine Bk <| Bk <| Bn <| Ad <| Af <| Ai fun ds => Aa rfl (Ag (Al rfl <| Ao rfl <| Ba rfl <| Al rfl <| Ak rfl)) ?_
   refine Aa rfl (Ag (Ap rfl <| Au rfl hs5)) ?_
   refine Aa rfl (B3 (Al rfl <| Ac) (Ac) rfl (by omega) (by omega)) ?_
   refine Aa rfl (Ae (Ac)) ?_
   refine Ah <| Ad <| A5 <| Aw rfl (.tmp (Ac) .nil) ?_
   show _ = _
   unfold behindS; rw [List.take_of_length_le (Nat.le_refl _)]; rfl
set_option maxRecDepth 100000 in
theorem stronger_ok {F : Heap} {b kb : Nat} {vs vb vl vn vd : Value} {s : Sale} (hX : AucX 156 F b vs vb vl vn vd kb s) (_hv : ValidS s) {l c : Nat} (hl : l < 6) (hc : c < 6) {other : Int} (ho : other < 6) : Ok Try.prog 116 [.pointer (some ⟨b, 0, none⟩), .int .i64 (l : Int), .int .i64 (c : Int), .int .i64 other].toArray F fun r _ => r = .bool (strongerB s l c other) := by
 refine Ok.intro Try.func116 rfl Try.ntmps116 rfl fun w0 => ?_
 by_cases hp : placeN s l c = 0
 ·
  refine Af <| Ai fun ds => Aa rfl (Ae Ab) ?_
  refine Ah <| Ad <| Af <| Af <| Ai fun ds => Aa rfl (Ag (Al rfl <| Ak rfl)) ?_
  refine Aa rfl (Ag (Ap rfl <| Ak rfl)) ?_
  refine Aa rfl (Ag (Ap rfl <| Al rfl <| Ak rfl)) ?_
  refine Aa rfl (Bu (Ap rfl <| Ac)) ?_
  refine Aa rfl (Aj fd_156_2 (Ac)) ?_
  refine Aa rfl (Bw (k := l) Eo (Ac) (Ap rfl <| Al rfl <| Ac) rfl (by omega)) ?_
  refine Aa rfl (Bw (k := c) Ep (Ac) (Ap rfl <| Al rfl <| Ac) rfl (by omega)) ?_
  refine Aa rfl (Aq Bd (Ac) (hX.place_cell (by omega : l < 6) (by omega : c < 6)).cell) ?_
  refine Aa rfl (B9 (Ac) Ab) ?_
  refine Aa rfl (Ag (Ac)) ?_
  refine At rfl rfl (Ac) (.inl (congrArg Value.bool (decide_eq_true hp))) rfl ?_
  refine At rfl rfl (Al rfl <| Ac) (.inl (congrArg Value.bool (decide_eq_true hp))) rfl ?_
  refine Aa rfl (A6 (Ap rfl <| Ac) (decide_eq_true hp) Ab) ?_
  refine Ah <| Ad <| Ar (Ac) rfl ?_
  refine Af <| Ai fun ds => Aa rfl (Ag (Ba rfl <| Ay rfl <| Ap rfl <| Ak rfl)) ?_
  refine Aa rfl (Ag (Ba rfl <| Ay rfl <| Ap rfl <| Al rfl <| Ak rfl)) ?_
  refine Aa rfl (Ag (Bb rfl <| Ak rfl)) ?_
  refine Aa rfl (Bu (Ap rfl <| Ac)) ?_
  refine Aa rfl (Aj fd_156_2 (Ac)) ?_
  refine Aa rfl (Bw (k := l) Eo (Ac) (Ap rfl <| Al rfl <| Ac) rfl (by omega)) ?_
  refine Aa rfl (Bw (k := c) Ep (Ac) (Ap rfl <| Al rfl <| Ac) rfl (by omega)) ?_
  refine Aa rfl (Aq Bd (Ac) (hX.place_cell (by omega : l < 6) (by omega : c < 6)).cell) ?_
  refine Aa rfl (Cl (Ac) Ab) ?_
  refine Aa rfl (Ae (Ac)) ?_
  refine Ah <| Ad <| A5 <| A7 ?_
  refine Aw rfl (.tmp (Ac) .nil) ?_
  show _ = _
  unfold strongerB; rw [if_pos (.inl hp)]; rfl
 ·
  refine Af <| Ai fun ds => Aa rfl (Ae Ab) ?_
  refine Ah <| Ad <| Af <| Af <| Ai fun ds => Aa rfl (Ag (Al rfl <| Ak rfl)) ?_
  refine Aa rfl (Ag (Ap rfl <| Ak rfl)) ?_
  refine Aa rfl (Ag (Ap rfl <| Al rfl <| Ak rfl)) ?_
  refine Aa rfl (Bu (Ap rfl <| Ac)) ?_
  refine Aa rfl (Aj fd_156_2 (Ac)) ?_
  refine Aa rfl (Bw (k := l) Eo (Ac) (Ap rfl <| Al rfl <| Ac) rfl (by omega)) ?_
  refine Aa rfl (Bw (k := c) Ep (Ac) (Ap rfl <| Al rfl <| Ac) rfl (by omega)) ?_
  refine Aa rfl (Aq Bd (Ac) (hX.place_cell (by omega : l < 6) (by omega : c < 6)).cell) ?_
  refine Aa rfl (B9 (Ac) Ab) ?_
  refine Aa rfl (Ag (Ac)) ?_
  refine As rfl rfl (Ac) (decide_eq_false hp) ?_
  refine Aa rfl (Ag (Ba rfl <| Ap rfl <| Al rfl <| Ak rfl)) ?_
  refine As rfl rfl (Al rfl <| Ac) (decide_eq_false hp) ?_
  refine Aa rfl (B0 (Ac) Ab) ?_
  refine Aa rfl (A8 (Ap rfl <| Ac) (decide_eq_false hp) (Ac)) ?_
  refine Ah <| Ad ?_
  by_cases h0 : other < 0
  ·
   refine Ar (Ac) (decide_eq_true h0) ?_
   refine Af <| Ai fun ds => Aa rfl (Ag (Ba rfl <| Ay rfl <| Ap rfl <| Ak rfl)) ?_
   refine Aa rfl (Ag (Ba rfl <| Ay rfl <| Ap rfl <| Al rfl <| Ak rfl)) ?_
   refine Aa rfl (Ag (Bb rfl <| Ak rfl)) ?_
   refine Aa rfl (Bu (Ap rfl <| Ac)) ?_
   refine Aa rfl (Aj fd_156_2 (Ac)) ?_
   refine Aa rfl (Bw (k := l) Eo (Ac) (Ap rfl <| Al rfl <| Ac) rfl (by omega)) ?_
   refine Aa rfl (Bw (k := c) Ep (Ac) (Ap rfl <| Al rfl <| Ac) rfl (by omega)) ?_
   refine Aa rfl (Aq Bd (Ac) (hX.place_cell (by omega : l < 6) (by omega : c < 6)).cell) ?_
   refine Aa rfl (Cl (Ac) Ab) ?_
   refine Aa rfl (Ae (Ac)) ?_
   refine Ah <| Ad <| A5 <| A7 ?_
   refine Aw rfl (.tmp (Ac) .nil) ?_
   show _ = _
   unfold strongerB; rw [if_pos (.inr h0)]; rfl
  ·
   obtain ⟨o, rfl⟩ := Int.eq_ofNat_of_zero_le (show 0 ≤ other by omega)
   have ho6 : o < 6 := by omega
   refine Am (Ac) (decide_eq_false h0) ?_
   by_cases h1 : mostN s l o < mostN s l c
   ·
    refine Ax <| Ad <| Af <| Ch (.inl rfl) (fun _ _ h => h) (by kernel_rfl) (by kernel_rfl) fun ds => ?_
    refine A0 rfl (Ag (Ba rfl <| Ay rfl <| Ap rfl <| Ak rfl)) ?_
    refine A0 rfl (Ag (Ba rfl <| Ay rfl <| Ap rfl <| Al rfl <| Ak rfl)) ?_
    refine A0 rfl (Ag (Bb rfl <| Ak rfl)) ?_
    refine A0 rfl (Bu (Ap rfl <| Ac)) ?_
    refine A0 rfl (Aj E3 (Ac)) ?_
    refine A0 rfl (Bw (k := l) Eo (Ac) (Ap rfl <| Al rfl <| Ac) rfl (by omega)) ?_
    refine A0 rfl (Bw (k := c) Ep (Ac) (Ap rfl <| Al rfl <| Ac) rfl (by omega)) ?_
    refine A0 rfl (Aq Bd (Ac) (hX.most_cell (by omega : l < 6) (by omega : c < 6)).cell) ?_
    refine A0 rfl (Ag (Bb rfl <| Ay rfl <| Ap rfl <| Ak rfl)) ?_
    refine A0 rfl (Ag (Bb rfl <| Ay rfl <| Ap rfl <| Al rfl <| Ak rfl)) ?_
    refine A0 rfl (Ag (Bb rfl <| Ba rfl <| Ak rfl)) ?_
    refine A0 rfl (Bu (Ap rfl <| Ac)) ?_
    refine A0 rfl (Aj E3 (Ac)) ?_
    refine A0 rfl (Bw (k := l) Eo (Ac) (Ap rfl <| Al rfl <| Ac) rfl (by omega)) ?_
    refine A0 rfl (Bw (k := o) Ep (Ac) (Ap rfl <| Al rfl <| Ac) rfl (by omega)) ?_
    refine A0 rfl (Aq Bd (Ac) (hX.most_cell (by omega : l < 6) (by omega : o < 6)).cell) ?_
    refine A0 rfl (Ae (Ba rfl <| Ac)) ?_
    refine A0 rfl (Ae (Al rfl <| Ac)) ?_
    refine Cj ?_
    refine Ad <| Af <| Ch (.inl rfl) (fun _ _ h => h) (by kernel_rfl) (by kernel_rfl) fun ds => ?_
    refine A0 rfl (Ag (Al rfl <| Ac)) ?_
    refine A0 rfl (Ag (Al rfl <| Ac)) ?_
    refine A0 rfl (Cl (Al rfl <| Ac) (Ac)) ?_
    refine A0 rfl (Ag (Ac)) ?_
    refine A2 rfl rfl (Ac) (.inl (congrArg Value.bool (decide_eq_true h1))) rfl ?_
    refine A2 rfl rfl (Al rfl <| Ac) (.inl (congrArg Value.bool (decide_eq_true h1))) rfl ?_
    refine A2 rfl rfl (Ap rfl <| Ac) (.inl (congrArg Value.bool (decide_eq_true h1))) rfl ?_
    refine A2 rfl rfl (Ap rfl <| Al rfl <| Ac) (.inl (congrArg Value.bool (decide_eq_true h1))) rfl ?_
    refine A2 rfl rfl (Ac) (.inr rfl) rfl ?_
    refine A2 rfl rfl (Al rfl <| Ac) (.inr rfl) rfl ?_
    refine A2 rfl rfl (Ap rfl <| Ac) (.inr rfl) rfl ?_
    refine A2 rfl rfl (Ap rfl <| Al rfl <| Ac) (.inr rfl) rfl ?_
    refine A2 rfl rfl (Ay rfl <| Ac) (.inr rfl) rfl ?_
    refine A2 rfl rfl (Ay rfl <| Al rfl <| Ac) (.inr rfl) rfl ?_
    refine A2 rfl rfl (Ay rfl <| Ap rfl <| Ac) (.inr rfl) rfl ?_
    refine A2 rfl rfl (Ay rfl <| Ap rfl <| Al rfl <| Ac) (.inr rfl) rfl ?_
    refine A2 rfl rfl (Ba rfl <| Ac) (.inr rfl) rfl ?_
    refine A2 rfl rfl (Ba rfl <| Al rfl <| Ac) (.inr rfl) rfl ?_
    refine A2 rfl rfl (Ba rfl <| Ap rfl <| Ac) (.inr rfl) rfl ?_
    refine A2 rfl rfl (Ba rfl <| Ap rfl <| Al rfl <| Ac) (.inr rfl) rfl ?_
    refine A2 rfl rfl (Ba rfl <| Ay rfl <| Ac) (.inr rfl) rfl ?_
    refine A2 rfl rfl (Ba rfl <| Ay rfl <| Al rfl <| Ac) (.inr rfl) rfl ?_
    refine A2 rfl rfl (Ba rfl <| Ay rfl <| Ap rfl <| Ac) (.inr rfl) rfl ?_
    refine A2 rfl rfl (Ba rfl <| Ay rfl <| Ap rfl <| Al rfl <| Ac) (.inr rfl) rfl ?_
    refine A2 rfl rfl (Bb rfl <| Ac) (.inr rfl) rfl ?_
    refine A2 rfl rfl (Bb rfl <| Ay rfl <| Al rfl <| Ac) (.inl (congrArg Value.bool (decide_eq_true h1))) rfl ?_
    refine A0 rfl (A6 (Bb rfl <| Ay rfl <| Ap rfl <| Ac) (decide_eq_true h1) Ab) ?_
    refine A0 rfl (Ae (Ac)) ?_
    refine Cj ?_
    refine Ad <| A5 <| Aw rfl (.tmp (Ac) .nil) ?_
    show _ = _
    unfold strongerB; rw [if_neg (by omega)]; simp [outOf, h1]
   ·
    refine Ax <| Ad <| Af <| Ch (.inl rfl) (fun _ _ h => h) (by kernel_rfl) (by kernel_rfl) fun ds => ?_
    refine A0 rfl (Ag (Ba rfl <| Ay rfl <| Ap rfl <| Ak rfl)) ?_
    refine A0 rfl (Ag (Ba rfl <| Ay rfl <| Ap rfl <| Al rfl <| Ak rfl)) ?_
    refine A0 rfl (Ag (Bb rfl <| Ak rfl)) ?_
    refine A0 rfl (Bu (Ap rfl <| Ac)) ?_
    refine A0 rfl (Aj E3 (Ac)) ?_
    refine A0 rfl (Bw (k := l) Eo (Ac) (Ap rfl <| Al rfl <| Ac) rfl (by omega)) ?_
    refine A0 rfl (Bw (k := c) Ep (Ac) (Ap rfl <| Al rfl <| Ac) rfl (by omega)) ?_
    refine A0 rfl (Aq Bd (Ac) (hX.most_cell (by omega : l < 6) (by omega : c < 6)).cell) ?_
    refine A0 rfl (Ag (Bb rfl <| Ay rfl <| Ap rfl <| Ak rfl)) ?_
    refine A0 rfl (Ag (Bb rfl <| Ay rfl <| Ap rfl <| Al rfl <| Ak rfl)) ?_
    refine A0 rfl (Ag (Bb rfl <| Ba rfl <| Ak rfl)) ?_
    refine A0 rfl (Bu (Ap rfl <| Ac)) ?_
    refine A0 rfl (Aj E3 (Ac)) ?_
    refine A0 rfl (Bw (k := l) Eo (Ac) (Ap rfl <| Al rfl <| Ac) rfl (by omega)) ?_
    refine A0 rfl (Bw (k := o) Ep (Ac) (Ap rfl <| Al rfl <| Ac) rfl (by omega)) ?_
    refine A0 rfl (Aq Bd (Ac) (hX.most_cell (by omega : l < 6) (by omega : o < 6)).cell) ?_
    refine A0 rfl (Ae (Ba rfl <| Ac)) ?_
    refine A0 rfl (Ae (Al rfl <| Ac)) ?_
    refine Cj ?_
    refine Ad <| Af <| Ch (.inl rfl) (fun _ _ h => h) (by kernel_rfl) (by kernel_rfl) fun ds => ?_
    refine A0 rfl (Ag (Al rfl <| Ac)) ?_
    refine A0 rfl (Ag (Al rfl <| Ac)) ?_
    refine A0 rfl (Cl (Al rfl <| Ac) (Ac)) ?_
    refine A0 rfl (Ag (Ac)) ?_
    refine A3 rfl rfl (Ac) (decide_eq_false h1) ?_
    refine A0 rfl (Ag (Ay rfl <| Al rfl <| Ac)) ?_
    refine A3 rfl rfl (Al rfl <| Ac) (decide_eq_false h1) ?_
    refine A0 rfl (Ag (Ay rfl <| Al rfl <| Ac)) ?_
    refine A3 rfl rfl (Ap rfl <| Ac) (decide_eq_false h1) ?_
    refine A0 rfl (B9 (Al rfl <| Ac) (Ac)) ?_
    refine A3 rfl rfl (Ap rfl <| Al rfl <| Ac) (decide_eq_false h1) ?_
    refine A0 rfl (Ag (Ac)) ?_
    by_cases h2 : mostN s l c = mostN s l o
    ·
     refine A3 rfl rfl (Ac) (decide_eq_true h2) ?_
     refine A0 rfl (Ag (Bt rfl <| Ba rfl <| Ak rfl)) ?_
     refine A3 rfl rfl (Al rfl <| Ac) (decide_eq_true h2) ?_
     refine A0 rfl (Ag (Bt rfl <| Ba rfl <| Al rfl <| Ak rfl)) ?_
     refine A3 rfl rfl (Ap rfl <| Ac) (decide_eq_true h2) ?_
     refine A0 rfl (Ag (Bt rfl <| Ba rfl <| Ap rfl <| Ak rfl)) ?_
     refine A3 rfl rfl (Ap rfl <| Al rfl <| Ac) (decide_eq_true h2) ?_
     refine A0 rfl (Bu (Ap rfl <| Ac)) ?_
     refine A3 rfl rfl (Ay rfl <| Ac) (decide_eq_true h2) ?_
     refine A0 rfl (Aj fd_156_2 (Ac)) ?_
     refine A3 rfl rfl (Ay rfl <| Al rfl <| Ac) (decide_eq_true h2) ?_
     refine A0 rfl (Bw (k := l) Eo (Ac) (Ap rfl <| Al rfl <| Ac) rfl (by omega)) ?_
     refine A3 rfl rfl (Ay rfl <| Ap rfl <| Ac) (decide_eq_true h2) ?_
     refine A0 rfl (Bw (k := c) Ep (Ac) (Ap rfl <| Al rfl <| Ac) rfl (by omega)) ?_
     refine A3 rfl rfl (Ay rfl <| Ap rfl <| Al rfl <| Ac) (decide_eq_true h2) ?_
     refine A0 rfl (Aq Bd (Ac) (hX.place_cell (by omega : l < 6) (by omega : c < 6)).cell) ?_
     refine A3 rfl rfl (Ba rfl <| Ac) (decide_eq_true h2) ?_
     refine A0 rfl (Ag (Bt rfl <| Bb rfl <| Ak rfl)) ?_
     refine A3 rfl rfl (Ba rfl <| Al rfl <| Ac) (decide_eq_true h2) ?_
     refine A0 rfl (Ag (Bt rfl <| Bb rfl <| Al rfl <| Ak rfl)) ?_
     refine A3 rfl rfl (Ba rfl <| Ap rfl <| Ac) (decide_eq_true h2) ?_
     refine A0 rfl (Ag (Bt rfl <| Bb rfl <| Ap rfl <| Ak rfl)) ?_
     refine A3 rfl rfl (Ba rfl <| Ap rfl <| Al rfl <| Ac) (decide_eq_true h2) ?_
     refine A0 rfl (Bu (Ap rfl <| Ac)) ?_
     refine A3 rfl rfl (Ba rfl <| Ay rfl <| Ac) (decide_eq_true h2) ?_
     refine A0 rfl (Aj fd_156_2 (Ac)) ?_
     refine A3 rfl rfl (Ba rfl <| Ay rfl <| Al rfl <| Ac) (decide_eq_true h2) ?_
     refine A0 rfl (Bw (k := l) Eo (Ac) (Ap rfl <| Al rfl <| Ac) rfl (by omega)) ?_
     refine A3 rfl rfl (Ba rfl <| Ay rfl <| Ap rfl <| Ac) (decide_eq_true h2) ?_
     refine A0 rfl (Bw (k := o) Ep (Ac) (Ap rfl <| Al rfl <| Ac) rfl (by omega)) ?_
     refine A3 rfl rfl (Ba rfl <| Ay rfl <| Ap rfl <| Al rfl <| Ac) (decide_eq_true h2) ?_
     refine A0 rfl (Aq Bd (Ac) (hX.place_cell (by omega : l < 6) (by omega : o < 6)).cell) ?_
     refine A3 rfl rfl (Bb rfl <| Ac) (decide_eq_true h2) ?_
     refine A0 rfl (B0 (Ba rfl <| Ac) (Ac)) ?_
     refine A3 rfl rfl (Bb rfl <| Ay rfl <| Al rfl <| Ac) (decide_eq_false h1) ?_
     refine A0 rfl (A6 (Bb rfl <| Al rfl <| Ac) (decide_eq_true h2) (Ac)) ?_
     refine A0 rfl (A8 (Bb rfl <| Ay rfl <| Ap rfl <| Ac) (decide_eq_false h1) (Ac)) ?_
     refine A0 rfl (Ae (Ac)) ?_
     refine Cj ?_
     refine Ad <| A5 <| Aw rfl (.tmp (Ac) .nil) ?_
     show _ = _
     unfold strongerB; rw [if_neg (by omega)]; simp [outOf, h2]
    ·
     refine A2 rfl rfl (Ac) (.inl (congrArg Value.bool (decide_eq_false h2))) rfl ?_
     refine A2 rfl rfl (Al rfl <| Ac) (.inl (congrArg Value.bool (decide_eq_false h2))) rfl ?_
     refine A2 rfl rfl (Ap rfl <| Ac) (.inl (congrArg Value.bool (decide_eq_false h2))) rfl ?_
     refine A2 rfl rfl (Ap rfl <| Al rfl <| Ac) (.inl (congrArg Value.bool (decide_eq_false h2))) rfl ?_
     refine A2 rfl rfl (Ay rfl <| Ac) (.inl (congrArg Value.bool (decide_eq_false h2))) rfl ?_
     refine A2 rfl rfl (Ay rfl <| Al rfl <| Ac) (.inl (congrArg Value.bool (decide_eq_false h2))) rfl ?_
     refine A2 rfl rfl (Ay rfl <| Ap rfl <| Ac) (.inl (congrArg Value.bool (decide_eq_false h2))) rfl ?_
     refine A2 rfl rfl (Ay rfl <| Ap rfl <| Al rfl <| Ac) (.inl (congrArg Value.bool (decide_eq_false h2))) rfl ?_
     refine A2 rfl rfl (Ba rfl <| Ac) (.inl (congrArg Value.bool (decide_eq_false h2))) rfl ?_
     refine A2 rfl rfl (Ba rfl <| Al rfl <| Ac) (.inl (congrArg Value.bool (decide_eq_false h2))) rfl ?_
     refine A2 rfl rfl (Ba rfl <| Ap rfl <| Ac) (.inl (congrArg Value.bool (decide_eq_false h2))) rfl ?_
     refine A2 rfl rfl (Ba rfl <| Ap rfl <| Al rfl <| Ac) (.inl (congrArg Value.bool (decide_eq_false h2))) rfl ?_
     refine A2 rfl rfl (Ba rfl <| Ay rfl <| Ac) (.inl (congrArg Value.bool (decide_eq_false h2))) rfl ?_
     refine A2 rfl rfl (Ba rfl <| Ay rfl <| Al rfl <| Ac) (.inl (congrArg Value.bool (decide_eq_false h2))) rfl ?_
     refine A2 rfl rfl (Ba rfl <| Ay rfl <| Ap rfl <| Ac) (.inl (congrArg Value.bool (decide_eq_false h2))) rfl ?_
     refine A2 rfl rfl (Ba rfl <| Ay rfl <| Ap rfl <| Al rfl <| Ac) (.inl (congrArg Value.bool (decide_eq_false h2))) rfl ?_
     refine A2 rfl rfl (Bb rfl <| Ac) (.inl (congrArg Value.bool (decide_eq_false h2))) rfl ?_
     refine A3 rfl rfl (Bb rfl <| Ay rfl <| Al rfl <| Ac) (decide_eq_false h1) ?_
     refine A0 rfl (A8 (Bb rfl <| Al rfl <| Ac) (decide_eq_false h2) Ab) ?_
     refine A0 rfl (A8 (Bb rfl <| Ay rfl <| Ap rfl <| Ac) (decide_eq_false h1) (Ac)) ?_
     refine A0 rfl (Ae (Ac)) ?_
     refine Cj ?_
     refine Ad <| A5 <| Aw rfl (.tmp (Ac) .nil) ?_
     show _ = _
     unfold strongerB; rw [if_neg (by omega)]; simp [outOf, h1, h2]
theorem strongTo_lt {s : Sale} {l : Nat} {mem : Nat → Bool} (k : Nat) : -1 ≤ strongTo s l mem k ∧ strongTo s l mem k < k ∨ k = 0 ∧ strongTo s l mem k = -1 := by
 rcases strong_spec (s := s) (l := l) (mem := mem) k with ⟨h, -⟩ | ⟨b, h1, -, h, -⟩ <;> omega
set_option maxRecDepth 100000 in
theorem strongest_set {F : Heap} {b kb : Nat} {vs vb vl vn vd : Value} {s : Sale} (hX : AucX 156 F b vs vb vl vn vd kb s) (hv : ValidS s) {l : Nat} (hl : l < 6) {set : Nat} (hset : set < 64) : Ok Try.prog 100 [.pointer (some ⟨b, 0, none⟩), .int .i64 (l : Int), .int .i64 (set : Int)].toArray F fun r _ => r = .int .i64 (strongP s l set.testBit) := by
 refine Ok.intro Try.func100 rfl Try.ntmps100 rfl fun w0 => ?_
 have hL1 := hX.sale.bidders.plain.lt
 have hnb := hv.nb
 refine Af <| Ai fun ds => Aa rfl (Ae Ab) ?_
 refine Ah <| Ad <| Af <| Ai fun ds => Aa rfl (Ae Ab) ?_
 refine Ah <| Ad <| Af <| Af <| Ai fun ds => Aa rfl (Ag (Ap rfl <| Ak rfl)) ?_
 refine Aa rfl (Bu (Ac)) ?_
 refine Aa rfl (Aj E4 (Ac)) ?_
 refine Aa rfl (Aj C7 (Ac)) ?_
 refine Aa rfl (Aq Cx (Ac) (CellF.own hX.blk rfl).cell) ?_
 refine Aa rfl (Bf Cr (Ac) hX.sale.bidders.plain) ?_
 refine Aa rfl (Ag Ab) ?_
 refine Ah <| Ad <| A4 <| B4 [7, 8, 15, 16, 17, 18, 19, 20, 21, 22, 23, 24, 25, 26, 27, 28, 29, 30, 31] (fun m e σ => ∃ k : Nat, m + k = s.bidders.length ∧ e 15 = .int .i64 (k : Int) ∧ e 7 = .int .i64 (strongTo s l set.testBit k) ∧ σ = ⟨F, []⟩) (s.bidders.length) ?_ ?_
 · exact ⟨0, by omega, (Ac), (Ay rfl <| Ap rfl <| Al rfl <| Ac), rfl⟩
 ·
  rintro m e _ ⟨k, hm9, hs15, hs7, rfl⟩; have hst := strongTo_lt (s := s) (l := l) (mem := set.testBit) k
  by_cases hlt : k < s.bidders.length
  ·
   have hk6 : k < 6 := by omega
   refine Af <| Ai fun ds => Aa rfl (B0 (Au rfl hs15) (Ao rfl <| Al rfl <| Ac)) ?_
   refine Ah <| Ad <| Af <| Ar (Ac) (by first | rfl | exact decide_eq_true (by omega)) ?_
   by_cases hm : set.testBit k = true
   ·
    refine Ax <| Ad <| Af <| A4 <| Af <| Ai fun ds => Aa rfl (Ag (Al rfl <| Au rfl hs15)) ?_
    refine Aa rfl (Ae (Ac)) ?_
    refine Ah <| Ad <| Af <| Ai fun ds => Aa rfl (Ag (Ap rfl <| Al rfl <| Ao rfl <| Ba rfl <| Al rfl <| Ak rfl)) ?_
    refine Aa rfl (Ag (Al rfl <| Ac)) ?_
    refine Aa rfl (q_shr (Al rfl <| Ac) (Ac) rfl (by show k < 64; omega) shr_nat) ?_
    refine Aa rfl (q_and (Ac) Ab (m := set / 2 ^ k) (k := 1) rfl rfl (by have := Nat.div_le_self set (2 ^ k); omega) (by omega) rfl) ?_
    refine Aa rfl (B9 (Ac) Ab) ?_
    refine Aa rfl (Ag (Ac)) ?_
    refine As rfl rfl (Ac) (by rw [Dw]; exact hm) ?_
    refine Aa rfl (Ag (Ba rfl <| Al rfl <| Ao rfl <| Ba rfl <| Al rfl <| Ak rfl)) ?_
    refine As rfl rfl (Al rfl <| Ac) (by rw [Dw]; exact hm) ?_
    refine Aa rfl (Ag (Ba rfl <| Ap rfl <| Ao rfl <| Ba rfl <| Al rfl <| Ak rfl)) ?_
    refine As rfl rfl (Ap rfl <| Ac) (by rw [Dw]; exact hm) ?_
    refine Aa rfl (Ag (Ba rfl <| Ac)) ?_
    refine As rfl rfl (Ap rfl <| Al rfl <| Ac) (by rw [Dw]; exact hm) ?_
    refine Aa rfl (Ag (Ba rfl <| Ay rfl <| Au rfl hs7)) ?_
    refine As rfl rfl (Ay rfl <| Ac) (by rw [Dw]; exact hm) ?_
    refine Bv rfl (A9 bd_116 Az (.cons (Ap rfl <| Al rfl <| Ac) (.cons (Ap rfl <| Ac) (.cons (Al rfl <| Ac) (.cons (Ac) .nil)))) (stronger_ok hX hv hl hk6 (by omega)) (fun _ _ h => h)) ?_
    refine Aa rfl (A6 (Ay rfl <| Al rfl <| Ac) (by rw [Dw]; exact hm) (Ac)) ?_
    refine Ah <| Ad ?_
    by_cases hs : strongerB s l k (strongTo s l set.testBit k) = true
    ·
     refine Ar (Ac) hs ?_
     refine Ai fun ds => Aa rfl (Ag (Ba rfl <| Ay rfl <| Ac)) ?_
     refine Aa rfl (Ae (Ac)) ?_
     refine Ah <| Bh <| Ad <| Ai fun ds => Aa rfl (B3 (Bb rfl <| Al rfl <| Au rfl hs15) Ab rfl (by omega) (by omega)) ?_
     refine Aa rfl (Ag (Ac)) ?_
     refine Ah <| Ad ⟨_, m - 1, Off.eq (C5 rfl <| Et rfl <| Eu rfl <| Bj), by omega, ?_⟩
     exact ⟨k + 1, by omega, (Ac), by rw [D4, show strongStep s l set.testBit _ k = k from if_pos ⟨hm, hs⟩]; exact (Ap rfl <| Ac), rfl⟩
    ·
     replace hs : strongerB s l k (strongTo s l set.testBit k) = false := by simpa using hs
     refine Am (Ac) hs ?_
     refine Ax <| Bh <| Ad <| Ai fun ds => Aa rfl (B3 (Ba rfl <| Ay rfl <| Ap rfl <| Al rfl <| Au rfl hs15) Ab rfl (by omega) (by omega)) ?_
     refine Aa rfl (Ag (Ac)) ?_
     refine Ah <| Ad ⟨_, m - 1, Off.eq (C5 rfl <| Eu rfl <| Bj), by omega, ?_⟩
     exact ⟨k + 1, by omega, (Ac), by rw [D4, show strongStep s l set.testBit _ k = _ from if_neg fun h => by rw [hs] at h; exact absurd h.2 (by decide)]; exact (Bb rfl <| Al rfl <| Au rfl hs7), rfl⟩
   ·
    refine Ax <| Ad <| Af <| A4 <| Af <| Ai fun ds => Aa rfl (Ag (Al rfl <| Au rfl hs15)) ?_
    refine Aa rfl (Ae (Ac)) ?_
    refine Ah <| Ad <| Af <| Ai fun ds => Aa rfl (Ag (Ap rfl <| Al rfl <| Ao rfl <| Ba rfl <| Al rfl <| Ak rfl)) ?_
    refine Aa rfl (Ag (Al rfl <| Ac)) ?_
    refine Aa rfl (q_shr (Al rfl <| Ac) (Ac) rfl (by show k < 64; omega) shr_nat) ?_
    refine Aa rfl (q_and (Ac) Ab (m := set / 2 ^ k) (k := 1) rfl rfl (by have := Nat.div_le_self set (2 ^ k); omega) (by omega) rfl) ?_
    refine Aa rfl (B9 (Ac) Ab) ?_
    refine Aa rfl (Ag (Ac)) ?_
    refine At rfl rfl (Ac) (.inl (congrArg Value.bool (by rw [Dw]; simpa using hm))) rfl ?_
    refine At rfl rfl (Al rfl <| Ac) (.inl (congrArg Value.bool (by rw [Dw]; simpa using hm))) rfl ?_
    refine At rfl rfl (Ap rfl <| Ac) (.inl (congrArg Value.bool (by rw [Dw]; simpa using hm))) rfl ?_
    refine At rfl rfl (Ap rfl <| Al rfl <| Ac) (.inl (congrArg Value.bool (by rw [Dw]; simpa using hm))) rfl ?_
    refine At rfl rfl (Ay rfl <| Ac) (.inl (congrArg Value.bool (by rw [Dw]; simpa using hm))) rfl ?_
    refine Aa rfl (A8 (Ay rfl <| Al rfl <| Ac) (by rw [Dw]; simpa using hm) Ab) ?_
    refine Ah <| Ad <| Am (Ac) rfl ?_
    refine Ax <| Bh <| Ad <| Ai fun ds => Aa rfl (B3 (Ba rfl <| Ay rfl <| Ap rfl <| Al rfl <| Au rfl hs15) Ab rfl (by omega) (by omega)) ?_
    refine Aa rfl (Ag (Ac)) ?_
    refine Ah <| Ad ⟨_, m - 1, Off.eq (C5 rfl <| Eu rfl <| Bj), by omega, ?_⟩
    exact ⟨k + 1, by omega, (Ac), by rw [D4, show strongStep s l set.testBit _ k = _ from if_neg fun h => hm h.1]; exact (Bb rfl <| Al rfl <| Au rfl hs7), rfl⟩
  ·
   refine Af <| Ai fun ds => Aa rfl (B0 (Au rfl hs15) (Ao rfl <| Al rfl <| Ac)) ?_
   refine Ah <| Ad <| Af <| Am (Ac) (by first | rfl | exact decide_eq_false (by omega)) ?_
   obtain rfl : k = s.bidders.length := by omega
   refine Bx ?_
   refine Bk <| Bk <| Bn <| Ad <| Af <| Ai fun ds => Aa rfl (Ag (Al rfl <| Au rfl hs7)) ?_
   refine Aa rfl (Ae (Ac)) ?_
   refine Ah <| Ad <| A5 <| Aw rfl (.tmp (Ac) .nil) ?_
   rfl
set_option maxRecDepth 100000 in
theorem strongest_all {F : Heap} {b kb : Nat} {vs vb vl vn vd : Value} {s : Sale} (hX : AucX 156 F b vs vb vl vn vd kb s) (hv : ValidS s) {l : Nat} (hl : l < 6)  : Ok Try.prog 100 [.pointer (some ⟨b, 0, none⟩), .int .i64 (l : Int), .int .i64 (-1)].toArray F fun r _ => r = .int .i64 (strongP s l (fun _ => true)) := by
 refine Ok.intro Try.func100 rfl Try.ntmps100 rfl fun w0 => ?_
 have hL1 := hX.sale.bidders.plain.lt
 have hnb := hv.nb
 refine Af <| Ai fun ds => Aa rfl (Ae Ab) ?_
 refine Ah <| Ad <| Af <| Ai fun ds => Aa rfl (Ae Ab) ?_
 refine Ah <| Ad <| Af <| Af <| Ai fun ds => Aa rfl (Ag (Ap rfl <| Ak rfl)) ?_
 refine Aa rfl (Bu (Ac)) ?_
 refine Aa rfl (Aj E4 (Ac)) ?_
 refine Aa rfl (Aj C7 (Ac)) ?_
 refine Aa rfl (Aq Cx (Ac) (CellF.own hX.blk rfl).cell) ?_
 refine Aa rfl (Bf Cr (Ac) hX.sale.bidders.plain) ?_
 refine Aa rfl (Ag Ab) ?_
 refine Ah <| Ad <| A4 <| B4 [7, 8, 15, 16, 17, 18, 19, 20, 21, 22, 23, 24, 25, 26, 27, 28, 29, 30, 31] (fun m e σ => ∃ k : Nat, m + k = s.bidders.length ∧ e 15 = .int .i64 (k : Int) ∧ e 7 = .int .i64 (strongTo s l (fun _ => true) k) ∧ σ = ⟨F, []⟩) (s.bidders.length) ?_ ?_
 · exact ⟨0, by omega, (Ac), (Ay rfl <| Ap rfl <| Al rfl <| Ac), rfl⟩
 ·
  rintro m e _ ⟨k, hm9, hs15, hs7, rfl⟩; have hst := strongTo_lt (s := s) (l := l) (mem := (fun _ => true)) k
  by_cases hlt : k < s.bidders.length
  ·
   have hk6 : k < 6 := by omega
   refine Af <| Ai fun ds => Aa rfl (B0 (Au rfl hs15) (Ao rfl <| Al rfl <| Ac)) ?_
   refine Ah <| Ad <| Af <| Ar (Ac) (by first | rfl | exact decide_eq_true (by omega)) ?_
   refine Ax <| Ad <| Af <| A4 <| Af <| Ai fun ds => Aa rfl (Ag (Al rfl <| Au rfl hs15)) ?_
   refine Aa rfl (Ae (Ac)) ?_
   refine Ah <| Ad <| Af <| Ai fun ds => Aa rfl (Ag (Ap rfl <| Al rfl <| Ao rfl <| Ba rfl <| Al rfl <| Ak rfl)) ?_
   refine Aa rfl (Ag (Al rfl <| Ac)) ?_
   refine Aa rfl (q_shr (Al rfl <| Ac) (Ac) rfl (by show k < 64; omega) neg_shr) ?_
   refine Aa rfl (q_andm1 (Ac) Ab) ?_
   refine Aa rfl (B9 (Ac) Ab) ?_
   refine Aa rfl (Ag (Ac)) ?_
   refine As rfl rfl (Ac) (by rfl) ?_
   refine Aa rfl (Ag (Ba rfl <| Al rfl <| Ao rfl <| Ba rfl <| Al rfl <| Ak rfl)) ?_
   refine As rfl rfl (Al rfl <| Ac) (by rfl) ?_
   refine Aa rfl (Ag (Ba rfl <| Ap rfl <| Ao rfl <| Ba rfl <| Al rfl <| Ak rfl)) ?_
   refine As rfl rfl (Ap rfl <| Ac) (by rfl) ?_
   refine Aa rfl (Ag (Ba rfl <| Ac)) ?_
   refine As rfl rfl (Ap rfl <| Al rfl <| Ac) (by rfl) ?_
   refine Aa rfl (Ag (Ba rfl <| Ay rfl <| Au rfl hs7)) ?_
   refine As rfl rfl (Ay rfl <| Ac) (by rfl) ?_
   refine Bv rfl (A9 bd_116 Az (.cons (Ap rfl <| Al rfl <| Ac) (.cons (Ap rfl <| Ac) (.cons (Al rfl <| Ac) (.cons (Ac) .nil)))) (stronger_ok hX hv hl hk6 (by omega)) (fun _ _ h => h)) ?_
   refine Aa rfl (A6 (Ay rfl <| Al rfl <| Ac) (by rfl) (Ac)) ?_
   refine Ah <| Ad ?_
   by_cases hs : strongerB s l k (strongTo s l (fun _ => true) k) = true
   ·
    refine Ar (Ac) hs ?_
    refine Ai fun ds => Aa rfl (Ag (Ba rfl <| Ay rfl <| Ac)) ?_
    refine Aa rfl (Ae (Ac)) ?_
    refine Ah <| Bh <| Ad <| Ai fun ds => Aa rfl (B3 (Bb rfl <| Al rfl <| Au rfl hs15) Ab rfl (by omega) (by omega)) ?_
    refine Aa rfl (Ag (Ac)) ?_
    refine Ah <| Ad ⟨_, m - 1, Off.eq (C5 rfl <| Et rfl <| Eu rfl <| Bj), by omega, ?_⟩
    exact ⟨k + 1, by omega, (Ac), by rw [D4, show strongStep s l (fun _ => true) _ k = k from if_pos ⟨rfl, hs⟩]; exact (Ap rfl <| Ac), rfl⟩
   ·
    replace hs : strongerB s l k (strongTo s l (fun _ => true) k) = false := by simpa using hs
    refine Am (Ac) hs ?_
    refine Ax <| Bh <| Ad <| Ai fun ds => Aa rfl (B3 (Ba rfl <| Ay rfl <| Ap rfl <| Al rfl <| Au rfl hs15) Ab rfl (by omega) (by omega)) ?_
    refine Aa rfl (Ag (Ac)) ?_
    refine Ah <| Ad ⟨_, m - 1, Off.eq (C5 rfl <| Eu rfl <| Bj), by omega, ?_⟩
    exact ⟨k + 1, by omega, (Ac), by rw [D4, show strongStep s l (fun _ => true) _ k = _ from if_neg fun h => by rw [hs] at h; exact absurd h.2 (by decide)]; exact (Bb rfl <| Al rfl <| Au rfl hs7), rfl⟩
  ·
   refine Af <| Ai fun ds => Aa rfl (B0 (Au rfl hs15) (Ao rfl <| Al rfl <| Ac)) ?_
   refine Ah <| Ad <| Af <| Am (Ac) (by first | rfl | exact decide_eq_false (by omega)) ?_
   obtain rfl : k = s.bidders.length := by omega
   refine Bx ?_
   refine Bk <| Bk <| Bn <| Ad <| Af <| Ai fun ds => Aa rfl (Ag (Al rfl <| Au rfl hs7)) ?_
   refine Aa rfl (Ae (Ac)) ?_
   refine Ah <| Ad <| A5 <| Aw rfl (.tmp (Ac) .nil) ?_
   rfl
theorem step_from {s : Sale} (hv : ValidS s) {k : Nat} (h : k < s.steps.length) : 0 ≤ s.steps[k].from_ ∧ s.steps[k].from_ ≤ 100000 := by
 rw [stp_at h]
 refine ⟨from_nonneg hv h, ?_⟩
 rcases Nat.eq_zero_or_pos k with rfl | h0
 · have := hv.st0; omega
 · exact (hv.st k h0 h).2
set_option maxRecDepth 100000 in
theorem price_ok {F : Heap} {b kb : Nat} {vs vb vl vn vd : Value} {s : Sale} (hX : AucX 156 F b vs vb vl vn vd kb s) (hv : ValidS s) {p0 others most : Int} (h0 : 0 ≤ p0) (hp0 : p0 ≤ 100000) (ho : 0 ≤ others) (ho2 : others ≤ 100000) (hm0 : 0 ≤ most) (hm2 : most ≤ 100000) : Ok Try.prog 101 [.pointer (some ⟨b, 0, none⟩), .int .i64 p0, .int .i64 others, .int .i64 most].toArray F fun r _ => r = .int .i64 (climbS s p0 others most) := by
 refine Ok.intro Try.func101 rfl Try.ntmps101 rfl fun w0 => ?_
 have hL1 := hX.sale.steps.plain.lt
 refine Af <| Ai fun ds => Aa rfl (Ae Ab) ?_
 refine Ah <| Ad <| WC_scope ?_
 refine Af <| WC_label ?_
 refine Ad <| Af <| A4 <| B4 [1, 9, 10, 11, 13, 14, 15, 16, 17, 18, 19, 20, 21, 22, 23, 24, 25, 26, 27, 28, 29, 30, 31, 32, 33, 34, 35, 36, 37, 38, 39, 40, 41, 42, 43, 44, 45, 46, 47, 48, 49, 50, 51, 52, 53, 54, 55, 56, 57, 58, 59, 60, 61, 62, 63, 64, 65] (fun m e σ => ∃ p : Int, (others + 1 - p).toNat ≤ m ∧ 0 ≤ p ∧ e 1 = .int .i64 p ∧ climbS s p others most = climbS s p0 others most ∧ p ≤ 200000 ∧ σ = ⟨F, []⟩) ((others + 1 - p0).toNat) ?_ ?_
 · exact ⟨p0, Nat.le_refl _, h0, (Al rfl <| Ak rfl), rfl, by omega, rfl⟩
 ·
  rintro m e _ ⟨p, hm, hp, hs1, hcl, hp2, rfl⟩
  by_cases h1 : p ≤ others
  ·
   refine Af <| Af <| Ai fun ds => Aa rfl (Ag (Au rfl hs1)) ?_
   refine Aa rfl (Ag (Al rfl <| Ao rfl <| Al rfl <| Ak rfl)) ?_
   refine Aa rfl (q_leq (Al rfl <| Ac) (Ac)) ?_
   refine Ah <| Ad <| Ar (Ac) (by first | rfl | exact decide_eq_true (by omega)) ?_
   by_cases h2 : behindS s p ≤ most
   ·
    refine Ax <| Ad <| A4 <| Af <| Ai fun ds => Aa rfl (Ag (Ap rfl <| Al rfl <| Ao rfl <| Al rfl <| Ak rfl)) ?_
    refine Aa rfl (Ag (Ay rfl <| Au rfl hs1)) ?_
    refine Bv rfl (A9 bd_67 Az (.cons (Al rfl <| Ac) (.cons (Ac) .nil)) (behind_ok hX hv hp (by omega)) (fun _ _ h => h)) ?_
    refine Aa rfl (Ae (Ac)) ?_
    refine Ah <| Ad <| Af <| Af <| Ai fun ds => Aa rfl (Ag (Ac)) ?_
    refine Aa rfl (Ag (Ba rfl <| Ao rfl <| Al rfl <| Ak rfl)) ?_
    refine Aa rfl (Cl (Al rfl <| Ac) (Ac)) ?_
    refine Ah <| Ad <| Am (Ac) (decide_eq_false (by omega)) ?_
    have hbb := behindBy_bound hv hp
    have hbs : behindS s p = p + behindBy s.steps p := rfl
    refine Ax <| Ad <| Af <| Ai fun ds => Aa rfl (Ag (Ap rfl <| Al rfl <| Ac)) ?_
    refine Aa rfl (Ag (Ba rfl <| Ap rfl <| Al rfl <| Au rfl hs1)) ?_
    refine Aa rfl (Dh (Al rfl <| Ac) (Ac) (show behindS s p - p = behindBy s.steps p by omega) (by omega) (by omega)) ?_
    refine Aa rfl (Ae (Ac)) ?_
    refine Ah <| Ad <| Af <| Ai fun ds => Aa rfl (Ag (Ba rfl <| Ay rfl <| Ap rfl <| Ao rfl <| Al rfl <| Ak rfl)) ?_
    refine Aa rfl (Ae (Ac)) ?_
    refine Ah <| Ad <| Af <| Af <| Ai fun ds => Aa rfl (Ag (Bb rfl <| Ao rfl <| Al rfl <| Ak rfl)) ?_
    refine Aa rfl (Bu (Ac)) ?_
    refine Aa rfl (Aj E4 (Ac)) ?_
    refine Aa rfl (Aj D2 (Ac)) ?_
    refine Aa rfl (Aq Ev (Ac) (CellF.own hX.blk rfl).cell) ?_
    refine Aa rfl (Bf Ec (Ac) hX.sale.steps.plain) ?_
    refine Aa rfl (Ag Ab) ?_
    refine Ah <| Ad <| A4 <| B4 [11, 13, 34, 35, 36, 37, 38, 39, 40, 41, 42, 43, 44, 45, 46, 47] (fun m e σ => ∃ k : Nat, m + k = s.steps.length ∧ e 34 = .int .i64 (k : Int) ∧ e 11 = .int .i64 (endTo s p others k) ∧ σ = ⟨F, []⟩) (s.steps.length) ?_ ?_
    · exact ⟨0, by omega, (Ac), (Ay rfl <| Ap rfl <| Al rfl <| Ac), rfl⟩
    ·
     rintro m2 e2 _ ⟨k, hm2, ht34, ht11, rfl⟩; have hsp := endTo_spec (s := s) h1 k (by omega)
     by_cases hlt : k < s.steps.length
     ·
      have hfr := step_from hv hlt
      refine Af <| Ai fun ds => Aa rfl (B0 (Au rfl ht34) (Ao rfl <| Al rfl <| Ac)) ?_
      refine Ah <| Ad <| Af <| Ar (Ac) (by first | rfl | exact decide_eq_true (by omega)) ?_
      by_cases hf : p < s.steps[k].from_
      ·
       refine Ax <| Ad <| Af <| A4 <| Af <| Ai fun ds => Aa rfl (Be  Ec (Al rfl <| Ao rfl <| Ap rfl <| Ac) hX.sale.steps.plain (Al rfl <| Au rfl ht34) rfl hlt) ?_
       refine Aa rfl (Bg agg_98 (Ac) rfl rfl (hX.sale.steps.whole hlt)) ?_
       refine Bl rfl (B6 zr_98 rfl fun b3 hb3 nb3 => ?_)
       refine Ck (B8 sz_98 (Ac) (Al rfl <| Ac) (i := 0) rfl rfl rfl rfl Stp.enc_one (.here) ?_)
       refine Ah <| Ad <| Af <| Ai fun ds => Aa rfl (Aj Eb (Ac)) ?_
       refine Aa rfl (Aq Bd (Ac) (Cell.own 0 rfl rfl)) ?_
       refine Aa rfl (Ag (Ay rfl <| Ap rfl <| Ao rfl <| Bb rfl <| Ay rfl <| Ap rfl <| Al rfl <| Au rfl hs1)) ?_
       refine Aa rfl (Cl (Al rfl <| Ac) (Ac)) ?_
       refine Ah <| Ad <| Ar (Ac) (decide_eq_true hf) ?_
       refine Ai fun ds => Aa rfl (Ag (Ba rfl <| Au rfl ht11)) ?_
       refine Aa rfl (Aj Eb (Ay rfl <| Al rfl <| Ac)) ?_
       refine Aa rfl (Aq Bd (Ac) (Cell.own 0 rfl rfl)) ?_
       refine Aa rfl (Dh (Ac) Ab rfl (by omega) (by omega)) ?_
       refine Aa rfl (q_min2 (Ap rfl <| Al rfl <| Ac) (Ac)) ?_
       refine Aa rfl (Ae (Ac)) ?_
       refine Ah <| Bh <| Ad <| Ct (fun _ _ h => h.drop (.cons _ <| .refl _)) ?_
       refine Ai fun ds => Aa rfl (B3 (Ba rfl <| Ay rfl <| Ap rfl <| Au rfl ht34) Ab rfl (by omega) (by omega)) ?_
       refine Aa rfl (Ag (Ac)) ?_
       refine Ah <| Ad ⟨_, m2 - 1, Off.eq (C5 rfl <| Bj), by omega, ?_⟩
       exact ⟨k + 1, by omega, (Ac), by rw [endTo_succ hlt, show endStep p _ _ = _ from if_pos hf]; exact (Ap rfl <| Ac), rfl⟩
      ·
       refine Ax <| Ad <| Af <| A4 <| Af <| Ai fun ds => Aa rfl (Be  Ec (Al rfl <| Ao rfl <| Ap rfl <| Ac) hX.sale.steps.plain (Al rfl <| Au rfl ht34) rfl hlt) ?_
       refine Aa rfl (Bg agg_98 (Ac) rfl rfl (hX.sale.steps.whole hlt)) ?_
       refine Bl rfl (B6 zr_98 rfl fun b4 hb4 nb4 => ?_)
       refine Ck (B8 sz_98 (Ac) (Al rfl <| Ac) (i := 0) rfl rfl rfl rfl Stp.enc_one (.here) ?_)
       refine Ah <| Ad <| Af <| Ai fun ds => Aa rfl (Aj Eb (Ac)) ?_
       refine Aa rfl (Aq Bd (Ac) (Cell.own 0 rfl rfl)) ?_
       refine Aa rfl (Ag (Ay rfl <| Ap rfl <| Ao rfl <| Bb rfl <| Ay rfl <| Ap rfl <| Al rfl <| Au rfl hs1)) ?_
       refine Aa rfl (Cl (Al rfl <| Ac) (Ac)) ?_
       refine Ah <| Ad <| Am (Ac) (decide_eq_false hf) ?_
       refine Ax <| Bh <| Ad <| Ct (fun _ _ h => h.drop (.cons _ <| .refl _)) ?_
       refine Ai fun ds => Aa rfl (B3 (Ba rfl <| Au rfl ht34) Ab rfl (by omega) (by omega)) ?_
       refine Aa rfl (Ag (Ac)) ?_
       refine Ah <| Ad ⟨_, m2 - 1, Off.eq (Ei rfl <| Et rfl <| Bj), by omega, ?_⟩
       exact ⟨k + 1, by omega, (Ac), by rw [endTo_succ hlt, show endStep p _ _ = _ from if_neg hf]; exact (Ba rfl <| Ap rfl <| Au rfl ht11), rfl⟩
     ·
      refine Af <| Ai fun ds => Aa rfl (B0 (Au rfl ht34) (Ao rfl <| Al rfl <| Ac)) ?_
      refine Ah <| Ad <| Af <| Am (Ac) (by first | rfl | exact decide_eq_false (by omega)) ?_
      obtain rfl : k = s.steps.length := by omega
      have hlb := leap_bound (e := endTo s p others s.steps.length) hbb.1 hsp.2.1 h2
      have hmul : 1 * behindBy s.steps p ≤ leapN (endTo s p others s.steps.length) p (behindBy s.steps p) most * behindBy s.steps p := Int.mul_le_mul_of_nonneg_right hlb.1 (by omega)
      have hed := Int.ediv_le_self (behindBy s.steps p) (show 0 ≤ endTo s p others s.steps.length - p by omega)
      have hed0 := Int.ediv_nonneg (show 0 ≤ endTo s p others s.steps.length - p by omega) (show 0 ≤ behindBy s.steps p by omega)
      refine Bx ?_
      refine Bk <| Bk <| Bn <| Ad <| Af <| Ch (.inl rfl) (fun _ _ h => h) (by kernel_rfl) (by kernel_rfl) fun ds => ?_
      refine A0 rfl (Ag (Al rfl <| Au rfl ht11)) ?_
      refine A0 rfl (Ag (Ap rfl <| Ao rfl <| Bb rfl <| Ay rfl <| Ap rfl <| Al rfl <| Au rfl hs1)) ?_
      refine A0 rfl (Dh (Al rfl <| Ac) (Ac) rfl (by omega) (by omega)) ?_
      refine A0 rfl (Ag (Ay rfl <| Ao rfl <| Ba rfl <| Al rfl <| Ac)) ?_
      refine A0 rfl (q_quo (Al rfl <| Ac) (Ac) (by omega) (by omega) (by omega)) ?_
      refine A0 rfl (B3 (Ac) Ab rfl (by omega) (by omega)) ?_
      refine A0 rfl (Ag (Ay rfl <| Ap rfl <| Al rfl <| Ao rfl <| Bb rfl <| Ay rfl <| Ap rfl <| Al rfl <| Ao rfl <| Al rfl <| Ak rfl)) ?_
      refine A0 rfl (Ag (Ba rfl <| Ao rfl <| Bb rfl <| Ay rfl <| Ap rfl <| Al rfl <| Au rfl hs1)) ?_
      refine A0 rfl (Dh (Al rfl <| Ac) (Ac) rfl (by omega) (by omega)) ?_
      refine A0 rfl (Ag (Ba rfl <| Ap rfl <| Ao rfl <| Ba rfl <| Al rfl <| Ac)) ?_
      refine A0 rfl (q_quo (Al rfl <| Ac) (Ac) (by omega) (by omega) (by omega)) ?_
      refine A0 rfl (q_min2 (Ay rfl <| Al rfl <| Ac) (Ac)) ?_
      refine A0 rfl (q_max2 Ab (Ac)) ?_
      refine A0 rfl (Ae (Ac)) ?_
      refine Cj ?_
      refine Ad <| Ai fun ds => Aa rfl (Ag (Ba rfl <| Ay rfl <| Ap rfl <| Al rfl <| Ao rfl <| Bb rfl <| Ay rfl <| Ap rfl <| Al rfl <| Au rfl hs1)) ?_
      refine Aa rfl (Ag (Al rfl <| Ac)) ?_
      refine Aa rfl (Ag (Bb rfl <| Al rfl <| Ao rfl <| Ba rfl <| Al rfl <| Ac)) ?_
      refine Aa rfl (q_mul (Al rfl <| Ac) (Ac) (show leapN (endTo s p others s.steps.length) p (behindBy s.steps p) most * behindBy s.steps p = leapN (endTo s p others s.steps.length) p (behindBy s.steps p) most * behindBy s.steps p from rfl) (by omega) (by omega)) ?_
      refine Aa rfl (B3 (Ap rfl <| Al rfl <| Ac) (Ac) rfl (by omega) (by omega)) ?_
      refine Aa rfl (Ae (Ac)) ?_
      refine Ah <| Bh ?_
      refine Ad ⟨_, m - 1, Off.eq (C5 rfl <| ou4 rfl <| Eu rfl <| off_in rfl <| C5 rfl <| ou4 rfl <| Et rfl <| Eu rfl <| Bj), by omega, ?_⟩
      refine ⟨p + leapN (endTo s p others s.steps.length) p (behindBy s.steps p) most * behindBy s.steps p, by omega, by omega, (Ac), ?_, by omega, rfl⟩
      rw [← climb_leap hv hp h1 h2]; exact hcl
   ·
    refine Ax <| Ad <| A4 <| Af <| Ai fun ds => Aa rfl (Ag (Ap rfl <| Al rfl <| Ao rfl <| Al rfl <| Ak rfl)) ?_
    refine Aa rfl (Ag (Ay rfl <| Au rfl hs1)) ?_
    refine Bv rfl (A9 bd_67 Az (.cons (Al rfl <| Ac) (.cons (Ac) .nil)) (behind_ok hX hv hp (by omega)) (fun _ _ h => h)) ?_
    refine Aa rfl (Ae (Ac)) ?_
    refine Ah <| Ad <| Af <| Af <| Ai fun ds => Aa rfl (Ag (Ac)) ?_
    refine Aa rfl (Ag (Ba rfl <| Ao rfl <| Al rfl <| Ak rfl)) ?_
    refine Aa rfl (Cl (Al rfl <| Ac) (Ac)) ?_
    refine Ah <| Ad <| Ar (Ac) (decide_eq_true (by omega)) ?_
    refine Bx ?_
    refine Bk (exit_past rfl (Bk (Bn ?_)))
    refine Ad <| Af <| Ai fun ds => Aa rfl (Ag (Ba rfl <| Ap rfl <| Au rfl hs1)) ?_
    refine Aa rfl (Ae (Ac)) ?_
    refine Ah <| Ad <| A5 <| scope_r ?_
    refine Aw rfl (.tmp (Ac) .nil) ?_
    show _ = _
    rw [← hcl, Eh (fun h => h2 h.2)]; rfl
  ·
   refine Af <| Af <| Ai fun ds => Aa rfl (Ag (Au rfl hs1)) ?_
   refine Aa rfl (Ag (Al rfl <| Ao rfl <| Al rfl <| Ak rfl)) ?_
   refine Aa rfl (q_leq (Al rfl <| Ac) (Ac)) ?_
   refine Ah <| Ad <| Am (Ac) (by first | rfl | exact decide_eq_false (by omega)) ?_
   refine Bx ?_
   refine Bk <| Bk <| Bn <| Ad <| Af <| Ai fun ds => Aa rfl (Ag (Ap rfl <| Al rfl <| Au rfl hs1)) ?_
   refine Aa rfl (Ae (Ac)) ?_
   refine Ah <| Ad <| A5 <| scope_r ?_
   refine Aw rfl (.tmp (Ac) .nil) ?_
   show _ = _
   rw [← hcl, Eh (fun h => h1 h.1)]; rfl
end Go.Proofs.Ytaikojfonleccaa
namespace Go.Proofs.Ytaikojfonleccaa
open Go.RowKit
theorem ringErr_4 {s : Sale} {ring : List Int} (h : (ring.any fun z => !(inB 0 (s.bidders.length - 1) z)) = true) : ringErr s ring = 4 := if_pos h
theorem ringErr_2 {s : Sale} {ring : List Int} (h : (ring.any fun z => !(inB 0 (s.bidders.length - 1) z)) = false) (h2 : notAsc ring = true) : ringErr s ring = 2 := by unfold ringErr; rw [if_neg (by rw [h]; decide), if_pos h2]
theorem ringErr_3 {s : Sale} {ring : List Int} (h : (ring.any fun z => !(inB 0 (s.bidders.length - 1) z)) = false) (h2 : notAsc ring = false) (h3 : ring.length = 1) : ringErr s ring = 3 := by unfold ringErr; rw [if_neg (by rw [h]; decide), if_neg (by rw [h2]; decide), if_pos h3]
theorem ringErr_0 {s : Sale} {ring : List Int} (h : (ring.any fun z => !(inB 0 (s.bidders.length - 1) z)) = false) (h2 : notAsc ring = false) (h3 : ¬ ring.length = 1) : ringErr s ring = 0 := by unfold ringErr; rw [if_neg (by rw [h]; decide), if_neg (by rw [h2]; decide), if_neg h3]
theorem ringErr_ok {s : Sale} {ring : List Int} (h : ringErr s ring = 0) : (ring.any fun z => !(inB 0 (s.bidders.length - 1) z)) = false ∧ notAsc ring = false ∧ ¬ ring.length = 1 := by
 unfold ringErr at h
 split at h
 · cases h
 · rename_i h1
   split at h
   · cases h
   · rename_i h2
     split at h
     · cases h
     · rename_i h3; exact ⟨by simpa using h1, by simpa using h2, h3⟩
end Go.Proofs.Ytaikojfonleccaa
namespace Go.Proofs.Ytaikojfonleccaa
open Go.RowKit
theorem zr_63 : ZeroT Try.prog 63 (.agg #[.int .i64 0, .int .i64 0]) := C4 (by kernel_rfl)
theorem D8 : AggT Try.prog 63 2 := aggT_of (by kernel_rfl)
theorem bt_63 : BuildT Try.prog 63 [.int .i64 0, .int .i64 0] [(0, 1), (1, 1)] := Em zr_63 (by kernel_rfl) (by decide)
theorem el_3 : ElemT Try.prog 3 1 8 (.int .i64 0) := elemT_of (by kernel_rfl) rfl (by decide)
theorem sz_63 : SizeT Try.prog 63 2 := C8 (by kernel_rfl)
theorem lot_facts {s : Sale} (hv : ValidS s) {l : Nat} (h : l < s.lots.length) : s.lots[l] = s.lot l ∧ 1 ≤ (s.lot l).reserve ∧ (s.lot l).reserve ≤ 100000 ∧ 0 ≤ (s.lot l).seller ∧ (s.lot l).seller < s.sellers.length := by
 have := hv.lo l h
 exact ⟨lot_at h, this.2.2.1, this.2.2.2, this.1, this.2.1⟩
end Go.Proofs.Ytaikojfonleccaa
namespace Go.Proofs.Ytaikojfonleccaa
open Go.RowKit
theorem bd_16 : Body Try.prog 16 := Br (by kernel_rfl)
theorem el_63 : ElemT Try.prog 63 2 16 (.agg #[.int .i64 0, .int .i64 0]) := elemT_of (by kernel_rfl) rfl (by decide)
theorem Cm : SliceT Try.prog 34 63 2 := Ek (by kernel_rfl)
theorem nextE_bad {s : Sale} {p : Int} (h : (checkS s).2.2 ≠ 0) : nextE s p = (0, (checkS s).2.2) := if_pos h
theorem nextE_range {s : Sale} {p : Int} (h : (checkS s).2.2 = 0) (h2 : inB 0 100000 p = false) : nextE s p = (0, 7) := by unfold nextE; rw [if_neg (fun k => k h), if_pos h2]
theorem nextE_ok {s : Sale} {p : Int} (h : (checkS s).2.2 = 0) (h2 : inB 0 100000 p = true) : nextE s p = (behindS s p, 0) := by unfold nextE; rw [if_neg (fun k => k h), if_neg (by rw [h2]; decide)]
theorem in_bounds {lo hi z : Int} (h : inB lo hi z = true) : lo ≤ z ∧ z ≤ hi := by simpa [inB] using h
theorem enterE_bad {s : Sale} {ring : List Int} (h : (checkS s).2.2 ≠ 0) : enterErr s ring = (checkS s).2.2 := if_pos h
theorem enterE_ring {s : Sale} {ring : List Int} (h : (checkS s).2.2 = 0) : enterErr s ring = ringErr s ring := if_neg (fun k => k h)
theorem enterE_ok {s : Sale} {ring : List Int} (h : enterErr s ring = 0) : (checkS s).2.2 = 0 ∧ ringErr s ring = 0 := by
 by_cases h0 : (checkS s).2.2 = 0
 · rw [enterE_ring h0] at h; exact ⟨h0, h⟩
 · rw [enterE_bad h0] at h; exact absurd h h0
def sellE (s : Sale) (ring : List Int) : List Res × Int := if enterErr s ring ≠ 0 then ([], enterErr s ring) else (allS s ring, 0)
theorem sellE_bad {s : Sale} {ring : List Int} {e : Int} (h : enterErr s ring = e) (he : e ≠ 0) : sellE s ring = ([], e) := by subst h; exact if_pos he
theorem sellE_ok {s : Sale} {ring : List Int} (h : enterErr s ring = 0) : sellE s ring = (allS s ring, 0) := if_neg (fun k => k h)
def SellR (F : Heap) (u : Value) (p : List Res × Int) : Prop := ∃ v, u = .tuple #[v, .int .i64 p.2] ∧ Sl F v 2 Res.enc p.1
theorem SellR.mono {F F' : Heap} {u : Value} {p : List Res × Int} (h : SellR F u p) (hF : F.le F') : SellR F' u p := by obtain ⟨v, h1, h2⟩ := h; exact ⟨v, h1, h2.mono hF⟩
end Go.Proofs.Ytaikojfonleccaa
