/-
  A part of a proof: TopReturned returns true of any copy, any sale, any lot and any ring, and leaves what it is handed as it was. No conditions.
-/
import Derived.Test.YtkjfmibiinfhfacGreatPad
import Derived.Test.YtkjfmibiinfhfacGreatProg
import Derived.RangeFuncNested
namespace Go.Proofs.YtkjfmibiinfhfacGreat
set_option synthInstance.maxSize 4000
set_option synthInstance.maxHeartbeats 1000000
section
set_option maxRecDepth 100000
open Go.RowKit
theorem Hd : ZeroT Tryz.prog 169 (.agg #[.int .i64 0, .int .i64 0, .int .i64 0]) := Br (by kernel_rfl)
theorem CS : AggT Tryz.prog 169 3 := Cu (by kernel_rfl)
instance : AggI Tryz.prog 169 3 := ⟨CS⟩
theorem Ec : Body Tryz.prog 48 := AE (by kernel_rfl)
instance : FieldI Tryz.prog 114 0 0 := ⟨AU (by kernel_rfl)⟩
instance : FieldI Tryz.prog 114 1 1 := ⟨AU (by kernel_rfl)⟩
theorem Pb : FieldT Tryz.prog 117 1 2 := AU (by kernel_rfl)
instance : FieldI Tryz.prog 117 1 2 := ⟨Pb⟩
instance : FieldI Tryz.prog 117 2 3 := ⟨AU (by kernel_rfl)⟩
instance : FieldI Tryz.prog 169 0 0 := ⟨AU (by kernel_rfl)⟩
instance : FieldI Tryz.prog 169 1 1 := ⟨AU (by kernel_rfl)⟩
instance : FieldI Tryz.prog 169 2 2 := ⟨AU (by kernel_rfl)⟩
theorem Bv : OneT Tryz.prog 115 := BE (by kernel_rfl)
instance : OneI Tryz.prog 115 := ⟨Bv⟩
theorem Bw : SliceT Tryz.prog 115 169 3 := Ci (by kernel_rfl)
instance : SliceI Tryz.prog 115 := ⟨_, _, Bw⟩
theorem Hh : SizeT Tryz.prog 169 3 := Bx (by kernel_rfl)
theorem CW {F : Heap} (z lo hi : Int) : Ok Tryz.prog 48 [.int .i64 z, .int .i64 lo, .int .i64 hi].toArray F fun r _ => r = .bool (inB lo hi z) := by
 refine Ok.intro Tryz.func48 rfl Tryz.ntmps48 rfl fun w0 => ?_
 by_cases h1 : lo ≤ z
 ·refine AD (Af 1) <| Az (Af 4) fun ds => Ae rfl rfl Aa (by first | rfl | exact dT (by omega)) <| Aj (Af 1) <| Ae rfl rfl Aa (by first | rfl | exact dT (by omega)) <| Aj (Af 1) <| Ae rfl rfl Aa (by first | rfl | exact dT (by omega)) <| Aj (Af 1) <| Ag rfl (Ar Aa (by first | rfl | exact dT (by omega)) Aa) <| Aw (Af 1) ?_
  by_cases h2 : z ≤ hi
  ·refine At <| Ap rfl Bd ?_
   show _ = _; simp [outOf, inB, h1, h2]
  refine At <| Ap rfl Bd ?_
  show _ = _; simp [outOf, inB, h1, h2]
 refine AD (Af 1) <| Az (Af 4) fun ds => Ah rfl rfl Aa (.inl (congrArg Value.bool (by first | rfl | exact dF (by omega)))) rfl <| Ah rfl rfl Aa (.inl (congrArg Value.bool (by first | rfl | exact dF (by omega)))) rfl <| Ah rfl rfl Aa (.inl (congrArg Value.bool (by first | rfl | exact dF (by omega)))) rfl <| Ag rfl (As Aa (by first | rfl | exact dF (by omega)) Aa) <| Aw (Af 1) <| At <| Ap rfl Bd ?_
 show _ = _; simp [outOf, inB, h1]
theorem UG {F : Heap} (z lo hi : Int) : Ok Tryz.prog 51 [.int .i64 z, .int .i64 lo, .int .i64 hi].toArray F fun r _ => r = .bool (inB lo hi z) := by
 refine Ok.intro Tryz.func51 rfl Tryz.ntmps51 rfl fun w0 => ?_
 by_cases h1 : lo ≤ z
 ·refine AD (Af 1) <| Az (Af 4) fun ds => Ae rfl rfl Aa (by first | rfl | exact dT (by omega)) <| Aj (Af 1) <| Ae rfl rfl Aa (by first | rfl | exact dT (by omega)) <| Aj (Af 1) <| Ae rfl rfl Aa (by first | rfl | exact dT (by omega)) <| Aj (Af 1) <| Ag rfl (Ar Aa (by first | rfl | exact dT (by omega)) Aa) <| Aw (Af 1) ?_
  by_cases h2 : z ≤ hi
  ·refine At <| Ap rfl Bd ?_
   show _ = _; simp [outOf, inB, h1, h2]
  refine At <| Ap rfl Bd ?_
  show _ = _; simp [outOf, inB, h1, h2]
 refine AD (Af 1) <| Az (Af 4) fun ds => Ah rfl rfl Aa (.inl (congrArg Value.bool (by first | rfl | exact dF (by omega)))) rfl <| Ah rfl rfl Aa (.inl (congrArg Value.bool (by first | rfl | exact dF (by omega)))) rfl <| Ah rfl rfl Aa (.inl (congrArg Value.bool (by first | rfl | exact dF (by omega)))) rfl <| Ag rfl (As Aa (by first | rfl | exact dF (by omega)) Aa) <| Aw (Af 1) <| At <| Ap rfl Bd ?_
 show _ = _; simp [outOf, inB, h1]
theorem HQ {F : Heap} (s : Sg) : Ok Tryz.prog 83 [.agg #[.int .i64 s.round, .int .i64 s.letter]].toArray F fun r _ => r = .bool (!(noneS s)) := by
 refine Ok.intro Tryz.func83 rfl Tryz.ntmps83 rfl fun w0 => ?_
 by_cases h1 : inB 1 3 s.round = true
 ·refine Ac <| Am fun ds => A5 rfl <| Bg Aa rfl fun b1 hb1 nb1 => Aw (Af 1) <| Az (Af 2) fun ds => AN rfl (Ay Ec Aa AW (CW _ _ _) (fun _ _ h => h)) <| Aj (Af 1) <| Ae rfl rfl Aa h1 <| Aj (Af 1) <| Ae rfl rfl Aa h1 <| Aj (Af 1) <| Ae rfl rfl Aa h1 <| AN rfl (Ay Ec Aa AW (CW _ _ _) (fun _ _ h => h)) <| Ag rfl (Ar Aa h1 Aa) <| Aw (Af 1) <| At <| Ap rfl Bd ?_
  show Value.bool _ = Value.bool _
  unfold noneS; rw [h1]; simp
 replace h1 : inB 1 3 s.round = false := by simpa using h1
 refine Ac <| Am fun ds => A5 rfl <| Bg Aa rfl fun b2 hb2 nb2 => Aw (Af 1) <| Az (Af 2) fun ds => AN rfl (Ay Ec Aa AW (CW _ _ _) (fun _ _ h => h)) <| Aj (Af 1) <| Ah rfl rfl Aa (.inl (congrArg Value.bool h1)) rfl <| Ah rfl rfl Aa (.inl (congrArg Value.bool h1)) rfl <| Ah rfl rfl Aa (.inl (congrArg Value.bool h1)) rfl <| Ag rfl (As Aa h1 C4) <| Aw (Af 1) <| At <| Ap rfl Bd ?_
 show Value.bool _ = Value.bool _
 unfold noneS; rw [h1]; rfl
theorem KB {F : Heap} {s : Sg} (hs : noneS s = false) : Ok Tryz.prog 84 [.agg #[.int .i64 s.round, .int .i64 s.letter]].toArray F fun r _ => r = .int .i64 (rankS s) := by
 refine Ok.intro Tryz.func84 rfl Tryz.ntmps84 rfl fun w0 => ?_
 have hn := hs
 unfold noneS at hn
 simp only [Bool.or_eq_false_iff, Bool.not_eq_false', Cn] at hn
 by_cases h : 23 ≤ s.letter
 ·refine Ac <| Am fun ds => A5 rfl <| Bg Aa rfl fun b1 hb1 nb1 => Aw (Af 1) <| Ac <| AD (Af 3) <| Ai Aa (by first | rfl | exact dT (by omega)) <| AD (Af 1) <| At <| Ax <| Ap rfl Bd ?_
  show Value.int .i64 _ = Value.int .i64 _
  unfold rankS; rw [if_pos h]
 refine Ac <| Am fun ds => A5 rfl <| Bg Aa rfl fun b2 hb2 nb2 => Aw (Af 1) <| Ac <| AD (Af 3) <| Ad Aa (by first | rfl | exact dF (by omega)) <| Al <| Ab <| Az (Af 2) fun ds => Ag rfl (B4 Aa Aa rfl (by omega) (by omega)) <| Ag rfl (Mx Aa Aa rfl (by omega) (by omega)) <| Aj (Af 2) <| Ag rfl (AG Aa Aa rfl (by omega) (by omega)) <| Aw (Af 1) <| At <| Ap rfl Bd ?_
 show Value.int .i64 _ = Value.int .i64 _
 unfold rankS; rw [if_neg h]
theorem Dr {F : Heap} (s : Sg) : Ok Tryz.prog 107 [.agg #[.int .i64 s.round, .int .i64 s.letter]].toArray F fun r _ => r = .bool (letS s) := by
 refine Ok.intro Tryz.func107 rfl Tryz.ntmps107 rfl fun w0 => Ac <| Am fun ds => A5 rfl <| Bg Aa rfl fun b1 hb1 nb1 => Aw (Af 1) <| AD (Af 4) <| At <| Ap rfl Bd ?_
 rfl
theorem Th {F : Heap} (s t : Sg) : Ok Tryz.prog 108 [.agg #[.int .i64 s.round, .int .i64 s.letter], .agg #[.int .i64 t.round, .int .i64 t.letter]].toArray F fun r _ => r = .bool (befS s t) := by
 refine Ok.intro Tryz.func108 rfl Tryz.ntmps108 rfl fun w0 => ?_
 by_cases h1 : s.round < t.round
 ·refine Ac <| Am fun ds => A5 rfl <| Bg Aa rfl fun b1 hb1 nb1 => A5 rfl <| Bg Aa rfl fun b2 hb2 nb2 => Aw (Af 1) <| Az (Af 6) fun ds => Ah rfl rfl Aa (.inl (congrArg Value.bool (dT h1))) rfl <| Ah rfl rfl Aa (.inl (congrArg Value.bool (dT h1))) rfl <| Ah rfl rfl Aa (.inl (congrArg Value.bool (dT h1))) rfl <| Ah rfl rfl Aa (.inl (congrArg Value.bool (dT h1))) rfl <| Ah rfl rfl Aa (.inl (congrArg Value.bool (dT h1))) rfl <| Ah rfl rfl Aa (.inl (congrArg Value.bool (dT h1))) rfl <| Ah rfl rfl Aa (.inr rfl) rfl <| Ah rfl rfl Aa (.inr rfl) rfl <| Ah rfl rfl Aa (.inr rfl) rfl <| Ah rfl rfl Aa (.inr rfl) rfl <| Ah rfl rfl Aa (.inr rfl) rfl <| Ah rfl rfl Aa (.inl (congrArg Value.bool (dT h1))) rfl <| Ag rfl (Ar Aa (dT h1) Aa) <| Aw (Af 1) <| At <| Ap rfl Bd ?_
  show Value.bool _ = Value.bool _
  unfold befS; rw [dT h1]; rfl
 refine Ac <| Am fun ds => A5 rfl <| Bg Aa rfl fun b3 hb3 nb3 => A5 rfl <| Bg Aa rfl fun b4 hb4 nb4 => Aw (Af 1) <| Az (Af 6) fun ds => Ae rfl rfl Aa (dF h1) <| Aj (Af 1) <| Ae rfl rfl Aa (dF h1) <| Aj (Af 1) <| Ae rfl rfl Aa (dF h1) <| Aj (Af 1) <| Ae rfl rfl Aa (dF h1) <| Aj (Af 1) <| Ae rfl rfl Aa (dF h1) <| Aj (Af 1) <| Ae rfl rfl Aa (dF h1) <| Aj (Af 1) ?_
 by_cases h2 : s.round = t.round
 ·refine Ae rfl rfl Aa (dT h2) <| Aj (Af 1) <| Ae rfl rfl Aa (dT h2) <| Aj (Af 1) <| Ae rfl rfl Aa (dT h2) <| Aj (Af 1) <| Ae rfl rfl Aa (dT h2) <| Aj (Af 1) <| Ae rfl rfl Aa (dT h2) <| Aj (Af 1) <| Ae rfl rfl Aa (dF h1) <| Ag rfl (Ar Aa (dT h2) Aa) <| Ag rfl (As Aa (dF h1) Aa) <| Aw (Af 1) <| At <| Ap rfl Bd ?_
  show Value.bool _ = Value.bool _
  unfold befS; rw [dF h1, dT h2]; rfl
 refine Ah rfl rfl Aa (.inl (congrArg Value.bool (dF h2))) rfl <| Ah rfl rfl Aa (.inl (congrArg Value.bool (dF h2))) rfl <| Ah rfl rfl Aa (.inl (congrArg Value.bool (dF h2))) rfl <| Ah rfl rfl Aa (.inl (congrArg Value.bool (dF h2))) rfl <| Ah rfl rfl Aa (.inl (congrArg Value.bool (dF h2))) rfl <| Ae rfl rfl Aa (dF h1) <| Ag rfl (As Aa (dF h2) Aa) <| Ag rfl (As Aa (dF h1) Aa) <| Aw (Af 1) <| At <| Ap rfl Bd ?_
 show Value.bool _ = Value.bool _
 unfold befS; rw [dF h1, dF h2]; rfl
theorem Dt {F : Heap} {vc : Value} {g : Gth} (hc : Sl F vc 3 Chg.enc g.chs) {k : Nat} (hk : k < g.chs.length) : Ok Tryz.prog 85 [.agg #[.int .i64 g.sig.round, .int .i64 g.sig.letter, .int .i64 g.leaves, vc], .int .i64 (k : Int)].toArray F fun r _ => r = .int .i64 (chgErr g k) := by
 have hL1 := hc.plain.lt
 refine Ok.intro Tryz.func85 rfl Tryz.ntmps85 rfl fun w0 => Ac <| Am fun ds => A5 rfl <| Bg Aa rfl fun b1 hb1 nb1 => Aw (Af 1) <| Az (Af 3) fun ds => Ag rfl (A1 (k := k) Bw Aa hc.plain Aa rfl hk) <| Ag rfl (AC (vs := (Chg.enc g.chs[k])) CS Aa rfl rfl (hc.whole hk)) <| A5 rfl <| AO Hd rfl fun b2 hb2 nb2 => AS <| AP Hh Aa Aa (i := 0) rfl rfl rfl rfl Chg.enc_one (.here) <| Ao <| Ab <| Ac <| Ac ?_
 by_cases h1 : inB 1 3 g.chs[k].kind = true
 ·refine Am fun ds => Aj (Af 2) <| AN rfl (Ay Ec Aa AW (CW _ _ _) (fun _ _ h => h)) <| Aw (Af 1) <| Ad Aa (by rw [h1]; rfl) ?_
  by_cases h2 : g.chs[k].kind = 3
  ·refine Al <| Ab <| Ac <| Bs (.inl rfl) (fun _ _ h => h) (by kernel_rfl) (by kernel_rfl) fun ds => AR (Af 5) <| B0 <| Ab <| Ac <| AD (Af 3) <| Ai Aa (dT h2) ?_
   have hlo : chgLo g.chs[k] = 0 := if_pos h2
   have hmn : chgMany g.chs[k] = inB 1 4 g.chs[k].many := by unfold chgMany; rw [if_pos h2]
   by_cases hpos : inB (chgLo g.chs[k]) g.leaves g.chs[k].pos = true
   ·refine Am fun ds => Aj (Af 2) <| AN rfl (Ay Ec Aa AW (CW _ _ _) (fun _ _ h => h)) <| Aw (Af 2) <| Ac <| Az (Af 5) fun ds => AN rfl (Ay Ec Aa AW (CW _ _ _) (fun _ _ h => h)) <| Aj (Af 2) <| Ae rfl rfl Aa (by rw [hlo] at hpos; rw [hpos] <;> rfl) <| Aj (Af 1) <| Ae rfl rfl Aa (by rw [hlo] at hpos; rw [hpos] <;> rfl) <| Aj (Af 1) <| Ag rfl (As Aa (by rw [hlo] at hpos; rw [hpos] <;> rfl) Aa) <| Ao <| Ab ?_
    by_cases hmany : chgMany g.chs[k] = true
    ·refine Ad Aa (by rw [hmn] at hmany; rw [hmany] <;> rfl) ?_
     by_cases hk0 : k = 0
     ·refine Al <| Ab <| Ac <| AD (Af 2) <| Ai Aa (dT (by omega)) <| AD (Af 1) <| At <| Ax <| Ap rfl Bd ?_
      show Value.int .i64 _ = Value.int .i64 _
      unfold chgErr; rw [if_neg (by rw [← Dc hk, h1]; simp), if_neg (by rw [← Dc hk, hpos, hmany]; simp), if_neg (by omega)]
     have hk1 : k - 1 < g.chs.length := by omega
     have hold := LR (g := g) (k := k) (by rw [← Dc hk]; exact h1) (by rw [← Dc hk, hpos, hmany]; rfl) hk0
     rw [← Dc hk, ← Dc hk1] at hold
     refine Al <| Ab <| Ac <| AD (Af 2) <| Ad Aa (dF (by omega)) <| Al <| Ab <| Az (Af 3) fun ds => Ag rfl (B4 Aa Aa rfl (by omega) (by omega)) <| Ag rfl (A1 (k := k - 1) Bw Aa hc.plain Aa (by omega) hk1) <| Ag rfl (AC (vs := (Chg.enc g.chs[k - 1])) CS Aa rfl rfl (hc.whole hk1)) <| A5 rfl <| AO Hd rfl fun b3 hb3 nb3 => AS <| AP Hh Aa Aa (i := 0) rfl rfl rfl rfl Chg.enc_one (.here) <| Ao <| Ab <| Ac <| Ac ?_
     by_cases h3 : g.chs[k].pos < g.chs[k - 1].pos
     ·refine Am fun ds => Aj (Af 6) <| Ah rfl rfl Aa (.inl (congrArg Value.bool (dT h3))) rfl <| Ah rfl rfl Aa (.inl (congrArg Value.bool (dT h3))) rfl <| Ah rfl rfl Aa (.inl (congrArg Value.bool (dT h3))) rfl <| Ah rfl rfl Aa (.inl (congrArg Value.bool (dT h3))) rfl <| Ah rfl rfl Aa (.inl (congrArg Value.bool (dT h3))) rfl <| Ah rfl rfl Aa (.inl (congrArg Value.bool (dT h3))) rfl <| Ah rfl rfl Aa (.inr rfl) rfl <| Ah rfl rfl Aa (.inr rfl) rfl <| Ah rfl rfl Aa (.inr rfl) rfl <| Ah rfl rfl Aa (.inr rfl) rfl <| Ah rfl rfl Aa (.inr rfl) rfl <| Ah rfl rfl Aa (.inr rfl) rfl <| Ah rfl rfl Aa (.inr rfl) rfl <| Ah rfl rfl Aa (.inr rfl) rfl <| Ah rfl rfl Aa (.inl (congrArg Value.bool (dT h3))) rfl <| Ag rfl (Ar Aa (dT h3) Aa) <| Ao <| Ab <| Ai Aa rfl <| AD (Af 1) <| At <| Ax <| Ap rfl Bd ?_
      show Value.int .i64 _ = Value.int .i64 _
      rw [hold, if_pos (.inl h3)]
     refine Am fun ds => Aj (Af 6) <| Ae rfl rfl Aa (dF h3) <| Aj (Af 1) <| Ae rfl rfl Aa (dF h3) <| Aj (Af 1) <| Ae rfl rfl Aa (dF h3) <| Aj (Af 1) <| Ae rfl rfl Aa (dF h3) <| Aj (Af 1) <| Ae rfl rfl Aa (dF h3) <| Aj (Af 1) <| Ae rfl rfl Aa (dF h3) <| Aj (Af 1) ?_
     by_cases h4 : g.chs[k].pos = g.chs[k - 1].pos
     ·refine Ae rfl rfl Aa (dT h4) <| Aj (Af 1) <| Ae rfl rfl Aa (dT h4) <| Aj (Af 1) <| Ae rfl rfl Aa (dT h4) <| Aj (Af 1) <| Ae rfl rfl Aa (dT h4) <| Aj (Af 1) ?_
      by_cases h5 : g.chs[k].kind = 3
      ·refine Ae rfl rfl Aa (dF (fun h => h h5)) <| Aj (Af 1) <| Ae rfl rfl Aa (dF (fun h => h h5)) <| Aj (Af 1) <| Ae rfl rfl Aa (dF (fun h => h h5)) <| Aj (Af 1) <| Ae rfl rfl Aa (dT h4) <| Ag rfl (As Aa (dF (fun h => h h5)) Aa) <| Ae rfl rfl Aa (dF h3) <| Ag rfl (Ar Aa (dT h4) Aa) <| Ag rfl (As Aa (dF h3) Aa) <| Ao <| Ab ?_
       by_cases h6 : g.chs[k - 1].kind = 3
       ·refine Ai Aa (dT h6) <| AD (Af 1) <| At <| Ax <| Ap rfl Bd ?_
        show Value.int .i64 _ = Value.int .i64 _
        rw [hold, if_pos (.inr ⟨h4, .inr h6⟩)]
       refine Ad Aa (dF h6) <| Al <| Ab <| AD (Af 1) <| At <| Ap rfl Bd ?_
       show Value.int .i64 _ = Value.int .i64 _
       rw [hold, if_neg (fun h => h.elim h3 fun h => h.2.elim (fun q => q h5) h6)]
      refine Ah rfl rfl Aa (.inl (congrArg Value.bool (dT h5))) rfl <| Ah rfl rfl Aa (.inl (congrArg Value.bool (dT h5))) rfl <| Ah rfl rfl Aa (.inl (congrArg Value.bool (dT h5))) rfl <| Ae rfl rfl Aa (dT h4) <| Ag rfl (Ar Aa (dT h5) Aa) <| Ae rfl rfl Aa (dF h3) <| Ag rfl (Ar Aa (dT h4) Aa) <| Ag rfl (As Aa (dF h3) Aa) <| Ao <| Ab <| Ai Aa rfl <| AD (Af 1) <| At <| Ax <| Ap rfl Bd ?_
      show Value.int .i64 _ = Value.int .i64 _
      rw [hold, if_pos (.inr ⟨h4, .inl h5⟩)]
     refine Ah rfl rfl Aa (.inl (congrArg Value.bool (dF h4))) rfl <| Ah rfl rfl Aa (.inl (congrArg Value.bool (dF h4))) rfl <| Ah rfl rfl Aa (.inl (congrArg Value.bool (dF h4))) rfl <| Ah rfl rfl Aa (.inl (congrArg Value.bool (dF h4))) rfl <| Ah rfl rfl Aa (.inr rfl) rfl <| Ah rfl rfl Aa (.inr rfl) rfl <| Ah rfl rfl Aa (.inr rfl) rfl <| Ah rfl rfl Aa (.inl (congrArg Value.bool (dF h4))) rfl <| Ae rfl rfl Aa (dF h3) <| Ag rfl (As Aa (dF h4) Aa) <| Ag rfl (As Aa (dF h3) Aa) <| Ao <| Ab <| Ad Aa rfl <| Al <| Ab <| AD (Af 1) <| At <| Ap rfl Bd ?_
     show Value.int .i64 _ = Value.int .i64 _
     rw [hold, if_neg (fun h => h.elim h3 fun h => h4 h.1)]
    replace hmany : chgMany g.chs[k] = false := by simpa using hmany
    refine Ai Aa (by rw [hmn] at hmany; rw [hmany] <;> rfl) <| AD (Af 1) <| At <| Ax <| Ap rfl Bd ?_
    show Value.int .i64 _ = Value.int .i64 _
    unfold chgErr; rw [if_neg (by rw [← Dc hk, h1]; simp), if_pos (by rw [← Dc hk, hpos, hmany] <;> rfl)]
   replace hpos : inB (chgLo g.chs[k]) g.leaves g.chs[k].pos = false := by simpa using hpos
   refine Am fun ds => Aj (Af 2) <| AN rfl (Ay Ec Aa AW (CW _ _ _) (fun _ _ h => h)) <| Aw (Af 2) <| Ac <| Az (Af 5) fun ds => AN rfl (Ay Ec Aa AW (CW _ _ _) (fun _ _ h => h)) <| Aj (Af 2) <| Ah rfl rfl Aa (.inl (congrArg Value.bool (by rw [hlo] at hpos; rw [hpos] <;> rfl))) rfl <| Ah rfl rfl Aa (.inl (congrArg Value.bool (by rw [hlo] at hpos; rw [hpos] <;> rfl))) rfl <| Ag rfl (Ar Aa (by rw [hlo] at hpos; rw [hpos] <;> rfl) Aa) <| Ao <| Ab <| Ai Aa rfl <| AD (Af 1) <| At <| Ax <| Ap rfl Bd ?_
   show Value.int .i64 _ = Value.int .i64 _
   unfold chgErr; rw [if_neg (by rw [← Dc hk, h1]; simp), if_pos (by rw [← Dc hk, hpos] <;> rfl)]
  refine Al <| Ab <| Ac <| Bs (.inl rfl) (fun _ _ h => h) (by kernel_rfl) (by kernel_rfl) fun ds => AR (Af 5) <| B0 <| Ab <| Ac <| AD (Af 3) <| Ad Aa (dF h2) ?_
  have hlo : chgLo g.chs[k] = 1 := if_neg h2
  have hmn : chgMany g.chs[k] = decide (g.chs[k].many = 0) := by unfold chgMany; rw [if_neg h2]; unfold inB; rw [Bool.eq_iff_iff]; simp; omega
  by_cases hpos : inB (chgLo g.chs[k]) g.leaves g.chs[k].pos = true
  ·refine Al <| Ab <| Ac <| Az (Af 5) fun ds => AN rfl (Ay Ec Aa AW (CW _ _ _) (fun _ _ h => h)) <| Aj (Af 2) <| Ae rfl rfl Aa (by rw [hlo] at hpos; rw [hpos] <;> rfl) <| Aj (Af 1) <| Ae rfl rfl Aa (by rw [hlo] at hpos; rw [hpos] <;> rfl) <| Aj (Af 1) <| Ag rfl (As Aa (by rw [hlo] at hpos; rw [hpos] <;> rfl) Aa) <| Ao <| Ab ?_
   by_cases hmany : chgMany g.chs[k] = true
   ·refine Ad Aa (by rw [hmn] at hmany; rw [hmany] <;> rfl) ?_
    by_cases hk0 : k = 0
    ·refine Al <| Ab <| Ac <| AD (Af 2) <| Ai Aa (dT (by omega)) <| AD (Af 1) <| At <| Ax <| Ap rfl Bd ?_
     show Value.int .i64 _ = Value.int .i64 _
     unfold chgErr; rw [if_neg (by rw [← Dc hk, h1]; simp), if_neg (by rw [← Dc hk, hpos, hmany]; simp), if_neg (by omega)]
    have hk1 : k - 1 < g.chs.length := by omega
    have hold := LR (g := g) (k := k) (by rw [← Dc hk]; exact h1) (by rw [← Dc hk, hpos, hmany]; rfl) hk0
    rw [← Dc hk, ← Dc hk1] at hold
    refine Al <| Ab <| Ac <| AD (Af 2) <| Ad Aa (dF (by omega)) <| Al <| Ab <| Az (Af 3) fun ds => Ag rfl (B4 Aa Aa rfl (by omega) (by omega)) <| Ag rfl (A1 (k := k - 1) Bw Aa hc.plain Aa (by omega) hk1) <| Ag rfl (AC (vs := (Chg.enc g.chs[k - 1])) CS Aa rfl rfl (hc.whole hk1)) <| A5 rfl <| AO Hd rfl fun b4 hb4 nb4 => AS <| AP Hh Aa Aa (i := 0) rfl rfl rfl rfl Chg.enc_one (.here) <| Ao <| Ab <| Ac <| Ac ?_
    by_cases h3 : g.chs[k].pos < g.chs[k - 1].pos
    ·refine Am fun ds => Aj (Af 6) <| Ah rfl rfl Aa (.inl (congrArg Value.bool (dT h3))) rfl <| Ah rfl rfl Aa (.inl (congrArg Value.bool (dT h3))) rfl <| Ah rfl rfl Aa (.inl (congrArg Value.bool (dT h3))) rfl <| Ah rfl rfl Aa (.inl (congrArg Value.bool (dT h3))) rfl <| Ah rfl rfl Aa (.inl (congrArg Value.bool (dT h3))) rfl <| Ah rfl rfl Aa (.inl (congrArg Value.bool (dT h3))) rfl <| Ah rfl rfl Aa (.inr rfl) rfl <| Ah rfl rfl Aa (.inr rfl) rfl <| Ah rfl rfl Aa (.inr rfl) rfl <| Ah rfl rfl Aa (.inr rfl) rfl <| Ah rfl rfl Aa (.inr rfl) rfl <| Ah rfl rfl Aa (.inr rfl) rfl <| Ah rfl rfl Aa (.inr rfl) rfl <| Ah rfl rfl Aa (.inr rfl) rfl <| Ah rfl rfl Aa (.inl (congrArg Value.bool (dT h3))) rfl <| Ag rfl (Ar Aa (dT h3) Aa) <| Ao <| Ab <| Ai Aa rfl <| AD (Af 1) <| At <| Ax <| Ap rfl Bd ?_
     show Value.int .i64 _ = Value.int .i64 _
     rw [hold, if_pos (.inl h3)]
    refine Am fun ds => Aj (Af 6) <| Ae rfl rfl Aa (dF h3) <| Aj (Af 1) <| Ae rfl rfl Aa (dF h3) <| Aj (Af 1) <| Ae rfl rfl Aa (dF h3) <| Aj (Af 1) <| Ae rfl rfl Aa (dF h3) <| Aj (Af 1) <| Ae rfl rfl Aa (dF h3) <| Aj (Af 1) <| Ae rfl rfl Aa (dF h3) <| Aj (Af 1) ?_
    by_cases h4 : g.chs[k].pos = g.chs[k - 1].pos
    ·refine Ae rfl rfl Aa (dT h4) <| Aj (Af 1) <| Ae rfl rfl Aa (dT h4) <| Aj (Af 1) <| Ae rfl rfl Aa (dT h4) <| Aj (Af 1) <| Ae rfl rfl Aa (dT h4) <| Aj (Af 1) ?_
     by_cases h5 : g.chs[k].kind = 3
     ·refine Ae rfl rfl Aa (dF (fun h => h h5)) <| Aj (Af 1) <| Ae rfl rfl Aa (dF (fun h => h h5)) <| Aj (Af 1) <| Ae rfl rfl Aa (dF (fun h => h h5)) <| Aj (Af 1) <| Ae rfl rfl Aa (dT h4) <| Ag rfl (As Aa (dF (fun h => h h5)) Aa) <| Ae rfl rfl Aa (dF h3) <| Ag rfl (Ar Aa (dT h4) Aa) <| Ag rfl (As Aa (dF h3) Aa) <| Ao <| Ab ?_
      by_cases h6 : g.chs[k - 1].kind = 3
      ·refine Ai Aa (dT h6) <| AD (Af 1) <| At <| Ax <| Ap rfl Bd ?_
       show Value.int .i64 _ = Value.int .i64 _
       rw [hold, if_pos (.inr ⟨h4, .inr h6⟩)]
      refine Ad Aa (dF h6) <| Al <| Ab <| AD (Af 1) <| At <| Ap rfl Bd ?_
      show Value.int .i64 _ = Value.int .i64 _
      rw [hold, if_neg (fun h => h.elim h3 fun h => h.2.elim (fun q => q h5) h6)]
     refine Ah rfl rfl Aa (.inl (congrArg Value.bool (dT h5))) rfl <| Ah rfl rfl Aa (.inl (congrArg Value.bool (dT h5))) rfl <| Ah rfl rfl Aa (.inl (congrArg Value.bool (dT h5))) rfl <| Ae rfl rfl Aa (dT h4) <| Ag rfl (Ar Aa (dT h5) Aa) <| Ae rfl rfl Aa (dF h3) <| Ag rfl (Ar Aa (dT h4) Aa) <| Ag rfl (As Aa (dF h3) Aa) <| Ao <| Ab <| Ai Aa rfl <| AD (Af 1) <| At <| Ax <| Ap rfl Bd ?_
     show Value.int .i64 _ = Value.int .i64 _
     rw [hold, if_pos (.inr ⟨h4, .inl h5⟩)]
    refine Ah rfl rfl Aa (.inl (congrArg Value.bool (dF h4))) rfl <| Ah rfl rfl Aa (.inl (congrArg Value.bool (dF h4))) rfl <| Ah rfl rfl Aa (.inl (congrArg Value.bool (dF h4))) rfl <| Ah rfl rfl Aa (.inl (congrArg Value.bool (dF h4))) rfl <| Ah rfl rfl Aa (.inr rfl) rfl <| Ah rfl rfl Aa (.inr rfl) rfl <| Ah rfl rfl Aa (.inr rfl) rfl <| Ah rfl rfl Aa (.inl (congrArg Value.bool (dF h4))) rfl <| Ae rfl rfl Aa (dF h3) <| Ag rfl (As Aa (dF h4) Aa) <| Ag rfl (As Aa (dF h3) Aa) <| Ao <| Ab <| Ad Aa rfl <| Al <| Ab <| AD (Af 1) <| At <| Ap rfl Bd ?_
    show Value.int .i64 _ = Value.int .i64 _
    rw [hold, if_neg (fun h => h.elim h3 fun h => h4 h.1)]
   replace hmany : chgMany g.chs[k] = false := by simpa using hmany
   refine Ai Aa (by rw [hmn] at hmany; rw [hmany] <;> rfl) <| AD (Af 1) <| At <| Ax <| Ap rfl Bd ?_
   show Value.int .i64 _ = Value.int .i64 _
   unfold chgErr; rw [if_neg (by rw [← Dc hk, h1]; simp), if_pos (by rw [← Dc hk, hpos, hmany] <;> rfl)]
  replace hpos : inB (chgLo g.chs[k]) g.leaves g.chs[k].pos = false := by simpa using hpos
  refine Al <| Ab <| Ac <| Az (Af 5) fun ds => AN rfl (Ay Ec Aa AW (CW _ _ _) (fun _ _ h => h)) <| Aj (Af 2) <| Ah rfl rfl Aa (.inl (congrArg Value.bool (by rw [hlo] at hpos; rw [hpos] <;> rfl))) rfl <| Ah rfl rfl Aa (.inl (congrArg Value.bool (by rw [hlo] at hpos; rw [hpos] <;> rfl))) rfl <| Ag rfl (Ar Aa (by rw [hlo] at hpos; rw [hpos] <;> rfl) Aa) <| Ao <| Ab <| Ai Aa rfl <| AD (Af 1) <| At <| Ax <| Ap rfl Bd ?_
  show Value.int .i64 _ = Value.int .i64 _
  unfold chgErr; rw [if_neg (by rw [← Dc hk, h1]; simp), if_pos (by rw [← Dc hk, hpos] <;> rfl)]
 replace h1 : inB 1 3 g.chs[k].kind = false := by simpa using h1
 refine Am fun ds => Aj (Af 2) <| AN rfl (Ay Ec Aa AW (CW _ _ _) (fun _ _ h => h)) <| Aw (Af 1) <| Ai Aa (by rw [h1]; rfl) <| AD (Af 1) <| At <| Ax <| Ap rfl Bd ?_
 show Value.int .i64 _ = Value.int .i64 _
 unfold chgErr; rw [if_pos (by rw [← Dc hk]; exact h1)]
end
section
open Go.RowKit
inductive FlatE (P : Program) (xs ys : Array Value) : List Field → Bool → Prop
 | nil : FlatE P xs ys [] true
 | int {f : Field} {fs : List Field} {r : Bool} {k q : IntKind} {a b : Int} (hn : f.name ≠ "_") (hu : P.underlying f.type = some (.int k)) (ho : OneT P f.type) (hx : xs[f.offset]? = some (.int q a)) (hy : ys[f.offset]? = some (.int q b)) (h : FlatE P xs ys fs r) : FlatE P xs ys (f :: fs) ((a == b) && r)
 | bool {f : Field} {fs : List Field} {r : Bool} {a b : Bool} (hn : f.name ≠ "_") (hu : P.underlying f.type = some .bool) (ho : OneT P f.type) (hx : xs[f.offset]? = some (.bool a)) (hy : ys[f.offset]? = some (.bool b)) (h : FlatE P xs ys fs r) : FlatE P xs ys (f :: fs) ((a == b) && r)
section
variable {P : Program} {n : Nat} {B : Base} {e : Env} {σ : St} {d : Option Nat} {ty : TypeId} {pos : String} {af : Array Edge} {gd : Option (Nat × Bool)}
theorem RY {w : World} {xs ys : Array Value} {fs : List Field} {r : Bool} (h : FlatE P xs ys fs r) : (Op.eqFields 9999 xs ys fs).run P w = .ok r w := by
 induction h with
 | nil => simp [Op.eqFields]
 | @int f fs r k q a b hn hu ho hx hy h ih =>
   have p0 : ∀ cs : Array Value, ∀ v, cs[f.offset]? = some v → (part f.type cs f.offset).run P w = .ok v w := fun cs v hv => by simp [part, Ej ho, hv]
   simp only [Op.eqFields, ne_eq, hn, not_false_eq_true, if_true, Sem.run_bind, p0 _ _ hx, p0 _ _ hy, Result.andThen_ok, run_equalIn_int w 9998 f.type q k a b hu]
   cases hab : (a == b) with
   | false => simp
   | true => simp [ih]
 | @bool f fs r a b hn hu ho hx hy h ih =>
   have p0 : ∀ cs : Array Value, ∀ v, cs[f.offset]? = some v → (part f.type cs f.offset).run P w = .ok v w := fun cs v hv => by simp [part, Ej ho, hv]
   simp only [Op.eqFields, ne_eq, hn, not_false_eq_true, if_true, Sem.run_bind, p0 _ _ hx, p0 _ _ hy, Result.andThen_ok, run_equalIn_bool' w 9998 f.type a b hu]
   cases hab : (a == b) with
   | false => simp
   | true => simp [ih]
theorem Ui {T : Nat} {x y : Operand} {u : TypeId} {fs : Array Field} {xs ys : Array Value} {r : Bool} (hu : P.underlying T = some (.struct fs)) (hst : P.stoodInHeld T = false) (hg : P.eqGuardType P.depth T = false) (hfl : FlatE P xs ys fs.toList r) (hx : ev e x = .agg xs) (hy : ev e y = .agg ys) :
   OpR P B ⟨d, .binOp .eql T x y u, ty, pos, af, gd⟩ e σ (.bool r) := fun w _ => by
 have hf : P.fieldsOf T = fs := by simp [Program.fieldsOf, hu]
 have hu' : P.underlying T = some (.struct (P.fieldsOf T)) := by rw [hf]; exact hu
 have he := run_eql_struct (P := P) w T xs ys
 rw [run_equalIn_struct w 9999 T _ _ hu' hst, hf, RY hfl] at he
 have hgd := run_eqGuard_agg (P := P) w .eql T x y xs ys hg
 simp only [execOp, hx, hy, Sem.run_bind, hgd, Result.andThen_ok, he]
 simp
end
end
section
open Go.RowKit
section
variable {P : Program} {n : Nat} {B : Base} {e : Env} {σ : St}
theorem Mb {Q : Exit → Env → St → Prop} {g : Operand} {ps : Array Tmp} {assign body : Code} {gf : FuncId} {cs : List Value} {L0 : Nat} {r0 : Loop} (hro : B.ro = some L0) (hL0 : (L0, Obj.loop r0) ∈ σ.H)
   (hg : ev e g = .func (.func gf) #[] cs.toArray) (hb : Body P gf) (J : Heap → List (Nat × Obj) → Prop) (Jx : Code → Heap → List (Nat × Obj) → Prop)
   (h : ∀ L fn tm, tm.size = n → (∀ t, tm.getD t undef = e t) → OkG P gf (.func (.yield L) #[] #[] :: cs).toArray σ.F ((L, loopO fn tm ps assign body r0.defers .ready none) :: σ.H) fun _ F' H' =>
     ∃ H1, H' = (L, loopO fn tm ps assign body r0.defers .ready none) :: H1 ∧ J F' H1 ∨ ∃ c, H' = (L, loopO fn tm ps assign body r0.defers .done (some c)) :: H1 ∧ Jx c F' H1)
   (hx : ∀ c F' H1, σ.F.le F' → Jx c F' H1 → WC P n B c Q e ⟨F', H1⟩)
   (hn : ∀ F' H1, σ.F.le F' → J F' H1 → Q .normal e ⟨F', H1⟩) : WC P n B (.rangeFunc g ps assign body) Q e σ := by
 intro ds a w ha hw
 have hL := (hw.own _ hL0).1
 rw [hro]
 refine wpIn_rangeFunc fun fn _ => ?_
 let W1 := w.alloc (loopO fn a.tmps ps assign body r0.defers .ready none)
 have hW1 : Holds (B.at ds) ⟨σ.F, (w.heap.size, loopO fn a.tmps ps assign body r0.defers .ready none) :: σ.H⟩ W1 := hw.alloc _
 refine ⟨w.heap.size, [], W1, { target := .fn (.func gf) cs.toArray, args := #[.func (.yield w.heap.size) #[] #[]] }, W1, gf, (.func (.yield w.heap.size) #[] #[] :: cs).toArray, W1, ?_, ?_, fun _ _ => trivial, ?_, fun h => by simp [fence] at h, trivial, ?_⟩
 · exact run_enterLoop_inner hL fn a.tmps ps assign body
 · simp only [resolve, ha.ev, hg]
   simp [go_sem]
   rfl
 · simp only [invoke]
   have := Ek hb (#[.func (.yield w.heap.size) #[] #[]] ++ cs.toArray) W1
   simpa using this
 refine ((EY (ro := some L0) (k := 0 - 1)).2 (((h w.heap.size fn a.tmps ha.size ha.get) W1 hW1.sub (fun p hp => ⟨(hW1.own p hp).1, (hW1.own p hp).2.1⟩) hW1.nodup).mono ?_)).2
 rintro r W2 ⟨v, F', H', rfl, hg', hh, hR⟩
 have hw2 := hW1.growG (Hc := (w.heap.size, loopO fn a.tmps ps assign body r0.defers .ready none) :: σ.H) (rest := []) (by simp) hg' hh
 rw [List.append_nil] at hw2
 have fin : ∀ st pe H1, H' = (w.heap.size, loopO fn a.tmps ps assign body r0.defers st pe) :: H1 → st ≠ .busy →
     ∃ W4, (Instr.endLoop w.heap.size).run P W2 = .ok pe W4 ∧ Holds (B.at ds) ⟨F', H1⟩ W4 := by
   intro st pe H1 he hst
   subst he
   have hl := (hw2.own (w.heap.size, loopO fn a.tmps ps assign body r0.defers st pe) (by simp)).1
   refine ⟨_, run_endLoop hl hst, ?_⟩
   have h4 := hw2.setObj (i := 0) (o' := loopO fn a.tmps ps assign body r0.defers .exhausted pe) rfl
   exact Holds.drop (σ := ⟨F', _⟩) h4 (by simp)
 obtain ⟨H1, hR | ⟨c, hR⟩⟩ := hR
 · obtain ⟨he, hJ⟩ := hR
   obtain ⟨W4, h1, h2⟩ := fin _ _ _ he (by simp)
   exact ⟨none, W4, h1, ds, e, ⟨F', H1⟩, ha, h2, hn F' H1 hg'.le hJ⟩
 obtain ⟨he, hJ⟩ := hR
 obtain ⟨W4, h1, h2⟩ := fin _ _ _ he (by simp)
 have := hx c F' H1 hg'.le hJ ds _ W4 ha h2
 rw [hro] at this
 exact ⟨some c, W4, h1, this⟩
def RoundRN {α : Type} (F0 : Heap) (L : Nat) (lo : LoopState → Option Code → Obj) (J : List α → Heap → List (Nat × Obj) → Prop) (Jx : Code → Heap → List (Nat × Obj) → Prop) (xs : List α) (v : Value) (F' : Heap) (H' : List (Nat × Obj)) : Prop :=
 (v = .bool true ∧ ∃ H2, H' = (L, lo .ready none) :: H2 ∧ F0.le F' ∧ J xs F' H2) ∨ (v = .bool false ∧ ∃ c H2, H' = (L, lo .done (some c)) :: H2 ∧ F0.le F' ∧ Jx c F' H2)
theorem Sc {L : Nat} {lo : LoopState → Option Code → Obj} {R : Value → Heap → List (Nat × Obj) → Prop} {H2 : List (Nat × Obj)} (hp : PickB σ.H ((L, lo .busy none) :: H2)) (hR : R (.bool true) σ.F ((L, lo .ready none) :: H2)) : RoundEG B L lo R .normal e σ :=
 ⟨σ.F, _, fun _ _ h => h.pickB hp, hR⟩
theorem Sb {L : Nat} {lo : LoopState → Option Code → Obj} {R : Value → Heap → List (Nat × Obj) → Prop} {H2 : List (Nat × Obj)} (hp : PickB σ.H ((L, lo .busy none) :: H2)) (hR : R (.bool false) σ.F ((L, lo .done (some .ret)) :: H2)) : RoundEG B L lo R .ret e σ :=
 ⟨σ.F, _, fun _ _ h => h.pickB hp, hR⟩
end
end
section
open Go.RowKit
section
variable {P : Program} {n : Nat} {B : Base} {e : Env} {σ : St}
theorem Grow.keysLe {w w' : World} {F F' : Heap} {M M' : List Nat} (h : Grow w F M w' F') (hm : ∀ b, b ∈ M → b ∈ M') : Grow w F M' w' F' :=
 ⟨h.os, h.tape, h.output, h.size, fun b hb hM => h.old b hb (fun q => hM (hm b q)), h.le, h.sub, h.ext⟩
theorem GF {H H1 : List (Nat × Obj)} (hp : H.Perm H1) : (keys H).Perm (keys H1) := hp.map _
theorem OkYG.perm {L : Nat} {args : List Value} {F : Heap} {H H1 : List (Nat × Obj)} {R R' : Value → Heap → List (Nat × Obj) → Prop} (hp : H.Perm H1) (h : OkYG P L args F H R)
   (hR : ∀ v F' H', R v F' H' → ∃ H'', H'.Perm H'' ∧ R' v F' H'') : OkYG P L args F H1 R' := by
 intro w h1 h2 h3
 obtain ⟨fn, tm, as1, bo, hy, hq⟩ := h w h1 (fun p hp' => h2 p (hp.mem_iff.1 hp')) ((GF hp).nodup_iff.2 h3)
 refine ⟨fn, tm, as1, bo, hy, hq.mono fun r w' hq => ?_⟩
 obtain ⟨v, F', H', q1, q2, ⟨q3, q5⟩, q4⟩ := hq
 obtain ⟨H'', r1, r2⟩ := hR v F' H' q4
 exact ⟨v, F', H'', q1, q2.keysLe (fun b hb => (GF hp).mem_iff.1 hb), ⟨fun p hp' => by
   obtain ⟨s1, s2, s3⟩ := q3 p (r1.mem_iff.2 hp')
   exact ⟨s1, s2, s3.imp (fun k => (GF hp).mem_iff.1 k) id⟩, (GF r1).nodup_iff.1 q5⟩, r2⟩
theorem OkYG.frame {L : Nat} {args : List Value} {F : Heap} {H : List (Nat × Obj)} {R : Value → Heap → List (Nat × Obj) → Prop} (Hf : List (Nat × Obj)) (h : OkYG P L args F H R) :
   OkYG P L args F (Hf ++ H) fun v F' H' => ∃ H2, H' = Hf ++ H2 ∧ R v F' H2 := by
 intro w h1 h2 h3
 have h3' : (keys Hf ++ keys H).Nodup := by have h9 := h3; unfold keys at h9 ⊢; rwa [List.map_append] at h9
 rw [List.nodup_append] at h3'
 obtain ⟨n1, n2, n3⟩ := h3'
 obtain ⟨fn, tm, as1, bo, hy, hq⟩ := h w h1 (fun p hp => h2 p (List.mem_append_right _ hp)) n2
 refine ⟨fn, tm, as1, bo, hy, hq.mono fun r w' hq => ?_⟩
 obtain ⟨v, F', H', q1, q2, ⟨q3, q5⟩, q4⟩ := hq
 have hlt : ∀ p ∈ Hf, p.1 < w.heap.size := fun p hp => (Array.getElem?_eq_some_iff.1 (h2 p (List.mem_append_left _ hp)).1).1
 refine ⟨v, F', Hf ++ H', q1, q2.keysLe (fun b hb => ?_), ⟨fun p hp => ?_, ?_⟩, H', rfl, q4⟩
 · show b ∈ (Hf ++ H).map (·.1)
   rw [List.map_append]; exact List.mem_append_right _ hb
 · rcases List.mem_append.1 hp with hp | hp
   · have hk := List.mem_map_of_mem (f := Prod.fst) hp
     obtain ⟨s1, s2⟩ := h2 p (List.mem_append_left _ hp)
     refine ⟨by rw [q2.old _ (hlt p hp) (fun q => n3 _ hk _ q rfl)]; exact s1, (q2.ext _ (hlt p hp)).trans s2, .inl ?_⟩
     show p.1 ∈ (Hf ++ H).map (·.1)
     rw [List.map_append]; exact List.mem_append_left _ hk
   obtain ⟨s1, s2, s3⟩ := q3 p hp
   refine ⟨s1, s2, s3.imp (fun k => ?_) id⟩
   show p.1 ∈ (Hf ++ H).map (·.1)
   rw [List.map_append]; exact List.mem_append_right _ k
 show ((Hf ++ H').map (·.1)).Nodup
 rw [List.map_append, List.nodup_append]
 refine ⟨n1, q5, fun a ha b hb he => ?_⟩
 obtain ⟨p, hp, rfl⟩ := List.mem_map.1 ha
 obtain ⟨q, hq, rfl⟩ := List.mem_map.1 hb
 rcases (q3 q hq).2.2 with hk | hk
 · exact n3 _ ha _ hk he
 have := hlt p hp; omega
def Ahead {α : Type} (R : List (Nat × Obj)) (J : α → Heap → List (Nat × Obj) → Prop) (a : α) (F : Heap) (H : List (Nat × Obj)) : Prop := ∃ H2, H = R ++ H2 ∧ J a F H2
theorem Hq {p : Nat × Obj} {R H : List (Nat × Obj)} : (p :: (R ++ H)).Perm (R ++ p :: H) := List.perm_middle.symm
theorem Gb {p q : Nat × Obj} {R H : List (Nat × Obj)} : (p :: q :: (R ++ H)).Perm (R ++ p :: q :: H) := (List.Perm.cons p List.perm_middle.symm).trans List.perm_middle.symm
end
end
section
open Go.RowKit
theorem B8 {F : Heap} {H : List (Nat × Obj)} {b T o n : Nat} {l vs : List Value} (hz : F b = some (bx T l)) (hv : (l.drop o).take n = vs) : ∀ j v, vs[j]? = some v → Cell ⟨F, H⟩ (addc ⟨b, o, none⟩ j) v := fun j v h => by
 subst hv
 have h2 : l[o + j]? = some v := by
   rw [List.getElem?_take] at h
   split at h
   · rw [List.getElem?_drop] at h; exact h
   cases h
 exact (CellF.own hz h2).cell
end
section
set_option maxHeartbeats 1000000
set_option maxRecDepth 100000
open Go.RowKit
theorem J2 : ZeroT Tryz.prog 117 (.agg #[.int .i64 0, .int .i64 0, .int .i64 0, .slice none 0 0]) := Br (by kernel_rfl)
theorem BS : AggT Tryz.prog 114 2 := Cu (by kernel_rfl)
instance : AggI Tryz.prog 114 2 := ⟨BS⟩
theorem CG : AggT Tryz.prog 117 4 := Cu (by kernel_rfl)
instance : AggI Tryz.prog 117 4 := ⟨CG⟩
theorem bd_83 : Body Tryz.prog 83 := AE (by kernel_rfl)
theorem Ru : Body Tryz.prog 84 := AE (by kernel_rfl)
theorem K2 : Body Tryz.prog 85 := AE (by kernel_rfl)
theorem Pc : FieldT Tryz.prog 117 0 0 := AU (by kernel_rfl)
instance : FieldI Tryz.prog 117 0 0 := ⟨Pc⟩
theorem Ri : FieldT Tryz.prog 24 1 1 := AU (by kernel_rfl)
instance : FieldI Tryz.prog 24 1 1 := ⟨Ri⟩
theorem DG : OneT Tryz.prog 22 := BE (by kernel_rfl)
instance : OneI Tryz.prog 22 := ⟨DG⟩
theorem Dy : SliceT Tryz.prog 22 117 4 := Ci (by kernel_rfl)
instance : SliceI Tryz.prog 22 := ⟨_, _, Dy⟩
theorem Nt : SizeT Tryz.prog 117 4 := Bx (by kernel_rfl)
theorem Uh {B : Base} {e : Env} {σ : St} {d : Option Nat} {ty : TypeId} {pos : String} {af : Array Edge} {gd : Option (Nat × Bool)} {x y : Operand} {u : TypeId} {a b : Sg} (hx : ev e x = .agg #[.int .i64 a.round, .int .i64 a.letter]) (hy : ev e y = .agg #[.int .i64 b.round, .int .i64 b.letter]) :
   OpR Tryz.prog B ⟨d, .binOp .eql 114 x y u, ty, pos, af, gd⟩ e σ (.bool (decide (a = b))) := by
 have h := Ui (P := Tryz.prog) (B := B) (σ := σ) (d := d) (u := u) (ty := ty) (pos := pos) (af := af) (gd := gd) Tryz.underlying114 (show Tryz.prog.stoodInHeld 114 = false by kernel_rfl) (show Tryz.prog.eqGuardType Tryz.prog.depth 114 = false by kernel_rfl) (.int (by decide) Tryz.underlying3 (AF) rfl rfl (.int (by decide) Tryz.underlying3 (AF) rfl rfl .nil)) hx hy
 refine cast (congrArg _ (congrArg Value.bool ?_)) h
 rw [Bool.eq_iff_iff, decide_eq_true_iff]
 cases a; cases b
 simp [Sg.mk.injEq]
def metTo (b : Qbk) (i k : Nat) : Bool := (List.range k).any fun j => decide ((b.g j).sig = (b.g i).sig)
theorem U0 {b : Qbk} {i k : Nat} (h : metTo b i k = false) (hn : ¬ (b.g k).sig = (b.g i).sig) : metTo b i (k + 1) = false := by
 unfold metTo at h ⊢; rw [List.range_succ, List.any_append, h]; simp [hn]
theorem U1 {b : Qbk} {i k : Nat} (hk : k < i) (hy : (b.g k).sig = (b.g i).sig) : metS b i = true := List.any_eq_true.2 ⟨k, List.mem_range.2 hk, dT hy⟩
theorem Jh {F : Heap} {vg : Value} {qs : List (Value × Gth)} {b : Qbk} (hb : QbkR F vg qs b) {i : Nat} (hi : i < qs.length) (hall : ∀ k, k < i → noneS (b.g k).sig = false) : Ok Tryz.prog 49 [.agg #[.int .i64 b.signed, vg], .int .i64 (i : Int)].toArray F fun r _ => r = .int .i64 (gthRef b i) := by
 have hL1 := hb.gs.plain.lt
 have hgi : qs[i].2 = b.g i := hb.at hi
 have hcs := hb.chs _ (List.getElem_mem hi)
 have hL2 := hcs.plain.lt
 refine Ok.intro Tryz.func49 rfl Tryz.ntmps49 rfl fun w0 => Ac <| Am fun ds => A5 rfl <| Bg Aa rfl fun b1 hb1 nb1 => Aw (Af 1) <| Az (Af 3) fun ds => Ag rfl (A1 (k := i) Dy Aa hb.gs.plain Aa rfl hi) <| Ag rfl (AC (vs := (gE qs[i])) CG Aa rfl rfl (hb.gs.whole hi)) <| A5 rfl <| AO J2 rfl fun b2 hb2 nb2 => AS <| AP Nt Aa Aa (i := 0) rfl rfl rfl rfl (hb.ones _ (List.getElem_mem hi)) (.here) <| Ao <| Ab <| Ac <| Ac ?_
 by_cases h0 : noneS qs[i].2.sig = true
 ·refine Am fun ds => Aj (Af 1) <| Ag rfl (AC (vs := [.int .i64 qs[i].2.sig.round, .int .i64 qs[i].2.sig.letter]) BS Aa rfl rfl (HX 0 rfl rfl)) <| AN rfl (Ay bd_83 Aa AW (HQ qs[i].2.sig) (fun _ _ h => h)) <| Aw (Af 1) <| Ai Aa (by rw [h0] <;> rfl) <| AD (Af 1) <| At <| Ax <| Ap rfl Bd ?_
  show Value.int .i64 _ = Value.int .i64 _
  unfold gthRef; rw [if_pos (by rw [← hgi]; exact h0)]
 replace h0 : noneS qs[i].2.sig = false := by simpa using h0
 refine Am fun ds => Aj (Af 1) <| Ag rfl (AC (vs := [.int .i64 qs[i].2.sig.round, .int .i64 qs[i].2.sig.letter]) BS Aa rfl rfl (HX 0 rfl rfl)) <| AN rfl (Ay bd_83 Aa AW (HQ qs[i].2.sig) (fun _ _ h => h)) <| Aw (Af 1) <| Ad Aa (by rw [h0] <;> rfl) <| AK (i := 1) rfl hb1 (.next <| .here) fun F3 hF4 hz2 => ?_
 refine AK (i := 0) rfl hb2 (.here) fun F5 hF6 hz5 => ?_
 have hU62 := Heap.le_trans hF4 hF6
 replace hb := hb.mono hU62
 replace hcs := hcs.mono hU62
 replace hz2 := hF6 _ _ hz2
 refine Al <| Ab <| AD (Af 1) <| Ac <| AD (Af 1) <| Aq ?_
 refine AL [4, 6, 7, 19, 20, 21, 22, 23, 24, 25, 26, 27, 28, 29, 30, 31, 32, 33, 34, 35, 36, 37, 38, 39, 40, 41] (fun m e σ => ∃ k : Nat, m + k = i ∧ Fct e 7 (.int .i64 (k : Int)) ∧ Fct e 6 (.int .i64 (maxR b k)) ∧ metTo b i k = false ∧ σ = ⟨F5, []⟩) (i) ?_ ?_
 · exact ⟨0, by omega, AX, AX, rfl, rfl⟩
 rintro m1 e1 _ ⟨k, hm1, hs7, hs6, hmt, rfl⟩
 by_cases hki : k < i
 ·refine Ac <| AD (Af 3) <| Ai Aa (by first | rfl | exact dT (by omega)) ?_
  have hqk : qs[k].2 = b.g k := hb.at (by omega)
  have hnk := hall k hki
  by_cases hs : qs[k].2.sig = qs[i].2.sig
  ·refine Al <| Ab <| Ac <| Aq <| Ac <| Ac <| Bs (.inl rfl) (fun _ _ h => h) (by kernel_rfl) (by kernel_rfl) fun ds => AR (Af 1) <| AT rfl (Ak DG Aa (AA hz2 rfl)) <| AR (Af 1) <| AT rfl (A1 (k := k) Dy Aa hb.gs.plain Aa rfl (by omega)) <| AR (Af 1) <| AT rfl (AC (vs := [.int .i64 qs[k].2.sig.round, .int .i64 qs[k].2.sig.letter]) BS Aa rfl rfl (hb.gs.part (off := 0) (rest := [.int .i64 qs[k].2.leaves, qs[k].1]) (by omega) rfl)) <| AR (Af 1) <| AT rfl (AC (vs := [.int .i64 qs[i].2.sig.round, .int .i64 qs[i].2.sig.letter]) BS Aa rfl rfl (B8 hz5 (n := 2) rfl)) <| AT rfl (Uh Aa Aa) <| B0 <| Ab <| Ai Aa (dT hs) <| AD (Af 1) <| At ?_
   refine Ax (A7 (Ax (Ax (A7 (Ax ?_)))))
   refine Ap rfl Bd ?_
   show Value.int .i64 _ = Value.int .i64 _
   unfold gthRef; rw [if_neg (by rw [← hgi, h0]; simp), if_pos (U1 hki (by rw [← hqk, ← hgi]; exact hs))]
  refine Al <| Ab <| Ac <| Aq <| Ac <| Ac <| Bs (.inl rfl) (fun _ _ h => h) (by kernel_rfl) (by kernel_rfl) fun ds => AR (Af 1) <| AT rfl (Ak DG Aa (AA hz2 rfl)) <| AR (Af 1) <| AT rfl (A1 (k := k) Dy Aa hb.gs.plain Aa rfl (by omega)) <| AR (Af 1) <| AT rfl (AC (vs := [.int .i64 qs[k].2.sig.round, .int .i64 qs[k].2.sig.letter]) BS Aa rfl rfl (hb.gs.part (off := 0) (rest := [.int .i64 qs[k].2.leaves, qs[k].1]) (by omega) rfl)) <| AR (Af 1) <| AT rfl (AC (vs := [.int .i64 qs[i].2.sig.round, .int .i64 qs[i].2.sig.letter]) BS Aa rfl rfl (B8 hz5 (n := 2) rfl)) <| AT rfl (Uh Aa Aa) <| B0 <| Ab <| Ad Aa (dF hs) <| Al <| Ab <| Am fun ds => Aj (Af 2) <| Ag rfl (Ak DG Aa (AA hz2 rfl)) <| Aj (Af 1) <| Ag rfl (A1 (k := k) Dy Aa hb.gs.plain Aa rfl (by omega)) <| Aj (Af 1) <| Ag rfl (AC (vs := [.int .i64 qs[k].2.sig.round, .int .i64 qs[k].2.sig.letter]) BS Aa rfl rfl (hb.gs.part (off := 0) (rest := [.int .i64 qs[k].2.leaves, qs[k].1]) (by omega) rfl)) <| AN rfl (Ay Ru Aa AW (KB (s := qs[k].2.sig) (by rw [hqk]; exact hnk)) (fun _ _ h => h)) <| Aj (Af 2) <| Ao <| A0 <| Ab <| Am fun ds => Aj (Af 1) <| Ag rfl (AG Aa Aa rfl (by omega) (by omega)) <| Aj (Af 1) <| Ao ?_
  refine Ab ⟨_, m1 - 1, Off.eq (B3 rfl <| BR rfl <| BX rfl <| A2), by omega, ?_⟩
  refine ⟨k + 1, by omega, AX, Cr (congrArg (Value.int .i64) (by rw [maxR, hqk])), U0 hmt (by rw [← hqk, ← hgi]; exact hs), rfl⟩
 refine Ac <| AD (Af 3) <| Ad Aa (by first | rfl | exact dF (by omega)) ?_
 obtain rfl : i = k := by omega
 have hmet : metS b i = false := hmt
 by_cases hr0 : 0 ≤ rankS qs[i].2.sig
 ·refine AH ?_
  refine A8 <| A8 <| AB <| Ab <| Ac <| Az (Af 1) fun ds => Ag rfl (AC (vs := [.int .i64 qs[i].2.sig.round, .int .i64 qs[i].2.sig.letter]) BS Aa rfl rfl (B8 hz5 (n := 2) rfl)) <| AN rfl (Ay Ru Aa AW (KB (s := qs[i].2.sig) h0) (fun _ _ h => h)) <| Aj (Af 2) <| Ae rfl rfl Aa (dT hr0) <| Aj (Af 1) <| Ae rfl rfl Aa (dT hr0) <| Ag rfl (AC (vs := [.int .i64 qs[i].2.sig.round, .int .i64 qs[i].2.sig.letter]) BS Aa rfl rfl (B8 hz5 (n := 2) rfl)) <| Ae rfl rfl Aa (dT hr0) <| AN rfl (Ay Ru Aa AW (KB (s := qs[i].2.sig) h0) (fun _ _ h => h)) <| Ae rfl rfl Aa (dT hr0) <| Aj (Af 1) <| Ae rfl rfl Aa (dT hr0) <| Aj (Af 1) <| Ag rfl (Ar Aa (dT hr0) Aa) <| Ao <| Ab ?_
  by_cases hr1 : rankS qs[i].2.sig < maxR b i
  ·refine Ai Aa (dT hr1) <| AD (Af 1) <| At <| Ax <| Ap rfl Bd ?_
   show Value.int .i64 _ = Value.int .i64 _
   unfold gthRef; rw [if_neg (by rw [← hgi, h0]; simp), if_neg (by rw [hmet]; simp), if_pos (by rw [← hgi]; exact ⟨hr0, hr1⟩)]
  have hT : gthRef b i = tailErr (b.g i) := by unfold gthRef; rw [if_neg (by rw [← hgi, h0]; simp), if_neg (by rw [hmet]; simp), if_neg (fun h => hr1 (by rw [hgi]; exact h.2))]
  refine Ad Aa (dF hr1) <| Al <| Ab <| Ac <| Ac ?_
  by_cases h1 : qs[i].2.leaves = 1
  ·have hlv : lvErr qs[i].2 = false := by unfold lvErr; rw [dF (fun h => h h1)] <;> rfl
   refine Am fun ds => Aj (Af 1) <| Ag rfl (Ak AF Aa (AA hz5 rfl)) <| Aj (Af 2) <| Ah rfl rfl Aa (.inl (congrArg Value.bool (dF (fun h => h h1)))) rfl <| Ah rfl rfl Aa (.inl (congrArg Value.bool (dF (fun h => h h1)))) rfl <| Ah rfl rfl Aa (.inl (congrArg Value.bool (dF (fun h => h h1)))) rfl <| Ah rfl rfl Aa (.inl (congrArg Value.bool (dF (fun h => h h1)))) rfl <| Ah rfl rfl Aa (.inl (congrArg Value.bool (dF (fun h => h h1)))) rfl <| Ah rfl rfl Aa (.inr rfl) rfl <| Ah rfl rfl Aa (.inr rfl) rfl <| Ah rfl rfl Aa (.inr rfl) rfl <| Ah rfl rfl Aa (.inr rfl) rfl <| Ah rfl rfl Aa (.inl (congrArg Value.bool (dF (fun h => h h1)))) rfl <| Ag rfl (As Aa (dF (fun h => h h1)) Aa) <| Ao <| Ab <| Ad Aa rfl ?_
   by_cases h4 : 4 < qs[i].2.chs.length
   ·refine Al <| Ab <| Ac <| Az (Af 1) fun ds => Ag rfl (Ak Bv Aa (AA hz5 rfl)) <| Ag rfl (A4 Bw Aa hcs.plain) <| Aw (Af 1) <| Ai Aa (dT (by omega)) <| AD (Af 1) <| At <| Ax <| Ap rfl Bd ?_
    show Value.int .i64 _ = Value.int .i64 _
    rw [hT]; unfold tailErr; rw [if_neg (by rw [← hgi, hlv]; simp), if_pos (by rw [← hgi]; exact h4)]
   refine Al <| Ab <| Ac <| Az (Af 1) fun ds => Ag rfl (Ak Bv Aa (AA hz5 rfl)) <| Ag rfl (A4 Bw Aa hcs.plain) <| Aw (Af 1) <| Ad Aa (dF (by omega)) <| Al <| Ab <| Ac <| AD (Af 1) <| Aq ?_
   refine AL [4, 8, 9, 72, 73, 74, 75, 76, 77, 78, 79, 80, 81, 82, 83, 84] (fun m e σ => ∃ k : Nat, m + k = qs[i].2.chs.length ∧ Fct e 8 (.int .i64 (k : Int)) ∧ (∀ j, j < k → chgErr qs[i].2 j = 0) ∧ σ = ⟨F5, []⟩) (qs[i].2.chs.length) ?_ ?_
   · exact ⟨0, by omega, AX, (fun j h => absurd h (by omega)), rfl⟩
   rintro m2 e2 _ ⟨k, hm2, ht8, hno, rfl⟩
   by_cases hk : k < qs[i].2.chs.length
   ·refine Ac <| Az (Af 2) fun ds => Ag rfl (Ak Bv Aa (AA hz5 rfl)) <| Ag rfl (A4 Bw Aa hcs.plain) <| Aw (Af 1) <| Ai Aa (by first | rfl | exact dT (by omega)) ?_
    by_cases hz : chgErr qs[i].2 k = 0
    ·refine Al <| Ab <| Ac <| Aq <| Ac <| Am fun ds => Ag rfl (AC (vs := (gE qs[i])) CG Aa rfl rfl (Ba hz5)) <| Aj (Af 1) <| AN rfl (Ay K2 Aa AW (Dt (g := qs[i].2) hcs hk) (fun _ _ h => h)) <| Aw (Af 1) <| AD (Af 2) <| Ad Aa (dF (fun h => h hz)) <| Al <| A0 <| Ab <| Am fun ds => Aj (Af 1) <| Ag rfl (AG Aa Aa rfl (by omega) (by omega)) <| Aj (Af 1) <| Ao ?_
     refine Ab ⟨_, m2 - 1, Off.eq (BR rfl <| Ca rfl <| BM rfl <| A2), by omega, ?_⟩
     refine ⟨k + 1, by omega, AX, ?_, rfl⟩
     intro j hj
     rcases Nat.lt_succ_iff_lt_or_eq.1 hj with hj | rfl
     · exact hno j hj
     exact hz
    refine Al <| Ab <| Ac <| Aq <| Ac <| Am fun ds => Ag rfl (AC (vs := (gE qs[i])) CG Aa rfl rfl (Ba hz5)) <| Aj (Af 1) <| AN rfl (Ay K2 Aa AW (Dt (g := qs[i].2) hcs hk) (fun _ _ h => h)) <| Aw (Af 1) <| AD (Af 2) <| Ai Aa (dT hz) <| AD (Af 2) <| At ?_
    refine A7 (Ax (Ax (A7 (Ax ?_))))
    refine Ap rfl Bd ?_
    show Value.int .i64 _ = Value.int .i64 _
    rw [hT]; unfold tailErr; rw [if_neg (by rw [← hgi, hlv]; simp), if_neg (by rw [← hgi]; omega), ← hgi, EB hk hno hz]
   refine Ac <| Az (Af 2) fun ds => Ag rfl (Ak Bv Aa (AA hz5 rfl)) <| Ag rfl (A4 Bw Aa hcs.plain) <| Aw (Af 1) <| Ad Aa (by first | rfl | exact dF (by omega)) ?_
   obtain rfl : k = qs[i].2.chs.length := by omega
   refine AH ?_
   refine A8 <| A8 <| AB <| Ab <| AD (Af 1) <| At <| Ap rfl Bd ?_
   show Value.int .i64 _ = Value.int .i64 _
   rw [hT]; unfold tailErr; rw [if_neg (by rw [← hgi, hlv]; simp), if_neg (by rw [← hgi]; omega), ← hgi, Fj hno]
  refine Am fun ds => Aj (Af 1) <| Ag rfl (Ak AF Aa (AA hz5 rfl)) <| Aj (Af 2) <| Ae rfl rfl Aa (dT h1) <| Aj (Af 1) <| Ae rfl rfl Aa (dT h1) <| Ag rfl (Ak AF Aa (AA hz5 rfl)) <| Ae rfl rfl Aa (dT h1) <| AN rfl (Ay Ec Aa AW (CW _ _ _) (fun _ _ h => h)) <| Ae rfl rfl Aa (dT h1) <| Aj (Af 1) <| Ae rfl rfl Aa (dT h1) <| Aj (Af 1) ?_
  by_cases h2 : inB 2 12 qs[i].2.leaves = true
  ·have hlb := Cn.1 h2
   refine Ae rfl rfl Aa (by rw [h2] <;> rfl) <| Aj (Af 1) <| Ae rfl rfl Aa (by rw [h2] <;> rfl) <| Ag rfl (Ak AF Aa (AA hz5 rfl)) <| Ae rfl rfl Aa (by rw [h2] <;> rfl) <| Ag rfl (HV Aa Aa (by omega) (by decide)) <| Ae rfl rfl Aa (by rw [h2] <;> rfl) <| Aj (Af 1) <| Ae rfl rfl Aa (dT h1) <| Ag rfl (As Aa (by rw [h2] <;> rfl) Aa) <| Ag rfl (Ar Aa (dT h1) Aa) <| Ao <| Ab ?_
   by_cases h3 : qs[i].2.leaves % 2 = 1
   ·have hlv : lvErr qs[i].2 = true := by unfold lvErr; rw [dT h1, h2, dT h3] <;> rfl
    refine Ai Aa (dT h3) <| AD (Af 1) <| At <| Ax <| Ap rfl Bd ?_
    show Value.int .i64 _ = Value.int .i64 _
    rw [hT]; unfold tailErr; rw [if_pos (by rw [← hgi]; exact hlv)]
   have hlv : lvErr qs[i].2 = false := by unfold lvErr; rw [dT h1, h2, dF h3] <;> rfl
   refine Ad Aa (dF h3) ?_
   by_cases h4 : 4 < qs[i].2.chs.length
   ·refine Al <| Ab <| Ac <| Az (Af 1) fun ds => Ag rfl (Ak Bv Aa (AA hz5 rfl)) <| Ag rfl (A4 Bw Aa hcs.plain) <| Aw (Af 1) <| Ai Aa (dT (by omega)) <| AD (Af 1) <| At <| Ax <| Ap rfl Bd ?_
    show Value.int .i64 _ = Value.int .i64 _
    rw [hT]; unfold tailErr; rw [if_neg (by rw [← hgi, hlv]; simp), if_pos (by rw [← hgi]; exact h4)]
   refine Al <| Ab <| Ac <| Az (Af 1) fun ds => Ag rfl (Ak Bv Aa (AA hz5 rfl)) <| Ag rfl (A4 Bw Aa hcs.plain) <| Aw (Af 1) <| Ad Aa (dF (by omega)) <| Al <| Ab <| Ac <| AD (Af 1) <| Aq ?_
   refine AL [4, 8, 9, 72, 73, 74, 75, 76, 77, 78, 79, 80, 81, 82, 83, 84] (fun m e σ => ∃ k : Nat, m + k = qs[i].2.chs.length ∧ Fct e 8 (.int .i64 (k : Int)) ∧ (∀ j, j < k → chgErr qs[i].2 j = 0) ∧ σ = ⟨F5, []⟩) (qs[i].2.chs.length) ?_ ?_
   · exact ⟨0, by omega, AX, (fun j h => absurd h (by omega)), rfl⟩
   rintro m2 e2 _ ⟨k, hm2, ht8, hno, rfl⟩
   by_cases hk : k < qs[i].2.chs.length
   ·refine Ac <| Az (Af 2) fun ds => Ag rfl (Ak Bv Aa (AA hz5 rfl)) <| Ag rfl (A4 Bw Aa hcs.plain) <| Aw (Af 1) <| Ai Aa (by first | rfl | exact dT (by omega)) ?_
    by_cases hz : chgErr qs[i].2 k = 0
    ·refine Al <| Ab <| Ac <| Aq <| Ac <| Am fun ds => Ag rfl (AC (vs := (gE qs[i])) CG Aa rfl rfl (Ba hz5)) <| Aj (Af 1) <| AN rfl (Ay K2 Aa AW (Dt (g := qs[i].2) hcs hk) (fun _ _ h => h)) <| Aw (Af 1) <| AD (Af 2) <| Ad Aa (dF (fun h => h hz)) <| Al <| A0 <| Ab <| Am fun ds => Aj (Af 1) <| Ag rfl (AG Aa Aa rfl (by omega) (by omega)) <| Aj (Af 1) <| Ao ?_
     refine Ab ⟨_, m2 - 1, Off.eq (BR rfl <| Ca rfl <| BM rfl <| A2), by omega, ?_⟩
     refine ⟨k + 1, by omega, AX, ?_, rfl⟩
     intro j hj
     rcases Nat.lt_succ_iff_lt_or_eq.1 hj with hj | rfl
     · exact hno j hj
     exact hz
    refine Al <| Ab <| Ac <| Aq <| Ac <| Am fun ds => Ag rfl (AC (vs := (gE qs[i])) CG Aa rfl rfl (Ba hz5)) <| Aj (Af 1) <| AN rfl (Ay K2 Aa AW (Dt (g := qs[i].2) hcs hk) (fun _ _ h => h)) <| Aw (Af 1) <| AD (Af 2) <| Ai Aa (dT hz) <| AD (Af 2) <| At ?_
    refine A7 (Ax (Ax (A7 (Ax ?_))))
    refine Ap rfl Bd ?_
    show Value.int .i64 _ = Value.int .i64 _
    rw [hT]; unfold tailErr; rw [if_neg (by rw [← hgi, hlv]; simp), if_neg (by rw [← hgi]; omega), ← hgi, EB hk hno hz]
   refine Ac <| Az (Af 2) fun ds => Ag rfl (Ak Bv Aa (AA hz5 rfl)) <| Ag rfl (A4 Bw Aa hcs.plain) <| Aw (Af 1) <| Ad Aa (by first | rfl | exact dF (by omega)) ?_
   obtain rfl : k = qs[i].2.chs.length := by omega
   refine AH ?_
   refine A8 <| A8 <| AB <| Ab <| AD (Af 1) <| At <| Ap rfl Bd ?_
   show Value.int .i64 _ = Value.int .i64 _
   rw [hT]; unfold tailErr; rw [if_neg (by rw [← hgi, hlv]; simp), if_neg (by rw [← hgi]; omega), ← hgi, Fj hno]
  replace h2 : inB 2 12 qs[i].2.leaves = false := by simpa using h2
  have hlv : lvErr qs[i].2 = true := by unfold lvErr; rw [dT h1, h2] <;> rfl
  refine Ah rfl rfl Aa (.inl (congrArg Value.bool (by rw [h2] <;> rfl))) rfl <| Ah rfl rfl Aa (.inl (congrArg Value.bool (by rw [h2] <;> rfl))) rfl <| Ah rfl rfl Aa (.inl (congrArg Value.bool (by rw [h2] <;> rfl))) rfl <| Ah rfl rfl Aa (.inl (congrArg Value.bool (by rw [h2] <;> rfl))) rfl <| Ae rfl rfl Aa (dT h1) <| Ag rfl (Ar Aa (by rw [h2] <;> rfl) Aa) <| Ag rfl (Ar Aa (dT h1) Aa) <| Ao <| Ab <| Ai Aa rfl <| AD (Af 1) <| At <| Ax <| Ap rfl Bd ?_
  show Value.int .i64 _ = Value.int .i64 _
  rw [hT]; unfold tailErr; rw [if_pos (by rw [← hgi]; exact hlv)]
 have hT : gthRef b i = tailErr (b.g i) := by unfold gthRef; rw [if_neg (by rw [← hgi, h0]; simp), if_neg (by rw [hmet]; simp), if_neg (fun h => hr0 (by rw [hgi]; exact h.1))]
 refine AH ?_
 refine A8 <| A8 <| AB <| Ab <| Ac <| Az (Af 1) fun ds => Ag rfl (AC (vs := [.int .i64 qs[i].2.sig.round, .int .i64 qs[i].2.sig.letter]) BS Aa rfl rfl (B8 hz5 (n := 2) rfl)) <| AN rfl (Ay Ru Aa AW (KB (s := qs[i].2.sig) h0) (fun _ _ h => h)) <| Aj (Af 2) <| Ah rfl rfl Aa (.inl (congrArg Value.bool (dF hr0))) rfl <| Ah rfl rfl Aa (.inl (congrArg Value.bool (dF hr0))) rfl <| Ah rfl rfl Aa (.inl (congrArg Value.bool (dF hr0))) rfl <| Ah rfl rfl Aa (.inl (congrArg Value.bool (dF hr0))) rfl <| Ah rfl rfl Aa (.inl (congrArg Value.bool (dF hr0))) rfl <| Ag rfl (As Aa (dF hr0) Aa) <| Ao <| Ab <| Ad Aa rfl <| Al <| Ab <| Ac <| Ac ?_
 by_cases h1 : qs[i].2.leaves = 1
 ·have hlv : lvErr qs[i].2 = false := by unfold lvErr; rw [dF (fun h => h h1)] <;> rfl
  refine Am fun ds => Aj (Af 1) <| Ag rfl (Ak AF Aa (AA hz5 rfl)) <| Aj (Af 2) <| Ah rfl rfl Aa (.inl (congrArg Value.bool (dF (fun h => h h1)))) rfl <| Ah rfl rfl Aa (.inl (congrArg Value.bool (dF (fun h => h h1)))) rfl <| Ah rfl rfl Aa (.inl (congrArg Value.bool (dF (fun h => h h1)))) rfl <| Ah rfl rfl Aa (.inl (congrArg Value.bool (dF (fun h => h h1)))) rfl <| Ah rfl rfl Aa (.inl (congrArg Value.bool (dF (fun h => h h1)))) rfl <| Ah rfl rfl Aa (.inr rfl) rfl <| Ah rfl rfl Aa (.inr rfl) rfl <| Ah rfl rfl Aa (.inr rfl) rfl <| Ah rfl rfl Aa (.inr rfl) rfl <| Ah rfl rfl Aa (.inl (congrArg Value.bool (dF (fun h => h h1)))) rfl <| Ag rfl (As Aa (dF (fun h => h h1)) Aa) <| Ao <| Ab <| Ad Aa rfl ?_
  by_cases h4 : 4 < qs[i].2.chs.length
  ·refine Al <| Ab <| Ac <| Az (Af 1) fun ds => Ag rfl (Ak Bv Aa (AA hz5 rfl)) <| Ag rfl (A4 Bw Aa hcs.plain) <| Aw (Af 1) <| Ai Aa (dT (by omega)) <| AD (Af 1) <| At <| Ax <| Ap rfl Bd ?_
   show Value.int .i64 _ = Value.int .i64 _
   rw [hT]; unfold tailErr; rw [if_neg (by rw [← hgi, hlv]; simp), if_pos (by rw [← hgi]; exact h4)]
  refine Al <| Ab <| Ac <| Az (Af 1) fun ds => Ag rfl (Ak Bv Aa (AA hz5 rfl)) <| Ag rfl (A4 Bw Aa hcs.plain) <| Aw (Af 1) <| Ad Aa (dF (by omega)) <| Al <| Ab <| Ac <| AD (Af 1) <| Aq ?_
  refine AL [4, 8, 9, 72, 73, 74, 75, 76, 77, 78, 79, 80, 81, 82, 83, 84] (fun m e σ => ∃ k : Nat, m + k = qs[i].2.chs.length ∧ Fct e 8 (.int .i64 (k : Int)) ∧ (∀ j, j < k → chgErr qs[i].2 j = 0) ∧ σ = ⟨F5, []⟩) (qs[i].2.chs.length) ?_ ?_
  · exact ⟨0, by omega, AX, (fun j h => absurd h (by omega)), rfl⟩
  rintro m2 e2 _ ⟨k, hm2, ht8, hno, rfl⟩
  by_cases hk : k < qs[i].2.chs.length
  ·refine Ac <| Az (Af 2) fun ds => Ag rfl (Ak Bv Aa (AA hz5 rfl)) <| Ag rfl (A4 Bw Aa hcs.plain) <| Aw (Af 1) <| Ai Aa (by first | rfl | exact dT (by omega)) ?_
   by_cases hz : chgErr qs[i].2 k = 0
   ·refine Al <| Ab <| Ac <| Aq <| Ac <| Am fun ds => Ag rfl (AC (vs := (gE qs[i])) CG Aa rfl rfl (Ba hz5)) <| Aj (Af 1) <| AN rfl (Ay K2 Aa AW (Dt (g := qs[i].2) hcs hk) (fun _ _ h => h)) <| Aw (Af 1) <| AD (Af 2) <| Ad Aa (dF (fun h => h hz)) <| Al <| A0 <| Ab <| Am fun ds => Aj (Af 1) <| Ag rfl (AG Aa Aa rfl (by omega) (by omega)) <| Aj (Af 1) <| Ao ?_
    refine Ab ⟨_, m2 - 1, Off.eq (BR rfl <| Ca rfl <| BM rfl <| A2), by omega, ?_⟩
    refine ⟨k + 1, by omega, AX, ?_, rfl⟩
    intro j hj
    rcases Nat.lt_succ_iff_lt_or_eq.1 hj with hj | rfl
    · exact hno j hj
    exact hz
   refine Al <| Ab <| Ac <| Aq <| Ac <| Am fun ds => Ag rfl (AC (vs := (gE qs[i])) CG Aa rfl rfl (Ba hz5)) <| Aj (Af 1) <| AN rfl (Ay K2 Aa AW (Dt (g := qs[i].2) hcs hk) (fun _ _ h => h)) <| Aw (Af 1) <| AD (Af 2) <| Ai Aa (dT hz) <| AD (Af 2) <| At ?_
   refine A7 (Ax (Ax (A7 (Ax ?_))))
   refine Ap rfl Bd ?_
   show Value.int .i64 _ = Value.int .i64 _
   rw [hT]; unfold tailErr; rw [if_neg (by rw [← hgi, hlv]; simp), if_neg (by rw [← hgi]; omega), ← hgi, EB hk hno hz]
  refine Ac <| Az (Af 2) fun ds => Ag rfl (Ak Bv Aa (AA hz5 rfl)) <| Ag rfl (A4 Bw Aa hcs.plain) <| Aw (Af 1) <| Ad Aa (by first | rfl | exact dF (by omega)) ?_
  obtain rfl : k = qs[i].2.chs.length := by omega
  refine AH ?_
  refine A8 <| A8 <| AB <| Ab <| AD (Af 1) <| At <| Ap rfl Bd ?_
  show Value.int .i64 _ = Value.int .i64 _
  rw [hT]; unfold tailErr; rw [if_neg (by rw [← hgi, hlv]; simp), if_neg (by rw [← hgi]; omega), ← hgi, Fj hno]
 refine Am fun ds => Aj (Af 1) <| Ag rfl (Ak AF Aa (AA hz5 rfl)) <| Aj (Af 2) <| Ae rfl rfl Aa (dT h1) <| Aj (Af 1) <| Ae rfl rfl Aa (dT h1) <| Ag rfl (Ak AF Aa (AA hz5 rfl)) <| Ae rfl rfl Aa (dT h1) <| AN rfl (Ay Ec Aa AW (CW _ _ _) (fun _ _ h => h)) <| Ae rfl rfl Aa (dT h1) <| Aj (Af 1) <| Ae rfl rfl Aa (dT h1) <| Aj (Af 1) ?_
 by_cases h2 : inB 2 12 qs[i].2.leaves = true
 ·have hlb := Cn.1 h2
  refine Ae rfl rfl Aa (by rw [h2] <;> rfl) <| Aj (Af 1) <| Ae rfl rfl Aa (by rw [h2] <;> rfl) <| Ag rfl (Ak AF Aa (AA hz5 rfl)) <| Ae rfl rfl Aa (by rw [h2] <;> rfl) <| Ag rfl (HV Aa Aa (by omega) (by decide)) <| Ae rfl rfl Aa (by rw [h2] <;> rfl) <| Aj (Af 1) <| Ae rfl rfl Aa (dT h1) <| Ag rfl (As Aa (by rw [h2] <;> rfl) Aa) <| Ag rfl (Ar Aa (dT h1) Aa) <| Ao <| Ab ?_
  by_cases h3 : qs[i].2.leaves % 2 = 1
  ·have hlv : lvErr qs[i].2 = true := by unfold lvErr; rw [dT h1, h2, dT h3] <;> rfl
   refine Ai Aa (dT h3) <| AD (Af 1) <| At <| Ax <| Ap rfl Bd ?_
   show Value.int .i64 _ = Value.int .i64 _
   rw [hT]; unfold tailErr; rw [if_pos (by rw [← hgi]; exact hlv)]
  have hlv : lvErr qs[i].2 = false := by unfold lvErr; rw [dT h1, h2, dF h3] <;> rfl
  refine Ad Aa (dF h3) ?_
  by_cases h4 : 4 < qs[i].2.chs.length
  ·refine Al <| Ab <| Ac <| Az (Af 1) fun ds => Ag rfl (Ak Bv Aa (AA hz5 rfl)) <| Ag rfl (A4 Bw Aa hcs.plain) <| Aw (Af 1) <| Ai Aa (dT (by omega)) <| AD (Af 1) <| At <| Ax <| Ap rfl Bd ?_
   show Value.int .i64 _ = Value.int .i64 _
   rw [hT]; unfold tailErr; rw [if_neg (by rw [← hgi, hlv]; simp), if_pos (by rw [← hgi]; exact h4)]
  refine Al <| Ab <| Ac <| Az (Af 1) fun ds => Ag rfl (Ak Bv Aa (AA hz5 rfl)) <| Ag rfl (A4 Bw Aa hcs.plain) <| Aw (Af 1) <| Ad Aa (dF (by omega)) <| Al <| Ab <| Ac <| AD (Af 1) <| Aq ?_
  refine AL [4, 8, 9, 72, 73, 74, 75, 76, 77, 78, 79, 80, 81, 82, 83, 84] (fun m e σ => ∃ k : Nat, m + k = qs[i].2.chs.length ∧ Fct e 8 (.int .i64 (k : Int)) ∧ (∀ j, j < k → chgErr qs[i].2 j = 0) ∧ σ = ⟨F5, []⟩) (qs[i].2.chs.length) ?_ ?_
  · exact ⟨0, by omega, AX, (fun j h => absurd h (by omega)), rfl⟩
  rintro m2 e2 _ ⟨k, hm2, ht8, hno, rfl⟩
  by_cases hk : k < qs[i].2.chs.length
  ·refine Ac <| Az (Af 2) fun ds => Ag rfl (Ak Bv Aa (AA hz5 rfl)) <| Ag rfl (A4 Bw Aa hcs.plain) <| Aw (Af 1) <| Ai Aa (by first | rfl | exact dT (by omega)) ?_
   by_cases hz : chgErr qs[i].2 k = 0
   ·refine Al <| Ab <| Ac <| Aq <| Ac <| Am fun ds => Ag rfl (AC (vs := (gE qs[i])) CG Aa rfl rfl (Ba hz5)) <| Aj (Af 1) <| AN rfl (Ay K2 Aa AW (Dt (g := qs[i].2) hcs hk) (fun _ _ h => h)) <| Aw (Af 1) <| AD (Af 2) <| Ad Aa (dF (fun h => h hz)) <| Al <| A0 <| Ab <| Am fun ds => Aj (Af 1) <| Ag rfl (AG Aa Aa rfl (by omega) (by omega)) <| Aj (Af 1) <| Ao ?_
    refine Ab ⟨_, m2 - 1, Off.eq (BR rfl <| Ca rfl <| BM rfl <| A2), by omega, ?_⟩
    refine ⟨k + 1, by omega, AX, ?_, rfl⟩
    intro j hj
    rcases Nat.lt_succ_iff_lt_or_eq.1 hj with hj | rfl
    · exact hno j hj
    exact hz
   refine Al <| Ab <| Ac <| Aq <| Ac <| Am fun ds => Ag rfl (AC (vs := (gE qs[i])) CG Aa rfl rfl (Ba hz5)) <| Aj (Af 1) <| AN rfl (Ay K2 Aa AW (Dt (g := qs[i].2) hcs hk) (fun _ _ h => h)) <| Aw (Af 1) <| AD (Af 2) <| Ai Aa (dT hz) <| AD (Af 2) <| At ?_
   refine A7 (Ax (Ax (A7 (Ax ?_))))
   refine Ap rfl Bd ?_
   show Value.int .i64 _ = Value.int .i64 _
   rw [hT]; unfold tailErr; rw [if_neg (by rw [← hgi, hlv]; simp), if_neg (by rw [← hgi]; omega), ← hgi, EB hk hno hz]
  refine Ac <| Az (Af 2) fun ds => Ag rfl (Ak Bv Aa (AA hz5 rfl)) <| Ag rfl (A4 Bw Aa hcs.plain) <| Aw (Af 1) <| Ad Aa (by first | rfl | exact dF (by omega)) ?_
  obtain rfl : k = qs[i].2.chs.length := by omega
  refine AH ?_
  refine A8 <| A8 <| AB <| Ab <| AD (Af 1) <| At <| Ap rfl Bd ?_
  show Value.int .i64 _ = Value.int .i64 _
  rw [hT]; unfold tailErr; rw [if_neg (by rw [← hgi, hlv]; simp), if_neg (by rw [← hgi]; omega), ← hgi, Fj hno]
 replace h2 : inB 2 12 qs[i].2.leaves = false := by simpa using h2
 have hlv : lvErr qs[i].2 = true := by unfold lvErr; rw [dT h1, h2] <;> rfl
 refine Ah rfl rfl Aa (.inl (congrArg Value.bool (by rw [h2] <;> rfl))) rfl <| Ah rfl rfl Aa (.inl (congrArg Value.bool (by rw [h2] <;> rfl))) rfl <| Ah rfl rfl Aa (.inl (congrArg Value.bool (by rw [h2] <;> rfl))) rfl <| Ah rfl rfl Aa (.inl (congrArg Value.bool (by rw [h2] <;> rfl))) rfl <| Ae rfl rfl Aa (dT h1) <| Ag rfl (Ar Aa (by rw [h2] <;> rfl) Aa) <| Ag rfl (Ar Aa (dT h1) Aa) <| Ao <| Ab <| Ai Aa rfl <| AD (Af 1) <| At <| Ax <| Ap rfl Bd ?_
 show Value.int .i64 _ = Value.int .i64 _
 rw [hT]; unfold tailErr; rw [if_pos (by rw [← hgi]; exact hlv)]
end
section
set_option maxHeartbeats 2000000
set_option maxRecDepth 100000
open Go.RowKit
theorem DB : ZeroT Tryz.prog 121 (.agg #[.int .i64 0, .int .i64 0, .int .i64 0, .int .i64 0]) := Br (by kernel_rfl)
theorem DR : AggT Tryz.prog 121 4 := Cu (by kernel_rfl)
instance : AggI Tryz.prog 121 4 := ⟨DR⟩
theorem CY : AggT Tryz.prog 24 2 := Cu (by kernel_rfl)
instance : AggI Tryz.prog 24 2 := ⟨CY⟩
theorem bd_49 : Body Tryz.prog 49 := AE (by kernel_rfl)
theorem bd_50 : Body Tryz.prog 50 := AE (by kernel_rfl)
theorem FF : BuildT Tryz.prog 121 [.int .i64 0, .int .i64 0, .int .i64 0, .int .i64 0] [(0, 1), (1, 1), (2, 1), (3, 1)] := BD DB (by kernel_rfl) (by decide)
theorem H7 : ElemT Tryz.prog 121 4 32 (.agg #[.int .i64 0, .int .i64 0, .int .i64 0, .int .i64 0]) := D6 (by kernel_rfl) rfl (by decide)
instance : FieldI Tryz.prog 121 3 3 := ⟨AU (by kernel_rfl)⟩
instance : FieldI Tryz.prog 24 0 0 := ⟨AU (by kernel_rfl)⟩
theorem Cq : SliceT Tryz.prog 62 121 4 := Ci (by kernel_rfl)
instance : SliceI Tryz.prog 62 := ⟨_, _, Cq⟩
theorem KV : SizeT Tryz.prog 121 4 := Bx (by kernel_rfl)
theorem Qv {F : Heap} {vg : Value} {qs : List (Value × Gth)} {b : Qbk} (hb : QbkR F vg qs b) : Ok Tryz.prog 14 [.agg #[.int .i64 b.signed, vg]].toArray F fun r _ => r = .tuple #[.int .i64 (checkR1 b).1, .int .i64 (checkR1 b).2.1, .int .i64 (checkR1 b).2.2] := by
 have hL1 := hb.gs.plain.lt
 have hlen := hb.len
 refine Ok.intro Tryz.func14 rfl Tryz.ntmps14 rfl fun w0 => ?_
 by_cases h1 : inB 0 12 b.signed = true
 ·refine Ac <| Am fun ds => A5 rfl <| Bg Aa rfl fun b1 hb1 nb1 => Aw (Af 3) <| Ac <| Az (Af 2) fun ds => AN rfl (Ay Ec Aa AW (CW _ _ _) (fun _ _ h => h)) <| Aw (Af 1) <| Ad Aa (by rw [h1] <;> rfl) ?_
  by_cases h2 : inB 1 30 qs.length = true
  ·refine Al <| Ab <| Ac <| Az (Af 2) fun ds => Ag rfl (A4 Dy Aa hb.gs.plain) <| AN rfl (Ay Ec Aa AW (CW _ _ _) (fun _ _ h => h)) <| Aw (Af 1) <| Ad Aa (by rw [h2] <;> rfl) <| AK (i := 0) rfl hb1 (.here) fun F2 hF3 hz1 => ?_
   replace hb := hb.mono hF3
   refine Al <| Ab <| Ac <| AD (Af 1) <| Aq ?_
   refine AL [2, 3, 4, 5, 6, 16, 17, 18, 19, 20, 21, 22, 23, 24, 25, 26, 27, 28, 29] (fun m e σ => ∃ i : Nat, m + i = qs.length ∧ Fct e 5 (.int .i64 (i : Int)) ∧ (∀ j, j < i → gthRef b j = 0) ∧ σ = ⟨F2, []⟩) (qs.length) ?_ ?_
   · exact ⟨0, by omega, AX, (fun j h => absurd h (by omega)), rfl⟩
   rintro m e _ ⟨i, hm, hs5, hno, rfl⟩
   by_cases hlt : i < qs.length
   ·refine Ac <| Az (Af 2) fun ds => Ag rfl (Ak DG Aa (AA hz1 rfl)) <| Ag rfl (A4 Dy Aa hb.gs.plain) <| Aw (Af 1) <| Ai Aa (by first | rfl | exact dT (by omega)) ?_
    by_cases hz : gthRef b i = 0
    ·refine Al <| Ab <| Ac <| Aq <| Ac <| Am fun ds => Ag rfl (AC CY Aa rfl rfl (Ba hz1)) <| Aj (Af 1) <| AN rfl (Ay bd_49 Aa AW (Jh hb hlt (fun k hk => (D4 (hno k hk)).1)) (fun _ _ h => h)) <| Aw (Af 1) <| AD (Af 2) <| Ad Aa (dF (fun h => h hz)) <| Al <| A0 <| Ab <| Am fun ds => Aj (Af 1) <| Ag rfl (AG Aa Aa rfl (by omega) (by omega)) <| Aj (Af 1) <| Ao ?_
     refine Ab ⟨_, m - 1, Off.eq (BR rfl <| Ca rfl <| BM rfl <| A2), by omega, ?_⟩
     refine ⟨i + 1, by omega, AX, ?_, rfl⟩
     intro j hj
     rcases Nat.lt_succ_iff_lt_or_eq.1 hj with hj | rfl
     · exact hno j hj
     exact hz
    refine Al <| Ab <| Ac <| Aq <| Ac <| Am fun ds => Ag rfl (AC CY Aa rfl rfl (Ba hz1)) <| Aj (Af 1) <| AN rfl (Ay bd_49 Aa AW (Jh hb hlt (fun k hk => (D4 (hno k hk)).1)) (fun _ _ h => h)) <| Aw (Af 1) <| AD (Af 2) <| Ai Aa (dT hz) <| AD (Af 5) <| At ?_
    refine A7 (Ax (Ax (A7 (Ax ?_))))
    refine Ap rfl Bd ?_
    show Value.tuple _ = Value.tuple _
    unfold checkR1; rw [if_neg (by rw [h1]; simp), if_neg (by rw [← hlen, h2]; simp), ← hlen, EB hlt hno hz, if_pos hz] <;> rfl
   refine Ac <| Az (Af 2) fun ds => Ag rfl (Ak DG Aa (AA hz1 rfl)) <| Ag rfl (A4 Dy Aa hb.gs.plain) <| Aw (Af 1) <| Ad Aa (by first | rfl | exact dF (by omega)) ?_
   obtain rfl : i = qs.length := by omega
   refine AH ?_
   refine A8 <| A8 <| AB <| Ab <| AD (Af 3) <| At <| Ap rfl Bd ?_
   show Value.tuple _ = Value.tuple _
   unfold checkR1; rw [if_neg (by rw [h1]; simp), if_neg (by rw [← hlen, h2]; simp), ← hlen, Fj hno, if_neg (fun h => h rfl)] <;> rfl
  replace h2 : inB 1 30 qs.length = false := by simpa using h2
  refine Al <| Ab <| Ac <| Az (Af 2) fun ds => Ag rfl (A4 Dy Aa hb.gs.plain) <| AN rfl (Ay Ec Aa AW (CW _ _ _) (fun _ _ h => h)) <| Aw (Af 1) <| Ai Aa (by rw [h2] <;> rfl) <| AD (Af 3) <| At <| Ax <| Ap rfl Bd ?_
  show Value.tuple _ = Value.tuple _
  unfold checkR1; rw [if_neg (by rw [h1]; simp), if_pos (by rw [← hlen]; exact h2)]
 replace h1 : inB 0 12 b.signed = false := by simpa using h1
 refine Ac <| Am fun ds => A5 rfl <| Bg Aa rfl fun b5 hb5 nb5 => Aw (Af 3) <| Ac <| Az (Af 2) fun ds => AN rfl (Ay Ec Aa AW (CW _ _ _) (fun _ _ h => h)) <| Aw (Af 1) <| Ai Aa (by rw [h1] <;> rfl) <| AD (Af 3) <| At <| Ax <| Ap rfl Bd ?_
 show Value.tuple _ = Value.tuple _
 unfold checkR1; rw [if_pos h1]
theorem plus_ok {F : Heap} {vc : Value} {g : Gth} (hc : Sl F vc 3 Chg.enc g.chs) {n : Int} : Ok Tryz.prog 50 [.agg #[.int .i64 g.sig.round, .int .i64 g.sig.letter, .int .i64 g.leaves, vc], .int .i64 n].toArray F fun r _ => r = .tuple #[.int .i64 (plusG g n).1, .int .i64 (plusG g n).2] := by
 have hL1 := hc.plain.lt
 refine Ok.intro Tryz.func50 rfl Tryz.ntmps50 rfl fun w0 => Ac <| Am fun ds => A5 rfl <| Bg Aa rfl fun b1 hb1 nb1 => Aw (Af 2) <| AK (i := 0) rfl hb1 (.here) fun F2 hF3 hz2 => ?_
 replace hc := hc.mono hF3
 refine Ac <| AD (Af 1) <| Aq ?_
 refine AL [4, 5, 6, 7, 8, 9, 10, 11, 12, 13, 14, 15, 16, 17, 18, 19, 20, 21, 22, 23, 24, 25, 26, 27, 28, 29, 30, 31, 32, 33, 34, 35, 36, 37, 38, 39, 40, 41, 42, 43, 44, 45, 46, 47, 48, 49, 50, 51, 52, 53, 54, 55, 56, 57, 58, 59] (fun m e σ => ∃ k : Nat, m + k = g.chs.length ∧ Fct e 6 (.int .i64 (k : Int)) ∧ Fct e 4 (.int .i64 (plusTo g n k).1) ∧ Fct e 5 (.int .i64 (plusTo g n k).2) ∧ σ = ⟨F2, []⟩) (g.chs.length) ?_ ?_
 · exact ⟨0, by omega, AX, AX, AX, rfl⟩
 rintro m e _ ⟨k, hm, hs6, hs4, hs5, rfl⟩
 by_cases hk : k < g.chs.length
 ·refine Ac <| Az (Af 2) fun ds => Ag rfl (Ak Bv Aa (AA hz2 rfl)) <| Ag rfl (A4 Bw Aa hc.plain) <| Aw (Af 1) <| Ai Aa (by first | rfl | exact dT (by omega)) ?_
  by_cases hp : g.chs[k].pos = n
  ·by_cases h3 : g.chs[k].kind = 3
   ·refine Al <| Ab <| Ac <| Aq <| Ac <| Az (Af 1) fun ds => Ag rfl (Ak Bv Aa (AA hz2 rfl)) <| Aj (Af 1) <| Ag rfl (A1 (k := k) Bw Aa hc.plain Aa rfl hk) <| Aj (Af 1) <| Ag rfl (Ak AF Aa (hc.cell hk rfl)) <| Aj (Af 3) <| Ae rfl rfl Aa (dT hp) <| Aj (Af 1) <| Ae rfl rfl Aa (dT hp) <| Ag rfl (Ak Bv Aa (AA hz2 rfl)) <| Ae rfl rfl Aa (dT hp) <| Aj (Af 1) <| Ae rfl rfl Aa (dT hp) <| Ag rfl (A1 (k := k) Bw Aa hc.plain Aa rfl hk) <| Ae rfl rfl Aa (dT hp) <| Aj (Af 1) <| Ae rfl rfl Aa (dT hp) <| Ag rfl (Ak AF Aa (hc.cell hk rfl)) <| Ae rfl rfl Aa (dT hp) <| Aj (Af 1) <| Ag rfl (Ar Aa (dT hp) Aa) <| Ao <| Ab <| Ai Aa (dT h3) <| Am fun ds => Aj (Af 1) <| Ag rfl (Ak Bv Aa (AA hz2 rfl)) <| Aj (Af 1) <| Ag rfl (A1 (k := k) Bw Aa hc.plain Aa rfl hk) <| Aj (Af 1) <| Ag rfl (Ak AF Aa (hc.cell hk rfl)) <| Aw (Af 1) <| Az (Af 1) fun ds => Ag rfl (Ak Bv Aa (AA hz2 rfl)) <| Aj (Af 1) <| Ag rfl (A1 (k := k) Bw Aa hc.plain Aa rfl hk) <| Aj (Af 1) <| Ag rfl (Ak AF Aa (hc.cell hk rfl)) <| Aj (Af 3) <| Ae rfl rfl Aa (dT hp) <| Aj (Af 1) <| Ae rfl rfl Aa (dT hp) <| Ag rfl (Ak Bv Aa (AA hz2 rfl)) ?_
    refine Ae rfl rfl Aa (dT hp) <| Aj (Af 1) <| Ae rfl rfl Aa (dT hp) <| Ag rfl (A1 (k := k) Bw Aa hc.plain Aa rfl hk) <| Ae rfl rfl Aa (dT hp) <| Aj (Af 1) <| Ae rfl rfl Aa (dT hp) <| Ag rfl (Ak AF Aa (hc.cell hk rfl)) <| Ae rfl rfl Aa (dT hp) <| Aj (Af 1) <| Ag rfl (Ar Aa (dT hp) Aa) <| Ao <| Ab <| Ad Aa (dF (fun h => h h3)) <| Al <| A0 <| Ab <| Am fun ds => Aj (Af 1) <| Ag rfl (AG Aa Aa rfl (by omega) (by omega)) <| Aj (Af 1) <| Ao ?_
    refine Ab ⟨_, m - 1, Off.eq (DT rfl <| B3 rfl <| BX rfl <| A2), by omega, ?_⟩
    refine ⟨k + 1, by omega, AX, Cr (congrArg (Value.int .i64) ?_), Cr (congrArg (Value.int .i64) ?_), rfl⟩
    · rw [Hp, ← Dc hk, if_pos ⟨hp, h3⟩]
    rw [Ho, ← Dc hk, if_neg (fun h => h.2 h3)]
   refine Al <| Ab <| Ac <| Aq <| Ac <| Az (Af 1) fun ds => Ag rfl (Ak Bv Aa (AA hz2 rfl)) <| Aj (Af 1) <| Ag rfl (A1 (k := k) Bw Aa hc.plain Aa rfl hk) <| Aj (Af 1) <| Ag rfl (Ak AF Aa (hc.cell hk rfl)) <| Aj (Af 3) <| Ae rfl rfl Aa (dT hp) <| Aj (Af 1) <| Ae rfl rfl Aa (dT hp) <| Ag rfl (Ak Bv Aa (AA hz2 rfl)) <| Ae rfl rfl Aa (dT hp) <| Aj (Af 1) <| Ae rfl rfl Aa (dT hp) <| Ag rfl (A1 (k := k) Bw Aa hc.plain Aa rfl hk) <| Ae rfl rfl Aa (dT hp) <| Aj (Af 1) <| Ae rfl rfl Aa (dT hp) <| Ag rfl (Ak AF Aa (hc.cell hk rfl)) <| Ae rfl rfl Aa (dT hp) <| Aj (Af 1) <| Ag rfl (Ar Aa (dT hp) Aa) <| Ao <| Ab <| Ad Aa (dF h3) <| Al <| Ab <| Az (Af 1) fun ds => Ag rfl (Ak Bv Aa (AA hz2 rfl)) <| Aj (Af 1) <| Ag rfl (A1 (k := k) Bw Aa hc.plain Aa rfl hk) <| Aj (Af 1) <| Ag rfl (Ak AF Aa (hc.cell hk rfl)) <| Aj (Af 3) <| Ae rfl rfl Aa (dT hp) <| Aj (Af 1) <| Ae rfl rfl Aa (dT hp) <| Ag rfl (Ak Bv Aa (AA hz2 rfl)) <| Ae rfl rfl Aa (dT hp) <| Aj (Af 1) <| Ae rfl rfl Aa (dT hp) <| Ag rfl (A1 (k := k) Bw Aa hc.plain Aa rfl hk) <| Ae rfl rfl Aa (dT hp) ?_
   refine Aj (Af 1) <| Ae rfl rfl Aa (dT hp) <| Ag rfl (Ak AF Aa (hc.cell hk rfl)) <| Ae rfl rfl Aa (dT hp) <| Aj (Af 1) <| Ag rfl (Ar Aa (dT hp) Aa) <| Ao <| Ab <| Ai Aa (dT h3) <| Am fun ds => Aj (Af 1) <| Ag rfl (Ak Bv Aa (AA hz2 rfl)) <| Aj (Af 1) <| Ag rfl (A1 (k := k) Bw Aa hc.plain Aa rfl hk) <| Aj (Af 1) <| Ag rfl (Ak AF Aa (hc.cell hk rfl)) <| Aj (Af 1) <| Ao <| A0 <| Ab <| Am fun ds => Aj (Af 1) <| Ag rfl (AG Aa Aa rfl (by omega) (by omega)) <| Aj (Af 1) <| Ao ?_
   refine Ab ⟨_, m - 1, Off.eq (DT rfl <| B3 rfl <| BX rfl <| A2), by omega, ?_⟩
   refine ⟨k + 1, by omega, AX, Cr (congrArg (Value.int .i64) ?_), Cr (congrArg (Value.int .i64) ?_), rfl⟩
   · rw [Hp, ← Dc hk, if_neg (fun h => h3 h.2)]
   rw [Ho, ← Dc hk, if_pos ⟨hp, h3⟩]
  refine Al <| Ab <| Ac <| Aq <| Ac <| Az (Af 1) fun ds => Ag rfl (Ak Bv Aa (AA hz2 rfl)) <| Aj (Af 1) <| Ag rfl (A1 (k := k) Bw Aa hc.plain Aa rfl hk) <| Aj (Af 1) <| Ag rfl (Ak AF Aa (hc.cell hk rfl)) <| Aj (Af 3) <| Ah rfl rfl Aa (.inl (congrArg Value.bool (dF hp))) rfl <| Ah rfl rfl Aa (.inl (congrArg Value.bool (dF hp))) rfl <| Ah rfl rfl Aa (.inl (congrArg Value.bool (dF hp))) rfl <| Ah rfl rfl Aa (.inl (congrArg Value.bool (dF hp))) rfl <| Ah rfl rfl Aa (.inl (congrArg Value.bool (dF hp))) rfl <| Ah rfl rfl Aa (.inl (congrArg Value.bool (dF hp))) rfl <| Ah rfl rfl Aa (.inl (congrArg Value.bool (dF hp))) rfl <| Ag rfl (As Aa (dF hp) Aa) <| Ao <| Ab <| Ad Aa rfl <| Al <| Ab <| Az (Af 1) fun ds => Ag rfl (Ak Bv Aa (AA hz2 rfl)) <| Aj (Af 1) <| Ag rfl (A1 (k := k) Bw Aa hc.plain Aa rfl hk) <| Aj (Af 1) <| Ag rfl (Ak AF Aa (hc.cell hk rfl)) <| Aj (Af 3) <| Ah rfl rfl Aa (.inl (congrArg Value.bool (dF hp))) rfl <| Ah rfl rfl Aa (.inl (congrArg Value.bool (dF hp))) rfl <| Ah rfl rfl Aa (.inl (congrArg Value.bool (dF hp))) rfl <| Ah rfl rfl Aa (.inl (congrArg Value.bool (dF hp))) rfl <| Ah rfl rfl Aa (.inl (congrArg Value.bool (dF hp))) rfl ?_
  refine Ah rfl rfl Aa (.inl (congrArg Value.bool (dF hp))) rfl <| Ah rfl rfl Aa (.inl (congrArg Value.bool (dF hp))) rfl <| Ag rfl (As Aa (dF hp) Aa) <| Ao <| Ab <| Ad Aa rfl <| Al <| A0 <| Ab <| Am fun ds => Aj (Af 1) <| Ag rfl (AG Aa Aa rfl (by omega) (by omega)) <| Aj (Af 1) <| Ao ?_
  refine Ab ⟨_, m - 1, Off.eq (DT rfl <| BR rfl <| BM rfl <| A2), by omega, ?_⟩
  refine ⟨k + 1, by omega, AX, Cr (congrArg (Value.int .i64) ?_), Cr (congrArg (Value.int .i64) ?_), rfl⟩
  · rw [Hp, ← Dc hk, if_neg (fun h => hp h.1)]
  rw [Ho, ← Dc hk, if_neg (fun h => hp h.1)]
 refine Ac <| Az (Af 2) fun ds => Ag rfl (Ak Bv Aa (AA hz2 rfl)) <| Ag rfl (A4 Bw Aa hc.plain) <| Aw (Af 1) <| Ad Aa (by first | rfl | exact dF (by omega)) ?_
 obtain rfl : k = g.chs.length := by omega
 refine AH ?_
 refine A8 <| A8 <| AB <| Ab <| AD (Af 4) <| At <| Ap rfl Bd ?_
 rfl
theorem Od {F : Heap} {vg : Value} {qs : List (Value × Gth)} {b : Qbk} (hb : QbkR F vg qs b) (hv : ValidQ b) : Ok Tryz.prog 15 [.agg #[.int .i64 b.signed, vg]].toArray F fun u F' => Sl F' u 4 Ql.enc (allQ b) := by
 have hL1 := hb.gs.plain.lt
 have hlen := hb.len
 have hmb := hv.many
 refine Ok.intro Tryz.func15 rfl Tryz.ntmps15 rfl fun w0 => Ac <| Am fun ds => A5 rfl <| Bg Aa rfl fun b1 hb1 nb1 => Aw (Af 1) <| AK (i := 0) rfl hb1 (.here) fun F2 hF3 hz1 => ?_
 replace hb := hb.mono hF3
 refine AD (Af 1) <| Ac <| AD (Af 1) <| Aq ?_
 refine AL [3, 4, 5, 6, 7, 8, 9, 10, 11, 12, 13, 14, 15, 16, 17, 18, 19, 20, 21, 22, 23, 24, 25, 26, 27, 28, 29, 30, 31, 32, 33, 34, 35, 36, 37, 38, 39, 40, 41, 42, 43, 44, 45, 46, 47, 48, 49, 50, 51, 52, 53, 54, 55, 56, 57, 58, 59, 60, 61, 62] (fun m3 e σ => ∃ i : Nat, m3 + i = qs.length ∧ Fct e 4 (.int .i64 (i : Int)) ∧ ∃ (v : Value) (G : Heap) (R : List (Nat × Obj)), F2.le G ∧ Fct e 3 v ∧ Own 121 4 v (allTo b i).length ((allTo b i).flatMap Ql.enc) R ∧ σ = ⟨G, R⟩) (qs.length) ?_ ?_
 · exact ⟨0, by omega, AX, _, _, [], Heap.le_refl _, AX, BZ, rfl⟩
 rintro m1 e1 _ ⟨i, hm1, hs4, v2, G, R2, hG, hs3, ho, rfl⟩; replace hb := hb.mono hG; replace hz1 := hG _ _ hz1
 by_cases hi : i < qs.length
 ·refine Ac <| Az (Af 2) fun ds => Ag rfl (Ak DG Aa (AA hz1 rfl)) <| Ag rfl (A4 Dy Aa hb.gs.plain) <| Aw (Af 1) <| Ai Aa (by first | rfl | exact dT (by omega)) ?_
  have hib : i < b.gs.length := by omega
  have hgi : qs[i].2 = b.g i := hb.at hi
  have hcs := hb.chs _ (List.getElem_mem hi)
  have hL2 := hcs.plain.lt
  have hlv := (hv.chs hib).2.2
  have hlv2 : qs[i].2.leaves = (b.g i).leaves := by rw [hgi]
  have hal := Ev hv i (by omega)
  refine Al <| Ab <| Ac <| Aq <| Az (Af 1) fun ds => Ag rfl (Ak DG Aa (AA hz1 rfl)) <| Aj (Af 1) <| Ag rfl (A1 (k := i) Dy Aa hb.gs.plain Aa rfl hi) <| Ag rfl (AC (vs := (gE qs[i])) CG Aa rfl rfl (hb.gs.whole hi)) <| A5 rfl <| AO J2 rfl fun b5 hb5 nb5 => AS <| AP Nt Aa Aa (i := 0) rfl rfl rfl rfl (hb.ones _ (List.getElem_mem hi)) (.here) <| Ao <| Ab <| Ac <| AK (i := 0) rfl hb5 (.here) fun F6 hF7 hz5 => ?_
  replace hG := Heap.le_trans hG hF7
  replace hcs := hcs.mono hF7
  refine Am fun ds => Aw (Af 1) <| Aq ?_
  refine AL [3, 6, 7, 8, 9, 10, 23, 24, 25, 26, 27, 28, 29, 30, 31, 32, 33, 34, 35, 36, 37, 38, 39, 40, 41, 42, 43, 44, 45, 46, 47, 48, 49, 50, 51, 52, 53, 54, 55, 56, 57, 58, 59, 60, 61, 62] (fun m3 e σ => ∃ n : Nat, m3 + n = ((b.g i).leaves + 1).toNat ∧ Fct e 6 (.int .i64 (n : Int)) ∧ ∃ (v : Value) (R : List (Nat × Obj)), Fct e 3 v ∧ Own 121 4 v (allTo b i ++ gthL b i n).length ((allTo b i ++ gthL b i n).flatMap Ql.enc) R ∧ σ = ⟨F6, R⟩) (((b.g i).leaves + 1).toNat) ?_ ?_
  · exact ⟨0, by omega, AX, _, _, AX, by simpa [gthL] using ho, rfl⟩
  rintro m2 e2 _ ⟨n, hm2, ht6, v3, R3, ht3, ho2, rfl⟩
  by_cases hn : n < ((b.g i).leaves + 1).toNat
  ·refine Ac <| Az (Af 2) fun ds => Ag rfl (Ak AF Aa (AA hz5 rfl)) <| Aw (Af 1) <| Ai Aa (dT (by omega)) ?_
   obtain ⟨M, hM⟩ := Int.eq_ofNat_of_zero_le (show 0 ≤ (plusG qs[i].2 (n : Int)).1 by rw [hgi]; exact (hv.many4 hib _).1)
   have hM4 : M ≤ 4 := by have h9 := (hv.many4 hib (n : Int)).2; rw [← hgi] at h9; omega
   have hgl := L4 hv hib n
   have hwl := OB (i := i) (n := n) (k := (plusG qs[i].2 (n : Int)).2)
   have hbl : (allTo b i ++ gthL b i n).length ≤ 2050 := by rw [List.length_append]; omega
   refine Al <| Ab <| Ac <| Aq <| Ac <| Am fun ds => Ag rfl (AC (vs := (gE qs[i])) CG Aa rfl rfl (Ba hz5)) <| Aj (Af 1) <| AN rfl (Ay bd_50 Aa AW (plus_ok (g := qs[i].2) hcs) (fun _ _ h => h)) <| Aw (Af 5) <| Ac <| Ac ?_
   by_cases hn0 : 0 < n
   ·refine Am fun ds => Aj (Af 3) <| Ae rfl rfl Aa (dT (by omega)) <| Aj (Af 1) <| Ae rfl rfl Aa (dT (by omega)) <| Aj (Af 1) <| Ag rfl (Ar Aa (dT (by omega)) Aa) <| Ao <| Ab ?_
    by_cases h1 : (plusG qs[i].2 (n : Int)).2 ≠ 1
    ·refine Ai Aa (dT h1) ?_
     by_cases h2 : (plusG qs[i].2 (n : Int)).2 = 2
     ·have how : ownQ i n (plusG qs[i].2 (n : Int)).2 = [(⟨(i : Int), (n : Int), 0, 1⟩ : Ql)] := by unfold ownQ; rw [if_pos ⟨hn0, h1⟩, if_pos h2]
      refine Az (Af 2) fun ds => Ag rfl (Bm FF (.cons Aa rfl (.cons Aa rfl .nil)) (.cons rfl rfl (Nat.le_of_ble_eq_true rfl) (.cons (.here) .nil) (.cons rfl rfl (Nat.le_of_ble_eq_true rfl) (.cons (.next <| .here) .nil) .nil))) <| A5 rfl <| AO DB rfl fun b9 hb9 nb9 => AS <| AP KV Aa Aa (i := 0) rfl rfl rfl rfl (by simp [Value.oneCell']) (.here) <| Ao <| Ab <| Ac <| AD (Af 2) <| Ai Aa (dT h2) <| Am fun ds => Aj (Af 1) <| AS <| Bf DA Aa Aa (i := 0) rfl (.next <| .next <| .next <| .here) rfl (.here) <| Ao <| Ab <| Am fun ds => Aj (Af 2) <| A5 rfl <| B5 (offs := [(0, 4)]) (zl := [.int .i64 0, .int .i64 0, .int .i64 0, .int .i64 0]) Cq DB rfl (.cons Aa rfl .nil) (by intro i p h; rcases i with _ | i <;> simp at h <;> subst h <;> rfl) (.cons rfl rfl (Nat.le_of_ble_eq_true rfl) (.cons (.here) (.cons (.next <| .here) (.cons (.next <| .next <| .here) (.cons (.next <| .next <| .next <| .here) .nil)))) .nil) (by decide) (by decide) fun b10 hb10 nb10 => A5 rfl <| Bp Cq H7 Aa ho2 Aa (B1 (s := 4) 0 rfl rfl (by simp [Value.oneCell'])) (by omega) (by omega) (.s <| .s <| .z) .last fun v11 R12 ho13 => ?_
      have ho50 : Own 121 4 v11 (allTo b i ++ gthL b i n ++ [(⟨(i : Int), (n : Int), 0, 1⟩ : Ql)]).length ((allTo b i ++ gthL b i n ++ [(⟨(i : Int), (n : Int), 0, 1⟩ : Ql)]).flatMap Ql.enc) R12 := Own.snoc ho13 rfl rfl
      refine Aw (Af 1) <| Ac <| Bn (fun _ _ h => h.drop (kD <| kD <| .refl _)) <| Am fun ds => Aw (Af 1) <| Aq ?_
      refine AL [3, 10, 51, 52, 53, 54, 55, 56, 57, 58, 59, 60, 61, 62] (fun m3 e σ => ∃ k : Nat, m3 + k = M ∧ Fct e 10 (.int .i64 ((k : Int) + 1)) ∧ ∃ (v : Value) (R : List (Nat × Obj)), Fct e 3 v ∧ Own 121 4 v (allTo b i ++ gthL b i n ++ ownQ i n (plusG qs[i].2 (n : Int)).2 ++ newTo i n k).length ((allTo b i ++ gthL b i n ++ ownQ i n (plusG qs[i].2 (n : Int)).2 ++ newTo i n k).flatMap Ql.enc) R ∧ σ = ⟨F6, R⟩) (M) ?_ ?_
      · exact ⟨0, by omega, AX, _, _, AX, (by rw [how]; simpa [newTo] using ho50), rfl⟩
      rintro m3 e3 _ ⟨k, hm3, hu10, v4, R4, hu3, ho3, rfl⟩
      have hol : (allTo b i ++ gthL b i n ++ ownQ i n (plusG qs[i].2 (n : Int)).2 ++ newTo i n k).length ≤ 2100 := by rw [List.length_append, List.length_append, List.length_append, Fi]; omega
      by_cases hk : k < M
      ·refine Ac <| AD (Af 3) <| Ai Aa (dT (by push_cast; omega)) <| Al <| Ab <| Ac <| Aq <| Am fun ds => Aj (Af 4) <| Ag rfl (Bm FF (.cons Aa rfl (.cons Aa rfl (.cons Aa rfl (.cons Aa rfl .nil)))) (.cons rfl rfl (Nat.le_of_ble_eq_true rfl) (.cons (.here) .nil) (.cons rfl rfl (Nat.le_of_ble_eq_true rfl) (.cons (.next <| .here) .nil) (.cons rfl rfl (Nat.le_of_ble_eq_true rfl) (.cons (.next <| .next <| .here) .nil) (.cons rfl rfl (Nat.le_of_ble_eq_true rfl) (.cons (.next <| .next <| .next <| .here) .nil) .nil))))) <| A5 rfl <| B5 (offs := [(0, 4)]) (zl := [.int .i64 0, .int .i64 0, .int .i64 0, .int .i64 0]) Cq DB rfl (.cons Aa rfl .nil) (by intro i p h; rcases i with _ | i <;> simp at h <;> subst h <;> rfl) (.cons rfl rfl (Nat.le_of_ble_eq_true rfl) (.cons (.here) (.cons (.next <| .here) (.cons (.next <| .next <| .here) (.cons (.next <| .next <| .next <| .here) .nil)))) .nil) (by decide) (by decide) fun b15 hb15 nb15 => A5 rfl <| Bp Cq H7 Aa ho3 Aa (B1 (s := 4) 0 rfl rfl (by simp [Value.oneCell'])) (by omega) (by omega) (.s <| .z) .last fun v16 R17 ho18 => ?_
       have ho62 : Own 121 4 v16 (allTo b i ++ gthL b i n ++ ownQ i n (plusG qs[i].2 (n : Int)).2 ++ newTo i n k ++ [(⟨(i : Int), (n : Int), (k : Int) + 1, 2⟩ : Ql)]).length ((allTo b i ++ gthL b i n ++ ownQ i n (plusG qs[i].2 (n : Int)).2 ++ newTo i n k ++ [(⟨(i : Int), (n : Int), (k : Int) + 1, 2⟩ : Ql)]).flatMap Ql.enc) R17 := Own.snoc ho18 rfl rfl
       refine Aj (Af 1) <| Ao <| A0 <| Ab <| Bn (fun _ _ h => h.drop (kD <| .refl _)) <| Am fun ds => Aj (Af 1) <| Ag rfl (AG Aa Aa rfl (by omega) (by omega)) <| Aj (Af 1) <| Ao ?_
       refine Ab ⟨_, m3 - 1, Off.eq (BR rfl <| Ca rfl <| BM rfl <| A2), by omega, ?_⟩
       exact ⟨k + 1, by omega, Cr (by push_cast; rfl), _, _, AX, (by rw [DH, ← List.append_assoc]; exact ho62), rfl⟩
      refine Ac <| AD (Af 3) <| Ad Aa (dF (by push_cast; omega)) ?_
      obtain rfl : k = M := by omega
      refine AH ?_
      refine A8 <| A8 <| AB <| A0 <| Ab <| Am fun ds => Aj (Af 1) <| Ag rfl (AG Aa Aa rfl (by omega) (by omega)) <| Aj (Af 1) <| Ao ?_
      refine Ab ⟨_, m2 - 1, Off.eq (Ca rfl <| BM rfl <| Cg rfl <| B3 rfl <| BR rfl <| Ca rfl <| BM rfl <| BX rfl <| A2), by omega, ?_⟩
      refine ⟨n + 1, by omega, AX, _, _, AX, ?_, rfl⟩
      rw [DJ, ← List.append_assoc]
      unfold leafQ
      rw [← hgi, ← List.append_assoc, hM, Int.toNat_natCast]
      exact ho3
     have how : ownQ i n (plusG qs[i].2 (n : Int)).2 = [(⟨(i : Int), (n : Int), 0, 0⟩ : Ql)] := by unfold ownQ; rw [if_pos ⟨hn0, h1⟩, if_neg h2]
     refine Az (Af 2) fun ds => Ag rfl (Bm FF (.cons Aa rfl (.cons Aa rfl .nil)) (.cons rfl rfl (Nat.le_of_ble_eq_true rfl) (.cons (.here) .nil) (.cons rfl rfl (Nat.le_of_ble_eq_true rfl) (.cons (.next <| .here) .nil) .nil))) <| A5 rfl <| AO DB rfl fun b19 hb19 nb19 => AS <| AP KV Aa Aa (i := 0) rfl rfl rfl rfl (by simp [Value.oneCell']) (.here) <| Ao <| Ab <| Ac <| AD (Af 2) <| Ad Aa (dF h2) <| Al <| Ab <| Am fun ds => Aj (Af 2) <| A5 rfl <| B5 (offs := [(0, 4)]) (zl := [.int .i64 0, .int .i64 0, .int .i64 0, .int .i64 0]) Cq DB rfl (.cons Aa rfl .nil) (by intro i p h; rcases i with _ | i <;> simp at h <;> subst h <;> rfl) (.cons rfl rfl (Nat.le_of_ble_eq_true rfl) (.cons (.here) (.cons (.next <| .here) (.cons (.next <| .next <| .here) (.cons (.next <| .next <| .next <| .here) .nil)))) .nil) (by decide) (by decide) fun b20 hb20 nb20 => A5 rfl <| Bp Cq H7 Aa ho2 Aa (B1 (s := 4) 0 rfl rfl (by simp [Value.oneCell'])) (by omega) (by omega) (.s <| .s <| .z) .last fun v21 R22 ho23 => ?_
     have ho50 : Own 121 4 v21 (allTo b i ++ gthL b i n ++ [(⟨(i : Int), (n : Int), 0, 0⟩ : Ql)]).length ((allTo b i ++ gthL b i n ++ [(⟨(i : Int), (n : Int), 0, 0⟩ : Ql)]).flatMap Ql.enc) R22 := Own.snoc ho23 rfl rfl
     refine Aw (Af 1) <| Ac <| Bn (fun _ _ h => h.drop (kD <| kD <| .refl _)) <| Am fun ds => Aw (Af 1) <| Aq ?_
     refine AL [3, 10, 51, 52, 53, 54, 55, 56, 57, 58, 59, 60, 61, 62] (fun m3 e σ => ∃ k : Nat, m3 + k = M ∧ Fct e 10 (.int .i64 ((k : Int) + 1)) ∧ ∃ (v : Value) (R : List (Nat × Obj)), Fct e 3 v ∧ Own 121 4 v (allTo b i ++ gthL b i n ++ ownQ i n (plusG qs[i].2 (n : Int)).2 ++ newTo i n k).length ((allTo b i ++ gthL b i n ++ ownQ i n (plusG qs[i].2 (n : Int)).2 ++ newTo i n k).flatMap Ql.enc) R ∧ σ = ⟨F6, R⟩) (M) ?_ ?_
     · exact ⟨0, by omega, AX, _, _, AX, (by rw [how]; simpa [newTo] using ho50), rfl⟩
     rintro m3 e3 _ ⟨k, hm3, hu10, v4, R4, hu3, ho3, rfl⟩
     have hol : (allTo b i ++ gthL b i n ++ ownQ i n (plusG qs[i].2 (n : Int)).2 ++ newTo i n k).length ≤ 2100 := by rw [List.length_append, List.length_append, List.length_append, Fi]; omega
     by_cases hk : k < M
     ·refine Ac <| AD (Af 3) <| Ai Aa (dT (by push_cast; omega)) <| Al <| Ab <| Ac <| Aq <| Am fun ds => Aj (Af 4) <| Ag rfl (Bm FF (.cons Aa rfl (.cons Aa rfl (.cons Aa rfl (.cons Aa rfl .nil)))) (.cons rfl rfl (Nat.le_of_ble_eq_true rfl) (.cons (.here) .nil) (.cons rfl rfl (Nat.le_of_ble_eq_true rfl) (.cons (.next <| .here) .nil) (.cons rfl rfl (Nat.le_of_ble_eq_true rfl) (.cons (.next <| .next <| .here) .nil) (.cons rfl rfl (Nat.le_of_ble_eq_true rfl) (.cons (.next <| .next <| .next <| .here) .nil) .nil))))) <| A5 rfl <| B5 (offs := [(0, 4)]) (zl := [.int .i64 0, .int .i64 0, .int .i64 0, .int .i64 0]) Cq DB rfl (.cons Aa rfl .nil) (by intro i p h; rcases i with _ | i <;> simp at h <;> subst h <;> rfl) (.cons rfl rfl (Nat.le_of_ble_eq_true rfl) (.cons (.here) (.cons (.next <| .here) (.cons (.next <| .next <| .here) (.cons (.next <| .next <| .next <| .here) .nil)))) .nil) (by decide) (by decide) fun b25 hb25 nb25 => A5 rfl <| Bp Cq H7 Aa ho3 Aa (B1 (s := 4) 0 rfl rfl (by simp [Value.oneCell'])) (by omega) (by omega) (.s <| .z) .last fun v26 R27 ho28 => ?_
      have ho62 : Own 121 4 v26 (allTo b i ++ gthL b i n ++ ownQ i n (plusG qs[i].2 (n : Int)).2 ++ newTo i n k ++ [(⟨(i : Int), (n : Int), (k : Int) + 1, 2⟩ : Ql)]).length ((allTo b i ++ gthL b i n ++ ownQ i n (plusG qs[i].2 (n : Int)).2 ++ newTo i n k ++ [(⟨(i : Int), (n : Int), (k : Int) + 1, 2⟩ : Ql)]).flatMap Ql.enc) R27 := Own.snoc ho28 rfl rfl
      refine Aj (Af 1) <| Ao <| A0 <| Ab <| Bn (fun _ _ h => h.drop (kD <| .refl _)) <| Am fun ds => Aj (Af 1) <| Ag rfl (AG Aa Aa rfl (by omega) (by omega)) <| Aj (Af 1) <| Ao ?_
      refine Ab ⟨_, m3 - 1, Off.eq (BR rfl <| Ca rfl <| BM rfl <| A2), by omega, ?_⟩
      exact ⟨k + 1, by omega, Cr (by push_cast; rfl), _, _, AX, (by rw [DH, ← List.append_assoc]; exact ho62), rfl⟩
     refine Ac <| AD (Af 3) <| Ad Aa (dF (by push_cast; omega)) ?_
     obtain rfl : k = M := by omega
     refine AH ?_
     refine A8 <| A8 <| AB <| A0 <| Ab <| Am fun ds => Aj (Af 1) <| Ag rfl (AG Aa Aa rfl (by omega) (by omega)) <| Aj (Af 1) <| Ao ?_
     refine Ab ⟨_, m2 - 1, Off.eq (Ca rfl <| BM rfl <| Cg rfl <| B3 rfl <| BR rfl <| Ca rfl <| BM rfl <| A2), by omega, ?_⟩
     refine ⟨n + 1, by omega, AX, _, _, AX, ?_, rfl⟩
     rw [DJ, ← List.append_assoc]
     unfold leafQ
     rw [← hgi, ← List.append_assoc, hM, Int.toNat_natCast]
     exact ho3
    have how : ownQ i n (plusG qs[i].2 (n : Int)).2 = [] := if_neg (fun h => h1 h.2)
    refine Ad Aa (dF h1) <| Al <| Ab <| AD (Af 1) <| Aq ?_
    refine AL [3, 10, 51, 52, 53, 54, 55, 56, 57, 58, 59, 60, 61, 62] (fun m3 e σ => ∃ k : Nat, m3 + k = M ∧ Fct e 10 (.int .i64 ((k : Int) + 1)) ∧ ∃ (v : Value) (R : List (Nat × Obj)), Fct e 3 v ∧ Own 121 4 v (allTo b i ++ gthL b i n ++ ownQ i n (plusG qs[i].2 (n : Int)).2 ++ newTo i n k).length ((allTo b i ++ gthL b i n ++ ownQ i n (plusG qs[i].2 (n : Int)).2 ++ newTo i n k).flatMap Ql.enc) R ∧ σ = ⟨F6, R⟩) (M) ?_ ?_
    · exact ⟨0, by omega, AX, _, _, AX, (by rw [how]; simpa [newTo] using ho2), rfl⟩
    rintro m3 e3 _ ⟨k, hm3, hu10, v4, R4, hu3, ho3, rfl⟩
    have hol : (allTo b i ++ gthL b i n ++ ownQ i n (plusG qs[i].2 (n : Int)).2 ++ newTo i n k).length ≤ 2100 := by rw [List.length_append, List.length_append, List.length_append, Fi]; omega
    by_cases hk : k < M
    ·refine Ac <| AD (Af 3) <| Ai Aa (dT (by push_cast; omega)) <| Al <| Ab <| Ac <| Aq <| Am fun ds => Aj (Af 4) <| Ag rfl (Bm FF (.cons Aa rfl (.cons Aa rfl (.cons Aa rfl (.cons Aa rfl .nil)))) (.cons rfl rfl (Nat.le_of_ble_eq_true rfl) (.cons (.here) .nil) (.cons rfl rfl (Nat.le_of_ble_eq_true rfl) (.cons (.next <| .here) .nil) (.cons rfl rfl (Nat.le_of_ble_eq_true rfl) (.cons (.next <| .next <| .here) .nil) (.cons rfl rfl (Nat.le_of_ble_eq_true rfl) (.cons (.next <| .next <| .next <| .here) .nil) .nil))))) <| A5 rfl <| B5 (offs := [(0, 4)]) (zl := [.int .i64 0, .int .i64 0, .int .i64 0, .int .i64 0]) Cq DB rfl (.cons Aa rfl .nil) (by intro i p h; rcases i with _ | i <;> simp at h <;> subst h <;> rfl) (.cons rfl rfl (Nat.le_of_ble_eq_true rfl) (.cons (.here) (.cons (.next <| .here) (.cons (.next <| .next <| .here) (.cons (.next <| .next <| .next <| .here) .nil)))) .nil) (by decide) (by decide) fun b30 hb30 nb30 => A5 rfl <| Bp Cq H7 Aa ho3 Aa (B1 (s := 4) 0 rfl rfl (by simp [Value.oneCell'])) (by omega) (by omega) (.s <| .z) .last fun v31 R32 ho33 => ?_
     have ho62 : Own 121 4 v31 (allTo b i ++ gthL b i n ++ ownQ i n (plusG qs[i].2 (n : Int)).2 ++ newTo i n k ++ [(⟨(i : Int), (n : Int), (k : Int) + 1, 2⟩ : Ql)]).length ((allTo b i ++ gthL b i n ++ ownQ i n (plusG qs[i].2 (n : Int)).2 ++ newTo i n k ++ [(⟨(i : Int), (n : Int), (k : Int) + 1, 2⟩ : Ql)]).flatMap Ql.enc) R32 := Own.snoc ho33 rfl rfl
     refine Aj (Af 1) <| Ao <| A0 <| Ab <| Bn (fun _ _ h => h.drop (kD <| .refl _)) <| Am fun ds => Aj (Af 1) <| Ag rfl (AG Aa Aa rfl (by omega) (by omega)) <| Aj (Af 1) <| Ao ?_
     refine Ab ⟨_, m3 - 1, Off.eq (BR rfl <| Ca rfl <| BM rfl <| A2), by omega, ?_⟩
     exact ⟨k + 1, by omega, Cr (by push_cast; rfl), _, _, AX, (by rw [DH, ← List.append_assoc]; exact ho62), rfl⟩
    refine Ac <| AD (Af 3) <| Ad Aa (dF (by push_cast; omega)) ?_
    obtain rfl : k = M := by omega
    refine AH ?_
    refine A8 <| A8 <| AB <| A0 <| Ab <| Am fun ds => Aj (Af 1) <| Ag rfl (AG Aa Aa rfl (by omega) (by omega)) <| Aj (Af 1) <| Ao ?_
    refine Ab ⟨_, m2 - 1, Off.eq (Ca rfl <| BM rfl <| Cg rfl <| B3 rfl <| BM rfl <| BX rfl <| A2), by omega, ?_⟩
    refine ⟨n + 1, by omega, AX, _, _, AX, ?_, rfl⟩
    rw [DJ, ← List.append_assoc]
    unfold leafQ
    rw [← hgi, ← List.append_assoc, hM, Int.toNat_natCast]
    exact ho3
   have how : ownQ i n (plusG qs[i].2 (n : Int)).2 = [] := if_neg (fun h => hn0 h.1)
   refine Am fun ds => Aj (Af 3) <| Ah rfl rfl Aa (.inl (congrArg Value.bool (dF (by omega)))) rfl <| Ah rfl rfl Aa (.inl (congrArg Value.bool (dF (by omega)))) rfl <| Ag rfl (As Aa (dF (by omega)) Aa) <| Ao <| Ab <| Ad Aa rfl <| Al <| Ab <| AD (Af 1) <| Aq ?_
   refine AL [3, 10, 51, 52, 53, 54, 55, 56, 57, 58, 59, 60, 61, 62] (fun m3 e σ => ∃ k : Nat, m3 + k = M ∧ Fct e 10 (.int .i64 ((k : Int) + 1)) ∧ ∃ (v : Value) (R : List (Nat × Obj)), Fct e 3 v ∧ Own 121 4 v (allTo b i ++ gthL b i n ++ ownQ i n (plusG qs[i].2 (n : Int)).2 ++ newTo i n k).length ((allTo b i ++ gthL b i n ++ ownQ i n (plusG qs[i].2 (n : Int)).2 ++ newTo i n k).flatMap Ql.enc) R ∧ σ = ⟨F6, R⟩) (M) ?_ ?_
   · exact ⟨0, by omega, AX, _, _, AX, (by rw [how]; simpa [newTo] using ho2), rfl⟩
   rintro m3 e3 _ ⟨k, hm3, hu10, v4, R4, hu3, ho3, rfl⟩
   have hol : (allTo b i ++ gthL b i n ++ ownQ i n (plusG qs[i].2 (n : Int)).2 ++ newTo i n k).length ≤ 2100 := by rw [List.length_append, List.length_append, List.length_append, Fi]; omega
   by_cases hk : k < M
   ·refine Ac <| AD (Af 3) <| Ai Aa (dT (by push_cast; omega)) <| Al <| Ab <| Ac <| Aq <| Am fun ds => Aj (Af 4) <| Ag rfl (Bm FF (.cons Aa rfl (.cons Aa rfl (.cons Aa rfl (.cons Aa rfl .nil)))) (.cons rfl rfl (Nat.le_of_ble_eq_true rfl) (.cons (.here) .nil) (.cons rfl rfl (Nat.le_of_ble_eq_true rfl) (.cons (.next <| .here) .nil) (.cons rfl rfl (Nat.le_of_ble_eq_true rfl) (.cons (.next <| .next <| .here) .nil) (.cons rfl rfl (Nat.le_of_ble_eq_true rfl) (.cons (.next <| .next <| .next <| .here) .nil) .nil))))) <| A5 rfl <| B5 (offs := [(0, 4)]) (zl := [.int .i64 0, .int .i64 0, .int .i64 0, .int .i64 0]) Cq DB rfl (.cons Aa rfl .nil) (by intro i p h; rcases i with _ | i <;> simp at h <;> subst h <;> rfl) (.cons rfl rfl (Nat.le_of_ble_eq_true rfl) (.cons (.here) (.cons (.next <| .here) (.cons (.next <| .next <| .here) (.cons (.next <| .next <| .next <| .here) .nil)))) .nil) (by decide) (by decide) fun b35 hb35 nb35 => A5 rfl <| Bp Cq H7 Aa ho3 Aa (B1 (s := 4) 0 rfl rfl (by simp [Value.oneCell'])) (by omega) (by omega) (.s <| .z) .last fun v36 R37 ho38 => ?_
    have ho62 : Own 121 4 v36 (allTo b i ++ gthL b i n ++ ownQ i n (plusG qs[i].2 (n : Int)).2 ++ newTo i n k ++ [(⟨(i : Int), (n : Int), (k : Int) + 1, 2⟩ : Ql)]).length ((allTo b i ++ gthL b i n ++ ownQ i n (plusG qs[i].2 (n : Int)).2 ++ newTo i n k ++ [(⟨(i : Int), (n : Int), (k : Int) + 1, 2⟩ : Ql)]).flatMap Ql.enc) R37 := Own.snoc ho38 rfl rfl
    refine Aj (Af 1) <| Ao <| A0 <| Ab <| Bn (fun _ _ h => h.drop (kD <| .refl _)) <| Am fun ds => Aj (Af 1) <| Ag rfl (AG Aa Aa rfl (by omega) (by omega)) <| Aj (Af 1) <| Ao ?_
    refine Ab ⟨_, m3 - 1, Off.eq (BR rfl <| Ca rfl <| BM rfl <| A2), by omega, ?_⟩
    exact ⟨k + 1, by omega, Cr (by push_cast; rfl), _, _, AX, (by rw [DH, ← List.append_assoc]; exact ho62), rfl⟩
   refine Ac <| AD (Af 3) <| Ad Aa (dF (by push_cast; omega)) ?_
   obtain rfl : k = M := by omega
   refine AH ?_
   refine A8 <| A8 <| AB <| A0 <| Ab <| Am fun ds => Aj (Af 1) <| Ag rfl (AG Aa Aa rfl (by omega) (by omega)) <| Aj (Af 1) <| Ao ?_
   refine Ab ⟨_, m2 - 1, Off.eq (Ca rfl <| BM rfl <| Cg rfl <| B3 rfl <| BM rfl <| BX rfl <| A2), by omega, ?_⟩
   refine ⟨n + 1, by omega, AX, _, _, AX, ?_, rfl⟩
   rw [DJ, ← List.append_assoc]
   unfold leafQ
   rw [← hgi, ← List.append_assoc, hM, Int.toNat_natCast]
   exact ho3
  refine Ac <| Az (Af 2) fun ds => Ag rfl (Ak AF Aa (AA hz5 rfl)) <| Aw (Af 1) <| Ad Aa (dF (by omega)) ?_
  obtain rfl : n = ((b.g i).leaves + 1).toNat := by omega
  refine AH ?_
  refine A8 <| A8 <| AB <| A0 <| Ab <| Am fun ds => Aj (Af 1) <| Ag rfl (AG Aa Aa rfl (by omega) (by omega)) <| Aj (Af 1) <| Ao ?_
  refine Ab ⟨_, m1 - 1, Off.eq (Ca rfl <| BM rfl <| BX rfl <| Cg rfl <| BR rfl <| Ca rfl <| A2), by omega, ?_⟩
  exact ⟨i + 1, by omega, AX, _, _, _, hG, AX, by rw [HC]; exact ho2, rfl⟩
 refine Ac <| Az (Af 2) fun ds => Ag rfl (Ak DG Aa (AA hz1 rfl)) <| Ag rfl (A4 Dy Aa hb.gs.plain) <| Aw (Af 1) <| Ad Aa (by first | rfl | exact dF (by omega)) ?_
 obtain rfl : i = qs.length := by omega
 have hal := Ev hv qs.length (by omega)
 refine AH ?_
 refine A8 <| A8 <| AB <| Ab <| AD (Af 2) <| BJ (σ := ⟨_, _⟩) (by rfl) ho (.z) .last fun F39 hF40 hz41 => ?_
 have hre := ho.sl (fun _ => rfl) hz41 (by omega)
 refine At <| Ap rfl Bd ?_
 show Sl _ _ 4 Ql.enc _
 unfold allQ
 rw [← hlen]
 exact hre
end
section
set_option maxRecDepth 100000
open Go.RowKit
theorem HE : AggT Tryz.prog 66 1 := Cu (by kernel_rfl)
instance : AggI Tryz.prog 66 1 := ⟨HE⟩
theorem bd_14 : Body Tryz.prog 14 := AE (by kernel_rfl)
theorem V5 : Body Tryz.prog 15 := AE (by kernel_rfl)
theorem bd_16 : Body Tryz.prog 16 := AE (by kernel_rfl)
theorem bd_51 : Body Tryz.prog 51 := AE (by kernel_rfl)
instance : FieldI Tryz.prog 27 0 0 := ⟨AU (by kernel_rfl)⟩
theorem NL : FieldT Tryz.prog 27 1 2 := AU (by kernel_rfl)
instance : FieldI Tryz.prog 27 1 2 := ⟨NL⟩
theorem NJ : FieldT Tryz.prog 66 0 0 := AU (by kernel_rfl)
instance : FieldI Tryz.prog 66 0 0 := ⟨NJ⟩
theorem C7 : OneT Tryz.prog 25 := BE (by kernel_rfl)
instance : OneI Tryz.prog 25 := ⟨C7⟩
theorem Cj : SliceT Tryz.prog 25 66 1 := Ci (by kernel_rfl)
instance : SliceI Tryz.prog 25 := ⟨_, _, Cj⟩
theorem UF {F : Heap} {v : Value} {x : List Int} (hx : Ints F v x) {n : Int} (hn : 0 ≤ n ∧ n ≤ 100000) : Ok Tryz.prog 16 [.agg #[v], .int .i64 n].toArray F fun r _ => ∃ z : Int, r = .int .i64 z ∧ (z = 0 → ItemOk n x) := by
 have hL1 := hx.plain.lt
 refine Ok.intro Tryz.func16 rfl Tryz.ntmps16 rfl fun w0 => Ac <| Am fun ds => A5 rfl <| Bg Aa rfl fun b1 hb1 nb1 => Aw (Af 1) <| AK (i := 0) rfl hb1 (.here) fun F2 hF3 hz2 => ?_
 replace hx := hx.mono hF3
 by_cases h4 : 4 < x.length
 ·refine Ac <| Az (Af 1) fun ds => Ag rfl (Ak Bq Aa (AA hz2 rfl)) <| Ag rfl (A4 A9 Aa hx.plain) <| Aw (Af 1) <| Ai Aa (dT (by omega)) <| AD (Af 1) <| At <| Ax <| Ap rfl Bd ?_
  exact ⟨_, rfl, fun h => absurd h (by decide)⟩
 refine Ac <| Az (Af 1) fun ds => Ag rfl (Ak Bq Aa (AA hz2 rfl)) <| Ag rfl (A4 A9 Aa hx.plain) <| Aw (Af 1) <| Ad Aa (dF (by omega)) <| Al <| Ab <| Ac <| AD (Af 1) <| Aq ?_
 refine AL [4, 5, 11, 12, 13, 14, 15, 16, 17, 18, 19, 20, 21, 22, 23, 24, 25, 26] (fun m e σ => ∃ k : Nat, m + k = x.length ∧ Fct e 5 (.int .i64 (k : Int)) ∧ (∀ j (hj : j < x.length), j < k → 0 ≤ x[j] ∧ x[j] ≤ n - 1) ∧ σ = ⟨F2, []⟩) (x.length) ?_ ?_
 · exact ⟨0, by omega, AX, (fun j _ h => absurd h (by omega)), rfl⟩
 rintro m e _ ⟨k, hm, hs5, hno, rfl⟩
 by_cases hk : k < x.length
 ·refine Ac <| Az (Af 2) fun ds => Ag rfl (Ak Bq Aa (AA hz2 rfl)) <| Ag rfl (A4 A9 Aa hx.plain) <| Aw (Af 1) <| Ai Aa (by first | rfl | exact dT (by omega)) ?_
  by_cases hin : inB 0 (n - 1) x[k] = true
  ·refine Al <| Ab <| Ac <| Aq <| Az (Af 1) fun ds => Ag rfl (Ak Bq Aa (AA hz2 rfl)) <| Aj (Af 1) <| Ag rfl (A1 (k := k) A9 Aa hx.plain Aa rfl hk) <| Ag rfl (Ak AF Aa (hx.cell1 hk rfl)) <| Aj (Af 1) <| Ag rfl (B4 Aa Aa rfl (by omega) (by omega)) <| AN rfl (Ay bd_51 Aa AW (UG _ _ _) (fun _ _ h => h)) <| Aw (Af 1) <| Ad Aa (by rw [hin] <;> rfl) <| Al <| A0 <| Ab <| Am fun ds => Aj (Af 1) <| Ag rfl (AG Aa Aa rfl (by omega) (by omega)) <| Aj (Af 1) <| Ao ?_
   refine Ab ⟨_, m - 1, Off.eq (B3 rfl <| BX rfl <| A2), by omega, ?_⟩
   refine ⟨k + 1, by omega, AX, ?_, rfl⟩
   intro j hj hjk
   rcases Nat.lt_succ_iff_lt_or_eq.1 hjk with hjk | rfl
   · exact hno j hj hjk
   exact Cn.1 hin
  replace hin : inB 0 (n - 1) x[k] = false := by simpa using hin
  refine Al <| Ab <| Ac <| Aq <| Az (Af 1) fun ds => Ag rfl (Ak Bq Aa (AA hz2 rfl)) <| Aj (Af 1) <| Ag rfl (A1 (k := k) A9 Aa hx.plain Aa rfl hk) <| Ag rfl (Ak AF Aa (hx.cell1 hk rfl)) <| Aj (Af 1) <| Ag rfl (B4 Aa Aa rfl (by omega) (by omega)) <| AN rfl (Ay bd_51 Aa AW (UG _ _ _) (fun _ _ h => h)) <| Aw (Af 1) <| Ai Aa (by rw [hin] <;> rfl) <| AD (Af 1) <| At ?_
  refine A7 (Ax (Ax (A7 (Ax ?_))))
  refine Ap rfl Bd ?_
  exact ⟨_, rfl, fun h => absurd h (by decide)⟩
 refine Ac <| Az (Af 2) fun ds => Ag rfl (Ak Bq Aa (AA hz2 rfl)) <| Ag rfl (A4 A9 Aa hx.plain) <| Aw (Af 1) <| Ad Aa (by first | rfl | exact dF (by omega)) ?_
 obtain rfl : k = x.length := by omega
 refine AH ?_
 refine A8 <| A8 <| AB <| Ab <| Ac <| AD (Af 1) <| Aq ?_
 refine AL [4, 6, 27, 28, 29, 30, 31, 32, 33, 34, 35, 36, 37, 38, 39, 40, 41, 42, 43, 44, 45] (fun m e σ => ∃ k : Nat, 1 ≤ k ∧ m + k = x.length + 1 ∧ Fct e 6 (.int .i64 (k : Int)) ∧ (∀ j (hj : j < x.length), 0 < j → j < k → x[j - 1] < x[j]) ∧ σ = ⟨F2, []⟩) (x.length) ?_ ?_
 · exact ⟨1, by omega, by omega, AX, (fun j _ h1 h2 => absurd h1 (by omega)), rfl⟩
 rintro m2 e2 _ ⟨k, hk0, hm2, ht6, hor, rfl⟩
 by_cases hk : k < x.length
 ·refine Ac <| Az (Af 2) fun ds => Ag rfl (Ak Bq Aa (AA hz2 rfl)) <| Ag rfl (A4 A9 Aa hx.plain) <| Aw (Af 1) <| Ai Aa (by first | rfl | exact dT (by omega)) ?_
  have hk1 : k - 1 < x.length := by omega
  by_cases hle : x[k] ≤ x[k - 1]
  ·refine Al <| Ab <| Ac <| Aq <| Ac <| Bs (.inl rfl) (fun _ _ h => h) (by kernel_rfl) (by kernel_rfl) fun ds => AR (Af 1) <| AT rfl (Ak Bq Aa (AA hz2 rfl)) <| AR (Af 1) <| AT rfl (A1 (k := k) A9 Aa hx.plain Aa rfl hk) <| AT rfl (Ak AF Aa (hx.cell1 hk rfl)) <| AR (Af 1) <| AT rfl (Ak Bq Aa (AA hz2 rfl)) <| AR (Af 1) <| AT rfl (B4 Aa Aa rfl (by omega) (by omega)) <| AT rfl (A1 (k := k - 1) A9 Aa hx.plain Aa (by omega) hk1) <| AT rfl (Ak AF Aa (hx.cell1 hk1 rfl)) <| AR (Af 1) <| B0 <| Ab <| Ai Aa (dT hle) <| AD (Af 1) <| At ?_
   refine A7 (Ax (Ax (A7 (Ax ?_))))
   refine Ap rfl Bd ?_
   exact ⟨_, rfl, fun h => absurd h (by decide)⟩
  refine Al <| Ab <| Ac <| Aq <| Ac <| Bs (.inl rfl) (fun _ _ h => h) (by kernel_rfl) (by kernel_rfl) fun ds => AR (Af 1) <| AT rfl (Ak Bq Aa (AA hz2 rfl)) <| AR (Af 1) <| AT rfl (A1 (k := k) A9 Aa hx.plain Aa rfl hk) <| AT rfl (Ak AF Aa (hx.cell1 hk rfl)) <| AR (Af 1) <| AT rfl (Ak Bq Aa (AA hz2 rfl)) <| AR (Af 1) <| AT rfl (B4 Aa Aa rfl (by omega) (by omega)) <| AT rfl (A1 (k := k - 1) A9 Aa hx.plain Aa (by omega) hk1) <| AT rfl (Ak AF Aa (hx.cell1 hk1 rfl)) <| AR (Af 1) <| B0 <| Ab <| Ad Aa (dF hle) <| Al <| A0 <| Ab <| Am fun ds => Aj (Af 1) <| Ag rfl (AG Aa Aa rfl (by omega) (by omega)) <| Aj (Af 1) <| Ao ?_
  refine Ab ⟨_, m2 - 1, Off.eq (B3 rfl <| Ca rfl <| A2), by omega, ?_⟩
  refine ⟨k + 1, by omega, by omega, AX, ?_, rfl⟩
  intro j hj hj0 hjk
  rcases Nat.lt_succ_iff_lt_or_eq.1 hjk with hjk | rfl
  · exact hor j hj hj0 hjk
  omega
 refine Ac <| Az (Af 2) fun ds => Ag rfl (Ak Bq Aa (AA hz2 rfl)) <| Ag rfl (A4 A9 Aa hx.plain) <| Aw (Af 1) <| Ad Aa (by first | rfl | exact dF (by omega)) <| AH ?_
 refine A8 <| A8 <| AB <| Ab <| AD (Af 1) <| At <| Ap rfl Bd ?_
 exact ⟨_, rfl, fun _ => ⟨by omega, fun j hj => hno j hj (by omega), fun j hj hj0 => hor j hj hj0 (by omega)⟩⟩
theorem SW {F : Heap} {vg vi : Value} {qs : List (Value × Gth)} {is : List (Value × List Int)} {c : Cpc} (hc : CpcR F vg qs vi is c) : Ok Tryz.prog 4 [.agg #[.int .i64 c.book.signed, vg, vi]].toArray F fun r _ => ∃ p q z : Int, r = .tuple #[.int .i64 p, .int .i64 q, .int .i64 z] ∧ (z = 0 → ValidC c) := by
 have hL1 := hc.items.plain.lt
 have hlen := hc.len
 refine Ok.intro Tryz.func4 rfl Tryz.ntmps4 rfl fun w0 => Ac <| Am fun ds => A5 rfl <| Bg Aa rfl fun b1 hb1 nb1 => Aw (Af 3) <| AK (i := 0) rfl hb1 (.here) fun F2 hF3 hz1 => ?_
 replace hc := hc.mono hF3
 refine Az (Af 1) fun ds => Ag rfl (AC (vs := [.int .i64 c.book.signed, vg]) CY Aa rfl rfl (B8 hz1 (n := 2) rfl)) <| AN rfl (Ay bd_14 Aa AW (Qv hc.book) (fun _ _ h => h)) <| Aw (Af 7) <| Ac <| Ac ?_
 by_cases he : (checkR1 c.book).2.2 = 0
 ·have hv := Mo he
  have hal := Ev hv c.book.gs.length (Nat.le_refl _)
  have hmb := hv.many
  refine Am fun ds => Aj (Af 3) <| Ae rfl rfl Aa (dT he) <| Aj (Af 1) <| Ae rfl rfl Aa (dT he) <| Ag rfl (AC (vs := [.int .i64 c.book.signed, vg]) CY Aa rfl rfl (B8 hz1 (n := 2) rfl)) <| Ae rfl rfl Aa (dT he) <| A5 rfl <| Bi V5 Aa AW (Od hc.book hv) fun v4 F5 hr6 hF7 => ?_
  replace hc := hc.mono hF7
  replace hz1 := hF7 _ _ hz1
  have hsl24 := hr6
  refine Ae rfl rfl Aa (dT he) <| Ag rfl (A4 Cq Aa hsl24.plain) <| Ae rfl rfl Aa (dT he) <| Aj (Af 1) <| Ag rfl (Ar Aa (dT he) Aa) <| Ao <| Ab ?_
  by_cases hl : (allQ c.book).length ≤ 120
  ·refine Ad Aa (dF (by omega)) <| Al <| Ab <| Ac <| AD (Af 2) <| Ad Aa (dF (fun h => h he)) ?_
   by_cases hm : is.length ≤ 120
   ·refine Al <| Ab <| Az (Af 1) fun ds => Ag rfl (AC (vs := [.int .i64 c.book.signed, vg]) CY Aa rfl rfl (B8 hz1 (n := 2) rfl)) <| A5 rfl <| Bi V5 Aa AW (Od hc.book hv) fun v8 F9 hr10 hF11 => ?_
    replace hc := hc.mono hF11
    replace hz1 := hF11 _ _ hz1
    have hsl33 := hr10
    refine Ag rfl (A4 Cq Aa hsl33.plain) <| Aw (Af 1) <| Ac <| Az (Af 1) fun ds => Ag rfl (Ak C7 Aa (AA hz1 rfl)) <| Ag rfl (A4 Cj Aa hc.items.plain) <| Aw (Af 1) <| Ad Aa (dF (by omega)) <| Al <| Ab <| Ac <| AD (Af 1) <| Aq ?_
    refine AL [2, 3, 4, 7, 9, 39, 40, 41, 42, 43, 44, 45, 46, 47, 48, 49, 50, 51, 52, 53, 54, 55, 56] (fun m e σ => ∃ (G : Heap) (i : Nat), F9.le G ∧ m + i = is.length ∧ Fct e 9 (.int .i64 (i : Int)) ∧ (∀ j (hj : j < is.length), j < i → ItemOk c.n is[j].2) ∧ σ = ⟨G, []⟩) (is.length) ?_ ?_
    · exact ⟨_, 0, Heap.le_refl _, by omega, AX, (fun j _ h => absurd h (by omega)), rfl⟩
    rintro m e _ ⟨G, i, hG, hm, hs9, hno, rfl⟩; replace hc := hc.mono hG; replace hz1 := hG _ _ hz1
    by_cases hi : i < is.length
    ·refine Ac <| Az (Af 2) fun ds => Ag rfl (Ak C7 Aa (AA hz1 rfl)) <| Ag rfl (A4 Cj Aa hc.items.plain) <| Aw (Af 1) <| Ai Aa (by first | rfl | exact dT (by omega)) ?_
     have hcl := hc.could _ (List.getElem_mem hi)
     refine Al <| Ab <| Ac <| Aq <| Az (Af 1) fun ds => Ag rfl (Ak C7 Aa (AA hz1 rfl)) <| Aj (Af 1) <| Ag rfl (A1 (k := i) Cj Aa hc.items.plain Aa rfl hi) <| Ag rfl (AC (vs := (itE is[i])) HE Aa rfl rfl (hc.items.whole hi)) <| Aj (Af 1) <| A5 rfl <| Bi bd_16 Aa AW (UF (n := c.n) hcl (by unfold Cpc.n; omega)) fun v13 F14 hr15 hF16 => ?_
     replace hG := Heap.le_trans hG hF16
     obtain ⟨z52, rfl, hz52⟩ := hr15
     refine Aw (Af 1) <| Ac ?_
     by_cases hz : z52 = 0
     ·refine Am fun ds => Aw (Af 2) <| Ad Aa (dF (fun h => h hz)) <| Al <| A0 <| Ab <| Am fun ds => Aj (Af 1) <| Ag rfl (AG Aa Aa rfl (by omega) (by omega)) <| Aj (Af 1) <| Ao ?_
      refine Ab ⟨_, m - 1, Off.eq (B3 rfl <| BM rfl <| A2), by omega, ?_⟩
      refine ⟨_, i + 1, hG, by omega, AX, ?_, rfl⟩
      intro j hj hji
      rcases Nat.lt_succ_iff_lt_or_eq.1 hji with hji | rfl
      · exact hno j hj hji
      exact hz52 hz
     refine Am fun ds => Aw (Af 2) <| Ai Aa (dT hz) <| AD (Af 5) <| At ?_
     refine A7 (Ax (Ax (A7 (Ax ?_))))
     refine Ap rfl Bd ?_
     exact ⟨_, _, _, rfl, fun h => absurd h (by first | decide | assumption)⟩
    refine Ac <| Az (Af 2) fun ds => Ag rfl (Ak C7 Aa (AA hz1 rfl)) <| Ag rfl (A4 Cj Aa hc.items.plain) <| Aw (Af 1) <| Ad Aa (by first | rfl | exact dF (by omega)) ?_
    obtain rfl : i = is.length := by omega
    refine AH ?_
    refine A8 <| A8 <| AB <| Ab <| AD (Af 1) <| Ac <| AD (Af 1) <| Aq ?_
    refine AL [2, 3, 4, 10, 11, 57, 58, 59, 60, 61, 62, 63, 64, 65, 66, 67, 68, 69, 70, 71, 72, 73, 74, 75, 76] (fun m e σ => ∃ i : Nat, m + i = is.length ∧ Fct e 11 (.int .i64 (i : Int)) ∧ Fct e 10 (.int .i64 (doubts ((is.map (·.2)).take i) : Int)) ∧ doubts ((is.map (·.2)).take i) ≤ 3 ∧ σ = ⟨G, []⟩) (is.length) ?_ ?_
    · exact ⟨0, by omega, AX, AX, (by simp [doubts]), rfl⟩
    rintro m2 e2 _ ⟨i, hm2, ht11, ht10, hd3, rfl⟩
    by_cases hi : i < is.length
    ·refine Ac <| Az (Af 2) fun ds => Ag rfl (Ak C7 Aa (AA hz1 rfl)) <| Ag rfl (A4 Cj Aa hc.items.plain) <| Aw (Af 1) <| Ai Aa (by first | rfl | exact dT (by omega)) ?_
     have hd1 := Kx (l := is.map (·.2)) (k := i) (by rw [List.length_map]; exact hi)
     rw [List.getElem_map] at hd1
     have hcl := hc.could _ (List.getElem_mem hi)
     have hL4 := hcl.plain.lt
     have hdb := SR (l := (is.map (·.2)).take i)
     rw [List.length_take, List.length_map] at hdb
     by_cases h1 : 1 < is[i].2.length
     ·rw [if_pos h1] at hd1
      refine Al <| Ab <| Ac <| Aq <| Ac <| Az (Af 1) fun ds => Ag rfl (Ak C7 Aa (AA hz1 rfl)) <| Aj (Af 1) <| Ag rfl (A1 (k := i) Cj Aa hc.items.plain Aa rfl hi) <| Aj (Af 1) <| Ag rfl (Ak Bq Aa (hc.items.cell1 hi rfl)) <| Ag rfl (A4 A9 Aa hcl.plain) <| Aw (Af 1) <| Ai Aa (dT (by omega)) ?_
      by_cases h3 : doubts ((is.map (·.2)).take i) + 1 ≤ 3
      ·refine Am fun ds => Aj (Af 1) <| Ag rfl (AG Aa Aa rfl (by omega) (by omega)) <| Aw (Af 1) <| AD (Af 2) <| Ad Aa (dF (by omega)) <| Al <| A0 <| Ab <| Am fun ds => Aj (Af 1) <| Ag rfl (AG Aa Aa rfl (by omega) (by omega)) <| Aj (Af 1) <| Ao ?_
       refine Ab ⟨_, m2 - 1, Off.eq (B3 rfl <| Ca rfl <| BX rfl <| A2), by omega, ?_⟩
       exact ⟨i + 1, by omega, AX, Cr (congrArg (Value.int .i64) (by rw [hd1]; push_cast; rfl)), by omega, rfl⟩
      refine Am fun ds => Aj (Af 1) <| Ag rfl (AG Aa Aa rfl (by omega) (by omega)) <| Aw (Af 1) <| AD (Af 2) <| Ai Aa (dT (by omega)) <| AD (Af 4) <| At ?_
      refine A7 (Ax (Ax (A7 (Ax ?_))))
      refine Ap rfl Bd ?_
      exact ⟨_, _, _, rfl, fun h => absurd h (by first | decide | assumption)⟩
     rw [if_neg h1] at hd1
     refine Al <| Ab <| Ac <| Aq <| Ac <| Az (Af 1) fun ds => Ag rfl (Ak C7 Aa (AA hz1 rfl)) <| Aj (Af 1) <| Ag rfl (A1 (k := i) Cj Aa hc.items.plain Aa rfl hi) <| Aj (Af 1) <| Ag rfl (Ak Bq Aa (hc.items.cell1 hi rfl)) <| Ag rfl (A4 A9 Aa hcl.plain) <| Aw (Af 1) <| Ad Aa (dF (by omega)) <| Al <| Ab <| AD (Af 2) <| Ad Aa (dF (by omega)) <| Al <| A0 <| Ab <| Am fun ds => Aj (Af 1) <| Ag rfl (AG Aa Aa rfl (by omega) (by omega)) <| Aj (Af 1) <| Ao ?_
     refine Ab ⟨_, m2 - 1, Off.eq (B3 rfl <| BM rfl <| A2), by omega, ?_⟩
     exact ⟨i + 1, by omega, AX, Cr (congrArg (Value.int .i64) (by rw [hd1, Nat.add_zero])), by omega, rfl⟩
    refine Ac <| Az (Af 2) fun ds => Ag rfl (Ak C7 Aa (AA hz1 rfl)) <| Ag rfl (A4 Cj Aa hc.items.plain) <| Aw (Af 1) <| Ad Aa (by first | rfl | exact dF (by omega)) ?_
    obtain rfl : i = is.length := by omega
    refine AH ?_
    refine A8 <| A8 <| AB <| Ab <| AD (Af 3) <| At <| Ap rfl Bd ?_
    refine ⟨_, _, _, rfl, fun _ => ⟨hv, by omega, by omega, ?_, ?_⟩⟩
    · intro x hx
      rw [← hc.eqs] at hx
      obtain ⟨y, hy, rfl⟩ := List.mem_map.1 hx
      obtain ⟨j, hj, rfl⟩ := List.mem_iff_getElem.1 hy
      exact hno j hj hj
    rw [← hc.eqs]
    rw [List.take_of_length_le (by simp)] at hd3
    exact hd3
   refine Al <| Ab <| Az (Af 1) fun ds => Ag rfl (AC (vs := [.int .i64 c.book.signed, vg]) CY Aa rfl rfl (B8 hz1 (n := 2) rfl)) <| A5 rfl <| Bi V5 Aa AW (Od hc.book hv) fun v18 F19 hr20 hF21 => ?_
   replace hc := hc.mono hF21
   replace hz1 := hF21 _ _ hz1
   have hsl33 := hr20
   refine Ag rfl (A4 Cq Aa hsl33.plain) <| Aw (Af 1) <| Ac <| Az (Af 1) fun ds => Ag rfl (Ak C7 Aa (AA hz1 rfl)) <| Ag rfl (A4 Cj Aa hc.items.plain) <| Aw (Af 1) <| Ai Aa (dT (by omega)) <| AD (Af 3) <| At <| Ax <| Ap rfl Bd ?_
   exact ⟨_, _, _, rfl, fun h => absurd h (by first | decide | assumption)⟩
  refine Ai Aa (dT (by omega)) <| Am fun ds => Aw (Af 1) <| Ac <| AD (Af 2) <| Ai Aa rfl <| AD (Af 4) <| At <| Ax <| Ap rfl Bd ?_
  exact ⟨_, _, _, rfl, fun h => absurd h (by first | decide | assumption)⟩
 refine Am fun ds => Aj (Af 3) <| Ah rfl rfl Aa (.inl (congrArg Value.bool (dF he))) rfl <| Ah rfl rfl Aa (.inl (congrArg Value.bool (dF he))) rfl <| Ah rfl rfl Aa (.inl (congrArg Value.bool (dF he))) rfl <| Ah rfl rfl Aa (.inl (congrArg Value.bool (dF he))) rfl <| Ah rfl rfl Aa (.inl (congrArg Value.bool (dF he))) rfl <| Ag rfl (As Aa (dF he) Aa) <| Ao <| Ab <| Ad Aa rfl <| Al <| Ab <| Ac <| AD (Af 2) <| Ai Aa (dT he) <| AD (Af 4) <| At <| Ax <| Ap rfl Bd ?_
 exact ⟨_, _, _, rfl, fun h => absurd h (by first | decide | assumption)⟩
end
section
open Go.RowKit
def notI (td : TypeDesc) : Bool := match td with | .interface _ => false | _ => true
section
variable {P : Program} {n : Nat} {B : Base} {e : Env} {σ : St} {d : Option Nat} {ty : TypeId} {pos : String} {af : Array Edge} {gd : Option (Nat × Bool)}
theorem N1 {T : Nat} {td : TypeDesc} {x : Operand} {v : Value} (hu : P.underlying T = some td) (hn : notI td = true) (hx : ev e x = v) : OpR P B ⟨d, .makeInterface T x, ty, pos, af, gd⟩ e σ (.iface T v) := fun w _ => by
 subst hx
 cases td <;> first | (cases hn; done) | simp [execOp, Instr.makeInterface, Bo hu]
theorem G7 {U T : Nat} {td : TypeDesc} {x : Operand} {v : Value} (hu : P.underlying T = some td) (hn : notI td = true) (hx : ev e x = .iface T v) : OpR P B ⟨d, .typeAssert x U T true, ty, pos, af, gd⟩ e σ (.tuple #[v, .bool true]) := fun w _ => by
 cases td <;> first | (cases hn; done) | simp [execOp, hx, Instr.typeAssert, Bo hu]
theorem Fg {U T S : Nat} {td : TypeDesc} {x : Operand} {v z : Value} (hu : P.underlying T = some td) (hn : notI td = true) (hz : ZeroT P T z) (hne : S ≠ T) (hx : ev e x = .iface S v) : OpR P B ⟨d, .typeAssert x U T true, ty, pos, af, gd⟩ e σ (.tuple #[z, .bool false]) := fun w _ => by
 cases td <;> first | (cases hn; done) | simp [execOp, hx, Instr.typeAssert, Bo hu, hne, E0 hz]
theorem N2 {T S : Nat} {ms : Array (String × TypeId)} {x y : Operand} {u : TypeId} {v : Value} (hu : P.underlying T = some (.interface ms)) (hx : ev e x = .iface S v) (hy : ev e y = .nilIface) : OpR P B ⟨d, .binOp .eql T x y u, ty, pos, af, gd⟩ e σ (.bool false) := fun w _ => by
 have he : (Op.equal T (.iface S v) .nilIface).run P w = .ok false w := by
   show (Op.equalIn (9999 + 1) T (.iface S v) .nilIface).run P w = _
   rw [Op.equalIn]
   simp [Bo hu]
 have hg : (eqGuard .eql T x y (.iface S v) .nilIface).run P w = .ok () w := by simp [eqGuard]
 have hb : (binOp .eql T (.iface S v) .nilIface).run P w = .ok (.bool false) w := by
   unfold binOp
   simp [he]
 simp only [execOp, hx, hy, Sem.run_bind, hg, Result.andThen_ok, hb]
 simp
end
end
section
set_option maxHeartbeats 1000000
set_option maxRecDepth 100000
open Go.RowKit
theorem Nl : ZeroT Tryz.prog 195 (.agg #[.int .i64 0, .int .i64 0]) := Br (by kernel_rfl)
theorem Nk : ZeroT Tryz.prog 236 (.agg #[.int .i64 0]) := Br (by kernel_rfl)
theorem P3 : ZeroT Tryz.prog 237 (.agg #[.int .i64 0]) := Br (by kernel_rfl)
theorem D8 : Body Tryz.prog 103 := AE (by kernel_rfl)
theorem JR : Body Tryz.prog 111 := AE (by kernel_rfl)
theorem bd_115 : Body Tryz.prog 115 := AE (by kernel_rfl)
theorem bd_145 : Body Tryz.prog 145 := AE (by kernel_rfl)
theorem bt_195 : BuildT Tryz.prog 195 [.int .i64 0, .int .i64 0] [(0, 1), (1, 1)] := BD Nl (by kernel_rfl) (by decide)
theorem bt_236 : BuildT Tryz.prog 236 [.int .i64 0] [(0, 1)] := BD Nk (by kernel_rfl) (by decide)
theorem bt_237 : BuildT Tryz.prog 237 [.int .i64 0] [(0, 1)] := BD P3 (by kernel_rfl) (by decide)
theorem SJ {F : Heap} {v : Value} {xs : List Int} (h : Ints F v xs) (p : _ → Bool) {g : FuncId} {cs : List Value} (hg : Body Tryz.prog g) (hp : ∀ k (hk : k < xs.length), Ok Tryz.prog g ([Value.int .i64 xs[k]] ++ cs).toArray F fun r _ => r = .bool (p xs[k])) : Ok Tryz.prog 118 [v, .func (.func g) #[] cs.toArray].toArray F fun r _ => r = .int .i64 (findI p xs) := by
 refine Ok.intro Tryz.func118 rfl Tryz.ntmps118 rfl fun w0 => ?_
 have hlen := h.plain.lt
 refine AD (Af 1) <| Ac <| Az (Af 1) fun ds => Ag rfl (A4 A9 Aa h.plain) <| Aw (Af 1) <| Aq ?_
 refine AL [4, 5, 8, 9, 10, 11, 12, 13, 14, 15, 16, 17, 18] (fun m e σ => ∃ k : Nat, m + k = xs.length ∧ Fct e 8 (.int .i64 k) ∧ σ = ⟨F, []⟩ ∧ ∀ j (hj : j < xs.length), j < k → p xs[j] = false) (xs.length) ?_ ?_
 · exact ⟨0, by omega, AX, rfl, fun j hj h => absurd h (by omega)⟩
 rintro m e _ ⟨k, hm, hs8, rfl, hno⟩
 by_cases hlt : k < xs.length
 ·refine AD (Af 1) <| Ac <| Ai Aa (by first | rfl | exact dT (by omega)) ?_
  by_cases hpk : p xs[k] = true
  ·refine Al <| Ab <| Ac <| Aq <| AD (Af 2) <| Az (Af 3) fun ds => Ag rfl (A1  A9 Aa h.plain Aa rfl (by omega)) <| Ag rfl (Ak AF Aa (h.cell1 (by omega) rfl)) <| AN rfl (Ay hg Aa AW (hp k hlt) (fun _ _ h => h)) <| Ao <| Ab <| Ai Aa hpk <| AD (Af 2) <| At ?_
   refine A7 (Ax (Ax (A7 (Ax ?_))))
   refine Ap rfl Bd ?_
   show _ = _
   rw [Co hlt hpk hno]; rfl
  replace hpk : p xs[k] = false := by simpa using hpk
  refine Al <| Ab <| Ac <| Aq <| AD (Af 2) <| Az (Af 3) fun ds => Ag rfl (A1  A9 Aa h.plain Aa rfl (by omega)) <| Ag rfl (Ak AF Aa (h.cell1 (by omega) rfl)) <| AN rfl (Ay hg Aa AW (hp k hlt) (fun _ _ h => h)) <| Ao <| Ab <| Ad Aa hpk <| Al <| A0 <| Ab <| Am fun ds => Ag rfl (AG Aa Aa rfl (by omega) (by omega)) <| Aj (Af 1) <| Ao ?_
  refine Ab ⟨_, m - 1, Off.eq (BR rfl <| BM rfl <| BX rfl <| A2), by omega, ?_⟩
  refine ⟨k + 1, by omega, AX, rfl, fun j hj hjk => ?_⟩
  rcases Nat.lt_succ_iff_lt_or_eq.1 hjk with hjk | rfl
  · exact hno j hj hjk
  exact hpk
 refine AD (Af 1) <| Ac <| Ad Aa (by first | rfl | exact dF (by omega)) <| AH ?_
 refine A8 <| A8 <| AB <| Ab <| AD (Af 1) <| At <| Ap rfl Bd ?_
 show _ = _
 rw [Cy fun j hj => hno j hj (by omega)]; rfl
theorem Jq {F : Heap} {v : Value} {xs : List Int} (h : Ints F v xs) (p : _ → Bool) {g : FuncId} {cs : List Value} (hg : Body Tryz.prog g) (hp : ∀ k (hk : k < xs.length), Ok Tryz.prog g ([Value.int .i64 xs[k]] ++ cs).toArray F fun r _ => r = .bool (p xs[k])) : Ok Tryz.prog 81 [v, .func (.func g) #[] cs.toArray].toArray F fun r _ => r = .bool (xs.any p) := by
 refine Ok.intro Tryz.func81 rfl Tryz.ntmps81 rfl fun w0 => AD (Af 1) <| Az (Af 2) fun ds => AN rfl (Ay VI Aa AW (SJ h p hg hp) (fun _ _ h => h)) <| Aw (Af 2) <| At <| Ap rfl Bd ?_
 show _ = _
 rw [← CM]; rfl
theorem Uo {F : Heap} {b1 b2 T1 T2 : Nat} {lo hi : Int} (h1 : F b1 = some (bx T1 [.int .i64 lo])) (h2 : F b2 = some (bx T2 [.int .i64 hi])) (z : Int) : Ok Tryz.prog 145 [.int .i64 z, .pointer (some ⟨b1, 0, none⟩), .pointer (some ⟨b2, 0, none⟩)].toArray F fun r _ => r = .bool (!(inB lo hi z)) := by
 refine Ok.intro Tryz.func145 rfl Tryz.ntmps145 rfl fun w0 => ?_
 by_cases hz : z < lo
 ·refine AD (Af 1) <| Az (Af 1) fun ds => Ag rfl (Ak AF Aa (AA h1 rfl)) <| Aj (Af 2) <| Ah rfl rfl Aa (.inl (congrArg Value.bool (by first | rfl | exact dT (by omega)))) rfl <| Ah rfl rfl Aa (.inl (congrArg Value.bool (by first | rfl | exact dT (by omega)))) rfl <| Ah rfl rfl Aa (.inl (congrArg Value.bool (by first | rfl | exact dT (by omega)))) rfl <| Ag rfl (Ar Aa (by first | rfl | exact dT (by omega)) Aa) <| Aw (Af 1) <| At <| Ap rfl Bd ?_
  show _ = _
  have : ¬ lo ≤ z := by omega
  simp [outOf, inB, hz, this]
 refine AD (Af 1) <| Az (Af 1) fun ds => Ag rfl (Ak AF Aa (AA h1 rfl)) <| Aj (Af 2) <| Ae rfl rfl Aa (by first | rfl | exact dF (by omega)) <| Aj (Af 1) <| Ae rfl rfl Aa (by first | rfl | exact dF (by omega)) <| Ag rfl (Ak AF Aa (AA h2 rfl)) <| Ae rfl rfl Aa (by first | rfl | exact dF (by omega)) <| Aj (Af 1) <| Ag rfl (As Aa (by first | rfl | exact dF (by omega)) Aa) <| Aw (Af 1) ?_
 by_cases hz2 : hi < z
 ·refine At <| Ap rfl Bd ?_
  show _ = _
  have : ¬ z ≤ hi := by omega
  simp [outOf, inB, hz2, this]
 refine At <| Ap rfl Bd ?_
 show _ = _
 have e1 : lo ≤ z := by omega
 have e2 : z ≤ hi := by omega
 simp [outOf, inB, hz2, e1, e2]
theorem CR {F : Heap} {v : Value} {xs : List Int} (lo hi : Int) (h : Ints F v xs) : Ok Tryz.prog 103 [.int .i64 lo, .int .i64 hi, v].toArray F fun r _ => r = .bool (xs.any fun z => !(inB lo hi z)) := by
 refine Ok.intro Tryz.func103 rfl Tryz.ntmps103 rfl fun w0 => Ac <| Am fun ds => A5 rfl <| Bg Aa rfl fun b1 hb1 nb1 => A5 rfl <| Bg Aa rfl fun b2 hb2 nb2 => Aw (Af 1) <| AK (i := 1) rfl hb1 (.next <| .here) fun F3 hF4 hz1 => ?_
 refine AK (i := 0) rfl hb2 (.here) fun F5 hF6 hz2 => ?_
 replace h := h.mono (Heap.le_trans hF4 hF6)
 replace hz1 := hF6 _ _ hz1
 refine Az (Af 1) fun ds => Ag rfl (Bt AW) <| AN rfl (Ay Vz Aa AW (Jq h (fun z => !(inB lo hi z)) bd_145 fun k hk => Uo hz1 hz2 _) (fun _ _ h => h)) <| Aw (Af 1) <| At <| Ap rfl Bd ?_
 rfl
theorem Up {F : Heap} {b1 b2 T1 T2 : Nat} {lo hi : Int} (h1 : F b1 = some (bx T1 [.int .i64 lo])) (h2 : F b2 = some (bx T2 [.int .i64 hi])) (z : Int) : Ok Tryz.prog 115 [.int .i64 z, .pointer (some ⟨b1, 0, none⟩), .pointer (some ⟨b2, 0, none⟩)].toArray F fun r _ => r = .bool (!(inB lo hi z)) := by
 refine Ok.intro Tryz.func115 rfl Tryz.ntmps115 rfl fun w0 => ?_
 by_cases hz : z < lo
 ·refine AD (Af 1) <| Az (Af 1) fun ds => Ag rfl (Ak AF Aa (AA h1 rfl)) <| Aj (Af 2) <| Ah rfl rfl Aa (.inl (congrArg Value.bool (by first | rfl | exact dT (by omega)))) rfl <| Ah rfl rfl Aa (.inl (congrArg Value.bool (by first | rfl | exact dT (by omega)))) rfl <| Ah rfl rfl Aa (.inl (congrArg Value.bool (by first | rfl | exact dT (by omega)))) rfl <| Ag rfl (Ar Aa (by first | rfl | exact dT (by omega)) Aa) <| Aw (Af 1) <| At <| Ap rfl Bd ?_
  show _ = _
  have : ¬ lo ≤ z := by omega
  simp [outOf, inB, hz, this]
 refine AD (Af 1) <| Az (Af 1) fun ds => Ag rfl (Ak AF Aa (AA h1 rfl)) <| Aj (Af 2) <| Ae rfl rfl Aa (by first | rfl | exact dF (by omega)) <| Aj (Af 1) <| Ae rfl rfl Aa (by first | rfl | exact dF (by omega)) <| Ag rfl (Ak AF Aa (AA h2 rfl)) <| Ae rfl rfl Aa (by first | rfl | exact dF (by omega)) <| Aj (Af 1) <| Ag rfl (As Aa (by first | rfl | exact dF (by omega)) Aa) <| Aw (Af 1) ?_
 by_cases hz2 : hi < z
 ·refine At <| Ap rfl Bd ?_
  show _ = _
  have : ¬ z ≤ hi := by omega
  simp [outOf, inB, hz2, this]
 refine At <| Ap rfl Bd ?_
 show _ = _
 have e1 : lo ≤ z := by omega
 have e2 : z ≤ hi := by omega
 simp [outOf, inB, hz2, e1, e2]
theorem outC_ok {F : Heap} {v : Value} {xs : List Int} (lo hi : Int) (h : Ints F v xs) : Ok Tryz.prog 77 [.int .i64 lo, .int .i64 hi, v].toArray F fun r _ => r = .bool (xs.any fun z => !(inB lo hi z)) := by
 refine Ok.intro Tryz.func77 rfl Tryz.ntmps77 rfl fun w0 => Ac <| Am fun ds => A5 rfl <| Bg Aa rfl fun b1 hb1 nb1 => A5 rfl <| Bg Aa rfl fun b2 hb2 nb2 => Aw (Af 1) <| AK (i := 1) rfl hb1 (.next <| .here) fun F3 hF4 hz1 => ?_
 refine AK (i := 0) rfl hb2 (.here) fun F5 hF6 hz2 => ?_
 replace h := h.mono (Heap.le_trans hF4 hF6)
 replace hz1 := hF6 _ _ hz1
 refine Az (Af 1) fun ds => Ag rfl (Bt AW) <| AN rfl (Ay Vz Aa AW (Jq h (fun z => !(inB lo hi z)) bd_115 fun k hk => Up hz1 hz2 _) (fun _ _ h => h)) <| Aw (Af 1) <| At <| Ap rfl Bd ?_
 rfl
theorem none_ok {F : Heap} (s : Sg) : Ok Tryz.prog 106 [.agg #[.int .i64 s.round, .int .i64 s.letter]].toArray F fun r _ => r = .bool (noneS s) := by
 refine Ok.intro Tryz.func106 rfl Tryz.ntmps106 rfl fun w0 => ?_
 by_cases h1 : inB 1 3 s.round = true
 ·refine Ac <| Am fun ds => A5 rfl <| Bg Aa rfl fun b1 hb1 nb1 => Aw (Af 1) <| Az (Af 2) fun ds => A5 rfl <| AM A9 B2 rfl (.cons Aa .nil) rfl rfl (by decide) (by simp [Value.oneCell']) fun b2 hb2 nb2 => AJ (i := 0) rfl hb2 .here fun F3 hF4 hz5 => ?_
  have hsl6 := Bh hz5
  refine AN rfl (Ay D8 Aa AW (CR _ _ hsl6) (fun _ _ h => h)) <| Aj (Af 1) <| Ae rfl rfl Aa (by simp [h1]) <| Aj (Af 1) <| Ae rfl rfl Aa (by simp [h1]) <| Aj (Af 1) <| Ae rfl rfl Aa (by simp [h1]) <| A5 rfl <| AM A9 B2 rfl (.cons Aa .nil) rfl rfl (by decide) (by simp [Value.oneCell']) fun b7 hb7 nb7 => AJ (i := 0) rfl hb7 .here fun F8 hF9 hz10 => ?_
  have hsl11 := Bh hz10
  refine Ae rfl rfl Aa (by simp [h1]) <| AN rfl (Ay D8 Aa AW (CR _ _ hsl11) (fun _ _ h => h)) <| Ag rfl (As Aa (by simp [h1]) Aa) <| Aw (Af 1) <| At <| Ap rfl Bd ?_
  show Value.bool _ = Value.bool _
  unfold noneS; rw [h1]; simp
 replace h1 : inB 1 3 s.round = false := by simpa using h1
 refine Ac <| Am fun ds => A5 rfl <| Bg Aa rfl fun b12 hb12 nb12 => Aw (Af 1) <| Az (Af 2) fun ds => A5 rfl <| AM A9 B2 rfl (.cons Aa .nil) rfl rfl (by decide) (by simp [Value.oneCell']) fun b13 hb13 nb13 => AJ (i := 0) rfl hb13 .here fun F14 hF15 hz16 => ?_
 have hsl17 := Bh hz16
 refine AN rfl (Ay D8 Aa AW (CR _ _ hsl17) (fun _ _ h => h)) <| Aj (Af 1) <| Ah rfl rfl Aa (.inl (congrArg Value.bool (by simp [h1]))) rfl <| Ah rfl rfl Aa (.inl (congrArg Value.bool (by simp [h1]))) rfl <| Ah rfl rfl Aa (.inl (congrArg Value.bool (by simp [h1]))) rfl <| Ah rfl rfl Aa (.inl (congrArg Value.bool (by simp [h1]))) rfl <| Ag rfl (Ar Aa (by simp [h1]) Aa) <| Aw (Af 1) <| At <| Ap rfl Bd ?_
 show Value.bool _ = Value.bool _
 unfold noneS; rw [h1]; simp [h1]
def deedV (c : Chg) : Value := if c.kind = 1 then .iface 236 (.agg #[.int .i64 c.pos]) else if c.kind = 2 then .iface 237 (.agg #[.int .i64 c.pos]) else .iface 195 (.agg #[.int .i64 c.pos, .int .i64 c.many])
theorem Vg {c : Chg} (h : c.kind = 1) : deedV c = .iface 236 (.agg #[.int .i64 c.pos]) := if_pos h
theorem Vf {c : Chg} (h : c.kind = 2) : deedV c = .iface 237 (.agg #[.int .i64 c.pos]) := by unfold deedV; rw [if_neg (by omega), if_pos h]
theorem Ve {c : Chg} (h : c.kind = 3) : deedV c = .iface 195 (.agg #[.int .i64 c.pos, .int .i64 c.many]) := by unfold deedV; rw [if_neg (by omega), if_neg (by omega)]
theorem GN {F : Heap} {c : Chg} (hk : inB 1 3 c.kind = true) : Ok Tryz.prog 111 [.agg #[.int .i64 c.kind, .int .i64 c.pos, .int .i64 c.many]].toArray F fun r _ => r = deedV c := by
 refine Ok.intro Tryz.func111 rfl Tryz.ntmps111 rfl fun w0 => ?_
 rw [Cn] at hk
 by_cases h1 : c.kind = 1
 ·refine Ac <| Am fun ds => A5 rfl <| Bg Aa rfl fun b1 hb1 nb1 => Aw (Af 1) <| Ac <| AD (Af 2) <| Aq <| AD (Af 2) <| Ai Aa (dT h1) <| Az (Af 2) fun ds => Ag rfl (Bm bt_236 (.cons Aa rfl .nil) (.cons rfl rfl (Nat.le_of_ble_eq_true rfl) (.cons (.here) .nil) .nil)) <| Ag rfl (N1 Tryz.underlying236 rfl Aa) <| Aw (Af 1) <| At <| A7 <| Ax <| Ap rfl Bd ?_
  exact (Vg h1).symm
 refine Ac <| Am fun ds => A5 rfl <| Bg Aa rfl fun b2 hb2 nb2 => Aw (Af 1) <| Ac <| AD (Af 2) <| Aq <| AD (Af 2) <| Ad Aa (dF h1) ?_
 by_cases h2 : c.kind = 2
 ·refine AD (Af 2) <| Ai Aa (dT h2) <| Az (Af 2) fun ds => Ag rfl (Bm bt_237 (.cons Aa rfl .nil) (.cons rfl rfl (Nat.le_of_ble_eq_true rfl) (.cons (.here) .nil) .nil)) <| Ag rfl (N1 Tryz.underlying237 rfl Aa) <| Aw (Af 1) <| At <| A7 <| Ax <| Ap rfl Bd ?_
  exact (Vf h2).symm
 refine AD (Af 2) <| Ad Aa (dF h2) <| AD (Af 2) <| Ai Aa (dT (by omega)) <| Az (Af 4) fun ds => Ag rfl (Bm bt_195 (.cons Aa rfl (.cons Aa rfl .nil)) (.cons rfl rfl (Nat.le_of_ble_eq_true rfl) (.cons (.here) .nil) (.cons rfl rfl (Nat.le_of_ble_eq_true rfl) (.cons (.next <| .here) .nil) .nil))) <| Ag rfl (N1 Tryz.underlying195 rfl Aa) <| Aw (Af 1) <| At <| A7 <| Ax <| Ap rfl Bd ?_
 exact (Ve (by omega)).symm
theorem ER {F : Heap} {vc : Value} {g : Gth} (hc : Sl F vc 3 Chg.enc g.chs) {d : Nat} (hd : F d = some (bx 117 [.int .i64 g.sig.round, .int .i64 g.sig.letter, .int .i64 g.leaves, vc])) {k : Nat} (hk : k < g.chs.length) (he : chgErr g k = 0) : Ok Tryz.prog 110 [.int .i64 (k : Int), .agg (g.chs[k].enc).toArray, .pointer (some ⟨d, 0, none⟩)].toArray F fun r _ => r = .int .i64 0 := by
 have hL1 := hc.plain.lt
 obtain ⟨hk1, hpos, hmany, hord⟩ := D7 he
 rw [← Dc hk] at hk1 hpos hmany
 unfold chgLo at hpos
 unfold chgMany at hmany
 refine Ok.intro Tryz.func110 rfl Tryz.ntmps110 rfl fun w0 => Ac <| Am fun ds => A5 rfl <| Bg Aa rfl fun b1 hb1 nb1 => Aw (Af 1) <| AK (i := 0) rfl hb1 (.here) fun F2 hF3 hz4 => ?_
 replace hc := hc.mono hF3
 replace hd := hF3 _ _ hd
 refine AD (Af 2) <| Ac <| Ac ?_
 by_cases h3 : g.chs[k].kind = 3
 ·refine Am fun ds => Ag rfl (AC (vs := (Chg.enc g.chs[k])) CS Aa rfl rfl (Ba hz4)) <| AN rfl (Ay JR Aa AW (GN (c := g.chs[k]) hk1) (fun _ _ h => h.trans (Ve h3))) <| Ao <| Ab <| Aq <| Ac <| Am fun ds => Ag rfl (N2 Tryz.underlying192 Aa Aa) <| Ao <| Ab <| Ad Aa rfl <| Ac <| Am fun ds => Ag rfl (G7 Tryz.underlying195 rfl Aa) <| Aw (Af 2) <| Ai Aa rfl <| Am fun ds => Aj (Af 2) <| Ao <| A0 <| Ab <| Ac <| Az (Af 2) fun ds => Ag rfl (Ak AF Aa (AA hd rfl)) <| Aj (Af 1) <| Ag rfl (Ak AF Aa (AA hz4 rfl)) <| A5 rfl <| AM A9 B2 rfl (.cons Aa .nil) rfl rfl (by decide) (by simp [Value.oneCell']) fun b4 hb4 nb4 => AJ (i := 0) rfl hb4 .here fun F5 hF6 hz7 => ?_
  replace hz4 := hF6 _ _ hz4
  have hsl8 := Bh hz7
  refine AN rfl (Ay D8 Aa AW (CR _ _ hsl8) (fun _ _ h => h)) <| Aj (Af 1) <| Ae rfl rfl Aa (by rw [if_pos h3] at hpos; simp [hpos]) <| Aj (Af 1) <| Ae rfl rfl Aa (by rw [if_pos h3] at hpos; simp [hpos]) <| Aj (Af 1) <| Ae rfl rfl Aa (by rw [if_pos h3] at hpos; simp [hpos]) <| Aj (Af 1) <| Ae rfl rfl Aa (by rw [if_pos h3] at hpos; simp [hpos]) <| Aj (Af 1) <| Ae rfl rfl Aa (by rw [if_pos h3] at hpos; simp [hpos]) <| Ag rfl (Ak AF Aa (AA hz4 rfl)) <| Ae rfl rfl Aa (by rw [if_pos h3] at hpos; simp [hpos]) <| A5 rfl <| AM A9 B2 rfl (.cons Aa .nil) rfl rfl (by decide) (by simp [Value.oneCell']) fun b9 hb9 nb9 => AJ (i := 0) rfl hb9 .here fun F10 hF11 hz12 => ?_
  have hU190 := Heap.le_trans hF6 hF11
  replace hc := hc.mono hU190
  replace hd := hU190 _ _ hd
  replace hz4 := hF11 _ _ hz4
  have hsl13 := Bh hz12
  refine Ae rfl rfl Aa (by rw [if_pos h3] at hpos; simp [hpos]) <| AN rfl (Ay D8 Aa AW (CR _ _ hsl13) (fun _ _ h => h)) <| Ag rfl (As Aa (by rw [if_pos h3] at hpos; simp [hpos]) Aa) <| Ao <| Ab <| Ad Aa (by rw [if_pos h3] at hmany; rw [show min (1 : Int) 4 = 1 from rfl]; simp [hmany]) ?_
  by_cases hk0 : k = 0
  ·refine Al <| Ab <| Ac <| AD (Af 2) <| Ad Aa (dF (by omega)) <| Al <| Ab <| AD (Af 1) <| At <| Ap rfl Bd ?_
   rfl
  have hkp : k - 1 < g.chs.length := by omega
  have hq := hord (by omega)
  rw [← Dc hk, ← Dc hkp] at hq
  refine Al <| Ab <| Ac <| AD (Af 2) <| Ai Aa (dT (by omega)) <| Az (Af 1) fun ds => Ag rfl (Ak Bv Aa (AA hd rfl)) <| Aj (Af 1) <| Ag rfl (B4 Aa Aa rfl (by omega) (by omega)) <| Ag rfl (A1 (k := k - 1) Bw Aa hc.plain Aa (by omega) hkp) <| Ag rfl (AC (vs := (Chg.enc g.chs[k - 1])) CS Aa rfl rfl (hc.whole hkp)) <| A5 rfl <| AO Hd rfl fun b14 hb14 nb14 => AS <| AP Hh Aa Aa (i := 0) rfl rfl rfl rfl Chg.enc_one (.here) <| Ao <| Ab <| Az (Af 1) fun ds => Ag rfl (Ak AF Aa (AA hz4 rfl)) <| Aj (Af 4) <| Ae rfl rfl Aa (dF hq.1) <| Aj (Af 1) <| Ae rfl rfl Aa (dF hq.1) <| Ag rfl (Ak AF Aa (AA hz4 rfl)) <| Ae rfl rfl Aa (dF hq.1) <| Aj (Af 1) <| Ae rfl rfl Aa (dF hq.1) <| Aj (Af 1) <| Ae rfl rfl Aa (dF hq.1) <| Aj (Af 1) <| Ae rfl rfl Aa (dF hq.1) <| Aj (Af 1) ?_
  by_cases he2 : g.chs[k].pos = g.chs[k - 1].pos
  ·refine Ae rfl rfl Aa (dT he2) <| Aj (Af 1) <| Ae rfl rfl Aa (dT he2) <| Ag rfl (Ak AF Aa (AA hz4 rfl)) <| Ae rfl rfl Aa (dT he2) <| Aj (Af 1) <| Ae rfl rfl Aa (dT he2) <| Aj (Af 1) <| Ae rfl rfl Aa (dF (fun h => h h3)) <| Aj (Af 1) <| Ae rfl rfl Aa (dF (fun h => h h3)) <| Aj (Af 1) <| Ae rfl rfl Aa (dF (fun h => h h3)) <| Aj (Af 1) <| Ae rfl rfl Aa (dT he2) <| Ag rfl (As Aa (dF (fun h => h h3)) Aa) <| Ae rfl rfl Aa (dF hq.1) <| Ag rfl (Ar Aa (dT he2) Aa) <| Ag rfl (As Aa (dF hq.1) Aa) <| Ao <| Ab <| Ad Aa (dF (hq.2 he2).2) <| Al <| Ab <| AD (Af 1) <| At <| Ap rfl Bd ?_
   rfl
  refine Ah rfl rfl Aa (.inl (congrArg Value.bool (dF he2))) rfl <| Ah rfl rfl Aa (.inl (congrArg Value.bool (dF he2))) rfl <| Ah rfl rfl Aa (.inl (congrArg Value.bool (dF he2))) rfl <| Ah rfl rfl Aa (.inl (congrArg Value.bool (dF he2))) rfl <| Ah rfl rfl Aa (.inr rfl) rfl <| Ah rfl rfl Aa (.inr rfl) rfl <| Ah rfl rfl Aa (.inr rfl) rfl <| Ah rfl rfl Aa (.inl (congrArg Value.bool (dF he2))) rfl <| Ae rfl rfl Aa (dF hq.1) <| Ag rfl (As Aa (dF he2) Aa) <| Ag rfl (As Aa (dF hq.1) Aa) <| Ao <| Ab <| Ad Aa rfl <| Al <| Ab <| AD (Af 1) <| At <| Ap rfl Bd ?_
  rfl
 by_cases h1 : g.chs[k].kind = 1
 ·refine Am fun ds => Ag rfl (AC (vs := (Chg.enc g.chs[k])) CS Aa rfl rfl (Ba hz4)) <| AN rfl (Ay JR Aa AW (GN (c := g.chs[k]) hk1) (fun _ _ h => h.trans (Vg h1))) <| Ao <| Ab <| Aq <| Ac <| Am fun ds => Ag rfl (N2 Tryz.underlying192 Aa Aa) <| Ao <| Ab <| Ad Aa rfl <| Ac <| Am fun ds => Ag rfl (Fg Tryz.underlying195 rfl Nl (by decide) Aa) <| Aw (Af 2) <| Ad Aa rfl <| Al <| A0 <| Ab <| Ac <| Az (Af 2) fun ds => Ag rfl (Ak AF Aa (AA hd rfl)) <| Aj (Af 1) <| Ag rfl (Ak AF Aa (AA hz4 rfl)) <| A5 rfl <| AM A9 B2 rfl (.cons Aa .nil) rfl rfl (by decide) (by simp [Value.oneCell']) fun b15 hb15 nb15 => AJ (i := 0) rfl hb15 .here fun F16 hF17 hz18 => ?_
  replace hz4 := hF17 _ _ hz4
  have hsl19 := Bh hz18
  refine AN rfl (Ay D8 Aa AW (CR _ _ hsl19) (fun _ _ h => h)) <| Aj (Af 1) <| Ae rfl rfl Aa (by rw [if_neg h3] at hpos; simp [hpos]) <| Aj (Af 1) <| Ae rfl rfl Aa (by rw [if_neg h3] at hpos; simp [hpos]) <| Aj (Af 1) <| Ae rfl rfl Aa (by rw [if_neg h3] at hpos; simp [hpos]) <| Aj (Af 1) <| Ae rfl rfl Aa (by rw [if_neg h3] at hpos; simp [hpos]) <| Aj (Af 1) <| Ae rfl rfl Aa (by rw [if_neg h3] at hpos; simp [hpos]) <| Ag rfl (Ak AF Aa (AA hz4 rfl)) <| Ae rfl rfl Aa (by rw [if_neg h3] at hpos; simp [hpos]) <| A5 rfl <| AM A9 B2 rfl (.cons Aa .nil) rfl rfl (by decide) (by simp [Value.oneCell']) fun b20 hb20 nb20 => AJ (i := 0) rfl hb20 .here fun F21 hF22 hz23 => ?_
  have hU221 := Heap.le_trans hF17 hF22
  replace hc := hc.mono hU221
  replace hd := hU221 _ _ hd
  replace hz4 := hF22 _ _ hz4
  have hsl24 := Bh hz23
  refine Ae rfl rfl Aa (by rw [if_neg h3] at hpos; simp [hpos]) <| AN rfl (Ay D8 Aa AW (CR _ _ hsl24) (fun _ _ h => h)) <| Ag rfl (As Aa (by rw [if_neg h3] at hpos; simp [hpos]) Aa) <| Ao <| Ab <| Ad Aa (by rw [if_neg h3] at hmany; rw [show min (1 : Int) 0 = 0 from rfl]; simp [hmany]) ?_
  by_cases hk0 : k = 0
  ·refine Al <| Ab <| Ac <| AD (Af 2) <| Ad Aa (dF (by omega)) <| Al <| Ab <| AD (Af 1) <| At <| Ap rfl Bd ?_
   rfl
  have hkp : k - 1 < g.chs.length := by omega
  have hq := hord (by omega)
  rw [← Dc hk, ← Dc hkp] at hq
  refine Al <| Ab <| Ac <| AD (Af 2) <| Ai Aa (dT (by omega)) <| Az (Af 1) fun ds => Ag rfl (Ak Bv Aa (AA hd rfl)) <| Aj (Af 1) <| Ag rfl (B4 Aa Aa rfl (by omega) (by omega)) <| Ag rfl (A1 (k := k - 1) Bw Aa hc.plain Aa (by omega) hkp) <| Ag rfl (AC (vs := (Chg.enc g.chs[k - 1])) CS Aa rfl rfl (hc.whole hkp)) <| A5 rfl <| AO Hd rfl fun b25 hb25 nb25 => AS <| AP Hh Aa Aa (i := 0) rfl rfl rfl rfl Chg.enc_one (.here) <| Ao <| Ab <| Az (Af 1) fun ds => Ag rfl (Ak AF Aa (AA hz4 rfl)) <| Aj (Af 4) <| Ae rfl rfl Aa (dF hq.1) <| Aj (Af 1) <| Ae rfl rfl Aa (dF hq.1) <| Ag rfl (Ak AF Aa (AA hz4 rfl)) <| Ae rfl rfl Aa (dF hq.1) <| Aj (Af 1) <| Ae rfl rfl Aa (dF hq.1) <| Aj (Af 1) <| Ae rfl rfl Aa (dF hq.1) <| Aj (Af 1) <| Ae rfl rfl Aa (dF hq.1) <| Aj (Af 1) <| Ah rfl rfl Aa (.inl (congrArg Value.bool (dF (fun h => h3 (hq.2 h).1)))) rfl <| Ah rfl rfl Aa (.inl (congrArg Value.bool (dF (fun h => h3 (hq.2 h).1)))) rfl <| Ah rfl rfl Aa (.inl (congrArg Value.bool (dF (fun h => h3 (hq.2 h).1)))) rfl <| Ah rfl rfl Aa (.inl (congrArg Value.bool (dF (fun h => h3 (hq.2 h).1)))) rfl <| Ah rfl rfl Aa (.inr rfl) rfl <| Ah rfl rfl Aa (.inr rfl) rfl ?_
  refine Ah rfl rfl Aa (.inr rfl) rfl <| Ah rfl rfl Aa (.inl (congrArg Value.bool (dF (fun h => h3 (hq.2 h).1)))) rfl <| Ae rfl rfl Aa (dF hq.1) <| Ag rfl (As Aa (dF (fun h => h3 (hq.2 h).1)) Aa) <| Ag rfl (As Aa (dF hq.1) Aa) <| Ao <| Ab <| Ad Aa rfl <| Al <| Ab <| AD (Af 1) <| At <| Ap rfl Bd ?_
  rfl
 have h2 : g.chs[k].kind = 2 := by rw [Cn] at hk1; omega
 refine Am fun ds => Ag rfl (AC (vs := (Chg.enc g.chs[k])) CS Aa rfl rfl (Ba hz4)) <| AN rfl (Ay JR Aa AW (GN (c := g.chs[k]) hk1) (fun _ _ h => h.trans (Vf h2))) <| Ao <| Ab <| Aq <| Ac <| Am fun ds => Ag rfl (N2 Tryz.underlying192 Aa Aa) <| Ao <| Ab <| Ad Aa rfl <| Ac <| Am fun ds => Ag rfl (Fg Tryz.underlying195 rfl Nl (by decide) Aa) <| Aw (Af 2) <| Ad Aa rfl <| Al <| A0 <| Ab <| Ac <| Az (Af 2) fun ds => Ag rfl (Ak AF Aa (AA hd rfl)) <| Aj (Af 1) <| Ag rfl (Ak AF Aa (AA hz4 rfl)) <| A5 rfl <| AM A9 B2 rfl (.cons Aa .nil) rfl rfl (by decide) (by simp [Value.oneCell']) fun b26 hb26 nb26 => AJ (i := 0) rfl hb26 .here fun F27 hF28 hz29 => ?_
 replace hz4 := hF28 _ _ hz4
 have hsl30 := Bh hz29
 refine AN rfl (Ay D8 Aa AW (CR _ _ hsl30) (fun _ _ h => h)) <| Aj (Af 1) <| Ae rfl rfl Aa (by rw [if_neg h3] at hpos; simp [hpos]) <| Aj (Af 1) <| Ae rfl rfl Aa (by rw [if_neg h3] at hpos; simp [hpos]) <| Aj (Af 1) <| Ae rfl rfl Aa (by rw [if_neg h3] at hpos; simp [hpos]) <| Aj (Af 1) <| Ae rfl rfl Aa (by rw [if_neg h3] at hpos; simp [hpos]) <| Aj (Af 1) <| Ae rfl rfl Aa (by rw [if_neg h3] at hpos; simp [hpos]) <| Ag rfl (Ak AF Aa (AA hz4 rfl)) <| Ae rfl rfl Aa (by rw [if_neg h3] at hpos; simp [hpos]) <| A5 rfl <| AM A9 B2 rfl (.cons Aa .nil) rfl rfl (by decide) (by simp [Value.oneCell']) fun b31 hb31 nb31 => AJ (i := 0) rfl hb31 .here fun F32 hF33 hz34 => ?_
 have hU246 := Heap.le_trans hF28 hF33
 replace hc := hc.mono hU246
 replace hd := hU246 _ _ hd
 replace hz4 := hF33 _ _ hz4
 have hsl35 := Bh hz34
 refine Ae rfl rfl Aa (by rw [if_neg h3] at hpos; simp [hpos]) <| AN rfl (Ay D8 Aa AW (CR _ _ hsl35) (fun _ _ h => h)) <| Ag rfl (As Aa (by rw [if_neg h3] at hpos; simp [hpos]) Aa) <| Ao <| Ab <| Ad Aa (by rw [if_neg h3] at hmany; rw [show min (1 : Int) 0 = 0 from rfl]; simp [hmany]) ?_
 by_cases hk0 : k = 0
 ·refine Al <| Ab <| Ac <| AD (Af 2) <| Ad Aa (dF (by omega)) <| Al <| Ab <| AD (Af 1) <| At <| Ap rfl Bd ?_
  rfl
 have hkp : k - 1 < g.chs.length := by omega
 have hq := hord (by omega)
 rw [← Dc hk, ← Dc hkp] at hq
 refine Al <| Ab <| Ac <| AD (Af 2) <| Ai Aa (dT (by omega)) <| Az (Af 1) fun ds => Ag rfl (Ak Bv Aa (AA hd rfl)) <| Aj (Af 1) <| Ag rfl (B4 Aa Aa rfl (by omega) (by omega)) <| Ag rfl (A1 (k := k - 1) Bw Aa hc.plain Aa (by omega) hkp) <| Ag rfl (AC (vs := (Chg.enc g.chs[k - 1])) CS Aa rfl rfl (hc.whole hkp)) <| A5 rfl <| AO Hd rfl fun b36 hb36 nb36 => AS <| AP Hh Aa Aa (i := 0) rfl rfl rfl rfl Chg.enc_one (.here) <| Ao <| Ab <| Az (Af 1) fun ds => Ag rfl (Ak AF Aa (AA hz4 rfl)) <| Aj (Af 4) <| Ae rfl rfl Aa (dF hq.1) <| Aj (Af 1) <| Ae rfl rfl Aa (dF hq.1) <| Ag rfl (Ak AF Aa (AA hz4 rfl)) <| Ae rfl rfl Aa (dF hq.1) <| Aj (Af 1) <| Ae rfl rfl Aa (dF hq.1) <| Aj (Af 1) <| Ae rfl rfl Aa (dF hq.1) <| Aj (Af 1) <| Ae rfl rfl Aa (dF hq.1) <| Aj (Af 1) <| Ah rfl rfl Aa (.inl (congrArg Value.bool (dF (fun h => h3 (hq.2 h).1)))) rfl <| Ah rfl rfl Aa (.inl (congrArg Value.bool (dF (fun h => h3 (hq.2 h).1)))) rfl <| Ah rfl rfl Aa (.inl (congrArg Value.bool (dF (fun h => h3 (hq.2 h).1)))) rfl <| Ah rfl rfl Aa (.inl (congrArg Value.bool (dF (fun h => h3 (hq.2 h).1)))) rfl <| Ah rfl rfl Aa (.inr rfl) rfl <| Ah rfl rfl Aa (.inr rfl) rfl ?_
 refine Ah rfl rfl Aa (.inr rfl) rfl <| Ah rfl rfl Aa (.inl (congrArg Value.bool (dF (fun h => h3 (hq.2 h).1)))) rfl <| Ae rfl rfl Aa (dF hq.1) <| Ag rfl (As Aa (dF (fun h => h3 (hq.2 h).1)) Aa) <| Ag rfl (As Aa (dF hq.1) Aa) <| Ao <| Ab <| Ad Aa rfl <| Al <| Ab <| AD (Af 1) <| At <| Ap rfl Bd ?_
 rfl
end
section
def sgV (s : Sg) : Go.Value := .agg #[.int .i64 s.round, .int .i64 s.letter]
@[reducible] def sgE (s : Sg) : List Go.Value := [.int .i64 s.round, .int .i64 s.letter]
def esQ (b : Qbk) (k : Nat) : List (Go.Value × Go.Value) := (List.range k).map fun j => (sgV (b.g j).sig, .int .i64 1)
theorem LE {b : Qbk} {k : Nat} : esQ b (k + 1) = esQ b k ++ [(sgV (b.g k).sig, .int .i64 1)] := by unfold esQ; rw [List.range_succ, List.map_append]; rfl
theorem sgV_inj {s t : Sg} (h : sgV s = sgV t) : s = t := by
 cases s; cases t
 simp only [sgV, Go.Value.agg.injEq, Array.mk.injEq, List.cons.injEq, Go.Value.int.injEq, true_and, and_true] at h
 obtain ⟨rfl, rfl⟩ := h
 rfl
theorem Va {b : Qbk} {i : Nat} (h : metS b i = false) : ∀ p ∈ esQ b i, p.1 ≠ sgV (b.g i).sig := fun p hp he => by
 unfold esQ at hp
 obtain ⟨j, hj, rfl⟩ := List.mem_map.1 hp
 have : metS b i = true := List.any_eq_true.2 ⟨j, hj, dT (sgV_inj he)⟩
 rw [this] at h; cases h
theorem D5 {b : Qbk} {i : Nat} (h : gthErr b i = 0) : noneS (b.g i).sig = false ∧ metS b i = false ∧ (letS (b.g i).sig = true → befS (b.g i).sig (lastS b i) = false) ∧ lvErr (b.g i) = false ∧ ¬ 4 < (b.g i).chs.length ∧ ∀ k, k < (b.g i).chs.length → chgErr (b.g i) k = 0 := by
 unfold gthErr at h
 split at h
 · cases h
 rename_i a1
 split at h
 · cases h
 rename_i a2
 split at h
 · cases h
 rename_i a3
 unfold tailErr at h
 split at h
 · cases h
 rename_i a4
 split at h
 · cases h
 rename_i a5
 exact ⟨by simpa using a1, by simpa using a2, fun hl => by rw [hl] at a3; simpa using a3, by simpa using a4, a5, Gm h⟩
theorem sig_b {s : Sg} (h : noneS s = false) : 1 ≤ s.round ∧ s.round ≤ 3 ∧ 0 ≤ s.letter ∧ s.letter ≤ 24 := by
 unfold noneS at h
 simp only [Bool.or_eq_false_iff, Bool.not_eq_false', Cn] at h
 omega
theorem MA {b : Qbk} {i : Nat} (h : letS (b.g i).sig = true) : lastS b (i + 1) = (b.g i).sig := if_pos h
theorem M9 {b : Qbk} {i : Nat} (h : letS (b.g i).sig = false) : lastS b (i + 1) = lastS b i := if_neg (by rw [h]; simp)
theorem QbkR.bones {F : Heap} {vg : Go.Value} {qs : List (Go.Value × Gth)} {b : Qbk} (h : QbkR F vg qs b) : ∀ u ∈ [Go.Value.int .i64 b.signed, vg], u.oneCell' = true := fun u hu => by
 rcases List.mem_cons.1 hu with rfl | hu
 · rfl
 rcases List.mem_cons.1 hu with rfl | hu
 · exact h.gs.plain.one
 cases hu
theorem Qo {b : Qbk} : ∀ {k : Nat}, (∀ i, i < k → metS b i = false) → ((esQ b k).map (·.1)).Nodup
 | 0, _ => List.nodup_nil
 | k + 1, h => by
   rw [LE]
   exact KF (Qo fun i hi => h i (by omega)) (Va (h k (by omega)))
end
section
set_option maxHeartbeats 1000000
set_option maxRecDepth 100000
open Go.RowKit
theorem bd_106 : Body Tryz.prog 106 := AE (by kernel_rfl)
theorem JS : Body Tryz.prog 107 := AE (by kernel_rfl)
theorem bd_108 : Body Tryz.prog 108 := AE (by kernel_rfl)
theorem NZ : Body Tryz.prog 109 := AE (by kernel_rfl)
theorem NY : Body Tryz.prog 110 := AE (by kernel_rfl)
theorem N5 : OneT Tryz.prog 187 := BE (by kernel_rfl)
instance : OneI Tryz.prog 187 := ⟨N5⟩
theorem TH : SizeT Tryz.prog 114 2 := Bx (by kernel_rfl)
theorem laidQ : laidOutB Tryz.prog = true := by kernel_rfl
theorem U2 : MapT Tryz.prog 187 114 3 (.int .i64 0) := ⟨Tryz.underlying187, Br (by kernel_rfl), Go.Maps.Keyed.of_law (deep_law_laid laidQ (m := 3) (by omega) (Nat.le_of_ble_eq_true (by kernel_rfl)) (by kernel_rfl) (by kernel_rfl))⟩
theorem isKQ {s : Sg} (h : noneS s = false) : IsK Tryz.prog 114 (sgV s) := by
 have hb := sig_b h
 exact OQ Tryz.underlying114 (by kernel_rfl) (by kernel_rfl) (by kernel_rfl) (by kernel_rfl) (d := (Tryz.prog.types.size - 1) + 1) (by kernel_rfl) rfl rfl (by decide) (by decide) (OM Tryz.underlying3 (wf64 (by omega) (by omega))) (OM Tryz.underlying3 (wf64 (by omega) (by omega)))
theorem allQK {b : Qbk} {k : Nat} (h : ∀ i, i < k → noneS (b.g i).sig = false) : ∀ p ∈ esQ b k, IsK Tryz.prog 114 p.1 := fun p hp => by
 unfold esQ at hp
 obtain ⟨j, hj, rfl⟩ := List.mem_map.1 hp
 exact isKQ (h j (List.mem_range.1 hj))
theorem GI {F : Heap} {v : Value} {xs : List Chg} (h : Sl F v 3 Chg.enc xs) {g : FuncId} {cs : List Value} (hg : Body Tryz.prog g) (hp : ∀ k (hk : k < xs.length), Ok Tryz.prog g ([Value.int .i64 (k : Int), Value.agg (xs[k].enc).toArray] ++ cs).toArray F fun r _ => r = .int .i64 0) : Ok Tryz.prog 109 [v, .func (.func g) #[] cs.toArray].toArray F fun r _ => r = .tuple #[.int .i64 0, .int .i64 0] := by
 refine Ok.intro Tryz.func109 rfl Tryz.ntmps109 rfl fun w0 => ?_
 have hlen := h.plain.lt
 refine AD (Af 2) <| Ac <| Az (Af 1) fun ds => Ag rfl (A4 Bw Aa h.plain) <| Aw (Af 1) <| Aq ?_
 refine AL [4, 5, 6, 7, 8, 11, 12, 13, 14, 15, 16, 17, 18, 19, 20, 21, 22, 23, 24] (fun m e σ => ∃ k : Nat, m + k = xs.length ∧ Fct e 11 (.int .i64 (k : Int)) ∧ σ = ⟨F, []⟩) (xs.length) ?_ ?_
 · exact ⟨0, by omega, AX, rfl⟩
 rintro m e _ ⟨k, hm, hs11, rfl⟩
 by_cases hlt : k < xs.length
 ·refine AD (Af 1) <| Ac <| Ai Aa (by first | rfl | exact dT (by omega)) <| Al <| Ab <| Ac <| Aq <| Az (Af 1) fun ds => Ag rfl (A1  Bw Aa h.plain Aa rfl (by omega)) <| Ag rfl (AC CS Aa rfl rfl (h.whole (by omega))) <| A5 rfl <| AO Hd rfl fun b2 hb2 nb2 => Aj (Af 1) <| AS <| AP Hh Aa Aa (i := 0) rfl rfl rfl rfl Chg.enc_one (.here) <| Ao <| Ab <| Az (Af 3) fun ds => AN rfl (Ay hg Aa AW (hp k hlt) (fun _ _ h => h)) <| Aw (Af 1) <| AD (Af 2) <| Ad Aa (dF (fun h => h rfl)) <| Al <| A0 <| Ab <| Bn (fun _ _ h => h.drop (kD <| .refl _)) <| Am fun ds => Ag rfl (AG Aa Aa rfl (by omega) (by omega)) <| Aj (Af 1) <| Ao ?_
  refine Ab ⟨_, m - 1, Off.eq (BR rfl <| Ca rfl <| BM rfl <| BX rfl <| A2), by omega, ?_⟩
  exact ⟨k + 1, by omega, AX, rfl⟩
 refine AD (Af 1) <| Ac <| Ad Aa (by first | rfl | exact dF (by omega)) <| AH ?_
 refine A8 <| A8 <| AB <| Ab <| AD (Af 2) <| At <| Ap rfl Bd ?_
 rfl
theorem esQ_at {b : Qbk} {i : Nat} : (esQ b (i + 1))[i]? = some (sgV (b.g i).sig, .int .i64 1) := by
 unfold esQ
 simp
theorem Qw {F : Heap} {b : Qbk} (hv : ValidQ b) {i : Nat} (hi : i < b.gs.length) {vc : Value} (hc : Sl F vc 3 Chg.enc (b.g i).chs) {d5 bl bm : Nat} (hd : F d5 = some (bx 187 [.map (some bm)])) : OkM Tryz.prog 105 [.int .i64 (i : Int), .agg #[.int .i64 (b.g i).sig.round, .int .i64 (b.g i).sig.letter, .int .i64 (b.g i).leaves, vc], .pointer (some ⟨d5, 0, none⟩), .pointer (some ⟨bl, 0, none⟩)].toArray F [(bl, bx 114 (sgE (lastS b i))), (bm, mapO (esQ b i))] fun u _ H' => u = .int .i64 0 ∧ H' = [(bl, bx 114 (sgE (lastS b (i + 1)))), (bm, mapO (esQ b (i + 1)))] := by
 have hL1 := hc.plain.lt
 obtain ⟨h1, hmt, hbf, hlv, h4, hch⟩ := D5 (L3 hv hi)
 have isQ := isKQ h1
 have hno := Va hmt
 have hall := allQK (b := b) (k := i) fun j hj => (D5 (L3 hv (by omega : j < b.gs.length))).1
 have hnd := Qo (b := b) (k := i) fun j hj => (D5 (L3 hv (by omega : j < b.gs.length))).2.1
 have hlb := (hv.chs hi).2.2
 refine OkM.intro Tryz.func105 rfl Tryz.ntmps105 rfl fun w0 => Ac <| Am fun ds => A5 rfl <| Bg Aa rfl fun b1 hb1 nb1 => Aw (Af 1) <| AK (i := 0) rfl hb1 (.here) fun F2 hF3 hz5 => ?_
 replace hc := hc.mono hF3
 replace hd := hF3 _ _ hd
 refine Ac <| HG [9, 10, 11, 12, 13, 14, 15] (fun s σ => σ = ⟨F2, [(bl, bx 114 (sgE (lastS b i))), (bm, mapO (esQ b (i + 1)))]⟩) ?_ ?_
 ·refine BO (.inl rfl) (fun _ _ h => h) (kK <| kD <| .refl _) [7] (by kernel_rfl) fun ds => Au 0 rfl (kK <| kD <| .refl _) (Ak N5 Aa (AA hd rfl)) <| Au 1 rfl (kK <| kD <| .refl _) (AV Pc Aa) <| Au 2 rfl (kK <| kD <| .refl _) (AC (vs := [.int .i64 (b.g i).sig.round, .int .i64 (b.g i).sig.letter]) BS Aa rfl rfl (B8 hz5 (n := 2) rfl)) ?_
  refine D9 [3, 5] (by kernel_rfl) (by decide) (UH ?_ ?_)
  ·refine C0 rfl rfl (Be (My U2 Aa Aa (i := 1) rfl isQ hall hno).quiet ⟨fun _ _ => (fun _ h => h.drop (kK <| kD <| .refl _)), ?_⟩)
   refine Au 4 rfl (kK <| kD <| .refl _) (AG Aa Aa rfl (by omega) (by omega)) ?_
   refine BU 5 rfl (by kernel_rfl) rfl (Oi U2 Aa Aa (i := 1) rfl isQ hall hno (.next <| .here) ⟨fun _ _ => (fun _ h => h.drop (kK <| kD <| .refl _)), ?_⟩)
   refine Au 6 rfl (kK <| kD <| .refl _) (Ct Aa) ?_
   refine Eg 7 rfl (by kernel_rfl) (HI Aa Aa Aa (i := 1) rfl (congrArg (Option.map (·.1)) K9) (.next <| .here) ⟨(fun h => nomatch h), ?_⟩)
   refine BC (by kernel_rfl) ?_ _
   refine Ab ⟨_, Off.eq (Ca rfl <| BM rfl <| BX rfl <| Cb), ?_⟩
   rw [Ou, LE]; rfl
  refine C0 rfl rfl (Oi U2 Aa Aa (i := 1) rfl isQ hall hno (.next <| .here) ⟨fun _ _ => (fun _ h => h.drop (kK <| kD <| .refl _)), ?_⟩)
  refine Au 6 rfl (kK <| kD <| .refl _) (Ct Aa) ?_
  refine BU 3 rfl (by kernel_rfl) rfl (Be (JB U2 Aa Aa (i := 1) rfl isQ (LZ hall isQ) (KF hnd hno) K9).quiet ⟨fun _ _ => (fun _ h => h.drop (kK <| kD <| .refl _)), ?_⟩)
  refine Au 4 rfl (kK <| kD <| .refl _) (AG Aa Aa rfl (by omega) (by omega)) ?_
  refine Eg 7 rfl (by kernel_rfl) (HI Aa Aa Aa (i := 1) rfl (congrArg (Option.map (·.1)) K9) (.next <| .here) ⟨(fun h => nomatch h), ?_⟩)
  refine BC (by kernel_rfl) ?_ _
  refine Ab ⟨_, Off.eq (Ca rfl <| BM rfl <| BX rfl <| Cb), ?_⟩
  rw [Ou, LE]; rfl
 rintro e1 _ rfl
 refine Ac <| Aq <| Az (Af 1) fun ds => Ag rfl (AC (vs := [.int .i64 (b.g i).sig.round, .int .i64 (b.g i).sig.letter]) BS Aa rfl rfl (B8 hz5 (n := 2) rfl)) <| AN rfl (Ay bd_106 Aa AW (none_ok _) (fun _ _ h => h)) <| Aw (Af 1) <| Ad Aa h1 <| Ac <| Am fun ds => Ag rfl (Ak N5 Aa (AA hd rfl)) <| Aj (Af 1) <| Ag rfl (AC (vs := [.int .i64 (b.g i).sig.round, .int .i64 (b.g i).sig.letter]) BS Aa rfl rfl (B8 hz5 (n := 2) rfl)) <| Ag rfl (JB U2 Aa Aa (i := 1) rfl isQ (allQK (k := i + 1) (fun j hj => (D5 (L3 hv (by omega : j < b.gs.length))).1)) (Qo (k := i + 1) (fun j hj => (D5 (L3 hv (by omega : j < b.gs.length))).2.1)) (esQ_at)) <| Aw (Af 2) <| Ad Aa (by decide) ?_
 by_cases hl : letS (b.g i).sig = true
 ·refine Az (Af 1) fun ds => Ag rfl (AC (vs := [.int .i64 (b.g i).sig.round, .int .i64 (b.g i).sig.letter]) BS Aa rfl rfl (B8 hz5 (n := 2) rfl)) <| AN rfl (Ay JS Aa AW (Dr _) (fun _ _ h => h)) <| Aj (Af 1) <| Ae rfl rfl Aa hl <| Aj (Af 1) <| Ae rfl rfl Aa hl <| Ag rfl (AC (vs := [.int .i64 (b.g i).sig.round, .int .i64 (b.g i).sig.letter]) BS Aa rfl rfl (B8 hz5 (n := 2) rfl)) <| Ae rfl rfl Aa hl <| Ag rfl (AC (vs := (sgE (lastS b i))) BS Aa rfl rfl (Bz 0 rfl)) <| Ae rfl rfl Aa hl <| AN rfl (Ay bd_108 Aa AW (Th _ _) (fun _ _ h => h)) <| Ag rfl (Ar Aa hl Aa) <| Aw (Af 1) <| Ad Aa (hbf hl) ?_
  by_cases h1 : (b.g i).leaves = 1
  ·refine Az (Af 1) fun ds => Ag rfl (Ak AF Aa (AA hz5 rfl)) <| Aj (Af 2) <| Ah rfl rfl Aa (.inl (congrArg Value.bool (dF (fun h => h h1)))) rfl <| Ah rfl rfl Aa (.inl (congrArg Value.bool (dF (fun h => h h1)))) rfl <| Ah rfl rfl Aa (.inl (congrArg Value.bool (dF (fun h => h h1)))) rfl <| Ah rfl rfl Aa (.inl (congrArg Value.bool (dF (fun h => h h1)))) rfl <| Ah rfl rfl Aa (.inl (congrArg Value.bool (dF (fun h => h h1)))) rfl <| Ah rfl rfl Aa (.inr rfl) rfl <| Ah rfl rfl Aa (.inr rfl) rfl <| Ah rfl rfl Aa (.inr rfl) rfl <| Ah rfl rfl Aa (.inr rfl) rfl <| Ah rfl rfl Aa (.inl (congrArg Value.bool (dF (fun h => h h1)))) rfl <| Ag rfl (As Aa (dF (fun h => h h1)) Aa) <| Aw (Af 1) <| Ad Aa rfl <| Az (Af 1) fun ds => Ag rfl (Ak Bv Aa (AA hz5 rfl)) <| Ag rfl (A4 Bw Aa hc.plain) <| Aw (Af 2) <| Ad Aa (dF (by omega)) <| Al <| A0 <| Ab <| Ac <| Az (Af 1) fun ds => Ag rfl (AC (vs := [.int .i64 (b.g i).sig.round, .int .i64 (b.g i).sig.letter]) BS Aa rfl rfl (B8 hz5 (n := 2) rfl)) <| AN rfl (Ay JS Aa AW (Dr _) (fun _ _ h => h)) <| Ao <| Ab <| Ai Aa hl <| Am fun ds => Aj (Af 1) <| Ag rfl (AC (vs := [.int .i64 (b.g i).sig.round, .int .i64 (b.g i).sig.letter]) BS Aa rfl rfl (B8 hz5 (n := 2) rfl)) ?_
   refine AS <| AP TH Aa Aa (i := 0) rfl rfl rfl rfl (by simp [Value.oneCell']) (.here) <| Ao <| Ab <| Az (Af 1) fun ds => Ag rfl (Ak Bv Aa (AA hz5 rfl)) <| Ag rfl (Bt AW) <| AN rfl (Ay NZ Aa AW (GI hc NY fun k hk => ER hc hz5 hk (hch k hk)) (fun _ _ h => h)) <| Aw (Af 5) <| AD (Af 2) <| At <| Dq rfl Bd (.cons (.here) <| .cons (.here) <| .nil) rfl ?_
   exact ⟨rfl, by rw [MA hl] <;> rfl⟩
  unfold lvErr at hlv
  rw [dT h1, Bool.true_and, Bool.or_eq_false_iff, Bool.not_eq_false'] at hlv
  refine Az (Af 1) fun ds => Ag rfl (Ak AF Aa (AA hz5 rfl)) <| Aj (Af 2) <| Ae rfl rfl Aa (dT h1) <| Aj (Af 1) <| Ae rfl rfl Aa (dT h1) <| Ag rfl (Ak AF Aa (AA hz5 rfl)) <| Ae rfl rfl Aa (dT h1) <| A5 rfl <| AM A9 B2 rfl (.cons Aa .nil) rfl rfl (by decide) (by simp [Value.oneCell']) fun b4 hb4 nb4 => AJ (i := 0) rfl hb4 .here fun F5 hF6 hz7 => ?_
  replace hc := hc.mono hF6
  replace hz5 := hF6 _ _ hz5
  have hsl8 := Bh hz7
  refine Ae rfl rfl Aa (dT h1) <| AN rfl (Ay D8 Aa AW (CR _ _ hsl8) (fun _ _ h => h)) <| Ae rfl rfl Aa (dT h1) <| Aj (Af 1) <| Ae rfl rfl Aa (by simp [hlv.1]) <| Aj (Af 1) <| Ae rfl rfl Aa (by simp [hlv.1]) <| Ag rfl (Ak AF Aa (AA hz5 rfl)) <| Ae rfl rfl Aa (by simp [hlv.1]) <| Ag rfl (HV Aa Aa (by omega) (by decide)) <| Ae rfl rfl Aa (by simp [hlv.1]) <| Aj (Af 1) <| Ae rfl rfl Aa (dT h1) <| Ag rfl (As Aa (by simp [hlv.1]) Aa) <| Ag rfl (Ar Aa (dT h1) Aa) <| Aw (Af 1) <| Ad Aa hlv.2 <| Az (Af 1) fun ds => Ag rfl (Ak Bv Aa (AA hz5 rfl)) <| Ag rfl (A4 Bw Aa hc.plain) <| Aw (Af 2) <| Ad Aa (dF (by omega)) <| Al <| A0 <| Ab <| Ac <| Az (Af 1) fun ds => Ag rfl (AC (vs := [.int .i64 (b.g i).sig.round, .int .i64 (b.g i).sig.letter]) BS Aa rfl rfl (B8 hz5 (n := 2) rfl)) <| AN rfl (Ay JS Aa AW (Dr _) (fun _ _ h => h)) <| Ao <| Ab <| Ai Aa hl <| Am fun ds => Aj (Af 1) <| Ag rfl (AC (vs := [.int .i64 (b.g i).sig.round, .int .i64 (b.g i).sig.letter]) BS Aa rfl rfl (B8 hz5 (n := 2) rfl)) <| AS <| AP TH Aa Aa (i := 0) rfl rfl rfl rfl (by simp [Value.oneCell']) (.here) <| Ao <| Ab <| Az (Af 1) fun ds => Ag rfl (Ak Bv Aa (AA hz5 rfl)) ?_
  refine Ag rfl (Bt AW) <| AN rfl (Ay NZ Aa AW (GI hc NY fun k hk => ER hc hz5 hk (hch k hk)) (fun _ _ h => h)) <| Aw (Af 5) <| AD (Af 2) <| At <| Dq rfl Bd (.cons (.here) <| .cons (.here) <| .nil) rfl ?_
  exact ⟨rfl, by rw [MA hl] <;> rfl⟩
 replace hl : letS (b.g i).sig = false := by simpa using hl
 refine Az (Af 1) fun ds => Ag rfl (AC (vs := [.int .i64 (b.g i).sig.round, .int .i64 (b.g i).sig.letter]) BS Aa rfl rfl (B8 hz5 (n := 2) rfl)) <| AN rfl (Ay JS Aa AW (Dr _) (fun _ _ h => h)) <| Aj (Af 1) <| Ah rfl rfl Aa (.inl (congrArg Value.bool hl)) rfl <| Ah rfl rfl Aa (.inl (congrArg Value.bool hl)) rfl <| Ah rfl rfl Aa (.inl (congrArg Value.bool hl)) rfl <| Ah rfl rfl Aa (.inl (congrArg Value.bool hl)) rfl <| Ag rfl (As Aa hl C4) <| Aw (Af 1) <| Ad Aa rfl ?_
 by_cases h1 : (b.g i).leaves = 1
 ·refine Az (Af 1) fun ds => Ag rfl (Ak AF Aa (AA hz5 rfl)) <| Aj (Af 2) <| Ah rfl rfl Aa (.inl (congrArg Value.bool (dF (fun h => h h1)))) rfl <| Ah rfl rfl Aa (.inl (congrArg Value.bool (dF (fun h => h h1)))) rfl <| Ah rfl rfl Aa (.inl (congrArg Value.bool (dF (fun h => h h1)))) rfl <| Ah rfl rfl Aa (.inl (congrArg Value.bool (dF (fun h => h h1)))) rfl <| Ah rfl rfl Aa (.inl (congrArg Value.bool (dF (fun h => h h1)))) rfl <| Ah rfl rfl Aa (.inr rfl) rfl <| Ah rfl rfl Aa (.inr rfl) rfl <| Ah rfl rfl Aa (.inr rfl) rfl <| Ah rfl rfl Aa (.inr rfl) rfl <| Ah rfl rfl Aa (.inl (congrArg Value.bool (dF (fun h => h h1)))) rfl <| Ag rfl (As Aa (dF (fun h => h h1)) Aa) <| Aw (Af 1) <| Ad Aa rfl <| Az (Af 1) fun ds => Ag rfl (Ak Bv Aa (AA hz5 rfl)) <| Ag rfl (A4 Bw Aa hc.plain) <| Aw (Af 2) <| Ad Aa (dF (by omega)) <| Al <| A0 <| Ab <| Ac <| Az (Af 1) fun ds => Ag rfl (AC (vs := [.int .i64 (b.g i).sig.round, .int .i64 (b.g i).sig.letter]) BS Aa rfl rfl (B8 hz5 (n := 2) rfl)) <| AN rfl (Ay JS Aa AW (Dr _) (fun _ _ h => h)) <| Ao <| Ab <| Ad Aa hl <| Al <| Ab <| Az (Af 1) fun ds => Ag rfl (Ak Bv Aa (AA hz5 rfl)) <| Ag rfl (Bt AW) <| AN rfl (Ay NZ Aa AW (GI hc NY fun k hk => ER hc hz5 hk (hch k hk)) (fun _ _ h => h)) ?_
  refine Aw (Af 5) <| AD (Af 2) <| At <| Dq rfl Bd (.cons (.here) <| .cons (.here) <| .nil) rfl ?_
  exact ⟨rfl, by rw [M9 hl] <;> rfl⟩
 unfold lvErr at hlv
 rw [dT h1, Bool.true_and, Bool.or_eq_false_iff, Bool.not_eq_false'] at hlv
 refine Az (Af 1) fun ds => Ag rfl (Ak AF Aa (AA hz5 rfl)) <| Aj (Af 2) <| Ae rfl rfl Aa (dT h1) <| Aj (Af 1) <| Ae rfl rfl Aa (dT h1) <| Ag rfl (Ak AF Aa (AA hz5 rfl)) <| Ae rfl rfl Aa (dT h1) <| A5 rfl <| AM A9 B2 rfl (.cons Aa .nil) rfl rfl (by decide) (by simp [Value.oneCell']) fun b9 hb9 nb9 => AJ (i := 0) rfl hb9 .here fun F10 hF11 hz12 => ?_
 replace hc := hc.mono hF11
 replace hz5 := hF11 _ _ hz5
 have hsl13 := Bh hz12
 refine Ae rfl rfl Aa (dT h1) <| AN rfl (Ay D8 Aa AW (CR _ _ hsl13) (fun _ _ h => h)) <| Ae rfl rfl Aa (dT h1) <| Aj (Af 1) <| Ae rfl rfl Aa (by simp [hlv.1]) <| Aj (Af 1) <| Ae rfl rfl Aa (by simp [hlv.1]) <| Ag rfl (Ak AF Aa (AA hz5 rfl)) <| Ae rfl rfl Aa (by simp [hlv.1]) <| Ag rfl (HV Aa Aa (by omega) (by decide)) <| Ae rfl rfl Aa (by simp [hlv.1]) <| Aj (Af 1) <| Ae rfl rfl Aa (dT h1) <| Ag rfl (As Aa (by simp [hlv.1]) Aa) <| Ag rfl (Ar Aa (dT h1) Aa) <| Aw (Af 1) <| Ad Aa hlv.2 <| Az (Af 1) fun ds => Ag rfl (Ak Bv Aa (AA hz5 rfl)) <| Ag rfl (A4 Bw Aa hc.plain) <| Aw (Af 2) <| Ad Aa (dF (by omega)) <| Al <| A0 <| Ab <| Ac <| Az (Af 1) fun ds => Ag rfl (AC (vs := [.int .i64 (b.g i).sig.round, .int .i64 (b.g i).sig.letter]) BS Aa rfl rfl (B8 hz5 (n := 2) rfl)) <| AN rfl (Ay JS Aa AW (Dr _) (fun _ _ h => h)) <| Ao <| Ab <| Ad Aa hl <| Al <| Ab <| Az (Af 1) fun ds => Ag rfl (Ak Bv Aa (AA hz5 rfl)) <| Ag rfl (Bt AW) <| AN rfl (Ay NZ Aa AW (GI hc NY fun k hk => ER hc hz5 hk (hch k hk)) (fun _ _ h => h)) <| Aw (Af 5) <| AD (Af 2) <| At <| Dq rfl Bd (.cons (.here) <| .cons (.here) <| .nil) rfl ?_
 exact ⟨rfl, by rw [M9 hl] <;> rfl⟩
end
section
set_option maxRecDepth 100000
open Go.RowKit
theorem Tt : ZeroT Tryz.prog 114 (.agg #[.int .i64 0, .int .i64 0]) := Br (by kernel_rfl)
theorem zr_187 : ZeroT Tryz.prog 187 (.map none) := Br (by kernel_rfl)
theorem P4 : ZeroT Tryz.prog 199 (.agg #[.int .i64 0, .slice none 0 0]) := Br (by kernel_rfl)
theorem Oe : AggT Tryz.prog 199 2 := Cu (by kernel_rfl)
instance : AggI Tryz.prog 199 2 := ⟨Oe⟩
theorem bd_104 : Body Tryz.prog 104 := AE (by kernel_rfl)
theorem bd_105 : Body Tryz.prog 105 := AE (by kernel_rfl)
theorem bd_75 : Body Tryz.prog 75 := AE (by kernel_rfl)
theorem bt_199 : BuildT Tryz.prog 199 [.int .i64 0, .slice none 0 0] [(0, 2)] := BD P4 (by kernel_rfl) (by decide)
theorem sz_187 : SizeT Tryz.prog 187 1 := Bx (by kernel_rfl)
theorem TG : SizeT Tryz.prog 199 2 := Bx (by kernel_rfl)
theorem SL {F : Heap} {vg : Value} {qs : List (Value × Gth)} {b : Qbk} (hb : QbkR F vg qs b) (hv : ValidQ b) {d5 bl bm : Nat} (hd : F d5 = some (bx 187 [.map (some bm)])) : OkM Tryz.prog 104 [vg, .func (.func 105) #[] #[.pointer (some ⟨d5, 0, none⟩), .pointer (some ⟨bl, 0, none⟩)]].toArray F [(bl, bx 114 (sgE (lastS b 0))), (bm, mapO (esQ b 0))] fun u _ H' => u = .tuple #[.int .i64 0, .int .i64 0] := by
 have hL1 := hb.gs.plain.lt
 have hlen := hb.len
 refine OkM.intro Tryz.func104 rfl Tryz.ntmps104 rfl fun w0 => AD (Af 2) <| Ac <| Az (Af 1) fun ds => Ag rfl (A4 Dy Aa hb.gs.plain) <| Aw (Af 1) <| Aq ?_
 refine AL [4, 5, 6, 7, 8, 11, 12, 13, 14, 15, 16, 17, 18, 19, 20, 21, 22, 23, 24] (fun m e σ => ∃ (G : Heap) (k : Nat), F.le G ∧ m + k = qs.length ∧ Fct e 11 (.int .i64 (k : Int)) ∧ σ = ⟨G, [(bl, bx 114 (sgE (lastS b k))), (bm, mapO (esQ b k))]⟩) (qs.length) ?_ ?_
 · exact ⟨_, 0, Heap.le_refl _, by omega, AX, rfl⟩
 rintro m e _ ⟨G, k, hG, hm, hs11, rfl⟩; replace hb := hb.mono hG; replace hd := hG _ _ hd
 by_cases hlt : k < qs.length
 ·refine AD (Af 1) <| Ac <| Ai Aa (by first | rfl | exact dT (by omega)) ?_
  have hgi : qs[k].2 = b.g k := hb.at hlt
  have hcs := hb.chs _ (List.getElem_mem hlt)
  rw [hgi] at hcs
  refine Al <| Ab <| Ac <| Aq <| Az (Af 1) fun ds => Ag rfl (A1  Dy Aa hb.gs.plain Aa rfl (by omega)) <| Ag rfl (AC (vs := (gE qs[k])) CG Aa rfl rfl (hb.gs.whole (by omega))) <| A5 rfl <| AO J2 rfl fun b2 hb2 nb2 => Aj (Af 1) <| AS <| AP Nt Aa Aa (i := 0) rfl rfl rfl rfl (hb.ones _ (List.getElem_mem hlt)) (.here) <| Ao <| Ab <| Ac <| AK (i := 0) rfl hb2 (.here) fun F3 hF4 hz7 => ?_
  replace hG := Heap.le_trans hG hF4
  replace hcs := hcs.mono hF4
  replace hd := hF4 _ _ hd
  refine Am fun ds => Aj (Af 2) <| Ag rfl (AC (vs := (gE qs[k])) CG Aa rfl rfl (Ba hz7)) <| A5 rfl <| Eh bd_105 Aa AW rfl (by have h := Qw hv (i := k) (by omega) hcs (bl := bl) hd; rw [← hgi] at h; exact h) fun v9 F10 H13 hr11 hF12 => ?_
  replace hb := hb.mono (Heap.le_trans hF4 hF12)
  replace hG := Heap.le_trans hG hF12
  obtain ⟨rfl, rfl⟩ := hr11
  refine Aw (Af 1) <| AD (Af 2) <| Ad Aa (dF (fun h => h rfl)) <| Al <| A0 <| Ab <| Am fun ds => Ag rfl (AG Aa Aa rfl (by omega) (by omega)) <| Aj (Af 1) <| Ao ?_
  refine Ab ⟨_, m - 1, Off.eq (BR rfl <| Ca rfl <| BM rfl <| BX rfl <| A2), by omega, ?_⟩
  exact ⟨_, k + 1, hG, by omega, AX, rfl⟩
 refine AD (Af 1) <| Ac <| Ad Aa (by first | rfl | exact dF (by omega)) <| AH ?_
 refine A8 <| A8 <| AB <| Ab <| AD (Af 2) <| At <| Dq rfl Bd (.cons (.here) <| .cons (.here) <| .nil) rfl ?_
 exact rfl
theorem LS {F : Heap} {vg : Value} {qs : List (Value × Gth)} {b : Qbk} (hb : QbkR F vg qs b) (hv : ValidQ b) : Ok Tryz.prog 75 [.agg #[.int .i64 b.signed, vg]].toArray F fun r _ => r = .tuple #[.int .i64 0, .int .i64 0, .int .i64 0] := by
 have hL1 := hb.gs.plain.lt
 have hlen := hb.len
 have hm := hv.many
 have hmq : 1 ≤ (qs.length : Int) ∧ (qs.length : Int) ≤ 30 := by omega
 refine Ok.intro Tryz.func75 rfl Tryz.ntmps75 rfl fun w0 => Ac <| Am fun ds => A5 rfl <| Bg Aa rfl fun b1 hb1 nb1 => Aw (Af 3) <| AK (i := 0) rfl hb1 (.here) fun F2 hF3 hz1 => ?_
 refine Ac <| Aq <| Az (Af 1) fun ds => Ag rfl (Ak AF Aa (AA hz1 rfl)) <| A5 rfl <| AM A9 B2 rfl (.cons Aa .nil) rfl rfl (by decide) (by simp [Value.oneCell']) fun b4 hb4 nb4 => AJ (i := 0) rfl hb4 .here fun F5 hF6 hz7 => ?_
 replace hb := hb.mono (Heap.le_trans hF3 hF6)
 replace hz1 := hF6 _ _ hz1
 have hsl8 := Bh hz7
 refine AN rfl (Ay D8 Aa AW (CR _ _ hsl8) (fun _ _ h => h)) <| Aw (Af 1) <| Ad Aa (by simp [Cn.2 hv.signed]) <| Az (Af 1) fun ds => Ag rfl (Ak DG Aa (AA hz1 rfl)) <| Ag rfl (A4 Dy Aa hb.gs.plain) <| A5 rfl <| AM A9 B2 rfl (.cons Aa .nil) rfl rfl (by decide) (by simp [Value.oneCell']) fun b9 hb9 nb9 => AJ (i := 0) rfl hb9 .here fun F10 hF11 hz12 => ?_
 have hsl13 := Bh hz12
 refine AN rfl (Ay D8 Aa AW (CR _ _ hsl13) (fun _ _ h => h)) <| Aw (Af 1) <| Ad Aa (by simp [Cn.2 hmq]) <| Al <| A0 <| Ab <| Ac <| Am fun ds => A5 rfl <| Fa fun b14 hb14 nb14 => A5 rfl <| AO zr_187 rfl fun b15 hb15 nb15 => AS <| Bf sz_187 Aa Aa (i := 0) rfl (.here) rfl (.here) <| Ao <| Ab <| Ac <| AK (i := 0) rfl hb15 (.here) fun F16 hF17 hz5 => ?_
 have hU72 := Heap.le_trans hF11 hF17
 replace hb := hb.mono hU72
 replace hz1 := hU72 _ _ hz1
 refine Am fun ds => A5 rfl <| AO Tt rfl fun b18 hb18 nb18 => Ao <| Ab <| Az (Af 1) fun ds => Ag rfl (Ak DG Aa (AA hz1 rfl)) <| Ag rfl (Bt AW) <| A5 rfl <| Eh bd_104 Aa AW rfl (SL hb hv (bl := b18) hz5) fun v23 F24 H27 hr25 hF26 => ?_
 replace hsl8 := hsl8.mono (Heap.le_trans hF11 (Heap.le_trans hF17 hF26))
 replace hsl13 := hsl13.mono (Heap.le_trans hF17 hF26)
 subst hr25
 refine Aw (Af 5) <| Ac <| AD (Af 2) <| Ad Aa (dF (fun h => h rfl)) <| Al <| Ab <| AD (Af 3) <| At <| Ap rfl Bd ?_
 rfl
theorem Uq {F : Heap} {vg : Value} {qs : List (Value × Gth)} {b : Qbk} (hb : QbkR F vg qs b) (hv : ValidQ b) : Ok Tryz.prog 112 [.agg #[.int .i64 b.signed, vg]].toArray F fun r _ => r = .tuple #[.agg #[.int .i64 b.signed, vg], .int .i64 0] := by
 refine Ok.intro Tryz.func112 rfl Tryz.ntmps112 rfl fun w0 => Ac <| Am fun ds => A5 rfl <| Bg Aa rfl fun b1 hb1 nb1 => A5 rfl <| AO P4 rfl fun b2 hb2 nb2 => Aw (Af 1) <| AK (i := 1) rfl hb1 (.next <| .here) fun F3 hF4 hz1 => ?_
 replace hb := hb.mono hF4
 refine Ac <| Am fun ds => Ag rfl (AC (vs := [.int .i64 b.signed, vg]) CY Aa rfl rfl (Ba hz1)) <| AN rfl (Ay bd_75 Aa AW (LS hb hv) (fun _ _ h => h)) <| Aw (Af 7) <| Ac <| Am fun ds => Ag rfl (AC (vs := [.int .i64 b.signed, vg]) CY Aa rfl rfl (Ba hz1)) <| Ag rfl (Bm bt_199 (.cons Aa rfl .nil) (.cons rfl rfl (Nat.le_of_ble_eq_true rfl) (.cons (.here) (.cons (.next <| .here) .nil)) .nil)) <| Aj (Af 1) <| AS <| AP TG Aa Aa (i := 0) rfl rfl rfl rfl hb.bones (.here) <| Aw (Af 1) <| At <| Ap rfl (.agg Oe Aa rfl rfl (Bz 0 rfl) Bd) ?_
 rfl
end
section
theorem Ee {α : Type} {f : Nat → List α} {t m : Nat} (h : t < m) : ∃ rest, (List.range m).flatMap f = (List.range t).flatMap f ++ (f t ++ rest) := by
 obtain ⟨d, rfl⟩ : ∃ d, m = t + 1 + d := ⟨m - (t + 1), by omega⟩
 rw [List.range_add, List.range_succ, List.flatMap_append, List.flatMap_append]
 exact ⟨_, by simp only [List.flatMap_cons, List.flatMap_nil, List.append_nil, List.append_assoc]; rfl⟩
theorem Q6 {b : Qbk} {i n : Nat} (hi : i < b.gs.length) (hn : n < ((b.g i).leaves + 1).toNat) : ∃ rest, allQ b = allTo b i ++ gthL b i n ++ (leafQ b i n ++ rest) := by
 obtain ⟨r1, h1⟩ := Ee (f := fun i => gthL b i ((b.g i).leaves + 1).toNat) hi
 obtain ⟨r2, h2⟩ := Ee (f := leafQ b i) hn
 refine ⟨r2 ++ r1, ?_⟩
 unfold allQ allTo
 rw [h1]
 unfold gthL
 rw [h2]
 simp only [List.append_assoc]
theorem Km {i n k M : Nat} (h : k < M) : ∃ rest, newTo i n M = newTo i n k ++ ((⟨i, n, (k : Int) + 1, 2⟩ : Ql) :: rest) := by
 obtain ⟨d, rfl⟩ : ∃ d, M = k + 1 + d := ⟨M - (k + 1), by omega⟩
 unfold newTo
 rw [List.range_add, List.range_succ, List.map_append, List.map_append]
 exact ⟨_, by simp only [List.map_cons, List.map_nil, List.append_assoc, List.singleton_append]; rfl⟩
structure Upto (g : Gth) (n : Int) (j : Nat) : Prop where
 le : j ≤ g.chs.length
 old : ∀ k, k < j → (g.c k).pos < n
 new : ∀ k, j ≤ k → k < g.chs.length → n ≤ (g.c k).pos
structure Mid (g : Gth) (n : Int) (j : Nat) : Prop where
 le : j ≤ g.chs.length
 old : ∀ k, k < j → (g.c k).pos ≤ n
 new : ∀ k, j ≤ k → k < g.chs.length → n ≤ (g.c k).pos
theorem E3 {g : Gth} {n : Int} : ∀ {j : Nat}, (∀ k, k < j → (g.c k).pos < n) → plusTo g n j = (0, 0)
 | 0, _ => rfl
 | j + 1, h => by
   have h1 := h j (by omega)
   unfold plusTo
   rw [if_neg (by omega), if_neg (by omega), E3 fun k hk => h k (by omega)]
theorem Li {g : Gth} {n : Int} {j : Nat} : ∀ {m : Nat}, j ≤ m → (∀ k, j ≤ k → k < m → n < (g.c k).pos) → plusTo g n m = plusTo g n j
 | 0, hm, _ => by rw [Nat.le_zero.1 hm]
 | m + 1, hm, h => by
   by_cases he : j = m + 1
   · rw [he]
   have h1 := h m (by omega) (by omega)
   have ih := Li (g := g) (n := n) (j := j) (m := m) (by omega) fun k h2 h3 => h k h2 (by omega)
   show (if (g.c m).pos = n ∧ (g.c m).kind = 3 then (g.c m).many else (plusTo g n m).1, if (g.c m).pos = n ∧ (g.c m).kind ≠ 3 then (g.c m).kind else (plusTo g n m).2) = _
   rw [if_neg (by omega), if_neg (by omega), ih]
theorem Upto.mid {g : Gth} {n : Int} {j : Nat} (h : Upto g n j) : Mid g n j := ⟨h.le, fun k hk => by have := h.old k hk; omega, h.new⟩
theorem PM {g : Gth} (h : ∀ k, k < g.chs.length → chgErr g k = 0) {j : Nat} : ∀ {k : Nat}, j ≤ k → k < g.chs.length → (g.c j).pos ≤ (g.c k).pos
 | 0, hj, _ => by rw [Nat.le_zero.1 hj]; omega
 | k + 1, hj, hk => by
   by_cases he : j = k + 1
   · rw [he]; omega
   have h1 := PM h (j := j) (k := k) (by omega) (by omega)
   have h2 := ((D7 (h (k + 1) hk)).2.2.2 (by omega)).1
   simp only [Nat.add_sub_cancel] at h2
   omega
theorem upto0 {g : Gth} (h : ∀ k, k < g.chs.length → chgErr g k = 0) : Upto g 0 0 := ⟨by omega, fun k hk => absurd hk (by omega), fun k _ hk => by
 have h1 := (D7 (h k hk)).2.1
 rw [Cn] at h1
 have : 0 ≤ chgLo (g.c k) := by unfold chgLo; split <;> omega
 omega⟩
theorem Mid.step {g : Gth} {n : Int} {j : Nat} (h : Mid g n j) (hj : j < g.chs.length) (hp : (g.c j).pos = n) : Mid g n (j + 1) := ⟨by omega, fun k hk => by
 rcases Nat.lt_succ_iff_lt_or_eq.1 hk with h1 | rfl
 · exact h.old k h1
 omega, fun k h1 h2 => h.new k (by omega) h2⟩
theorem Mid.next {g : Gth} {n : Int} {j : Nat} (h : Mid g n j) (hs : ∀ k, k < g.chs.length → chgErr g k = 0) (hj : j < g.chs.length → (g.c j).pos ≠ n) : Upto g (n + 1) j ∧ plusG g n = plusTo g n j := by
 have hnew : ∀ k, j ≤ k → k < g.chs.length → n < (g.c k).pos := fun k h1 h2 => by
   have h3 := h.new j (by omega) (by omega)
   have h4 := hj (by omega)
   have h5 := PM hs h1 h2
   omega
 exact ⟨⟨h.le, fun k hk => by have := h.old k hk; omega, fun k h1 h2 => by have := hnew k h1 h2; omega⟩, Li h.le hnew⟩
theorem Mid.none {g : Gth} {n : Int} {j : Nat} (h : Mid g n j) (hs : ∀ k, k < g.chs.length → chgErr g k = 0) (hj : j < g.chs.length) (hp : (g.c j).pos = n) (hk3 : (g.c j).kind ≠ 3) : plusTo g n j = (0, 0) := by
 refine E3 fun k hk => ?_
 have h1 := (D7 (hs j hj)).2.2.2 (by omega)
 have h2 := h.old k hk
 have h3 := PM hs (j := k) (k := j - 1) (by omega) (by omega)
 have h4 : (g.c j).pos ≠ (g.c (j - 1)).pos := fun q => hk3 (h1.2 q).1
 omega
theorem plus1 {g : Gth} {n : Int} {j k : Nat} (hp : (g.c j).pos = n) (hk : (g.c j).kind = (k : Int)) (h3 : k ≠ 3) (h0 : plusTo g n j = (0, 0)) : plusTo g n (j + 1) = (0, (k : Int)) := by
 show (if (g.c j).pos = n ∧ (g.c j).kind = 3 then (g.c j).many else (plusTo g n j).1, if (g.c j).pos = n ∧ (g.c j).kind ≠ 3 then (g.c j).kind else (plusTo g n j).2) = _
 rw [if_neg (by omega), if_pos ⟨hp, by omega⟩, h0, hk]
theorem plus3 {g : Gth} {n : Int} {j : Nat} (hp : (g.c j).pos = n) (hk : (g.c j).kind = 3) : plusTo g n (j + 1) = ((g.c j).many, (plusTo g n j).2) := by
 show (if (g.c j).pos = n ∧ (g.c j).kind = 3 then (g.c j).many else (plusTo g n j).1, if (g.c j).pos = n ∧ (g.c j).kind ≠ 3 then (g.c j).kind else (plusTo g n j).2) = _
 rw [if_pos ⟨hp, hk⟩, if_neg (fun h => h.2 hk)]
def thereB (n : Int) (p : Int × Int) : Bool := decide (0 < n) && decide (p.2 ≠ 1)
def kindZ (p : Int × Int) : Int := if p.2 = 2 then 1 else 0
theorem UB {b : Qbk} {i n : Nat} {p : Int × Int} (hp : plusG (b.g i) n = p) : leafQ b i n = (if thereB n p = true then [(⟨i, n, 0, kindZ p⟩ : Ql)] else []) ++ newTo i n p.1.toNat := by
 unfold leafQ ownQ thereB
 rw [hp]
 congr 1
 by_cases h : 0 < n ∧ p.2 ≠ 1
 · have hb : (decide ((0 : Int) < (n : Int)) && decide (p.2 ≠ 1)) = true := by simp [h.1, h.2]
   rw [if_pos h, if_pos hb]
   rfl
 have hb : ¬ (decide ((0 : Int) < (n : Int)) && decide (p.2 ≠ 1)) = true := by simpa using h
 rw [if_neg h, if_neg hb]
end
section
open Go.RowKit
section
variable {P : Program} {n : Nat} {B : Base} {e : Env} {σ : St} {d : Option Nat} {ty : TypeId} {pos : String} {af : Array Edge} {gd : Option (Nat × Bool)}
theorem MH {α : Type} {enc : α → List Value} {s : Nat} (hs : ∀ x, (enc x).length = s) : ∀ xs : List α, (xs.flatMap enc).length = xs.length * s
 | [] => by simp
 | x :: xs => by rw [List.flatMap_cons, List.length_append, hs, MH hs xs, List.length_cons, Nat.add_mul, Nat.one_mul]; omega
theorem x_makeB {T E s bytes : Nat} {x y : Operand} {z : Value} {k : Nat} {i : Int} {K : Value → St → Prop} (hT : SliceT P T E s) (hE : ElemT P E s bytes z) (hx : ev e x = .int .i64 i) (hy : ev e y = .int .i64 i) (hi : i = (k : Int)) (hroom : bytes * k ≤ 281474976710656) (hk : k ≤ 9223372036854775807)
   (hn : ∀ b l, B.w0.heap.size ≤ b → σ.F b = none → l.length = k * s → K (.slice (some ⟨b, 0, none⟩) k k) ⟨σ.F, (b, bx E l) :: σ.H⟩) :
   OpX P n B ⟨d, .makeSlice T x y, ty, pos, af, gd⟩ e σ K := .run fun w hw => by
 obtain ⟨j, hj, hj1, hj2, hj3⟩ := hE.ex
 subst hi
 subst hj2
 have hby : (j.bytes : Int) * (k : Int) ≤ 281474976710656 := by
   have : ((j.bytes * k : Nat) : Int) ≤ 281474976710656 := by omega
   rwa [Int.natCast_mul] at this
 have hr := run_make (P := P) w T E j z hT.1 hj hj3 .i64 .i64 k k (by omega) (Int.le_refl _) hby (by omega)
 rw [hj1, Int.toNat_natCast] at hr
 have hl : (madeCells z.cells (k * s)).toList.length = k * s := by simp [madeCells]
 refine ⟨_, _, _, .inl ?_, hw.alloc (bx E (madeCells z.cells (k * s)).toList), hn _ _ hw.size hw.fresh hl⟩
 simp [execOp, hx, hy, hr, bx]
end
end
section
set_option maxHeartbeats 4000000
set_option maxRecDepth 100000
open Go.RowKit
theorem el_169 : ElemT Tryz.prog 169 3 24 (.agg #[.int .i64 0, .int .i64 0, .int .i64 0]) := D6 (by kernel_rfl) rfl (by decide)
instance : FieldI Tryz.prog 195 1 1 := ⟨AU (by kernel_rfl)⟩
instance : FieldI Tryz.prog 199 0 0 := ⟨AU (by kernel_rfl)⟩
theorem sz_195 : SizeT Tryz.prog 195 2 := Bx (by kernel_rfl)
theorem sz_236 : SizeT Tryz.prog 236 1 := Bx (by kernel_rfl)
theorem sz_237 : SizeT Tryz.prog 237 1 := Bx (by kernel_rfl)
abbrev QlA (x : Ql) (_G : Heap) (vs : List Value) : Prop := vs = [.agg x.enc.toArray]
theorem NE {F0 : Heap} {vg : Value} {qs : List (Value × Gth)} {b : Qbk} (hb0 : QbkR F0 vg qs b) (hv : ValidQ b) {d1 : Nat} (z0 : F0 d1 = some (bx 199 [.int .i64 b.signed, vg])) : IterG Tryz.prog 147 [.pointer (some ⟨d1, 0, none⟩)] F0 QlA (allQ b) := by
 intro L J Jx F RH hF hm hmx hy h0
 have hb := hb0.mono hF
 have z1 := hF _ _ z0
 have hL1 := hb.gs.plain.lt
 have hlen := hb.len
 have hmb := hv.many
 refine OkG.intro Tryz.func147 rfl Tryz.ntmps147 rfl fun w0 => Az (Af 2) fun ds => Ag rfl (Ak DG Aa (AA z1 rfl)) <| Ag rfl (A4 Dy Aa hb.gs.plain) <| Aw (Af 1) <| Aq ?_
 refine AL [3, 4, 5, 6, 7, 8, 9, 10, 11, 12, 13, 18, 19, 20, 21, 22, 23, 24, 25, 26, 27, 28, 29, 30, 31, 32, 33, 34, 35, 36, 37, 38, 39, 40, 41, 42, 43, 44, 45, 46, 47, 48, 49, 50, 51, 52, 53, 54, 55, 56, 57, 58, 59, 60, 61, 62, 63, 64, 65, 66, 67, 68, 69, 70, 71, 72, 73, 74, 75, 76, 77, 78, 79, 80, 81, 82, 83, 84, 85, 86, 87, 88, 89, 90, 91, 92] (fun m e σ => ∃ G RH, F0.le G ∧ F.le G ∧ ∃ i : Nat, m + i = qs.length ∧ Fct e 18 (.int .i64 (i : Int)) ∧ J (allTo b i) G RH ∧ σ = ⟨G, RH⟩) (qs.length) ?_ ?_
 · exact ⟨_, _, hF, Heap.le_refl _, 0, by omega, AX, h0, rfl⟩
 rintro m1 e1 _ ⟨G, RH, hG, hFG, i, hm1, hs18, hJ, rfl⟩; replace hb := hb.mono hFG; replace z1 := hFG _ _ z1
 by_cases hi : i < qs.length
 ·refine AD (Af 1) <| Ac <| Ai Aa (by first | rfl | exact dT (by omega)) ?_
  have hib : i < b.gs.length := by omega
  have hgi : qs[i].2 = b.g i := hb.at hi
  have hcs := hb.chs _ (List.getElem_mem hi)
  have hL2 := hcs.plain.lt
  have hlv := (hv.chs hib).2.2
  have hlv2 : qs[i].2.leaves = (b.g i).leaves := by rw [hgi]
  have hst : ∀ k, k < qs[i].2.chs.length → chgErr qs[i].2 k = 0 := by rw [hgi]; exact (hv.chs hib).2.1
  have hc4 : qs[i].2.chs.length ≤ 4 := by rw [hgi]; exact (hv.chs hib).1
  refine Al <| Ab <| Ac <| Aq <| Az (Af 1) fun ds => Ag rfl (A1 (k := i) Dy Aa hb.gs.plain Aa rfl hi) <| Ag rfl (AC (vs := (gE qs[i])) CG Aa rfl rfl (hb.gs.whole hi)) <| A5 rfl <| AO J2 rfl fun b2 hb2 nb2 => Aj (Af 1) <| AS <| AP Nt Aa Aa (i := 0) rfl rfl rfl rfl (hb.ones _ (List.getElem_mem hi)) (.here) <| Ao <| Ab <| Ac <| AK (i := 0) rfl hb2 (.here) fun F3 hF4 hz4 => ?_
  replace hG := Heap.le_trans hG hF4
  replace hFG := Heap.le_trans hFG hF4
  replace hJ := hm _ _ _ _ hF4 hJ
  replace hcs := hcs.mono hF4
  refine Am fun ds => Aj (Af 1) <| Ag rfl (Ak Bv Aa (AA hz4 rfl)) <| Ag rfl (A4 Bw Aa hcs.plain) <| A5 rfl <| x_makeB Bw el_169 Aa Aa rfl (by omega) (by omega) fun b26 l26 hb26 nb26 hl26 => Aw (Af 1) <| Az (Af 2) fun ds => Ag rfl (Ak Bv Aa (AA hz4 rfl)) <| A5 rfl <| Nn (s := 3) rfl Bw Aa Aa (i := 0) rfl hl26 (hcs.srcM (fun _ => rfl) fun _ _ => Chg.enc_one) (.here) <| Ao <| Ab <| Ac <| AK (i := 0) rfl hb26 (.here) fun F5 hF6 hz5 => ?_
  have hU53 := Heap.le_trans hF4 hF6
  replace hb := hb.mono hU53
  replace hG := Heap.le_trans hG hF6
  replace hFG := Heap.le_trans hFG hF6
  replace hJ := hm _ _ _ _ hF6 hJ
  replace hcs := hcs.mono hF6
  replace z1 := hU53 _ _ z1
  replace hz4 := hF6 _ _ hz4
  have hv5 : Sl F5 (.slice (some ⟨b26, 0, none⟩) qs[i].2.chs.length qs[i].2.chs.length) 3 Chg.enc (qs[i].2.chs.drop 0) := by rw [List.drop_zero]; exact Sl.box hz5 rfl (Nat.le_refl _) hL2 (fun k hk j u h => Jj (enc := Chg.enc) (s := 3) (fun _ => rfl) _ k hk h)
  refine Am fun ds => Aj (Af 1) <| Ag rfl (Ak AF Aa (AA hz4 rfl)) <| Ag rfl (AG Aa Aa rfl (by omega) (by omega)) <| Aw (Af 1) <| Aq ?_
  refine AL [5, 6, 7, 8, 9, 10, 11, 12, 13, 34, 35, 36, 37, 38, 39, 40, 41, 42, 43, 44, 45, 46, 47, 48, 49, 50, 51, 52, 53, 54, 55, 56, 57, 58, 59, 60, 61, 62, 63, 64, 65, 66, 67, 68, 69, 70, 71, 72, 73, 74, 75, 76, 77, 78, 79, 80, 81, 82, 83, 84, 85, 86, 87, 88, 89, 90, 91] (fun m e σ => ∃ G RH, F0.le G ∧ F5.le G ∧ ∃ (n j : Nat) (v : Value), m + n = ((b.g i).leaves + 1).toNat ∧ Fct e 34 (.int .i64 (n : Int)) ∧ Fct e 5 v ∧ Sl G v 3 Chg.enc (qs[i].2.chs.drop j) ∧ Upto qs[i].2 (n : Int) j ∧ J (allTo b i ++ gthL b i n) G RH ∧ σ = ⟨G, RH⟩) (((b.g i).leaves + 1).toNat) ?_ ?_
  · exact ⟨_, _, hG, Heap.le_refl _, 0, 0, _, by omega, AX, AX, hv5, upto0 hst, by simpa [gthL] using hJ, rfl⟩
  rintro m2 e2 _ ⟨G, RH, hG, hFG1, n, j, v5, hm2, hu34, hu5, hv5, hup, hJ, rfl⟩; replace hb := hb.mono hFG1; replace z1 := hFG1 _ _ z1; replace hcs := hcs.mono hFG1; have hFG := Heap.le_trans hFG hFG1
  by_cases hn : n < ((b.g i).leaves + 1).toNat
  ·obtain ⟨rest, hsp⟩ := Q6 (b := b) hib hn
   obtain ⟨M, hM⟩ := Int.eq_ofNat_of_zero_le (show 0 ≤ (plusG qs[i].2 (n : Int)).1 by rw [hgi]; exact (hv.many4 hib _).1)
   have hM4 : M ≤ 4 := by have h9 := (hv.many4 hib (n : Int)).2; rw [← hgi] at h9; omega
   have hlf : leafQ b i n = (if thereB (n : Int) (plusG qs[i].2 (n : Int)) = true then [(⟨(i : Int), (n : Int), 0, kindZ (plusG qs[i].2 (n : Int))⟩ : Ql)] else []) ++ newTo i n M := by rw [UB (p := (plusG qs[i].2 (n : Int))) (by rw [hgi]), hM, Int.toNat_natCast]
   refine AD (Af 1) <| Ac <| Ai Aa (dT (by omega)) <| Al <| Ab <| Ac <| Aq <| AD (Af 2) <| Az (Af 2) fun ds => Ag rfl (Bm FF (.cons Aa rfl (.cons Aa rfl .nil)) (.cons rfl rfl (Nat.le_of_ble_eq_true rfl) (.cons (.here) .nil) (.cons rfl rfl (Nat.le_of_ble_eq_true rfl) (.cons (.next <| .here) .nil) .nil))) <| A5 rfl <| AO DB rfl fun b8 hb8 nb8 => AS <| AP KV Aa Aa (i := 0) rfl rfl rfl rfl (by simp [Value.oneCell']) (.here) <| Ao <| Ab <| AD (Af 4) <| Ac ?_
   refine HG [5, 8, 9, 10, 11, 12, 42, 43, 44, 45, 46, 47, 48, 49, 50, 51, 52, 53, 54, 55, 56, 57, 58, 59, 60, 61, 62, 63, 64, 65, 66, 67, 68, 69, 70] (fun st σ => ∃ (j : Nat) (v : Value), Fct st 5 v ∧ Sl G v 3 Chg.enc (qs[i].2.chs.drop j) ∧ Upto qs[i].2 ((n : Int) + 1) j ∧ Fct st 8 (.bool (thereB (n : Int) (plusG qs[i].2 (n : Int)))) ∧ Fct st 9 (.int .i64 (plusG qs[i].2 (n : Int)).1) ∧ σ = ⟨G, (b8, bx 121 [.int .i64 (i : Int), .int .i64 (n : Int), .int .i64 0, .int .i64 (kindZ (plusG qs[i].2 (n : Int)))]) :: RH⟩) ?_ ?_
   ·refine Aq <| AL [5, 8, 9, 10, 11, 12, 42, 43, 44, 45, 46, 47, 48, 49, 50, 51, 52, 53, 54, 55, 56, 57, 58, 59, 60, 61, 62, 63, 64, 65, 66, 67, 68, 69, 70] (fun m e σ => ∃ (j : Nat) (v : Value), m + j = qs[i].2.chs.length ∧ Fct e 5 v ∧ Sl G v 3 Chg.enc (qs[i].2.chs.drop j) ∧ Mid qs[i].2 (n : Int) j ∧ Fct e 8 (.bool (thereB (n : Int) (plusTo qs[i].2 (n : Int) j))) ∧ Fct e 9 (.int .i64 (plusTo qs[i].2 (n : Int) j).1) ∧ σ = ⟨G, (b8, bx 121 [.int .i64 (i : Int), .int .i64 (n : Int), .int .i64 0, .int .i64 (kindZ (plusTo qs[i].2 (n : Int) j))]) :: RH⟩) (qs[i].2.chs.length - j) ?_ ?_
    · exact ⟨j, _, by have := hup.le; omega, AX, hv5, hup.mid, Cr (congrArg Value.bool (by rw [E3 hup.old]; simp [thereB])), Cr (congrArg (Value.int .i64) (by rw [E3 hup.old])), by rw [E3 hup.old]; rfl⟩
    rintro m3 e3 _ ⟨j, v6, hm3, hw5, hv5, hmid, hw8, hw9, rfl⟩
    by_cases hj : j < qs[i].2.chs.length
    ·have hdl : 0 < (qs[i].2.chs.drop j).length := by rw [List.length_drop]; omega
     have hge : (qs[i].2.chs.drop j)[0] = qs[i].2.c j := by simp [Gth.c, hj]
     have hk1 := (D7 (hst j hj)).1
     rw [← hge] at hk1
     refine Ac <| Az (Af 1) fun ds => Ag rfl (A4 Bw Aa hv5.plain) <| Aj (Af 2) <| Ae rfl rfl Aa (dT (by omega)) <| Aj (Af 1) <| Ae rfl rfl Aa (dT (by omega)) <| Ag rfl (A1 (k := 0) Bw Aa hv5.plain Aa rfl hdl) <| Ae rfl rfl Aa (dT (by omega)) <| Aj (Af 1) <| Ae rfl rfl Aa (dT (by omega)) <| Ag rfl (Ak AF Aa (hv5.cell hdl rfl)) <| Ae rfl rfl Aa (dT (by omega)) <| Aj (Af 1) <| Ae rfl rfl Aa (dT (by omega)) <| Aj (Af 1) <| Ag rfl (Ar Aa (dT (by omega)) Aa) <| Ao <| Ab ?_
     by_cases hp : (qs[i].2.c j).pos = n
     ·refine Ai Aa (dT (by rw [hge]; exact hp)) ?_
      by_cases h3 : (qs[i].2.c j).kind = 3
      ·have hpt := plus3 (n := (n : Int)) hp h3
       refine Al <| Ab <| Aq <| Ac <| Az (Af 1) fun ds => Ag rfl (A1 (k := 0) Bw Aa hv5.plain Aa rfl hdl) <| Ag rfl (AC (vs := (Chg.enc (qs[i].2.chs.drop j)[0])) CS Aa rfl rfl (hv5.whole hdl)) <| AN rfl (Ay JR Aa AW (GN (c := (qs[i].2.chs.drop j)[0]) hk1) (fun _ _ h => h.trans (Ve (by rw [hge]; exact h3)))) <| Ao <| Ab <| Aq <| Ac <| Am fun ds => Ag rfl (Fg Tryz.underlying236 rfl Nk (by decide) Aa) <| Aw (Af 2) <| Ad Aa rfl <| Ac <| Am fun ds => Ag rfl (Fg Tryz.underlying237 rfl P3 (by decide) Aa) <| Aw (Af 2) <| Ad Aa rfl <| Ac <| Am fun ds => Ag rfl (G7 Tryz.underlying195 rfl Aa) <| Aw (Af 2) <| Ai Aa rfl <| Ac <| Am fun ds => A5 rfl <| AO Nl rfl fun b10 hb10 nb10 => AS <| AP sz_195 Aa Aa (i := 0) rfl rfl rfl rfl (by simp [Value.oneCell']) (.here) <| Ao <| Ab <| Am fun ds => Aj (Af 3) <| Ao <| A0 <| Ab <| Bn (fun _ _ h => h.drop (kD <| kK <| .refl _)) <| Am fun ds => Aj (Af 1) <| Ag rfl (FY Bw Aa hv5.plain Aa (k := 1) rfl hdl) <| Aj (Af 1) <| Ao <| A0 ?_
       refine Ab ⟨_, m3 - 1, Off.eq (B3 rfl <| BR rfl <| Ca rfl <| BM rfl <| BX rfl <| A2), by omega, ?_⟩
       refine ⟨j + 1, _, by omega, AX, ?_, hmid.step hj hp, Cr (congrArg Value.bool ?_), Cr (congrArg (Value.int .i64) ?_), ?_⟩
       · rw [← List.drop_drop]; exact hv5.from (k := 1) hdl
       · rw [hpt]; rfl
       · rw [hpt, hge]
       rw [hpt]; rfl
      by_cases h1 : (qs[i].2.c j).kind = 1
      ·have h0 := hmid.none hst hj hp (by omega)
       have hpt := plus1 (k := 1) hp h1 (by decide) h0
       refine Al <| Ab <| Aq <| Ac <| Az (Af 1) fun ds => Ag rfl (A1 (k := 0) Bw Aa hv5.plain Aa rfl hdl) <| Ag rfl (AC (vs := (Chg.enc (qs[i].2.chs.drop j)[0])) CS Aa rfl rfl (hv5.whole hdl)) <| AN rfl (Ay JR Aa AW (GN (c := (qs[i].2.chs.drop j)[0]) hk1) (fun _ _ h => h.trans (Vg (by rw [hge]; exact h1)))) <| Ao <| Ab <| Aq <| Ac <| Am fun ds => Ag rfl (G7 Tryz.underlying236 rfl Aa) <| Aw (Af 2) <| Ai Aa rfl <| Ac <| Am fun ds => A5 rfl <| AO Nk rfl fun b11 hb11 nb11 => AS <| AP sz_236 Aa Aa (i := 0) rfl rfl rfl rfl (by simp [Value.oneCell']) (.here) <| Ao <| Ab <| Am fun ds => Aj (Af 1) <| Ao <| A0 <| Ab <| Bn (fun _ _ h => h.drop (kD <| kK <| .refl _)) <| Am fun ds => Aj (Af 1) <| Ag rfl (FY Bw Aa hv5.plain Aa (k := 1) rfl hdl) <| Aj (Af 1) <| Ao <| A0 ?_
       refine Ab ⟨_, m3 - 1, Off.eq (B3 rfl <| Ca rfl <| BM rfl <| BX rfl <| A2), by omega, ?_⟩
       refine ⟨j + 1, _, by omega, AX, ?_, hmid.step hj hp, Cr (congrArg Value.bool ?_), Cr (congrArg (Value.int .i64) ?_), ?_⟩
       · rw [← List.drop_drop]; exact hv5.from (k := 1) hdl
       · rw [hpt]; simp [thereB]
       · rw [hpt, h0]
       rw [hpt, h0]; rfl
      have h2 : (qs[i].2.c j).kind = 2 := by rw [hge, Cn] at hk1; omega
      have h0 := hmid.none hst hj hp (by omega)
      have hpt := plus1 (k := 2) hp h2 (by decide) h0
      refine Al <| Ab <| Aq <| Ac <| Az (Af 1) fun ds => Ag rfl (A1 (k := 0) Bw Aa hv5.plain Aa rfl hdl) <| Ag rfl (AC (vs := (Chg.enc (qs[i].2.chs.drop j)[0])) CS Aa rfl rfl (hv5.whole hdl)) <| AN rfl (Ay JR Aa AW (GN (c := (qs[i].2.chs.drop j)[0]) hk1) (fun _ _ h => h.trans (Vf (by rw [hge]; exact h2)))) <| Ao <| Ab <| Aq <| Ac <| Am fun ds => Ag rfl (Fg Tryz.underlying236 rfl Nk (by decide) Aa) <| Aw (Af 2) <| Ad Aa rfl <| Ac <| Am fun ds => Ag rfl (G7 Tryz.underlying237 rfl Aa) <| Aw (Af 2) <| Ai Aa rfl <| Ac <| Am fun ds => A5 rfl <| AO P3 rfl fun b12 hb12 nb12 => AS <| AP sz_237 Aa Aa (i := 0) rfl rfl rfl rfl (by simp [Value.oneCell']) (.here) <| Ao <| Ab <| Am fun ds => Aj (Af 1) <| AS <| Bf DA Aa Aa (i := 1) rfl (.next <| .next <| .next <| .here) rfl (.next <| .here) <| Ao <| A0 <| Ab <| Bn (fun _ _ h => h.drop (kD <| kK <| .refl _)) <| Am fun ds => Aj (Af 1) <| Ag rfl (FY Bw Aa hv5.plain Aa (k := 1) rfl hdl) <| Aj (Af 1) <| Ao <| A0 ?_
      refine Ab ⟨_, m3 - 1, Off.eq (B3 rfl <| BR rfl <| BM rfl <| A2), by omega, ?_⟩
      refine ⟨j + 1, _, by omega, AX, ?_, hmid.step hj hp, Cr (congrArg Value.bool ?_), Cr (congrArg (Value.int .i64) ?_), ?_⟩
      · rw [← List.drop_drop]; exact hv5.from (k := 1) hdl
      · rw [hpt, h0]; simp [thereB]
      · rw [hpt, h0]
      rw [hpt]; rfl
     refine Ad Aa (dF (by rw [hge]; exact hp)) <| AH ?_
     refine A8 <| A8 <| AB <| Ab ⟨_, Off.eq (BR rfl <| BM rfl <| BX rfl <| Cg rfl <| Cb), ?_⟩
     obtain ⟨hup2, hpl⟩ := hmid.next hst (fun hj2 => hp)
     exact ⟨j, _, AX, hv5, hup2, Cr (congrArg Value.bool (by rw [hpl])), Cr (congrArg (Value.int .i64) (by rw [hpl])), by rw [hpl]⟩
    have hdl : (qs[i].2.chs.drop j).length = 0 := by rw [List.length_drop]; omega
    refine Ac <| Az (Af 1) fun ds => Ag rfl (A4 Bw Aa hv5.plain) <| Aj (Af 2) <| Ah rfl rfl Aa (.inl (congrArg Value.bool (dF (by omega)))) rfl <| Ah rfl rfl Aa (.inl (congrArg Value.bool (dF (by omega)))) rfl <| Ah rfl rfl Aa (.inl (congrArg Value.bool (dF (by omega)))) rfl <| Ah rfl rfl Aa (.inl (congrArg Value.bool (dF (by omega)))) rfl <| Ah rfl rfl Aa (.inl (congrArg Value.bool (dF (by omega)))) rfl <| Ah rfl rfl Aa (.inl (congrArg Value.bool (dF (by omega)))) rfl <| Ag rfl (As Aa (dF (by omega)) Aa) <| Ao <| Ab <| Ad Aa rfl <| AH ?_
    refine A8 <| A8 <| AB <| Ab ⟨_, Off.eq (BR rfl <| BM rfl <| BX rfl <| Cg rfl <| Cb), ?_⟩
    obtain ⟨hup2, hpl⟩ := hmid.next hst (fun hj2 => absurd hj2 hj)
    exact ⟨j, _, AX, hv5, hup2, Cr (congrArg Value.bool (by rw [hpl])), Cr (congrArg (Value.int .i64) (by rw [hpl])), by rw [hpl]⟩
   rintro e4 _ ⟨j2, v7, hc5, hv5, hup2, hc8, hc9, rfl⟩
   refine Ac <| Ac <| AK (i := 0) rfl hb8 (.here) fun F13 hF14 hz7 => ?_
   replace hb := hb.mono hF14
   replace hcs := hcs.mono hF14
   replace hG := Heap.le_trans hG hF14
   replace hFG := Heap.le_trans hFG hF14
   replace hFG1 := Heap.le_trans hFG1 hF14
   replace hJ := hm _ _ _ _ hF14 hJ
   replace hv5 := hv5.mono hF14
   replace z1 := hF14 _ _ z1
   by_cases hth : thereB (n : Int) (plusG qs[i].2 (n : Int)) = true
   ·have hsp1 : allQ b = (allTo b i ++ gthL b i n) ++ (⟨(i : Int), (n : Int), 0, kindZ (plusG qs[i].2 (n : Int))⟩ : Ql) :: (newTo i n M ++ rest) := by rw [hsp, hlf, if_pos hth]; simp
    refine DN fun ds => Du rfl rfl (AI Aa) <| Du rfl rfl (AI Aa) <| KO rfl rfl Aa hth <| Du rfl rfl (AI Aa) <| KO rfl rfl Aa hth <| Du rfl rfl (AC DR Aa rfl rfl (Ba hz7)) <| KO rfl rfl Aa hth <| P1 rfl Aa AW rfl (hy (allTo b i ++ gthL b i n) (⟨(i : Int), (n : Int), 0, kindZ (plusG qs[i].2 (n : Int))⟩ : Ql) _ _ _ _ hsp1 hG hJ rfl) fun v19 F20 RH9 hr21 hF22 => ?_
    replace hb := hb.mono hF22
    replace hcs := hcs.mono hF22
    replace hG := Heap.le_trans hG hF22
    replace hFG := Heap.le_trans hFG hF22
    replace hFG1 := Heap.le_trans hFG1 hF22
    replace hJ := hm _ _ _ _ hF22 hJ
    replace hv5 := hv5.mono hF22
    replace z1 := hF22 _ _ z1
    obtain ⟨yb, rfl, hyb⟩ := He hr21
    refine KO rfl rfl Aa hth <| Du rfl rfl (O4 Aa) <| Du rfl rfl (Ar Aa hth Aa) <| JU <| Ab ?_
    rcases hyb with ⟨rfl, hJ2⟩ | ⟨rfl, hJx⟩
    ·refine Ad Aa rfl ?_
     have hJ1 : J (allTo b i ++ gthL b i n ++ (if thereB (n : Int) (plusG qs[i].2 (n : Int)) = true then [(⟨(i : Int), (n : Int), 0, kindZ (plusG qs[i].2 (n : Int))⟩ : Ql)] else [])) F20 RH9 := by rw [if_pos hth]; exact hJ2
     refine Al <| Ab <| AD (Af 2) <| Aq ?_
     refine AL [13, 79, 80, 81, 82, 83, 84, 85, 86, 87, 88, 89, 90] (fun m e σ => ∃ G RH, F0.le G ∧ F20.le G ∧ ∃ k : Nat, m + k = M ∧ Fct e 79 (.int .i64 (k : Int)) ∧ J (allTo b i ++ gthL b i n ++ (if thereB (n : Int) (plusG qs[i].2 (n : Int)) = true then [(⟨(i : Int), (n : Int), 0, kindZ (plusG qs[i].2 (n : Int))⟩ : Ql)] else []) ++ newTo i n k) G RH ∧ Sl G v7 3 Chg.enc (qs[i].2.chs.drop j2) ∧ σ = ⟨G, RH⟩) (M) ?_ ?_
     · exact ⟨_, _, hG, Heap.le_refl _, 0, by omega, AX, by simpa [newTo] using hJ1, hv5, rfl⟩
     rintro m4 e5 _ ⟨G, RH, hG, hFG2, k, hm4, hx79, hJ, hv5, rfl⟩; replace hb := hb.mono hFG2; replace z1 := hFG2 _ _ z1; replace hcs := hcs.mono hFG2; have hFG := Heap.le_trans hFG hFG2; have hFG1 := Heap.le_trans hFG1 hFG2
     by_cases hk : k < M
     ·obtain ⟨r3, h3⟩ := Km (i := i) (n := n) hk
      have hsp3 : allQ b = (allTo b i ++ gthL b i n ++ (if thereB (n : Int) (plusG qs[i].2 (n : Int)) = true then [(⟨(i : Int), (n : Int), 0, kindZ (plusG qs[i].2 (n : Int))⟩ : Ql)] else []) ++ newTo i n k) ++ (⟨(i : Int), (n : Int), (k : Int) + 1, 2⟩ : Ql) :: (r3 ++ rest) := by rw [hsp, hlf, h3]; simp
      refine AD (Af 1) <| Ac <| Ai Aa (by first | rfl | exact dT (by omega)) <| Al <| Ab <| Ac <| Aq <| AD (Af 2) <| Ac <| DN fun ds => Du rfl rfl (AI Aa) <| Du rfl rfl (AI Aa) <| Du rfl rfl (AI Aa) <| Du rfl rfl (AI Aa) <| Du rfl rfl (AG Aa Aa rfl (by omega) (by omega)) <| Du rfl rfl (Bm FF (.cons Aa rfl (.cons Aa rfl (.cons Aa rfl (.cons Aa rfl .nil)))) (.cons rfl rfl (Nat.le_of_ble_eq_true rfl) (.cons (.here) .nil) (.cons rfl rfl (Nat.le_of_ble_eq_true rfl) (.cons (.next <| .here) .nil) (.cons rfl rfl (Nat.le_of_ble_eq_true rfl) (.cons (.next <| .next <| .here) .nil) (.cons rfl rfl (Nat.le_of_ble_eq_true rfl) (.cons (.next <| .next <| .next <| .here) .nil) .nil))))) <| P1 rfl Aa AW rfl (hy (allTo b i ++ gthL b i n ++ (if thereB (n : Int) (plusG qs[i].2 (n : Int)) = true then [(⟨(i : Int), (n : Int), 0, kindZ (plusG qs[i].2 (n : Int))⟩ : Ql)] else []) ++ newTo i n k) (⟨(i : Int), (n : Int), (k : Int) + 1, 2⟩ : Ql) _ _ _ _ hsp3 hG hJ rfl) fun v28 F29 RH9 hr30 hF31 => ?_
      replace hG := Heap.le_trans hG hF31
      replace hFG2 := Heap.le_trans hFG2 hF31
      replace hJ := hm _ _ _ _ hF31 hJ
      replace hv5 := hv5.mono hF31
      obtain ⟨yb, rfl, hyb⟩ := He hr30
      refine Du rfl rfl (O4 Aa) <| JU <| Ab ?_
      rcases hyb with ⟨rfl, hJ2⟩ | ⟨rfl, hJx⟩
      ·refine Ad Aa rfl <| Al <| A0 <| Ab <| Am fun ds => Ag rfl (AG Aa Aa rfl (by omega) (by omega)) <| Aj (Af 1) <| Ao ?_
       refine Ab ⟨_, m4 - 1, Off.eq (BR rfl <| Ca rfl <| BX rfl <| A2), by omega, ?_⟩
       exact ⟨_, _, hG, hFG2, k + 1, by omega, AX, by rw [DH, ← List.append_assoc]; exact hJ2, hv5, rfl⟩
      refine Ai Aa rfl <| At ?_
      refine A7 (Ax (Ax (A7 (A7 (Ax (Ax (A7 (A7 (Ax (Ax (A7 ?_)))))))))))
      refine C1 rfl .nil .all ?_
      exact .inr hJx
     refine AD (Af 1) <| Ac <| Ad Aa (by first | rfl | exact dF (by omega)) ?_
     obtain rfl : k = M := by omega
     refine AH ?_
     refine A8 <| A8 <| AB <| A0 <| Ab <| Am fun ds => Ag rfl (AG Aa Aa rfl (by omega) (by omega)) <| Aj (Af 1) <| Ao ?_
     refine Ab ⟨_, m2 - 1, Off.eq (BM rfl <| BX rfl <| Cg rfl <| BR rfl <| BX rfl <| Cg rfl <| BR rfl <| BM rfl <| BX rfl <| A2), by omega, ?_⟩
     refine ⟨_, _, hG, hFG1, n + 1, j2, _, by omega, AX, AX, hv5, by push_cast; exact hup2, ?_, rfl⟩
     rw [DJ, hlf]
     simpa using hJ
    refine Ai Aa rfl <| At ?_
    refine Ax (A7 (Ax (Ax (A7 (A7 (Ax (Ax (A7 ?_))))))))
    refine C1 rfl .nil .all ?_
    exact .inr hJx
   replace hth : thereB (n : Int) (plusG qs[i].2 (n : Int)) = false := by simpa using hth
   refine DN fun ds => Du rfl rfl (AI Aa) <| Du rfl rfl (AI Aa) <| KP rfl rfl Aa (.inl (congrArg Value.bool hth)) rfl <| KP rfl rfl Aa (.inl (congrArg Value.bool hth)) rfl <| KP rfl rfl Aa (.inl (congrArg Value.bool hth)) rfl <| KP rfl rfl Aa (.inl (congrArg Value.bool hth)) rfl <| Du rfl rfl (As Aa hth C4) <| JU <| Ab <| Ad Aa rfl ?_
   have hJ1 : J (allTo b i ++ gthL b i n ++ (if thereB (n : Int) (plusG qs[i].2 (n : Int)) = true then [(⟨(i : Int), (n : Int), 0, kindZ (plusG qs[i].2 (n : Int))⟩ : Ql)] else [])) F13 RH := by rw [if_neg (by rw [hth]; simp), List.append_nil]; exact hJ
   refine Al <| Ab <| AD (Af 2) <| Aq ?_
   refine AL [13, 79, 80, 81, 82, 83, 84, 85, 86, 87, 88, 89, 90] (fun m e σ => ∃ G RH, F0.le G ∧ F13.le G ∧ ∃ k : Nat, m + k = M ∧ Fct e 79 (.int .i64 (k : Int)) ∧ J (allTo b i ++ gthL b i n ++ (if thereB (n : Int) (plusG qs[i].2 (n : Int)) = true then [(⟨(i : Int), (n : Int), 0, kindZ (plusG qs[i].2 (n : Int))⟩ : Ql)] else []) ++ newTo i n k) G RH ∧ Sl G v7 3 Chg.enc (qs[i].2.chs.drop j2) ∧ σ = ⟨G, RH⟩) (M) ?_ ?_
   · exact ⟨_, _, hG, Heap.le_refl _, 0, by omega, AX, by simpa [newTo] using hJ1, hv5, rfl⟩
   rintro m4 e5 _ ⟨G, RH, hG, hFG2, k, hm4, hx79, hJ, hv5, rfl⟩; replace hb := hb.mono hFG2; replace z1 := hFG2 _ _ z1; replace hcs := hcs.mono hFG2; have hFG := Heap.le_trans hFG hFG2; have hFG1 := Heap.le_trans hFG1 hFG2
   by_cases hk : k < M
   ·obtain ⟨r3, h3⟩ := Km (i := i) (n := n) hk
    have hsp3 : allQ b = (allTo b i ++ gthL b i n ++ (if thereB (n : Int) (plusG qs[i].2 (n : Int)) = true then [(⟨(i : Int), (n : Int), 0, kindZ (plusG qs[i].2 (n : Int))⟩ : Ql)] else []) ++ newTo i n k) ++ (⟨(i : Int), (n : Int), (k : Int) + 1, 2⟩ : Ql) :: (r3 ++ rest) := by rw [hsp, hlf, h3]; simp
    refine AD (Af 1) <| Ac <| Ai Aa (by first | rfl | exact dT (by omega)) <| Al <| Ab <| Ac <| Aq <| AD (Af 2) <| Ac <| DN fun ds => Du rfl rfl (AI Aa) <| Du rfl rfl (AI Aa) <| Du rfl rfl (AI Aa) <| Du rfl rfl (AI Aa) <| Du rfl rfl (AG Aa Aa rfl (by omega) (by omega)) <| Du rfl rfl (Bm FF (.cons Aa rfl (.cons Aa rfl (.cons Aa rfl (.cons Aa rfl .nil)))) (.cons rfl rfl (Nat.le_of_ble_eq_true rfl) (.cons (.here) .nil) (.cons rfl rfl (Nat.le_of_ble_eq_true rfl) (.cons (.next <| .here) .nil) (.cons rfl rfl (Nat.le_of_ble_eq_true rfl) (.cons (.next <| .next <| .here) .nil) (.cons rfl rfl (Nat.le_of_ble_eq_true rfl) (.cons (.next <| .next <| .next <| .here) .nil) .nil))))) <| P1 rfl Aa AW rfl (hy (allTo b i ++ gthL b i n ++ (if thereB (n : Int) (plusG qs[i].2 (n : Int)) = true then [(⟨(i : Int), (n : Int), 0, kindZ (plusG qs[i].2 (n : Int))⟩ : Ql)] else []) ++ newTo i n k) (⟨(i : Int), (n : Int), (k : Int) + 1, 2⟩ : Ql) _ _ _ _ hsp3 hG hJ rfl) fun v37 F38 RH9 hr39 hF40 => ?_
    replace hG := Heap.le_trans hG hF40
    replace hFG2 := Heap.le_trans hFG2 hF40
    replace hJ := hm _ _ _ _ hF40 hJ
    replace hv5 := hv5.mono hF40
    obtain ⟨yb, rfl, hyb⟩ := He hr39
    refine Du rfl rfl (O4 Aa) <| JU <| Ab ?_
    rcases hyb with ⟨rfl, hJ2⟩ | ⟨rfl, hJx⟩
    ·refine Ad Aa rfl <| Al <| A0 <| Ab <| Am fun ds => Ag rfl (AG Aa Aa rfl (by omega) (by omega)) <| Aj (Af 1) <| Ao ?_
     refine Ab ⟨_, m4 - 1, Off.eq (BR rfl <| Ca rfl <| BX rfl <| A2), by omega, ?_⟩
     exact ⟨_, _, hG, hFG2, k + 1, by omega, AX, by rw [DH, ← List.append_assoc]; exact hJ2, hv5, rfl⟩
    refine Ai Aa rfl <| At ?_
    refine A7 (Ax (Ax (A7 (A7 (Ax (Ax (A7 (A7 (Ax (Ax (A7 ?_)))))))))))
    refine C1 rfl .nil .all ?_
    exact .inr hJx
   refine AD (Af 1) <| Ac <| Ad Aa (by first | rfl | exact dF (by omega)) ?_
   obtain rfl : k = M := by omega
   refine AH ?_
   refine A8 <| A8 <| AB <| A0 <| Ab <| Am fun ds => Ag rfl (AG Aa Aa rfl (by omega) (by omega)) <| Aj (Af 1) <| Ao ?_
   refine Ab ⟨_, m2 - 1, Off.eq (BM rfl <| BX rfl <| Cg rfl <| BR rfl <| BX rfl <| Cg rfl <| BR rfl <| BM rfl <| BX rfl <| A2), by omega, ?_⟩
   refine ⟨_, _, hG, hFG1, n + 1, j2, _, by omega, AX, AX, hv5, by push_cast; exact hup2, ?_, rfl⟩
   rw [DJ, hlf]
   simpa using hJ
  refine AD (Af 1) <| Ac <| Ad Aa (dF (by omega)) ?_
  obtain rfl : n = ((b.g i).leaves + 1).toNat := by omega
  refine AH ?_
  refine A8 <| A8 <| AB <| A0 <| Ab <| Am fun ds => Ag rfl (AG Aa Aa rfl (by omega) (by omega)) <| Aj (Af 1) <| Ao ?_
  refine Ab ⟨_, m1 - 1, Off.eq (BM rfl <| BX rfl <| Cg rfl <| B3 rfl <| BM rfl <| BX rfl <| A2), by omega, ?_⟩
  exact ⟨_, _, hG, hFG, i + 1, by omega, AX, by rw [HC]; exact hJ, rfl⟩
 refine AD (Af 1) <| Ac <| Ad Aa (by first | rfl | exact dF (by omega)) ?_
 obtain rfl : i = qs.length := by omega
 refine AH ?_
 refine A8 <| A8 <| AB <| G9 rfl .nil .all ?_
 exact .inl (by unfold allQ; rw [← hlen]; exact hJ)
end
section
def Qbk.l (b : Qbk) (n : Nat) : Ql := (allQ b)[n]?.getD ⟨0, 0, 0, 0⟩
theorem l_at {b : Qbk} {n : Nat} (h : n < (allQ b).length) : (allQ b)[n] = b.l n := by simp [Qbk.l, h]
def opp (b : Qbk) (x : Ql) : Ql := ⟨x.gath, (b.g x.gath.toNat).leaves + 1 - x.num, x.plus, x.kind⟩
def oppAt (b : Qbk) (n : Nat) : Int := findI (fun y => decide (opp b (b.l n) = y)) (allQ b)
def mateZ (b : Qbk) (n : Nat) : Int := if (b.l n).kind = 0 ∧ 0 ≤ oppAt b n ∧ oppAt b n ≠ n then oppAt b n else -1
theorem OX {α : Type} {p : α → Bool} {l : List α} : -1 ≤ findI p l ∧ findI p l < l.length := by
 by_cases h : ∃ k, ∃ hk : k < l.length, p l[k] = true ∧ ∀ j (hj : j < l.length), j < k → p l[j] = false
 · obtain ⟨k, hk, h1, h2⟩ := h
   rw [Co hk h1 h2]; omega
 rw [Cy]
 · omega
 intro j
 induction j using Nat.strongRecOn with
 | _ j ih =>
   intro hj
   by_cases hp : p l[j] = true
   · exact absurd ⟨j, hj, hp, fun k hk hkj => ih k hkj hk⟩ h
   simpa using hp
theorem EM {b : Qbk} {n : Nat} : -1 ≤ mateZ b n ∧ mateZ b n < (allQ b).length ∨ mateZ b n = -1 := by
 unfold mateZ
 split
 · have := OX (p := fun y => decide (opp b (b.l n) = y)) (l := allQ b)
   exact .inl ⟨by unfold oppAt at *; omega, by unfold oppAt; omega⟩
 exact .inr rfl
theorem M8 {b : Qbk} {i n : Nat} {x : Ql} (h : x ∈ leafQ b i n) : x.gath = i ∧ x.num = n := by
 unfold leafQ at h
 rcases List.mem_append.1 h with h | h
 · unfold ownQ at h
   split at h
   · rw [List.mem_singleton] at h; subst h; exact ⟨rfl, rfl⟩
   cases h
 unfold newTo at h
 obtain ⟨k, -, rfl⟩ := List.mem_map.1 h
 exact ⟨rfl, rfl⟩
theorem VX {b : Qbk} (hv : ValidQ b) {x : Ql} (h : x ∈ allQ b) : ∃ i n : Nat, i < b.gs.length ∧ x.gath = i ∧ x.num = n ∧ (n : Int) ≤ (b.g i).leaves ∧ (b.g i).leaves ≤ 12 := by
 unfold allQ allTo at h
 obtain ⟨i, hi, h⟩ := List.mem_flatMap.1 h
 unfold gthL at h
 obtain ⟨n, hn, h⟩ := List.mem_flatMap.1 h
 have hi2 := List.mem_range.1 hi
 have hn2 := List.mem_range.1 hn
 have h3 := (hv.chs hi2).2.2
 exact ⟨i, n, hi2, (M8 h).1, (M8 h).2, by omega, h3.2⟩
end
section
set_option maxRecDepth 100000
open Go.RowKit
theorem bd_112 : Body Tryz.prog 112 := AE (by kernel_rfl)
theorem bd_113 : Body Tryz.prog 113 := AE (by kernel_rfl)
theorem bd_114 : Body Tryz.prog 114 := AE (by kernel_rfl)
theorem bd_146 : Body Tryz.prog 146 := AE (by kernel_rfl)
theorem bd_147 : Body Tryz.prog 147 := AE (by kernel_rfl)
theorem Gf : OneT Tryz.prog 62 := BE (by kernel_rfl)
instance : OneI Tryz.prog 62 := ⟨Gf⟩
theorem sz_62 : SizeT Tryz.prog 62 1 := Bx (by kernel_rfl)
theorem Qd {F : Heap} {vg : Value} {qs : List (Value × Gth)} {b : Qbk} (hb : QbkR F vg qs b) : Ok Tryz.prog 114 [.agg #[.int .i64 b.signed, vg]].toArray F fun u F' => ∃ d, u = .func (.func 147) #[] #[.pointer (some ⟨d, 0, none⟩)] ∧ F' d = some (bx 199 [.int .i64 b.signed, vg]) := by
 refine Ok.intro Tryz.func114 rfl Tryz.ntmps114 rfl fun w0 => Ac <| Am fun ds => A5 rfl <| Bg Aa rfl fun b1 hb1 nb1 => Aw (Af 1) <| Ac <| AK (i := 0) rfl hb1 (.here) fun F2 hF3 hz => ?_
 refine Am fun ds => Ag rfl (Bt AW) <| Aw (Af 1) <| At <| Ap rfl Bd ?_
 exact ⟨_, rfl, hz⟩
theorem Ob {F : Heap} {g : FuncId} {cs : List Value} (hg : Body Tryz.prog g) {xs : List Ql} (hit : IterG Tryz.prog g cs F QlA xs) (hlx : xs.length ≤ 2000) : Ok Tryz.prog 146 [.slice none 0 0, .func (.func g) #[] cs.toArray].toArray F fun u F' => Sl F' u 4 Ql.enc xs := by
 refine Ok.intro Tryz.func146 rfl Tryz.ntmps146 rfl fun w0 => Ac <| Am fun ds => A5 rfl <| Bg Aa rfl fun b1 hb1 nb1 => Aw (Af 1) <| Ac <| AD (Af 1) <| Aq ?_
 refine JV rfl Aa hg hit (Heap.le_refl _) (fun pre _ H => ∃ (v : Value) (R : List (Nat × Obj)), H = (b1, bx 62 [v]) :: R ∧ Own 121 4 v (pre).length ((pre).flatMap Ql.enc) R) (fun _ _ _ => False) (fun _ _ _ _ _ h => h) (fun _ _ _ _ _ h => h) ⟨_, [], rfl, BZ⟩ (fun L D fn tm pre x rest G1 H1 vs hxs hle1 hJ hA => ?_) (fun _ _ _ _ h => h.elim) (fun F2 H1 hF2 hJ => ?_)
 ·obtain ⟨v4, R4, rfl, ho⟩ := hJ
  obtain rfl := hA
  have hpl : pre.length ≤ 2000 := by have h9 := congrArg List.length hxs; rw [List.length_append] at h9; omega
  refine ⟨rfl, rfl, fun w1 => ?_⟩
  refine Jz (e' := (upd _ 7 (.agg x.enc.toArray))) rfl rfl <| AQ (.inr (by kernel_rfl)) (fun _ _ h => h) fun ds => A5 rfl <| AO DB rfl fun b2 hb2 nb2 => AS <| AP KV Aa Aa (i := 0) rfl rfl rfl rfl Ql.enc_one (.here) <| Fr (.one (.next <| .here) <| .one (.next <| .here) <| .one (.here) <| .one (.here) <| .lastb (.last)) <| Ao ?_
  refine Ab ⟨_, rfl, ?_⟩
  refine Aq <| AQ (.inr (by kernel_rfl)) (fun _ _ h => h) fun ds => Aj (Af 1) <| Ag rfl (AC (vs := (Ql.enc x)) DR Aa rfl rfl (Bz 2 rfl)) <| A5 rfl <| B5 (offs := [(0, 4)]) (zl := [.int .i64 0, .int .i64 0, .int .i64 0, .int .i64 0]) Cq DB rfl (.cons Aa rfl .nil) (by intro i p h; rcases i with _ | i <;> simp at h <;> subst h <;> rfl) (.cons rfl rfl (Nat.le_of_ble_eq_true rfl) (.cons (.here) (.cons (.next <| .here) (.cons (.next <| .next <| .here) (.cons (.next <| .next <| .next <| .here) .nil)))) .nil) (by decide) (by decide) fun b3 hb3 nb3 => A5 rfl <| Bp Cq H7 Aa ho Aa (B1 (s := 4) 0 rfl rfl (by simp [Value.oneCell'])) (by omega) (by omega) (.s <| .s <| .s <| .s <| .s <| .z) .last fun v4 R5 ho6 => ?_
  have ho2 : Own 121 4 v4 (pre ++ [x]).length ((pre ++ [x]).flatMap Ql.enc) R5 := Own.snoc ho6 rfl rfl
  refine AS <| Bf sz_62 Aa Aa (i := 4) rfl (.here) ho2.one (.next <| .next <| .next <| .next <| .here) <| Ao <| A0 <| C3 (.one (.next <| .here) <| .one (.next <| .here) <| .one (.next <| .next <| .here) <| .lastb (.next <| .next <| .last)) ?_
  refine .inl ⟨rfl, _, rfl, hle1, ?_⟩
  exact ⟨_, _, rfl, ho2⟩
 obtain ⟨v4, R4, rfl, ho⟩ := hJ
 refine A0 <| Ab <| BJ (σ := ⟨_, _⟩) (by rfl) ho (.s <| .z) .last fun F7 hF8 hz9 => ?_
 have hsp := ho.sl (fun _ => rfl) hz9 (by omega)
 refine AD (Af 2) <| At <| Ap rfl Bd ?_
 exact hsp
theorem Qs {F : Heap} {g : FuncId} {cs : List Value} (hg : Body Tryz.prog g) {xs : List Ql} (hit : IterG Tryz.prog g cs F QlA xs) (hlx : xs.length ≤ 2000) : Ok Tryz.prog 113 [.func (.func g) #[] cs.toArray].toArray F fun u F' => Sl F' u 4 Ql.enc xs := by
 refine Ok.intro Tryz.func113 rfl Tryz.ntmps113 rfl fun w0 => AD (Af 1) <| Az (Af 1) fun ds => A5 rfl <| Bi bd_146 Aa AW (Ob hg hit hlx) fun v1 F2 hr3 hF4 => ?_
 have hq := hr3
 refine Aw (Af 1) <| At <| Ap rfl Bd ?_
 exact hq
theorem Lv {F : Heap} {vg : Value} {qs : List (Value × Gth)} {b : Qbk} (hb : QbkR F vg qs b) (hv : ValidQ b) : Ok Tryz.prog 76 [.agg #[.int .i64 b.signed, vg]].toArray F fun u F' => ∃ v, u = .tuple #[v, .int .i64 0] ∧ Sl F' v 4 Ql.enc (allQ b) := by
 have hmb := hv.many
 have hal := Ev hv b.gs.length (Nat.le_refl _)
 refine Ok.intro Tryz.func76 rfl Tryz.ntmps76 rfl fun w0 => Ac <| Am fun ds => A5 rfl <| Bg Aa rfl fun b1 hb1 nb1 => Aw (Af 2) <| AK (i := 0) rfl hb1 (.here) fun F2 hF3 hz1 => ?_
 replace hb := hb.mono hF3
 refine Ac <| Am fun ds => Ag rfl (AC (vs := [.int .i64 b.signed, vg]) CY Aa rfl rfl (Ba hz1)) <| AN rfl (Ay bd_112 Aa AW (Uq hb hv) (fun _ _ h => h)) <| Aj (Af 3) <| A5 rfl <| AO P4 rfl fun b4 hb4 nb4 => AS <| AP TG Aa Aa (i := 0) rfl rfl rfl rfl hb.bones (.here) <| Aw (Af 1) <| Ac <| AD (Af 2) <| Ad Aa (dF (fun h => h rfl)) <| Al <| Ab <| Ac <| Am fun ds => Ag rfl (AC (vs := [.int .i64 b.signed, vg]) Oe Aa rfl rfl (Bz 0 rfl)) <| A5 rfl <| Bi bd_114 Aa AW (Qd hb) fun v5 F6 hr7 hF8 => ?_
 replace hb := hb.mono hF8
 obtain ⟨dq, rfl, hzq⟩ := hr7
 refine A5 rfl <| Bi bd_113 Aa AW (Qs bd_147 (NE hb hv hzq) (show (allQ b).length ≤ 2000 by unfold allQ; omega)) fun v9 F10 hr11 hF12 => ?_
 replace hz1 := (Heap.le_trans hF8 hF12) _ _ hz1
 have hq := hr11
 refine Aw (Af 2) <| At <| Ap rfl Bd ?_
 exact ⟨_, rfl, hq⟩
theorem Uj {B : Base} {e : Env} {σ : St} {d : Option Nat} {ty : TypeId} {pos : String} {af : Array Edge} {gd : Option (Nat × Bool)} {x y : Operand} {u : TypeId} {a b : Ql} (hx : ev e x = .agg a.enc.toArray) (hy : ev e y = .agg b.enc.toArray) :
   OpR Tryz.prog B ⟨d, .binOp .eql 121 x y u, ty, pos, af, gd⟩ e σ (.bool (decide (a = b))) := by
 have h := Ui (P := Tryz.prog) (B := B) (σ := σ) (d := d) (u := u) (ty := ty) (pos := pos) (af := af) (gd := gd) Tryz.underlying121 (show Tryz.prog.stoodInHeld 121 = false by kernel_rfl) (show Tryz.prog.eqGuardType Tryz.prog.depth 121 = false by kernel_rfl) (.int (by decide) Tryz.underlying3 (AF) rfl rfl (.int (by decide) Tryz.underlying3 (AF) rfl rfl (.int (by decide) Tryz.underlying3 (AF) rfl rfl (.int (by decide) Tryz.underlying3 (AF) rfl rfl .nil)))) hx hy
 refine cast (congrArg _ (congrArg Value.bool ?_)) h
 rw [Bool.eq_iff_iff, decide_eq_true_iff]
 cases a; cases b
 simp [Ql.mk.injEq]
theorem ME {F : Heap} {v : Value} {xs : List Ql} (h : Sl F v 4 Ql.enc xs) (x : Ql) : Ok Tryz.prog 116 [v, .agg x.enc.toArray].toArray F fun r _ => r = .int .i64 (findI (fun y => decide (x = y)) xs) := by
 refine Ok.intro Tryz.func116 rfl Tryz.ntmps116 rfl fun w0 => ?_
 have hlen := h.plain.lt
 refine Ac <| Am fun ds => A5 rfl <| Bg Aa rfl fun b1 hb1 nb1 => Aw (Af 1) <| AK (i := 0) rfl hb1 (.here) fun F2 hF3 hz3 => ?_
 replace h := h.mono hF3
 refine Ac <| Az (Af 1) fun ds => Ag rfl (A4 Cq Aa h.plain) <| Aw (Af 1) <| Aq ?_
 refine AL [4, 5, 8, 9, 10, 11, 12, 13, 14, 15, 16, 17, 18] (fun m e σ => ∃ k : Nat, m + k = xs.length ∧ Fct e 8 (.int .i64 (k : Int)) ∧ (∀ j (hj : j < xs.length), j < k → decide (x = xs[j]) = false) ∧ σ = ⟨F2, []⟩) (xs.length) ?_ ?_
 · exact ⟨0, by omega, AX, (fun j hj h => absurd h (by omega)), rfl⟩
 rintro m e _ ⟨k, hm, hs8, hno, rfl⟩
 by_cases hlt : k < xs.length
 ·refine AD (Af 1) <| Ac <| Ai Aa (by first | rfl | exact dT (by omega)) ?_
  by_cases hpk : decide (x = xs[k]) = true
  ·refine Al <| Ab <| Ac <| Aq <| AD (Af 2) <| Ac <| Bs (.inl rfl) (fun _ _ h => h) (by kernel_rfl) (by kernel_rfl) fun ds => AT rfl (AC (vs := x.enc) DR Aa rfl rfl (Ba hz3)) <| AR (Af 2) <| AT rfl (A1 (k := k) Cq Aa h.plain Aa rfl hlt) <| AT rfl (AC (vs := (Ql.enc xs[k])) DR Aa rfl rfl (h.whole hlt)) <| AT rfl (Uj Aa Aa) <| B0 <| Ab <| Ai Aa hpk <| AD (Af 2) <| At ?_
   refine A7 (Ax (Ax (A7 (Ax ?_))))
   refine Ap rfl Bd ?_
   show _ = _
   rw [Co (p := fun y => decide (x = y)) hlt hpk hno]; rfl
  replace hpk : decide (x = xs[k]) = false := by simpa using hpk
  refine Al <| Ab <| Ac <| Aq <| AD (Af 2) <| Ac <| Bs (.inl rfl) (fun _ _ h => h) (by kernel_rfl) (by kernel_rfl) fun ds => AT rfl (AC (vs := x.enc) DR Aa rfl rfl (Ba hz3)) <| AR (Af 2) <| AT rfl (A1 (k := k) Cq Aa h.plain Aa rfl hlt) <| AT rfl (AC (vs := (Ql.enc xs[k])) DR Aa rfl rfl (h.whole hlt)) <| AT rfl (Uj Aa Aa) <| B0 <| Ab <| Ad Aa hpk <| Al <| A0 <| Ab <| Am fun ds => Ag rfl (AG Aa Aa rfl (by omega) (by omega)) <| Aj (Af 1) <| Ao ?_
  refine Ab ⟨_, m - 1, Off.eq (BR rfl <| BM rfl <| BX rfl <| A2), by omega, ?_⟩
  refine ⟨k + 1, by omega, AX, fun j hj hjk => ?_, rfl⟩
  rcases Nat.lt_succ_iff_lt_or_eq.1 hjk with hjk | rfl
  · exact hno j hj hjk
  exact hpk
 refine AD (Af 1) <| Ac <| Ad Aa (by first | rfl | exact dF (by omega)) <| AH ?_
 refine A8 <| A8 <| AB <| Ab <| AD (Af 1) <| At <| Ap rfl Bd ?_
 show _ = _
 rw [Cy (p := fun y => decide (x = y)) fun j hj => hno j hj (by omega)]; rfl
end
section
def matesTo (b : Qbk) (n : Nat) : List Int := (List.range n).map (mateZ b)
def matesL (b : Qbk) : List Int := matesTo b (allQ b).length
theorem HZ {b : Qbk} {n : Nat} : matesTo b (n + 1) = matesTo b n ++ [mateZ b n] := by unfold matesTo; rw [List.range_succ, List.map_append]; rfl
theorem Gg {b : Qbk} {n : Nat} : (matesTo b n).length = n := by simp [matesTo]
theorem Ce {b : Qbk} : (matesL b).length = (allQ b).length := Gg
theorem JF {b : Qbk} {n : Nat} (h : n < (matesL b).length) : (matesL b)[n] = mateZ b n := by simp [matesL, matesTo]
@[reducible] def copE (c : Cpc) (vg vi vl vm : Go.Value) : List Go.Value := [.int .i64 c.book.signed, vg, vi, vl, vm]
structure CopR (F : Heap) (T p : Nat) (vg : Go.Value) (qs : List (Go.Value × Gth)) (vi : Go.Value) (is : List (Go.Value × List Int)) (c : Cpc) (vl vm : Go.Value) : Prop where
 blk : F p = some (bx T (copE c vg vi vl vm))
 cse : CpcR F vg qs vi is c
 leaves : Sl F vl 4 Ql.enc (allQ c.book)
 mates : Ints F vm (matesL c.book)
theorem CopR.mono {F F' : Heap} {T p : Nat} {vg : Go.Value} {qs : List (Go.Value × Gth)} {vi : Go.Value} {is : List (Go.Value × List Int)} {c : Cpc} {vl vm : Go.Value} (h : CopR F T p vg qs vi is c vl vm) (hF : F.le F') : CopR F' T p vg qs vi is c vl vm := ⟨hF _ _ h.blk, h.cse.mono hF, h.leaves.mono hF, h.mates.mono hF⟩
theorem CpcR.cones {F : Heap} {vg : Go.Value} {qs : List (Go.Value × Gth)} {vi : Go.Value} {is : List (Go.Value × List Int)} {c : Cpc} (h : CpcR F vg qs vi is c) : ∀ u ∈ [Go.Value.int .i64 c.book.signed, vg, vi], u.oneCell' = true := fun u hu => by
 simp only [List.mem_cons, List.not_mem_nil, or_false] at hu
 rcases hu with rfl | rfl | rfl
 · rfl
 · exact h.book.gs.plain.one
 exact h.items.plain.one
theorem ItemOk.none {n : Int} {x : List Int} (h : ItemOk n x) : (x.any fun z => !(inB 0 (n - 1) z)) = false := by
 rw [List.any_eq_false]
 intro z hz
 obtain ⟨j, hj, rfl⟩ := List.mem_iff_getElem.1 hz
 have := h.range j hj
 rw [Cn.2 this]; simp
theorem UK {l : List (List Int)} (h : doubts l ≤ 3) (k : Nat) : doubts (l.take k) ≤ 3 := by
 unfold doubts at h ⊢
 have := (List.Sublist.filter (fun x : List Int => decide (1 < x.length)) (List.take_sublist k l)).length_le
 omega
@[reducible] def matV (z : Int) : Go.Value := .tuple #[.int .i64 (if 0 ≤ z then z else 0), .int .i64 (if 0 ≤ z then 0 else 4)]
end
section
set_option maxHeartbeats 1000000
set_option maxRecDepth 100000
open Go.RowKit
theorem VK : Body Tryz.prog 116 := AE (by kernel_rfl)
theorem bd_76 : Body Tryz.prog 76 := AE (by kernel_rfl)
theorem Pa : FieldT Tryz.prog 121 0 0 := AU (by kernel_rfl)
instance : FieldI Tryz.prog 121 0 0 := ⟨Pa⟩
theorem LC : FieldT Tryz.prog 121 1 1 := AU (by kernel_rfl)
instance : FieldI Tryz.prog 121 1 1 := ⟨LC⟩
theorem mate_ok {F : Heap} {vg : Value} {qs : List (Value × Gth)} {b : Qbk} (hb : QbkR F vg qs b) (hv : ValidQ b) {n : Nat} (hn : n < (allQ b).length) : Ok Tryz.prog 78 [.agg #[.int .i64 b.signed, vg], .int .i64 (n : Int)].toArray F fun r _ => r = matV (mateZ b n) := by
 have hL1 := hb.gs.plain.lt
 have hlen := hb.len
 have hmb := hv.many
 have hal := Ev hv b.gs.length (Nat.le_refl _)
 have haq : (allQ b).length ≤ 2000 := by unfold allQ; omega
 obtain ⟨i, k0, hib, hxg, hxn, hle, hl12⟩ := VX hv (List.getElem_mem hn)
 have hi : i < qs.length := by omega
 have hgi : qs[i].2 = b.g i := hb.at hi
 have hlv2 : qs[i].2.leaves = (b.g i).leaves := by rw [hgi]
 have hon : (opp b (allQ b)[n]).num = qs[i].2.leaves + 1 - (allQ b)[n].num := by unfold opp; rw [hgi, hxg, Int.toNat_natCast]
 have hnb : 0 ≤ (n : Int) ∧ (n : Int) ≤ ((allQ b).length : Int) - 1 := by omega
 refine Ok.intro Tryz.func78 rfl Tryz.ntmps78 rfl fun w0 => Ac <| Am fun ds => A5 rfl <| Bg Aa rfl fun b1 hb1 nb1 => Aw (Af 2) <| AK (i := 0) rfl hb1 (.here) fun F2 hF3 hz2 => ?_
 replace hb := hb.mono hF3
 refine Ac <| Am fun ds => Ag rfl (AC (vs := [.int .i64 b.signed, vg]) CY Aa rfl rfl (Ba hz2)) <| A5 rfl <| Bi bd_76 Aa AW (Lv hb hv) fun v4 F5 hr6 hF7 => ?_
 obtain ⟨vl, rfl, hsl9⟩ := hr6
 refine Aw (Af 5) <| Ac <| Aq <| AD (Af 3) <| Ad Aa (dF (fun h => h rfl)) <| Az (Af 1) fun ds => Ag rfl (A4 Cq Aa hsl9.plain) <| Ag rfl (B4 Aa Aa rfl (by omega) (by omega)) <| Aj (Af 1) <| A5 rfl <| AM A9 B2 rfl (.cons Aa .nil) rfl rfl (by decide) (by simp [Value.oneCell']) fun b8 hb8 nb8 => AJ (i := 0) rfl hb8 .here fun F9 hF10 hz11 => ?_
 have hU35 := Heap.le_trans hF7 hF10
 replace hb := hb.mono hU35
 replace hsl9 := hsl9.mono hF10
 replace hz2 := hU35 _ _ hz2
 have hsl12 := Bh hz11
 refine AN rfl (Ay D8 Aa AW (CR _ _ hsl12) (fun _ _ h => h)) <| Aw (Af 1) <| Ad Aa (by simp [Cn.2 hnb]) <| Al <| A0 <| Ab <| Ac ?_
 have hxl := l_at hn
 have hop : findI (fun y => decide (opp b (allQ b)[n] = y)) (allQ b) = oppAt b n := by unfold oppAt; rw [hxl]
 refine Am fun ds => Aj (Af 2) <| Ag rfl (A1 (k := n) Cq Aa hsl9.plain Aa rfl hn) <| Ag rfl (AC (vs := (Ql.enc (allQ b)[n])) DR Aa rfl rfl (hsl9.whole hn)) <| A5 rfl <| AO DB rfl fun b13 hb13 nb13 => AS <| AP KV Aa Aa (i := 0) rfl rfl rfl rfl Ql.enc_one (.here) <| Ao <| Ab <| Ac <| BO (.inl rfl) (fun _ _ h => h) (kK <| .refl _) [12] (by kernel_rfl) fun ds => Au 0 rfl (kK <| .refl _) (AV Ri Aa) <| Au 1 rfl (kK <| .refl _) (Ak DG Aa (AA hz2 rfl)) <| Au 2 rfl (kK <| .refl _) (AV Pa Aa) <| Au 3 rfl (kK <| .refl _) (Ak AF Aa (Cell.own 0 rfl rfl)) <| Au 4 rfl (kK <| .refl _) (A1 (k := i) Dy Aa hb.gs.plain Aa hxg (by omega)) <| Au 5 rfl (kK <| .refl _) (CE Pb Aa) ?_
 refine Au 6 rfl (kK <| .refl _) (Ak AF Aa (hb.gs.cell (by omega) rfl)) <| Au 7 rfl (kK <| .refl _) (AG Aa Aa rfl (by omega) (by omega)) <| Au 8 rfl (kK <| .refl _) (AV LC Aa) <| Au 9 rfl (kK <| .refl _) (Ak AF Aa (Cell.own 0 rfl rfl)) <| Au 10 rfl (kK <| .refl _) (B4 Aa Aa hon.symm (by omega) (by omega)) <| Au 11 rfl (kK <| .refl _) (AV LC Aa) ?_
 refine Eg 12 rfl (by kernel_rfl) (Bf DA Aa Aa (i := 0) rfl (.next <| .here) rfl (.here) ⟨(fun h => nomatch h), ?_⟩)
 refine BC (by kernel_rfl) ?_ _
 refine Ab <| Ac <| Ac <| AK (i := 0) rfl hb13 (.here) fun F14 hF15 hz8 => ?_
 replace hsl9 := hsl9.mono hF15
 by_cases h1 : (allQ b)[n].kind = 0
 ·refine Am fun ds => Aj (Af 1) <| Ag rfl (AC (vs := (opp b (allQ b)[n]).enc) DR Aa rfl rfl (Ba hz8)) <| AN rfl (Ay VK Aa AW (ME hsl9 (opp b (allQ b)[n])) (fun _ _ h => h.trans (congrArg (Value.int .i64) hop))) <| Aw (Af 1) <| Az (Af 1) fun ds => Ag rfl (Ak AF Aa (AA hz8 rfl)) <| Aj (Af 2) <| Ae rfl rfl Aa (dT h1) <| Aj (Af 1) <| Ae rfl rfl Aa (dT h1) <| Aj (Af 1) <| Ag rfl (Ar Aa (dT h1) Aa) <| Aj (Af 1) ?_
  by_cases h2 : 0 ≤ oppAt b n
  ·refine Ae rfl rfl Aa (dT h2) <| Aj (Af 1) <| Ae rfl rfl Aa (dT h2) <| Aj (Af 1) <| Ae rfl rfl Aa (dT h2) <| Aj (Af 1) <| Ag rfl (Ar Aa (dT h2) Aa) <| Ao <| Ab ?_
   by_cases h3 : oppAt b n ≠ n
   ·refine Ai Aa (dT h3) <| AD (Af 3) <| At <| Ax <| Ap rfl Bd ?_
    show Value.tuple _ = matV _
    unfold mateZ
    rw [if_pos ⟨by rw [← hxl]; exact h1, h2, h3⟩]
    unfold matV
    rw [if_pos h2, if_pos h2]
   refine Ad Aa (dF h3) <| Al <| Ab <| AD (Af 2) <| At <| Ap rfl Bd ?_
   show Value.tuple _ = matV _
   unfold mateZ
   rw [if_neg (fun h => h3 h.2.2)]
   rfl
  refine Ah rfl rfl Aa (.inl (congrArg Value.bool (dF h2))) rfl <| Ah rfl rfl Aa (.inl (congrArg Value.bool (dF h2))) rfl <| Ah rfl rfl Aa (.inl (congrArg Value.bool (dF h2))) rfl <| Ag rfl (As Aa (dF h2) Aa) <| Ao <| Ab <| Ad Aa rfl <| Al <| Ab <| AD (Af 2) <| At <| Ap rfl Bd ?_
  show Value.tuple _ = matV _
  unfold mateZ
  rw [if_neg (fun h => h2 h.2.1)]
  rfl
 refine Am fun ds => Aj (Af 1) <| Ag rfl (AC (vs := (opp b (allQ b)[n]).enc) DR Aa rfl rfl (Ba hz8)) <| AN rfl (Ay VK Aa AW (ME hsl9 (opp b (allQ b)[n])) (fun _ _ h => h.trans (congrArg (Value.int .i64) hop))) <| Aw (Af 1) <| Az (Af 1) fun ds => Ag rfl (Ak AF Aa (AA hz8 rfl)) <| Aj (Af 2) <| Ah rfl rfl Aa (.inl (congrArg Value.bool (dF h1))) rfl <| Ah rfl rfl Aa (.inl (congrArg Value.bool (dF h1))) rfl <| Ag rfl (As Aa (dF h1) Aa) <| Aj (Af 1) <| Ah rfl rfl Aa (.inl (congrArg Value.bool rfl)) rfl <| Ah rfl rfl Aa (.inl (congrArg Value.bool rfl)) rfl <| Ah rfl rfl Aa (.inl (congrArg Value.bool rfl)) rfl <| Ag rfl (As Aa rfl C4) <| Ao <| Ab <| Ad Aa rfl <| Al <| Ab <| AD (Af 2) <| At <| Ap rfl Bd ?_
 show Value.tuple _ = matV _
 unfold mateZ
 rw [if_neg (fun h => h1 (by rw [hxl]; exact h.1))]
 rfl
end
section
set_option maxHeartbeats 2000000
set_option maxRecDepth 100000
open Go.RowKit
theorem Ts : ZeroT Tryz.prog 135 (.agg #[.int .i64 0, .slice none 0 0, .slice none 0 0, .slice none 0 0, .slice none 0 0]) := Br (by kernel_rfl)
theorem HH : ZeroT Tryz.prog 66 (.agg #[.slice none 0 0]) := Br (by kernel_rfl)
theorem CP : AggT Tryz.prog 27 3 := Cu (by kernel_rfl)
instance : AggI Tryz.prog 27 3 := ⟨CP⟩
theorem bd_77 : Body Tryz.prog 77 := AE (by kernel_rfl)
theorem bd_78 : Body Tryz.prog 78 := AE (by kernel_rfl)
theorem bt_135 : BuildT Tryz.prog 135 [.int .i64 0, .slice none 0 0, .slice none 0 0, .slice none 0 0, .slice none 0 0] [(0, 3), (3, 1), (4, 1)] := BD Ts (by kernel_rfl) (by decide)
instance : FieldI Tryz.prog 135 2 4 := ⟨AU (by kernel_rfl)⟩
theorem Oo : SizeT Tryz.prog 66 1 := Bx (by kernel_rfl)
theorem Fh {F : Heap} {vg vi : Value} {qs : List (Value × Gth)} {is : List (Value × List Int)} {c : Cpc} (hc : CpcR F vg qs vi is c) (hv : ValidC c) : Ok Tryz.prog 42 [.agg #[.int .i64 c.book.signed, vg, vi]].toArray F fun u F' => ∃ p vl vm, u = .tuple #[.pointer (some ⟨p, 0, none⟩), .int .i64 0, .int .i64 0, .int .i64 0] ∧ CopR F' 135 p vg qs vi is c vl vm := by
 have hL1 := hc.items.plain.lt
 have hlen := hc.len
 have hvl := hv.leaves
 have hvm := hv.many
 have hvq := hv.book
 refine Ok.intro Tryz.func42 rfl Tryz.ntmps42 rfl fun w0 => Ac <| Am fun ds => A5 rfl <| Bg Aa rfl fun b1 hb1 nb1 => Aw (Af 4) <| AK (i := 0) rfl hb1 (.here) fun F2 hF3 hz1 => ?_
 replace hc := hc.mono hF3
 refine Ac <| Az (Af 1) fun ds => Ag rfl (AC (vs := [.int .i64 c.book.signed, vg]) CY Aa rfl rfl (B8 hz1 (n := 2) rfl)) <| AN rfl (Ay bd_75 Aa AW (LS hc.book hvq) (fun _ _ h => h)) <| Aw (Af 5) <| AD (Af 2) <| Ad Aa (dF (fun h => h rfl)) <| Al <| Ab <| Az (Af 1) fun ds => Ag rfl (AC (vs := [.int .i64 c.book.signed, vg]) CY Aa rfl rfl (B8 hz1 (n := 2) rfl)) <| A5 rfl <| Bi bd_76 Aa AW (Lv hc.book hvq) fun v4 F5 hr6 hF7 => ?_
 replace hc := hc.mono hF7
 replace hz1 := hF7 _ _ hz1
 obtain ⟨v9, rfl, hsl9⟩ := hr6
 refine Aw (Af 5) <| Ac <| Az (Af 1) fun ds => Ag rfl (A4 Cq Aa hsl9.plain) <| Aw (Af 1) <| Ad Aa (dF (by omega)) <| Al <| Ab <| Ac <| Az (Af 1) fun ds => Ag rfl (Ak C7 Aa (AA hz1 rfl)) <| Ag rfl (A4 Cj Aa hc.items.plain) <| Aw (Af 1) <| Ad Aa (dF (by omega)) <| Al <| Ab <| Ac <| Az (Af 1) fun ds => Ag rfl (Ak C7 Aa (AA hz1 rfl)) <| Ag rfl (A4 Cj Aa hc.items.plain) <| Aw (Af 1) <| Aq ?_
 refine AL [2, 3, 4, 5, 8, 9, 10, 11, 44, 45, 46, 47, 48, 49, 50, 51, 52, 53, 54, 55, 56, 57, 58, 59, 60, 61, 62, 63, 64, 65, 66, 67, 68, 69, 70, 71, 72, 73, 74, 75, 76, 77, 78, 79, 80, 81, 82, 83, 84, 85] (fun m e σ => ∃ (G : Heap) (i : Nat), F5.le G ∧ m + i = is.length ∧ Fct e 44 (.int .i64 (i : Int)) ∧ σ = ⟨G, []⟩) (is.length) ?_ ?_
 · exact ⟨_, 0, Heap.le_refl _, by omega, AX, rfl⟩
 rintro m1 e1 _ ⟨G, i, hG, hm1, hs44, rfl⟩; replace hc := hc.mono hG; replace hsl9 := hsl9.mono hG; replace hz1 := hG _ _ hz1
 by_cases hi : i < is.length
 ·refine AD (Af 1) <| Ac <| Ai Aa (by first | rfl | exact dT (by omega)) ?_
  have hio := hv.item _ (hc.mem (List.getElem_mem hi))
  have hcl := hc.could _ (List.getElem_mem hi)
  have hL4 := hcl.plain.lt
  have hi4 := hio.many
  refine Al <| Ab <| Ac <| Aq <| Az (Af 1) fun ds => Ag rfl (A1 (k := i) Cj Aa hc.items.plain Aa rfl hi) <| Ag rfl (AC (vs := (itE is[i])) HE Aa rfl rfl (hc.items.whole hi)) <| A5 rfl <| AO HH rfl fun b9 hb9 nb9 => Aj (Af 1) <| AS <| AP Oo Aa Aa (i := 0) rfl rfl rfl rfl (hc.ones _ (List.getElem_mem hi)) (.here) <| Ao <| Ab <| Ac <| Aq <| Ac <| AK (i := 0) rfl hb9 (.here) fun F10 hF11 hz9 => ?_
  replace hsl9 := hsl9.mono hF11
  replace hG := Heap.le_trans hG hF11
  replace hcl := hcl.mono hF11
  refine Am fun ds => Aj (Af 1) <| Ag rfl (Ak Bq Aa (AA hz9 rfl)) <| Ag rfl (A4 A9 Aa hcl.plain) <| Aw (Af 2) <| Ad Aa (dF (by omega)) <| Az (Af 1) fun ds => Ag rfl (A4 Cq Aa hsl9.plain) <| Ag rfl (B4 Aa Aa rfl (by omega) (by omega)) <| Aj (Af 1) <| Ag rfl (Ak Bq Aa (AA hz9 rfl)) <| AN rfl (Ay bd_77 Aa AW (outC_ok 0 (c.n - 1) hcl) (fun _ _ h => h)) <| Aw (Af 1) <| Ad Aa hio.none <| Al <| A0 <| Ab <| Az (Af 1) fun ds => Ag rfl (Ak Bq Aa (AA hz9 rfl)) <| Ag rfl (A4 A9 Aa hcl.plain) <| Aw (Af 1) <| Aq ?_
  refine AL [2, 3, 4, 5, 10, 11, 66, 67, 68, 69, 70, 71, 72, 73, 74, 75, 76, 77, 78, 79, 80, 81, 82, 83, 84] (fun m e σ => ∃ k : Nat, m + k = is[i].2.length ∧ Fct e 66 (.int .i64 (k : Int)) ∧ σ = ⟨F10, []⟩) (is[i].2.length) ?_ ?_
  · exact ⟨0, by omega, AX, rfl⟩
  rintro m2 e2 _ ⟨k, hm2, ht66, rfl⟩
  by_cases hk : k < is[i].2.length
  ·refine AD (Af 1) <| Ac <| Ai Aa (by first | rfl | exact dT (by omega)) ?_
   by_cases hk0 : k = 0
   ·refine Al <| Ab <| Ac <| Aq <| Az (Af 1) fun ds => Ag rfl (A1 (k := k) A9 Aa hcl.plain Aa rfl hk) <| Ag rfl (Ak AF Aa (hcl.cell1 hk rfl)) <| Aw (Af 2) <| Az (Af 3) fun ds => Ah rfl rfl Aa (.inl (congrArg Value.bool (dF (by omega)))) rfl <| Ah rfl rfl Aa (.inl (congrArg Value.bool (dF (by omega)))) rfl <| Ah rfl rfl Aa (.inl (congrArg Value.bool (dF (by omega)))) rfl <| Ah rfl rfl Aa (.inl (congrArg Value.bool (dF (by omega)))) rfl <| Ah rfl rfl Aa (.inl (congrArg Value.bool (dF (by omega)))) rfl <| Ah rfl rfl Aa (.inl (congrArg Value.bool (dF (by omega)))) rfl <| Ah rfl rfl Aa (.inl (congrArg Value.bool (dF (by omega)))) rfl <| Ah rfl rfl Aa (.inl (congrArg Value.bool (dF (by omega)))) rfl <| Ag rfl (As Aa (dF (by omega)) Aa) <| Ao <| Ab <| Ad Aa rfl <| Al <| A0 <| Ab <| Am fun ds => Ag rfl (AG Aa Aa rfl (by omega) (by omega)) <| Aj (Af 1) <| Ao ?_
    refine Ab ⟨_, m2 - 1, Off.eq (B3 rfl <| Ca rfl <| A2), by omega, ?_⟩
    exact ⟨k + 1, by omega, AX, rfl⟩
   have hk1 : k - 1 < is[i].2.length := by omega
   have hor := hio.order k hk (by omega)
   refine Al <| Ab <| Ac <| Aq <| Az (Af 1) fun ds => Ag rfl (A1 (k := k) A9 Aa hcl.plain Aa rfl hk) <| Ag rfl (Ak AF Aa (hcl.cell1 hk rfl)) <| Aw (Af 2) <| Az (Af 3) fun ds => Ae rfl rfl Aa (dT (by omega)) <| Aj (Af 1) <| Ae rfl rfl Aa (dT (by omega)) <| Aj (Af 1) <| Ae rfl rfl Aa (dT (by omega)) <| Ag rfl (Ak Bq Aa (AA hz9 rfl)) <| Ae rfl rfl Aa (dT (by omega)) <| Aj (Af 1) <| Ae rfl rfl Aa (dT (by omega)) <| Ag rfl (B4 Aa Aa rfl (by omega) (by omega)) <| Ae rfl rfl Aa (dT (by omega)) <| Ag rfl (A1 (k := k - 1) A9 Aa hcl.plain Aa (by omega) hk1) <| Ae rfl rfl Aa (dT (by omega)) <| Ag rfl (Ak AF Aa (hcl.cell1 hk1 rfl)) <| Ae rfl rfl Aa (dT (by omega)) <| Aj (Af 1) <| Ag rfl (Ar Aa (dT (by omega)) Aa) <| Ao <| Ab <| Ad Aa (dF (by omega)) <| Al <| A0 <| Ab <| Am fun ds => Ag rfl (AG Aa Aa rfl (by omega) (by omega)) <| Aj (Af 1) <| Ao ?_
   refine Ab ⟨_, m2 - 1, Off.eq (B3 rfl <| Ca rfl <| A2), by omega, ?_⟩
   exact ⟨k + 1, by omega, AX, rfl⟩
  refine AD (Af 1) <| Ac <| Ad Aa (by first | rfl | exact dF (by omega)) ?_
  obtain rfl : k = is[i].2.length := by omega
  refine AH ?_
  refine A8 <| A8 <| AB <| A0 <| Ab <| Am fun ds => Ag rfl (AG Aa Aa rfl (by omega) (by omega)) <| Aj (Af 1) <| Ao ?_
  refine Ab ⟨_, m1 - 1, Off.eq (BM rfl <| BX rfl <| Cg rfl <| B3 rfl <| Ca rfl <| BM rfl <| A2), by omega, ?_⟩
  exact ⟨_, i + 1, hG, by omega, AX, rfl⟩
 refine AD (Af 1) <| Ac <| Ad Aa (by first | rfl | exact dF (by omega)) <| AH ?_
 refine A8 <| A8 <| AB <| Ab <| AD (Af 1) <| Ac <| Az (Af 1) fun ds => Ag rfl (Ak C7 Aa (AA hz1 rfl)) <| Ag rfl (A4 Cj Aa hc.items.plain) <| Aw (Af 1) <| Aq ?_
 refine AL [2, 3, 4, 5, 12, 13, 14, 89, 90, 91, 92, 93, 94, 95, 96, 97, 98, 99, 100, 101, 102, 103] (fun m e σ => ∃ (G2 : Heap) (i : Nat), G.le G2 ∧ m + i = is.length ∧ Fct e 89 (.int .i64 (i : Int)) ∧ Fct e 12 (.int .i64 (doubts ((is.map (·.2)).take i) : Int)) ∧ σ = ⟨G2, []⟩) (is.length) ?_ ?_
 · exact ⟨_, 0, Heap.le_refl _, by omega, AX, AX, rfl⟩
 rintro m1 e1 _ ⟨G2, i, hG, hm1, hs89, hs12, rfl⟩; replace hc := hc.mono hG; replace hsl9 := hsl9.mono hG; replace hz1 := hG _ _ hz1
 by_cases hi : i < is.length
 ·refine AD (Af 1) <| Ac <| Ai Aa (by first | rfl | exact dT (by omega)) ?_
  have hd1 := Kx (l := is.map (·.2)) (k := i) (by rw [List.length_map]; exact hi)
  rw [List.getElem_map] at hd1
  have hfw := UK (hc.eqs ▸ hv.few) (i + 1)
  have hcl := hc.could _ (List.getElem_mem hi)
  have hL4 := hcl.plain.lt
  refine Al <| Ab <| Ac <| Aq <| Az (Af 1) fun ds => Ag rfl (A1 (k := i) Cj Aa hc.items.plain Aa rfl hi) <| Ag rfl (AC (vs := (itE is[i])) HE Aa rfl rfl (hc.items.whole hi)) <| A5 rfl <| AO HH rfl fun b14 hb14 nb14 => Aj (Af 1) <| AS <| AP Oo Aa Aa (i := 0) rfl rfl rfl rfl (hc.ones _ (List.getElem_mem hi)) (.here) <| Ao <| Ab <| Ac <| Ac <| AK (i := 0) rfl hb14 (.here) fun F15 hF16 hz14 => ?_
  replace hG := Heap.le_trans hG hF16
  replace hcl := hcl.mono hF16
  by_cases h1 : 1 < is[i].2.length
  ·rw [if_pos h1] at hd1
   refine Am fun ds => Aj (Af 1) <| Ag rfl (Ak Bq Aa (AA hz14 rfl)) <| Ag rfl (A4 A9 Aa hcl.plain) <| Aw (Af 1) <| Ai Aa (dT (by omega)) <| Am fun ds => Aj (Af 1) <| Ag rfl (AG Aa Aa rfl (by omega) (by omega)) <| Aw (Af 1) <| AD (Af 2) <| Ad Aa (dF (by omega)) <| Al <| A0 <| Ab <| Am fun ds => Ag rfl (AG Aa Aa rfl (by omega) (by omega)) <| Aj (Af 1) <| Ao ?_
   refine Ab ⟨_, m1 - 1, Off.eq (B3 rfl <| BX rfl <| A2), by omega, ?_⟩
   exact ⟨_, i + 1, hG, by omega, AX, Cr (congrArg (Value.int .i64) (by rw [hd1]; push_cast; rfl)), rfl⟩
  rw [if_neg h1] at hd1
  refine Am fun ds => Aj (Af 1) <| Ag rfl (Ak Bq Aa (AA hz14 rfl)) <| Ag rfl (A4 A9 Aa hcl.plain) <| Aw (Af 1) <| Ad Aa (dF (by omega)) <| Al <| Ab <| AD (Af 2) <| Ad Aa (dF (by omega)) <| Al <| A0 <| Ab <| Am fun ds => Ag rfl (AG Aa Aa rfl (by omega) (by omega)) <| Aj (Af 1) <| Ao ?_
  refine Ab ⟨_, m1 - 1, Off.eq (BR rfl <| Ca rfl <| BM rfl <| A2), by omega, ?_⟩
  exact ⟨_, i + 1, hG, by omega, AX, Cr (congrArg (Value.int .i64) (by rw [hd1, Nat.add_zero])), rfl⟩
 refine AD (Af 1) <| Ac <| Ad Aa (by first | rfl | exact dF (by omega)) <| AH ?_
 refine A8 <| A8 <| AB <| Ab <| Ac <| Am fun ds => Ag rfl (AC (vs := [.int .i64 c.book.signed, vg, vi]) CP Aa rfl rfl (Ba hz1)) <| Aj (Af 1) <| Ag rfl (Bm bt_135 (.cons Aa rfl (.cons Aa (B9 hsl9.plain.one) .nil)) (.cons rfl rfl (Nat.le_of_ble_eq_true rfl) (.cons (.here) (.cons (.next <| .here) (.cons (.next <| .next <| .here) .nil))) (.cons rfl rfl (Nat.le_of_ble_eq_true rfl) (.cons (.next <| .next <| .next <| .here) .nil) .nil))) <| A5 rfl <| Bg Aa rfl fun b17 hb17 nb17 => Aw (Af 1) <| Ac <| Az (Af 1) fun ds => Ag rfl (A4 Cq Aa hsl9.plain) <| Aw (Af 1) <| Aq ?_
 refine AL [15, 16, 17, 110, 111, 112, 113, 114, 115, 116, 117, 118, 119, 120, 121, 122, 123, 124, 125, 126, 127, 128, 129, 130, 131, 132] (fun m e σ => ∃ (G3 : Heap) (n : Nat) (v : Value) (R : List (Nat × Obj)), G2.le G3 ∧ m + n = (allQ c.book).length ∧ Fct e 110 (.int .i64 (n : Int)) ∧ Own 3 1 v (matesTo c.book n).length ((matesTo c.book n).flatMap intE) R ∧ σ = ⟨G3, (b17, bx 135 (copE c vg vi v9 v)) :: R⟩) ((allQ c.book).length) ?_ ?_
 · exact ⟨_, 0, _, [], Heap.le_refl _, by omega, AX, BZ, rfl⟩
 rintro m1 e1 _ ⟨G3, n, v8, R9, hG, hm1, hs110, ho9, rfl⟩; replace hc := hc.mono hG; replace hsl9 := hsl9.mono hG; replace hz1 := hG _ _ hz1
 by_cases hn : n < (allQ c.book).length
 ·refine AD (Af 1) <| Ac <| Ai Aa (by first | rfl | exact dT (by omega)) ?_
  have hml := Gg (b := c.book) (n := n)
  refine Al <| Ab <| Ac <| Aq <| AD (Af 2) <| Az (Af 1) fun ds => Ag rfl (AC (vs := [.int .i64 c.book.signed, vg]) CY Aa rfl rfl (B8 hz1 (n := 2) rfl)) <| Aj (Af 1) <| AN rfl (Ay bd_78 Aa AW (mate_ok hc.book hvq hn) (fun _ _ h => h)) <| Aw (Af 5) <| Ac <| Ac ?_
  by_cases hmz : 0 ≤ mateZ c.book n
  ·have hme : mateZ c.book n = mateZ c.book n := rfl
   refine Am fun ds => Aw (Af 2) <| Ad Aa (by rw [if_pos hmz]; first | done | rfl) <| Al <| Ab <| Am fun ds => Aj (Af 2) <| Ag rfl (Bb Aa) <| Aj (Af 3) <| A5 rfl <| AM A9 B2 rfl (.cons Aa .nil) rfl rfl (by decide) (by simp [Value.oneCell']) fun b19 hb19 nb19 => A5 rfl <| Bp A9 Di Aa ho9 Aa (B1 (s := 1) 0 rfl rfl (by simp [Value.oneCell'])) (by omega) (by omega) (.s <| .s <| .z) .last fun v20 R21 ho22 => ?_
   have ho129 : Own 3 1 v20 (matesTo c.book (n + 1)).length ((matesTo c.book (n + 1)).flatMap intE) R21 := by rw [HZ]; exact Own.snoc ho22 rfl (by simp [intE, hmz])
   refine Ag rfl (Bb Aa) <| Aj (Af 1) <| AS <| Bf Dg Aa Aa (i := 1) rfl (.next <| .next <| .next <| .next <| .here) ho129.one (.next <| .here) <| Ao <| A0 <| Ab <| Bn (fun _ _ h => h.drop (kD <| kK <| .refl _)) <| Am fun ds => Ag rfl (AG Aa Aa rfl (by omega) (by omega)) <| Aj (Af 1) <| Ao ?_
   refine Ab ⟨_, m1 - 1, Off.eq (B3 rfl <| BR rfl <| BM rfl <| A2), by omega, ?_⟩
   exact ⟨_, n + 1, _, _, hG, by omega, AX, ho129, rfl⟩
  have hm1 : mateZ c.book n = -1 := by have := EM (b := c.book) (n := n); omega
  refine Am fun ds => Aw (Af 2) <| Ai Aa (by rw [if_neg hmz]; first | done | rfl) <| Am fun ds => Aw (Af 1) <| Am fun ds => Aj (Af 2) <| Ag rfl (Bb Aa) <| Aj (Af 3) <| A5 rfl <| AM A9 B2 rfl (.cons Aa .nil) rfl rfl (by decide) (by simp [Value.oneCell']) fun b23 hb23 nb23 => A5 rfl <| Bp A9 Di Aa ho9 Aa (B1 (s := 1) 0 rfl rfl (by simp [Value.oneCell'])) (by omega) (by omega) (.s <| .s <| .z) .last fun v24 R25 ho26 => ?_
  have ho129 : Own 3 1 v24 (matesTo c.book (n + 1)).length ((matesTo c.book (n + 1)).flatMap intE) R25 := by rw [HZ]; exact Own.snoc ho26 rfl (by rw [hm1]; first | done | rfl)
  refine Ag rfl (Bb Aa) <| Aj (Af 1) <| AS <| Bf Dg Aa Aa (i := 1) rfl (.next <| .next <| .next <| .next <| .here) ho129.one (.next <| .here) <| Ao <| A0 <| Ab <| Bn (fun _ _ h => h.drop (kD <| kK <| .refl _)) <| Am fun ds => Ag rfl (AG Aa Aa rfl (by omega) (by omega)) <| Aj (Af 1) <| Ao ?_
  refine Ab ⟨_, m1 - 1, Off.eq (B3 rfl <| BR rfl <| BM rfl <| BX rfl <| A2), by omega, ?_⟩
  exact ⟨_, n + 1, _, _, hG, by omega, AX, ho129, rfl⟩
 refine AD (Af 1) <| Ac <| Ad Aa (by first | rfl | exact dF (by omega)) ?_
 obtain rfl : n = (allQ c.book).length := by omega
 have hml := Ce (b := c.book)
 refine BJ (σ := ⟨_, _⟩) (by rfl) ho9 (.s <| .z) .last fun F27 hF28 hz29 => ?_
 have hre := ho9.sl (fun _ => rfl) hz29 (by rw [Gg]; omega)
 refine AK (i := 0) rfl hb17 (.here) fun F30 hF31 hz107 => ?_
 have hU148 := Heap.le_trans hF28 hF31
 replace hc := hc.mono hU148
 replace hsl9 := hsl9.mono hU148
 replace hre := hre.mono hF31
 refine AH ?_
 refine A8 <| A8 <| AB <| Ab <| AD (Af 5) <| At <| Ap rfl Bd ?_
 exact ⟨_, _, _, rfl, hz107, hc, hsl9, hre⟩
end
end Go.Proofs.YtkjfmibiinfhfacGreat
