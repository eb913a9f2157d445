/-
  SaleFewest returns true of any sale, catalogue, ring by bits, what is told of it and entries by bits, and leaves what it is handed as it was. No conditions.
-/
import Derived.Test.YtaikojfonleccaaPaf
namespace Go.Proofs.Ytaikojfonleccaa
open Go.RowKit
theorem bd_39 : Body Try.prog 39 := Bt (by kernel_rfl)
theorem bd_91 : Body Try.prog 91 := Bt (by kernel_rfl)
theorem el_60 : ElemT Try.prog 60 4 32 (.agg #[.int .i64 0, .bool false, .int .i64 0, .int .i64 0]) := elemT_of (by kernel_rfl) rfl (by decide)
theorem fd_82_0 : FieldT Try.prog 82 0 0 := B8 (by kernel_rfl)
theorem fd_82_1 : FieldT Try.prog 82 1 1 := B8 (by kernel_rfl)
theorem fd_82_2 : FieldT Try.prog 82 2 2 := B8 (by kernel_rfl)
theorem one_5 : OneT Try.prog 5 := Ds (by kernel_rfl)
theorem one_80 : OneT Try.prog 80 := Ds (by kernel_rfl)
theorem one_91 : OneT Try.prog 91 := Ds (by kernel_rfl)
theorem sl_80 : SliceT Try.prog 80 91 1 := Et (by kernel_rfl)
theorem offN_lt {off : List Nat} (hob : ∀ x ∈ off, x < 65536) {n : Nat} : offN off n < 65536 := by
 unfold offN
 cases h : off[n % off.length]? with
 | none => decide
 | some x => exact hob x (List.mem_of_getElem? h)
set_option maxRecDepth 100000 in
theorem off_ok {F : Heap} {vo : Value} {off : List Nat} (ho_ : Sl F vo 1 u16E off) (hob : ∀ x ∈ off, x < 65536) {n : Nat} {z : Int} (hz : z = (n : Int)) : Ok Try.prog 91 [vo, .int .i64 z].toArray F fun u _ => u = .int .i64 (offN off n : Int) := by
 subst hz
 refine Ok.intro Try.func91 rfl Try.ntmps91 rfl fun w0 => ?_
 have hL := ho_.plain.lt
 by_cases h0 : off.length = 0
 ·
  refine Ag <| Ai fun ds => Aa rfl (Ae Ac) ?_
  refine Ah <| Ad <| Ag <| Ag <| Ai fun ds => Aa rfl (Af (Al rfl <| Ak rfl)) ?_
  refine Aa rfl (Bg sl_80 (Ab) ho_.plain) ?_
  refine Aa rfl (B1 (Ab) Ac) ?_
  refine Ah <| Ad <| Ar (Ab) (by first | rfl | exact decide_eq_true (by omega)) ?_
  refine Ag <| Ai fun ds => Aa rfl (Ae Ac) ?_
  refine Ah <| Ad <| A9 <| A6 ?_
  refine Ay rfl (.tmp (Ab) .nil) ?_
  show _ = _
  have : off = [] := List.eq_nil_of_length_eq_zero h0
  subst this; rfl
 ·
  refine Ag <| Ai fun ds => Aa rfl (Ae Ac) ?_
  refine Ah <| Ad <| Ag <| Ag <| Ai fun ds => Aa rfl (Af (Al rfl <| Ak rfl)) ?_
  refine Aa rfl (Bg sl_80 (Ab) ho_.plain) ?_
  refine Aa rfl (B1 (Ab) Ac) ?_
  refine Ah <| Ad <| Am (Ab) (by first | rfl | exact decide_eq_false (by omega)) ?_
  have hlt : n % off.length < off.length := Nat.mod_lt _ (by omega)
  have hb := hob _ (List.getElem_mem hlt)
  refine Aw <| Ad <| Ag <| Ai fun ds => Aa rfl (Af (Az rfl <| Ak rfl)) ?_
  refine Aa rfl (Af (Az rfl <| Al rfl <| Ak rfl)) ?_
  refine Aa rfl (Af (Az rfl <| Ao rfl <| Ak rfl)) ?_
  refine Aa rfl (Bg sl_80 (Ab) ho_.plain) ?_
  refine Aa rfl (E8 (Ao rfl <| Ab) (Ab) (Int.natCast_nonneg _) (by omega)) ?_
  refine Aa rfl (Bj (k := n % off.length) sl_80 (Az rfl <| Ab) ho_.plain (Ab) (by omega) hlt) ?_
  refine Aa rfl (Aq one_91 (Ab) (ho_.cell1 hlt rfl)) ?_
  refine Aa rfl (q_convert ⟨_, Try.underlying91⟩ Try.underlying3 (Ab) (IntWalk.i64_in _ ⟨by omega, by omega⟩)) ?_
  refine Aa rfl (Ae (Ab)) ?_
  refine Ah <| Ad <| A9 <| Ay rfl (.tmp (Ab) .nil) ?_
  show _ = _
  rw [show offN off n = off[n % off.length] by unfold offN; simp [hlt]]; rfl
set_option maxRecDepth 100000 in
theorem without_ok {F : Heap} {ve vo : Value} {l : List Ent} {o : List Nat} (he : Sl F ve 4 Ent.enc l) (hn : Nats F vo o) (hl6 : l.length ≤ 6) : Ok Try.prog 47 [ve, vo].toArray F fun u F' => Sl F' u 4 Ent.enc (lackL l o) := by
 refine Ok.intro Try.func47 rfl Try.ntmps47 rfl fun w0 => ?_
 have hL := he.plain.lt
 refine Ag <| Ai fun ds => Aa rfl (Ae Ac) ?_
 refine Ah <| Ad <| Ag <| Ai fun ds => Aa rfl (Ae Ac) ?_
 refine Ah <| Ad <| Ag <| Ag <| Ai fun ds => Aa rfl (Ae Ac) ?_
 refine Ah <| Ad <| A4 <| Bz [5, 6, 7, 8, 9, 10, 11, 12, 13, 14, 15, 16, 17, 18, 19, 20, 21, 22, 23] (fun m e σ => ∃ k : Nat, m + k = l.length ∧ e 6 = .int .i64 (k : Int) ∧ ∃ v R, e 5 = v ∧ Own 60 4 v (lackTo l o k).length ((lackTo l o k).flatMap Ent.enc) R ∧ σ = ⟨F, R⟩) (l.length) ?_ ?_
 · exact ⟨0, by omega, (Ab), _, _, (Al rfl <| Ab), own_nil, rfl⟩
 ·
  rintro m e _ ⟨k, hm9, hs6, v5, R2, hs5, ho, rfl⟩; have hbl := lack_len (l := l) (out := o) k
  by_cases hlt : k < l.length
  ·
   refine Ag <| Ag <| Ai fun ds => Aa rfl (Af (As rfl hs6)) ?_
   refine Aa rfl (Af (Al rfl <| Ap rfl <| Ao rfl <| Al rfl <| Ak rfl)) ?_
   refine Aa rfl (Bg Cv (Ab) he.plain) ?_
   refine Aa rfl (Bs (Ao rfl <| Ab) (Ab)) ?_
   refine Ah <| Ad <| Ar (Ab) (by first | rfl | exact decide_eq_true (by omega)) ?_
   by_cases hm : k ∈ o
   ·
    refine Aw <| Ad <| Ag <| A4 <| Ag <| Ai fun ds => Aa rfl (Af (Az rfl <| Ap rfl <| Ao rfl <| Al rfl <| Ak rfl)) ?_
    refine Aa rfl (Af (Az rfl <| Al rfl <| As rfl hs6)) ?_
    refine Bw rfl (Bc bd_42 A2 (.cons (Al rfl <| Ab) (.cons (Ab) .nil)) (has_nat hn k) (fun _ _ h => h)) ?_
    refine Aa rfl (Ct (Ab)) ?_
    refine Ah <| Ad <| Am (Ab) (by simp [hm]) ?_
    refine Aw <| Bf <| Ad <| Ai fun ds => Aa rfl (Af (Ba rfl <| As rfl hs6)) ?_
    refine Aa rfl (Bp (Ab) Ac rfl (by omega) (by omega)) ?_
    refine Aa rfl (Ae (Ab)) ?_
    refine Ah <| Ad ⟨_, m - 1, Off.eq (Ed rfl <| Eo rfl <| El rfl <| Be), by omega, ?_⟩
    exact ⟨k + 1, by omega, (Ab), _, _, (Ba rfl <| Ao rfl <| Al rfl <| As rfl hs5), by rw [lackTo, if_pos hm]; exact ho, rfl⟩
   ·
    refine Aw <| Ad <| Ag <| A4 <| Ag <| Ai fun ds => Aa rfl (Af (Az rfl <| Ap rfl <| Ao rfl <| Al rfl <| Ak rfl)) ?_
    refine Aa rfl (Af (Az rfl <| Al rfl <| As rfl hs6)) ?_
    refine Bw rfl (Bc bd_42 A2 (.cons (Al rfl <| Ab) (.cons (Ab) .nil)) (has_nat hn k) (fun _ _ h => h)) ?_
    refine Aa rfl (Ct (Ab)) ?_
    refine Ah <| Ad <| Ar (Ab) (by simp [hm]) ?_
    refine Ai fun ds => Aa rfl (Af (Ba rfl <| As rfl hs5)) ?_
    refine Aa rfl (Af (Ba rfl <| Al rfl <| Ap rfl <| Ao rfl <| Al rfl <| Ak rfl)) ?_
    refine Aa rfl (Af (Ba rfl <| Ao rfl <| As rfl hs6)) ?_
    refine Aa rfl (Bj  Cv (Al rfl <| Ab) he.plain (Ab) rfl hlt) ?_
    refine Aa rfl (Bh Eg (Ab) rfl rfl (he.whole hlt)) ?_
    refine Bn rfl (C9 (offs := [(0, 4)]) (zl := [.int .i64 0, .bool false, .int .i64 0, .int .i64 0]) Cv E7 rfl (.cons (Ab) rfl .nil) (by intro i p h; rcases i with _ | i <;> simp at h <;> subst h <;> rfl) (.cons rfl rfl (Nat.le_of_ble_eq_true rfl) (.cons (.here) (.cons (.next <| .here) (.cons (.next <| .next <| .here) (.cons (.next <| .next <| .next <| .here) .nil)))) .nil) (by decide) (by decide) fun b2 hb2 nb2 => ?_)
    refine Bn rfl (Cw Cv el_60 (Az rfl <| Al rfl <| Ab) ho (Ab) (C6 (s := 4) 0 rfl rfl (by simp [Value.oneCell'])) (by omega) (by omega) (.s <| .z) .last fun v3 R4 ho5 => ?_)
    have ho2 := ho5.snoc (x := (l[k] : Ent)) rfl rfl
    refine Aa rfl (Ae (Ab)) ?_
    refine Ah <| Bf <| Ad <| Cc (fun _ _ h => h.drop (.cons _ <| .refl _)) ?_
    refine Ai fun ds => Aa rfl (Af (A8 rfl <| As rfl hs6)) ?_
    refine Aa rfl (Bp (Ab) Ac rfl (by omega) (by omega)) ?_
    refine Aa rfl (Ae (Ab)) ?_
    refine Ah <| Ad ⟨_, m - 1, Off.eq (C3 rfl <| Eo rfl <| El rfl <| Be), by omega, ?_⟩
    exact ⟨k + 1, by omega, (Ab), _, _, (Ao rfl <| Al rfl <| Ab), by rw [lackTo, if_neg hm, ← ent_at hlt]; exact ho2, rfl⟩
  ·
   refine Ag <| Ag <| Ai fun ds => Aa rfl (Af (As rfl hs6)) ?_
   refine Aa rfl (Af (Al rfl <| Ap rfl <| Ao rfl <| Al rfl <| Ak rfl)) ?_
   refine Aa rfl (Bg Cv (Ab) he.plain) ?_
   refine Aa rfl (Bs (Ao rfl <| Ab) (Ab)) ?_
   refine Ah <| Ad <| Am (Ab) (by first | rfl | exact decide_eq_false (by omega)) ?_
   obtain rfl : k = l.length := by omega
   refine Ec (σ := ⟨_, _⟩) (by rfl) ho (.z) .last fun F6 hF7 hz8 => ?_
   have hn2 := ho.sl (fun _ => rfl) hz8 (by omega)
   refine Bv ?_
   refine Bm <| Bm <| Bo <| Ad <| Ag <| Ai fun ds => Aa rfl (Af (Az rfl <| As rfl hs5)) ?_
   refine Aa rfl (Ae (Ab)) ?_
   refine Ah <| Ad <| A9 <| Ay rfl (.tmp (Ab) .nil) ?_
   exact hn2
section
variable {s : Sale} {rg : List Int} {off : List Nat} {lots bits k : Nat}
theorem told_s0 (h : lots.testBit k = true) : toldTo s rg off lots bits (k + 1) = toldTo s rg off lots bits k := by rw [toldTo, if_pos h]
theorem told_s (h : lots.testBit k = false) {x : Ent} (hx : flipE (bits.testBit (toldTo s rg off lots bits k).length) (toldE s rg off k) = x) : toldTo s rg off lots bits (k + 1) = toldTo s rg off lots bits k ++ [x] := by rw [toldTo, if_neg (by rw [h]; simp), hx]
theorem told_some (hne : (soldS s k rg).bidder ≠ -1) : toldE s rg off k = ⟨k, true, max 0 ((soldS s k rg).price - ((offN off (2 * k) : Nat) : Int) % 40), min 100000 ((soldS s k rg).price + ((offN off (2 * k + 1) : Nat) : Int) % 40)⟩ := by unfold toldE; rw [if_pos hne]; simp
theorem told_nobody (hne : (soldS s k rg).bidder = -1) : toldE s rg off k = ⟨k, false, 0, 0⟩ := by unfold toldE; rw [if_neg (fun h => h hne)]
end
set_option maxRecDepth 100000 in
theorem told_ok {F : Heap} {vs vb vl vn vd : Value} {s : Sale} (hr : SaleR F vs vb vl vn vd s) (hv : ValidS s) {vo : Value} {off : List Nat} (ho_ : Sl F vo 1 u16E off) (hob : ∀ x ∈ off, x < 65536) {r lb bits : Nat} : Ok Try.prog 43 [.agg #[vs, .int .i64 s.premium, .int .i64 s.fee, .int .i64 s.days, vb, vl, vn, vd], .agg #[.int .u8 (r : Int), .int .u8 (lb : Int), vo], .int .u8 (bits : Int)].toArray F fun u F' => Sl F' u 4 Ent.enc (toldL s (castL (ringN s r)) off lb bits) := by
 refine Ok.intro Try.func43 rfl Try.ntmps43 rfl fun w0 => ?_
 have hle0 : F.le F := Heap.le_refl _
 have hL := hv.nl
 refine Ag <| Ai fun ds => Bn rfl (Cf (Ak rfl) rfl fun b1 hb1 nb1 => ?_)
 refine Bn rfl (Cf (Al rfl <| Ak rfl) rfl fun b2 hb2 nb2 => ?_)
 refine Aa rfl (Ae Ac) ?_
 refine Ah <| Ad <| Ag ?_
 have hleS := hle0
 refine Du (.inl rfl) (fun _ _ h => h) (.cons_cons _ <| .cons_cons _ <| .refl _) [] (by kernel_rfl) fun ds => ?_
 refine Bb 0 rfl (by kernel_rfl) (by kernel_rfl) (by kernel_rfl) (by kernel_rfl) rfl rfl (fun _ h => h.drop (.cons_cons _ <| .cons_cons _ <| .refl _)) (fun _ _ _ h => h) (Bh Ca (Ao rfl <| Ab) rfl rfl (Bk 1 rfl)) ?_
 refine Bb 1 rfl (by kernel_rfl) (by kernel_rfl) (by kernel_rfl) (by kernel_rfl) rfl rfl (fun _ h => h.drop (.cons_cons _ <| .cons_cons _ <| .refl _)) (fun _ _ _ h => h) (Bh Ca (Ao rfl <| Al rfl <| Ab) rfl rfl (Bk 1 rfl)) ?_
 refine Bb 2 rfl (by kernel_rfl) (by kernel_rfl) (by kernel_rfl) (by kernel_rfl) rfl rfl (fun _ h => h.drop (.cons_cons _ <| .cons_cons _ <| .refl _)) (fun _ _ _ h => h) (Aj fd_82_0 (Ao rfl <| Al rfl <| Ab)) ?_
 refine Bb 3 rfl (by kernel_rfl) (by kernel_rfl) (by kernel_rfl) (by kernel_rfl) rfl rfl (fun _ h => h.drop (.cons_cons _ <| .cons_cons _ <| .refl _)) (fun _ _ _ h => h) (Aq one_5 (Ab) (Cell.own 0 rfl rfl)) ?_
 refine Da 4 rfl (by kernel_rfl) rfl (Cp bd_39 A2 (.cons (Ao rfl <| Ab) (.cons (Ab) .nil)) (ring_ok hr hv) fun v3 F4 hr5 hF6 => ⟨fun _ _ _ h => (h.drop (.cons_cons _ <| .cons_cons _ <| .refl _)).weak hF6 hleS, ?_⟩)
 replace hr := hr.mono hF6
 replace ho_ := ho_.mono hF6
 replace hle0 := Heap.le_trans hle0 hF6
 have hx := hr5
 refine Da 5 rfl (by kernel_rfl) rfl (Cp bd_72 A2 (.cons (Az rfl <| Ab) (.cons (Ab) .nil)) (refAll_ok hr hv hx.ints) fun v7 F8 hr9 hF10 => ⟨fun _ _ _ h => (h.drop (.cons_cons _ <| .cons_cons _ <| .refl _)).weak (Heap.le_trans hF6 hF10) hleS, ?_⟩)
 replace ho_ := ho_.mono hF10
 replace hle0 := Heap.le_trans hle0 hF10
 have hq := hr9
 change Sl _ _ 2 Res.enc (allS s (castL (ringN s r))) at hq
 refine Bb 6 rfl (by kernel_rfl) (by kernel_rfl) (by kernel_rfl) (by kernel_rfl) rfl rfl (fun _ h => (h.drop (.cons_cons _ <| .cons_cons _ <| .refl _)).weak (Heap.le_trans hF6 hF10) hleS) (fun _ _ _ h => h) (Ae (Ab)) ?_
 refine C7 (by kernel_rfl) ?_ _
 refine Ad <| Ag <| Ai fun ds => Aa rfl (Ae Ac) ?_
 refine Ah <| Ad <| Ag <| Ag <| Ai fun ds => Aa rfl (Ae Ac) ?_
 refine Ah <| Ad <| A4 <| Bz [8, 9, 10, 17, 18, 19, 20, 21, 22, 23, 24, 25, 26, 27, 28, 29, 30, 31, 32, 33, 34, 35, 36, 37, 38, 39, 40, 41, 42, 43, 44, 45, 46, 47, 48, 49, 50, 51, 52, 53, 54, 55, 56, 57, 58, 59, 60, 61, 62, 63, 64, 65, 66, 67, 68, 69, 70, 71, 72, 73, 74, 75, 76, 77, 78, 79, 80] (fun m e σ => ∃ k : Nat, m + k = (allS s (castL (ringN s r))).length ∧ e 9 = .int .i64 (k : Int) ∧ ∃ v R, e 8 = v ∧ Own 60 4 v (toldTo s (castL (ringN s r)) off lb bits k).length ((toldTo s (castL (ringN s r)) off lb bits k).flatMap Ent.enc) R ∧ σ = ⟨F8, (b2, bx 82 [.int .u8 (r : Int), .int .u8 (lb : Int), vo]) :: (b1, bx 27 [vs, .int .i64 s.premium, .int .i64 s.fee, .int .i64 s.days, vb, vl, vn, vd]) :: R⟩) ((allS s (castL (ringN s r))).length) ?_ ?_
 · exact ⟨0, by omega, (Ab), _, _, (Al rfl <| Ab), own_nil, rfl⟩
 ·
  rintro m e _ ⟨k, hm9, hs9, v8, R2, hs8, ho, rfl⟩; have htl := told_len (s := s) (rg := castL (ringN s r)) (off := off) (lots := lb) (bits := bits) k
  by_cases hlt : k < (allS s (castL (ringN s r))).length
  ·
   have hk1 : k < s.lots.length := by rw [Eq] at hlt; exact hlt
   have hbd : 0 ≤ (allS s (castL (ringN s r)))[k].price ∧ (allS s (castL (ringN s r)))[k].price ≤ 100000 := by rw [Fr hlt]; exact (Ej hv hk1 _).2.2
   have ho1 : offN off (2 * k) < 65536 := offN_lt hob
   have ho2_ : offN off (2 * k + 1) < 65536 := offN_lt hob
   refine Ag <| Ag <| Ai fun ds => Aa rfl (Af (As rfl hs9)) ?_
   refine Aa rfl (Af (Al rfl <| Ap rfl <| Ao rfl <| Ab)) ?_
   refine Aa rfl (Bg Dc (Ab) hq.plain) ?_
   refine Aa rfl (Bs (Ao rfl <| Ab) (Ab)) ?_
   refine Ah <| Ad <| Ar (Ab) (by first | rfl | exact decide_eq_true (by omega)) ?_
   by_cases hlb : lb.testBit k = true
   ·
    refine Aw <| Ad <| Ag <| A4 <| Ag <| Ag <| Ai fun ds => Aa rfl (Aj fd_82_1 (Az rfl <| Ap rfl <| Ba rfl <| Ao rfl <| Ab)) ?_
    refine Aa rfl (Aq one_5 (Ab) (Cell.own 0 rfl rfl)) ?_
    refine Aa rfl (Af (Az rfl <| Ao rfl <| As rfl hs9)) ?_
    refine Aa rfl (Ew (Al rfl <| Ab) (Ab) (k := k) rfl (by show k < 8; omega) De) ?_
    refine Aa rfl (E8 (Ab) Ac (Int.natCast_nonneg _) (by decide)) ?_
    refine Aa rfl (B1 (Ab) Ac) ?_
    refine Ah <| Ad <| Ar (Ab) (by rw [Ex]; exact hlb) ?_
    refine Bv ?_
    refine Bm (Bo ?_)
    refine Ad <| Ai fun ds => Aa rfl (Af (Ba rfl <| Ao rfl <| As rfl hs9)) ?_
    refine Aa rfl (Bp (Ab) Ac rfl (by omega) (by omega)) ?_
    refine Aa rfl (Ae (Ab)) ?_
    refine Ah <| Ad ⟨_, m - 1, Off.eq (Ed rfl <| E0 rfl <| El rfl <| Be), by omega, ?_⟩
    exact ⟨k + 1, by omega, (Ab), _, _, (Ba rfl <| Az rfl <| Al rfl <| As rfl hs8), by rw [told_s0 hlb]; exact ho, rfl⟩
   ·
    replace hlb : lb.testBit k = false := by simpa using hlb
    refine Aw <| Ad <| Ag <| A4 <| Ag <| Ag <| Ai fun ds => Aa rfl (Aj fd_82_1 (Az rfl <| Ap rfl <| Ba rfl <| Ao rfl <| Ab)) ?_
    refine Aa rfl (Aq one_5 (Ab) (Cell.own 0 rfl rfl)) ?_
    refine Aa rfl (Af (Az rfl <| Ao rfl <| As rfl hs9)) ?_
    refine Aa rfl (Ew (Al rfl <| Ab) (Ab) (k := k) rfl (by show k < 8; omega) De) ?_
    refine Aa rfl (E8 (Ab) Ac (Int.natCast_nonneg _) (by decide)) ?_
    refine Aa rfl (B1 (Ab) Ac) ?_
    refine Ah <| Ad <| Am (Ab) (by rw [Ex]; exact hlb) ?_
    by_cases hne : (soldS s k (castL (ringN s r))).bidder = -1
    ·
     refine Aw <| Ad <| Ag <| Ai fun ds => Aa rfl (Af (Ba rfl <| Ao rfl <| As rfl hs9)) ?_
     refine Aa rfl (C0 bt_60 (.cons (Ab) rfl .nil) (.cons rfl rfl (Nat.le_of_ble_eq_true rfl) (.cons (.here) .nil) .nil)) ?_
     refine Bn rfl (B6 E7 rfl fun b12 hb12 nb12 => ?_)
     refine Cl (B5 sz_60 (Ab) (Al rfl <| Ab) (i := 0) rfl rfl rfl rfl (by simp [Value.oneCell']) (.here) ?_)
     refine Ah <| Ad <| Ag <| Ag <| Ai fun ds => Aa rfl (Af (Ba rfl <| Az rfl <| Al rfl <| Ap rfl <| Ao rfl <| Ab)) ?_
     refine Aa rfl (Af (Ba rfl <| Az rfl <| Ao rfl <| As rfl hs9)) ?_
     refine Aa rfl (Bj  Dc (Al rfl <| Ab) hq.plain (Ab) rfl hlt) ?_
     refine Aa rfl (Bx fd_63_0 (Ab)) ?_
     refine Aa rfl (Aq Bi (Ab) (hq.cell hlt rfl)) ?_
     refine Aa rfl (B7 (Ab) Ac) ?_
     refine Ah <| Ad <| Am (Ab) (by rw [Fr hlt, hne]; rfl) ?_
     by_cases hbt : bits.testBit (toldTo s (castL (ringN s r)) off lb bits k).length = true
     ·
      refine Aw <| Ad <| Ag <| Ag <| Ai fun ds => Aa rfl (Af (A8 rfl <| Ao rfl <| Al rfl <| Ap rfl <| Ba rfl <| Az rfl <| Ak rfl)) ?_
      refine Aa rfl (Af (A8 rfl <| Az rfl <| As rfl hs8)) ?_
      refine Aa rfl (Bg Cv (Ab) (ho.plain (by omega))) ?_
      refine Aa rfl (Ew (Ao rfl <| Ab) (Ab) (k := (toldTo s (castL (ringN s r)) off lb bits k).length) rfl (by show _ < 8; omega) De) ?_
      refine Aa rfl (E8 (Ab) Ac (Int.natCast_nonneg _) (by decide)) ?_
      refine Aa rfl (B1 (Ab) Ac) ?_
      refine Ah <| Ad <| Ar (Ab) (by rw [Ex]; exact hbt) ?_
      refine Ai fun ds => Aa rfl (Af (A8 rfl <| Ba rfl <| Al rfl <| As rfl hs9)) ?_
      refine Aa rfl (Aj fd_60_1 (Ba rfl <| Az rfl <| Al rfl <| Ab)) ?_
      refine Aa rfl (Aq one_4 (Ab) (Cell.own 0 rfl rfl)) ?_
      refine Aa rfl (Ct (Ab)) ?_
      refine Aa rfl (C0 bt_60 (.cons (Ao rfl <| Al rfl <| Ab) rfl (.cons (Ab) rfl .nil)) (.cons rfl rfl (Nat.le_of_ble_eq_true rfl) (.cons (.here) .nil) (.cons rfl rfl (Nat.le_of_ble_eq_true rfl) (.cons (.next <| .here) .nil) .nil))) ?_
      refine Cl (B5 sz_60 (A8 rfl <| Al rfl <| Ab) (Ab) (i := 0) rfl rfl rfl rfl (by simp [Value.oneCell']) (.here) ?_)
      refine Ah <| Ad <| Ai fun ds => Aa rfl (Af (A8 rfl <| Ba rfl <| Az rfl <| Ao rfl <| As rfl hs8)) ?_
      refine Aa rfl (Bh Eg (A8 rfl <| Ao rfl <| Ab) rfl rfl (Bk 0 rfl)) ?_
      refine Bn rfl (C9 (offs := [(0, 4)]) (zl := [.int .i64 0, .bool false, .int .i64 0, .int .i64 0]) Cv E7 rfl (.cons (Ab) rfl .nil) (by intro i p h; rcases i with _ | i <;> simp at h <;> subst h <;> rfl) (.cons rfl rfl (Nat.le_of_ble_eq_true rfl) (.cons (.here) (.cons (.next <| .here) (.cons (.next <| .next <| .here) (.cons (.next <| .next <| .next <| .here) .nil)))) .nil) (by decide) (by decide) fun b13 hb13 nb13 => ?_)
      refine Bn rfl (Cw Cv el_60 (Ao rfl <| Ab) ho (Ab) (C6 (s := 4) 0 rfl rfl (by simp [Value.oneCell'])) (by omega) (by omega) (.s <| .s <| .s <| .s <| .z) .last fun v14 R15 ho16 => ?_)
      have ho2 := ho16.snoc (x := (⟨(k : Int), !false, 0, 0⟩ : Ent)) rfl rfl
      refine Aa rfl (Ae (Ab)) ?_
      refine Ah <| Bf <| Ad <| Cc (fun _ _ h => h.drop (.cons _ <| .cons _ <| .cons_cons _ <| .cons_cons _ <| .refl _)) ?_
      refine Ai fun ds => Aa rfl (Af (Bl rfl <| Ao rfl <| Al rfl <| As rfl hs9)) ?_
      refine Aa rfl (Bp (Ab) Ac rfl (by omega) (by omega)) ?_
      refine Aa rfl (Ae (Ab)) ?_
      refine Ah <| Ad ⟨_, m - 1, Off.eq (D1 rfl <| E0 rfl <| Eo rfl <| Be), by omega, ?_⟩
      refine ⟨k + 1, by omega, (Ab), _, _, (Ao rfl <| Al rfl <| Ab), ?_, rfl⟩
      rw [told_s hlb (x := ⟨(k : Int), !false, 0, 0⟩) (by rw [hbt, told_nobody hne]; rfl)]
      exact ho2
     ·
      replace hbt : bits.testBit (toldTo s (castL (ringN s r)) off lb bits k).length = false := by simpa using hbt
      refine Aw <| Ad <| Ag <| Ag <| Ai fun ds => Aa rfl (Af (A8 rfl <| Ao rfl <| Al rfl <| Ap rfl <| Ba rfl <| Az rfl <| Ak rfl)) ?_
      refine Aa rfl (Af (A8 rfl <| Az rfl <| As rfl hs8)) ?_
      refine Aa rfl (Bg Cv (Ab) (ho.plain (by omega))) ?_
      refine Aa rfl (Ew (Ao rfl <| Ab) (Ab) (k := (toldTo s (castL (ringN s r)) off lb bits k).length) rfl (by show _ < 8; omega) De) ?_
      refine Aa rfl (E8 (Ab) Ac (Int.natCast_nonneg _) (by decide)) ?_
      refine Aa rfl (B1 (Ab) Ac) ?_
      refine Ah <| Ad <| Am (Ab) (by rw [Ex]; exact hbt) ?_
      refine Aw <| Ad <| Ai fun ds => Aa rfl (Af (A8 rfl <| Ba rfl <| Al rfl <| As rfl hs8)) ?_
      refine Aa rfl (Bh Eg (Ba rfl <| Az rfl <| Al rfl <| Ab) rfl rfl (Bk 0 rfl)) ?_
      refine Bn rfl (C9 (offs := [(0, 4)]) (zl := [.int .i64 0, .bool false, .int .i64 0, .int .i64 0]) Cv E7 rfl (.cons (Ab) rfl .nil) (by intro i p h; rcases i with _ | i <;> simp at h <;> subst h <;> rfl) (.cons rfl rfl (Nat.le_of_ble_eq_true rfl) (.cons (.here) (.cons (.next <| .here) (.cons (.next <| .next <| .here) (.cons (.next <| .next <| .next <| .here) .nil)))) .nil) (by decide) (by decide) fun b17 hb17 nb17 => ?_)
      refine Bn rfl (Cw Cv el_60 (Ao rfl <| Ab) ho (Ab) (C6 (s := 4) 0 rfl rfl (by simp [Value.oneCell'])) (by omega) (by omega) (.s <| .s <| .s <| .s <| .z) .last fun v18 R19 ho20 => ?_)
      have ho2 := ho20.snoc (x := (⟨(k : Int), false, 0, 0⟩ : Ent)) rfl rfl
      refine Aa rfl (Ae (Ab)) ?_
      refine Ah <| Bf <| Ad <| Cc (fun _ _ h => h.drop (.cons _ <| .cons _ <| .cons_cons _ <| .cons_cons _ <| .refl _)) ?_
      refine Ai fun ds => Aa rfl (Af (A8 rfl <| Ba rfl <| Az rfl <| Ao rfl <| As rfl hs9)) ?_
      refine Aa rfl (Bp (Ab) Ac rfl (by omega) (by omega)) ?_
      refine Aa rfl (Ae (Ab)) ?_
      refine Ah <| Ad ⟨_, m - 1, Off.eq (D1 rfl <| El rfl <| Be), by omega, ?_⟩
      refine ⟨k + 1, by omega, (Ab), _, _, (Ao rfl <| Al rfl <| Ab), ?_, rfl⟩
      rw [told_s hlb (x := ⟨(k : Int), false, 0, 0⟩) (by rw [hbt, told_nobody hne]; rfl)]
      exact ho2
    ·
     refine Aw <| Ad <| Ag <| Ai fun ds => Aa rfl (Af (Ba rfl <| Ao rfl <| As rfl hs9)) ?_
     refine Aa rfl (C0 bt_60 (.cons (Ab) rfl .nil) (.cons rfl rfl (Nat.le_of_ble_eq_true rfl) (.cons (.here) .nil) .nil)) ?_
     refine Bn rfl (B6 E7 rfl fun b21 hb21 nb21 => ?_)
     refine Cl (B5 sz_60 (Ab) (Al rfl <| Ab) (i := 0) rfl rfl rfl rfl (by simp [Value.oneCell']) (.here) ?_)
     refine Ah <| Ad <| Ag <| Ag <| Ai fun ds => Aa rfl (Af (Ba rfl <| Az rfl <| Al rfl <| Ap rfl <| Ao rfl <| Ab)) ?_
     refine Aa rfl (Af (Ba rfl <| Az rfl <| Ao rfl <| As rfl hs9)) ?_
     refine Aa rfl (Bj  Dc (Al rfl <| Ab) hq.plain (Ab) rfl hlt) ?_
     refine Aa rfl (Bx fd_63_0 (Ab)) ?_
     refine Aa rfl (Aq Bi (Ab) (hq.cell hlt rfl)) ?_
     refine Aa rfl (B7 (Ab) Ac) ?_
     refine Ah <| Ad <| Ar (Ab) (by rw [Fr hlt]; exact decide_eq_true hne) ?_
     by_cases hbt : bits.testBit (toldTo s (castL (ringN s r)) off lb bits k).length = true
     ·
      have hleS := hle0
      refine Du (.inl rfl) (fun _ _ h => h) (.cons_cons _ <| .cons_cons _ <| .cons_cons _ <| .refl _) [28, 29] (by kernel_rfl) fun ds => ?_
      refine Bb 0 rfl (by kernel_rfl) (by kernel_rfl) (by kernel_rfl) (by kernel_rfl) rfl rfl (fun _ h => h.drop (.cons_cons _ <| .cons_cons _ <| .cons_cons _ <| .refl _)) (fun _ _ _ h => h) (Af (A8 rfl <| Ao rfl <| Al rfl <| As rfl hs9)) ?_
      refine Bb 1 rfl (by kernel_rfl) (by kernel_rfl) (by kernel_rfl) (by kernel_rfl) rfl rfl (fun _ h => h.drop (.cons_cons _ <| .cons_cons _ <| .cons_cons _ <| .refl _)) (fun _ _ _ h => h) (Af (A8 rfl <| Az rfl <| Ap rfl <| Ao rfl <| Ab)) ?_
      refine Bb 2 rfl (by kernel_rfl) (by kernel_rfl) (by kernel_rfl) (by kernel_rfl) rfl rfl (fun _ h => h.drop (.cons_cons _ <| .cons_cons _ <| .cons_cons _ <| .refl _)) (fun _ _ _ h => h) (Af (A8 rfl <| Az rfl <| Al rfl <| As rfl hs9)) ?_
      refine Bb 3 rfl (by kernel_rfl) (by kernel_rfl) (by kernel_rfl) (by kernel_rfl) rfl rfl (fun _ h => h.drop (.cons_cons _ <| .cons_cons _ <| .cons_cons _ <| .refl _)) (fun _ _ _ h => h) (Bj  Dc (Al rfl <| Ab) hq.plain (Ab) rfl hlt) ?_
      refine Bb 4 rfl (by kernel_rfl) (by kernel_rfl) (by kernel_rfl) (by kernel_rfl) rfl rfl (fun _ h => h.drop (.cons_cons _ <| .cons_cons _ <| .cons_cons _ <| .refl _)) (fun _ _ _ h => h) (Bx Fb (Ab)) ?_
      refine Bb 5 rfl (by kernel_rfl) (by kernel_rfl) (by kernel_rfl) (by kernel_rfl) rfl rfl (fun _ h => h.drop (.cons_cons _ <| .cons_cons _ <| .cons_cons _ <| .refl _)) (fun _ _ _ h => h) (Aq Bi (Ab) (hq.cell hlt rfl)) ?_
      refine Bb 6 rfl (by kernel_rfl) (by kernel_rfl) (by kernel_rfl) (by kernel_rfl) rfl rfl (fun _ h => h.drop (.cons_cons _ <| .cons_cons _ <| .cons_cons _ <| .refl _)) (fun _ _ _ h => h) (Aj fd_82_2 (A8 rfl <| Ba rfl <| Al rfl <| Ap rfl <| Ba rfl <| Ao rfl <| Ab)) ?_
      refine Bb 7 rfl (by kernel_rfl) (by kernel_rfl) (by kernel_rfl) (by kernel_rfl) rfl rfl (fun _ h => h.drop (.cons_cons _ <| .cons_cons _ <| .cons_cons _ <| .refl _)) (fun _ _ _ h => h) (Aq one_80 (Ab) (Cell.own 1 rfl rfl)) ?_
      refine Bb 8 rfl (by kernel_rfl) (by kernel_rfl) (by kernel_rfl) (by kernel_rfl) rfl rfl (fun _ h => h.drop (.cons_cons _ <| .cons_cons _ <| .cons_cons _ <| .refl _)) (fun _ _ _ h => h) (Af (A8 rfl <| Ba rfl <| Ao rfl <| Al rfl <| As rfl hs9)) ?_
      refine Bb 9 rfl (by kernel_rfl) (by kernel_rfl) (by kernel_rfl) (by kernel_rfl) rfl rfl (fun _ h => h.drop (.cons_cons _ <| .cons_cons _ <| .cons_cons _ <| .refl _)) (fun _ _ _ h => h) (q_mul Ac (Ab) rfl (by omega) (by omega)) ?_
      refine Bb 14 rfl (by kernel_rfl) (by kernel_rfl) (by kernel_rfl) (by kernel_rfl) rfl rfl (fun _ h => h.drop (.cons_cons _ <| .cons_cons _ <| .cons_cons _ <| .refl _)) (fun _ _ _ h => h) (Af (A8 rfl <| Ba rfl <| Az rfl <| Al rfl <| Ap rfl <| Ao rfl <| Ab)) ?_
      refine Bb 15 rfl (by kernel_rfl) (by kernel_rfl) (by kernel_rfl) (by kernel_rfl) rfl rfl (fun _ h => h.drop (.cons_cons _ <| .cons_cons _ <| .cons_cons _ <| .refl _)) (fun _ _ _ h => h) (Af (A8 rfl <| Ba rfl <| Az rfl <| Ao rfl <| As rfl hs9)) ?_
      refine Bb 16 rfl (by kernel_rfl) (by kernel_rfl) (by kernel_rfl) (by kernel_rfl) rfl rfl (fun _ h => h.drop (.cons_cons _ <| .cons_cons _ <| .cons_cons _ <| .refl _)) (fun _ _ _ h => h) (Bj  Dc (Al rfl <| Ab) hq.plain (Ab) rfl hlt) ?_
      refine Bb 17 rfl (by kernel_rfl) (by kernel_rfl) (by kernel_rfl) (by kernel_rfl) rfl rfl (fun _ h => h.drop (.cons_cons _ <| .cons_cons _ <| .cons_cons _ <| .refl _)) (fun _ _ _ h => h) (Bx Fb (Ab)) ?_
      refine Bb 18 rfl (by kernel_rfl) (by kernel_rfl) (by kernel_rfl) (by kernel_rfl) rfl rfl (fun _ h => h.drop (.cons_cons _ <| .cons_cons _ <| .cons_cons _ <| .refl _)) (fun _ _ _ h => h) (Aq Bi (Ab) (hq.cell hlt rfl)) ?_
      refine Bb 19 rfl (by kernel_rfl) (by kernel_rfl) (by kernel_rfl) (by kernel_rfl) rfl rfl (fun _ h => h.drop (.cons_cons _ <| .cons_cons _ <| .cons_cons _ <| .refl _)) (fun _ _ _ h => h) (Aj fd_82_2 (Bl rfl <| Ao rfl <| Ap rfl <| Ba rfl <| Ao rfl <| Ab)) ?_
      refine Bb 20 rfl (by kernel_rfl) (by kernel_rfl) (by kernel_rfl) (by kernel_rfl) rfl rfl (fun _ h => h.drop (.cons_cons _ <| .cons_cons _ <| .cons_cons _ <| .refl _)) (fun _ _ _ h => h) (Aq one_80 (Ab) (Cell.own 1 rfl rfl)) ?_
      refine Bb 21 rfl (by kernel_rfl) (by kernel_rfl) (by kernel_rfl) (by kernel_rfl) rfl rfl (fun _ h => h.drop (.cons_cons _ <| .cons_cons _ <| .cons_cons _ <| .refl _)) (fun _ _ _ h => h) (Af (Bl rfl <| Az rfl <| As rfl hs9)) ?_
      refine Bb 22 rfl (by kernel_rfl) (by kernel_rfl) (by kernel_rfl) (by kernel_rfl) rfl rfl (fun _ h => h.drop (.cons_cons _ <| .cons_cons _ <| .cons_cons _ <| .refl _)) (fun _ _ _ h => h) (q_mul Ac (Ab) rfl (by omega) (by omega)) ?_
      refine Bb 23 rfl (by kernel_rfl) (by kernel_rfl) (by kernel_rfl) (by kernel_rfl) rfl rfl (fun _ h => h.drop (.cons_cons _ <| .cons_cons _ <| .cons_cons _ <| .refl _)) (fun _ _ _ h => h) (Bp (Ab) Ac rfl (by omega) (by omega)) ?_
      refine Da 10 rfl (by kernel_rfl) rfl (Br (Bc bd_91 A2 (.cons (Ba rfl <| Az rfl <| Ab) (.cons (Ba rfl <| Ao rfl <| Ab) .nil)) (off_ok ho_ hob (n := 2 * k) (by push_cast; rfl)) (fun _ _ h => h)) ⟨fun _ _ => (fun _ h => h.drop (.cons_cons _ <| .cons_cons _ <| .cons_cons _ <| .refl _)), ?_⟩)
      refine Bb 11 rfl (by kernel_rfl) (by kernel_rfl) (by kernel_rfl) (by kernel_rfl) rfl rfl (fun _ h => h.drop (.cons_cons _ <| .cons_cons _ <| .cons_cons _ <| .refl _)) (fun _ _ _ h => h) (E8 (Ab) Ac (Int.natCast_nonneg _) (by decide)) ?_
      refine Bb 12 rfl (by kernel_rfl) (by kernel_rfl) (by kernel_rfl) (by kernel_rfl) rfl rfl (fun _ h => h.drop (.cons_cons _ <| .cons_cons _ <| .cons_cons _ <| .refl _)) (fun _ _ _ h => h) (Cj (A8 rfl <| Ab) (Ab) rfl (by omega) (by omega)) ?_
      refine Bb 13 rfl (by kernel_rfl) (by kernel_rfl) (by kernel_rfl) (by kernel_rfl) rfl rfl (fun _ h => h.drop (.cons_cons _ <| .cons_cons _ <| .cons_cons _ <| .refl _)) (fun _ _ _ h => h) (q_max2 Ac (Ab)) ?_
      refine Da 24 rfl (by kernel_rfl) rfl (Br (Bc bd_91 A2 (.cons (Az rfl <| Ao rfl <| Al rfl <| Ab) (.cons (Az rfl <| Ab) .nil)) (off_ok ho_ hob (n := 2 * k + 1) (by push_cast; rfl)) (fun _ _ h => h)) ⟨fun _ _ => (fun _ h => h.drop (.cons_cons _ <| .cons_cons _ <| .cons_cons _ <| .refl _)), ?_⟩)
      refine Bb 25 rfl (by kernel_rfl) (by kernel_rfl) (by kernel_rfl) (by kernel_rfl) rfl rfl (fun _ h => h.drop (.cons_cons _ <| .cons_cons _ <| .cons_cons _ <| .refl _)) (fun _ _ _ h => h) (E8 (Ab) Ac (Int.natCast_nonneg _) (by decide)) ?_
      refine Bb 26 rfl (by kernel_rfl) (by kernel_rfl) (by kernel_rfl) (by kernel_rfl) rfl rfl (fun _ h => h.drop (.cons_cons _ <| .cons_cons _ <| .cons_cons _ <| .refl _)) (fun _ _ _ h => h) (Bp (Ba rfl <| Ao rfl <| Al rfl <| Ab) (Ab) rfl (by omega) (by omega)) ?_
      refine Bb 27 rfl (by kernel_rfl) (by kernel_rfl) (by kernel_rfl) (by kernel_rfl) rfl rfl (fun _ h => h.drop (.cons_cons _ <| .cons_cons _ <| .cons_cons _ <| .refl _)) (fun _ _ _ h => h) (D0 Ac (Ab)) ?_
      refine Da 28 rfl (by kernel_rfl) rfl (Br (Bc bd_36 A2 (.cons (A8 rfl <| Ba rfl <| Ao rfl <| Al rfl <| Ab) (.cons (Az rfl <| Ab) (.cons (Ab) .nil))) (Fq _ _ _) (fun _ _ h => h)) ⟨(fun h => nomatch h), ?_⟩)
      refine WX_x0 29 rfl (by kernel_rfl) (B5 sz_60 (Bl rfl <| Ao rfl <| Al rfl <| Ab) (Ab) (i := 0) rfl rfl rfl rfl (by simp [Value.oneCell']) (.here) ⟨(fun h => nomatch h), ?_⟩)
      refine C7 (by kernel_rfl) ?_ _
      refine Ad <| Ag <| Ag <| Ai fun ds => Aa rfl (Af (Bl rfl <| A8 rfl <| Ap rfl <| Ba rfl <| Az rfl <| Ak rfl)) ?_
      refine Aa rfl (Af (Bl rfl <| A8 rfl <| Al rfl <| As rfl hs8)) ?_
      refine Aa rfl (Bg Cv (Ab) (ho.plain (by omega))) ?_
      refine Aa rfl (Ew (Ao rfl <| Ab) (Ab) (k := (toldTo s (castL (ringN s r)) off lb bits k).length) rfl (by show _ < 8; omega) De) ?_
      refine Aa rfl (E8 (Ab) Ac (Int.natCast_nonneg _) (by decide)) ?_
      refine Aa rfl (B1 (Ab) Ac) ?_
      refine Ah <| Ad <| Ar (Ab) (by rw [Ex]; exact hbt) ?_
      refine Ai fun ds => Aa rfl (Af (Bl rfl <| A8 rfl <| Az rfl <| Ao rfl <| As rfl hs9)) ?_
      refine Aa rfl (Aj fd_60_1 (Bl rfl <| Ba rfl <| Ao rfl <| Ab)) ?_
      refine Aa rfl (Aq one_4 (Ab) (Cell.own 0 rfl rfl)) ?_
      refine Aa rfl (Ct (Ab)) ?_
      refine Aa rfl (C0 bt_60 (.cons (Ao rfl <| Al rfl <| Ab) rfl (.cons (Ab) rfl .nil)) (.cons rfl rfl (Nat.le_of_ble_eq_true rfl) (.cons (.here) .nil) (.cons rfl rfl (Nat.le_of_ble_eq_true rfl) (.cons (.next <| .here) .nil) .nil))) ?_
      refine Cl (B5 sz_60 (Bl rfl <| Ba rfl <| Az rfl <| Ao rfl <| Ab) (Ab) (i := 0) rfl rfl rfl rfl (by simp [Value.oneCell']) (.here) ?_)
      refine Ah <| Ad <| Ai fun ds => Aa rfl (Af (Bl rfl <| A8 rfl <| Ba rfl <| Ao rfl <| Al rfl <| As rfl hs8)) ?_
      refine Aa rfl (Bh Eg (Bl rfl <| Ba rfl <| Az rfl <| Ao rfl <| Al rfl <| Ab) rfl rfl (Bk 0 rfl)) ?_
      refine Bn rfl (C9 (offs := [(0, 4)]) (zl := [.int .i64 0, .bool false, .int .i64 0, .int .i64 0]) Cv E7 rfl (.cons (Ab) rfl .nil) (by intro i p h; rcases i with _ | i <;> simp at h <;> subst h <;> rfl) (.cons rfl rfl (Nat.le_of_ble_eq_true rfl) (.cons (.here) (.cons (.next <| .here) (.cons (.next <| .next <| .here) (.cons (.next <| .next <| .next <| .here) .nil)))) .nil) (by decide) (by decide) fun b22 hb22 nb22 => ?_)
      refine Bn rfl (Cw Cv el_60 (Ao rfl <| Ab) ho (Ab) (C6 (s := 4) 0 rfl rfl (by simp [Value.oneCell'])) (by omega) (by omega) (.s <| .s <| .s <| .s <| .z) .last fun v23 R24 ho25 => ?_)
      have ho2 := ho25.snoc (x := (⟨(k : Int), !true, 0, 0⟩ : Ent)) rfl rfl
      refine Aa rfl (Ae (Ab)) ?_
      refine Ah <| Bf <| Ad <| Cc (fun _ _ h => h.drop (.cons _ <| .cons _ <| .cons_cons _ <| .cons_cons _ <| .refl _)) ?_
      refine Ai fun ds => Aa rfl (Af (Bl rfl <| Bl rfl <| As rfl hs9)) ?_
      refine Aa rfl (Bp (Ab) Ac rfl (by omega) (by omega)) ?_
      refine Aa rfl (Ae (Ab)) ?_
      refine Ah <| Ad ⟨_, m - 1, Off.eq (D1 rfl <| D1 rfl <| Eo rfl <| El rfl <| Be), by omega, ?_⟩
      refine ⟨k + 1, by omega, (Ab), _, _, (Ao rfl <| Al rfl <| Ab), ?_, rfl⟩
      rw [told_s hlb (x := ⟨(k : Int), !true, 0, 0⟩) (by rw [hbt, told_some hne]; rfl)]
      exact ho2
     ·
      replace hbt : bits.testBit (toldTo s (castL (ringN s r)) off lb bits k).length = false := by simpa using hbt
      have hleS := hle0
      refine Du (.inl rfl) (fun _ _ h => h) (.cons_cons _ <| .cons_cons _ <| .cons_cons _ <| .refl _) [28, 29] (by kernel_rfl) fun ds => ?_
      refine Bb 0 rfl (by kernel_rfl) (by kernel_rfl) (by kernel_rfl) (by kernel_rfl) rfl rfl (fun _ h => h.drop (.cons_cons _ <| .cons_cons _ <| .cons_cons _ <| .refl _)) (fun _ _ _ h => h) (Af (A8 rfl <| Ao rfl <| Al rfl <| As rfl hs9)) ?_
      refine Bb 1 rfl (by kernel_rfl) (by kernel_rfl) (by kernel_rfl) (by kernel_rfl) rfl rfl (fun _ h => h.drop (.cons_cons _ <| .cons_cons _ <| .cons_cons _ <| .refl _)) (fun _ _ _ h => h) (Af (A8 rfl <| Az rfl <| Ap rfl <| Ao rfl <| Ab)) ?_
      refine Bb 2 rfl (by kernel_rfl) (by kernel_rfl) (by kernel_rfl) (by kernel_rfl) rfl rfl (fun _ h => h.drop (.cons_cons _ <| .cons_cons _ <| .cons_cons _ <| .refl _)) (fun _ _ _ h => h) (Af (A8 rfl <| Az rfl <| Al rfl <| As rfl hs9)) ?_
      refine Bb 3 rfl (by kernel_rfl) (by kernel_rfl) (by kernel_rfl) (by kernel_rfl) rfl rfl (fun _ h => h.drop (.cons_cons _ <| .cons_cons _ <| .cons_cons _ <| .refl _)) (fun _ _ _ h => h) (Bj  Dc (Al rfl <| Ab) hq.plain (Ab) rfl hlt) ?_
      refine Bb 4 rfl (by kernel_rfl) (by kernel_rfl) (by kernel_rfl) (by kernel_rfl) rfl rfl (fun _ h => h.drop (.cons_cons _ <| .cons_cons _ <| .cons_cons _ <| .refl _)) (fun _ _ _ h => h) (Bx Fb (Ab)) ?_
      refine Bb 5 rfl (by kernel_rfl) (by kernel_rfl) (by kernel_rfl) (by kernel_rfl) rfl rfl (fun _ h => h.drop (.cons_cons _ <| .cons_cons _ <| .cons_cons _ <| .refl _)) (fun _ _ _ h => h) (Aq Bi (Ab) (hq.cell hlt rfl)) ?_
      refine Bb 6 rfl (by kernel_rfl) (by kernel_rfl) (by kernel_rfl) (by kernel_rfl) rfl rfl (fun _ h => h.drop (.cons_cons _ <| .cons_cons _ <| .cons_cons _ <| .refl _)) (fun _ _ _ h => h) (Aj fd_82_2 (A8 rfl <| Ba rfl <| Al rfl <| Ap rfl <| Ba rfl <| Ao rfl <| Ab)) ?_
      refine Bb 7 rfl (by kernel_rfl) (by kernel_rfl) (by kernel_rfl) (by kernel_rfl) rfl rfl (fun _ h => h.drop (.cons_cons _ <| .cons_cons _ <| .cons_cons _ <| .refl _)) (fun _ _ _ h => h) (Aq one_80 (Ab) (Cell.own 1 rfl rfl)) ?_
      refine Bb 8 rfl (by kernel_rfl) (by kernel_rfl) (by kernel_rfl) (by kernel_rfl) rfl rfl (fun _ h => h.drop (.cons_cons _ <| .cons_cons _ <| .cons_cons _ <| .refl _)) (fun _ _ _ h => h) (Af (A8 rfl <| Ba rfl <| Ao rfl <| Al rfl <| As rfl hs9)) ?_
      refine Bb 9 rfl (by kernel_rfl) (by kernel_rfl) (by kernel_rfl) (by kernel_rfl) rfl rfl (fun _ h => h.drop (.cons_cons _ <| .cons_cons _ <| .cons_cons _ <| .refl _)) (fun _ _ _ h => h) (q_mul Ac (Ab) rfl (by omega) (by omega)) ?_
      refine Bb 14 rfl (by kernel_rfl) (by kernel_rfl) (by kernel_rfl) (by kernel_rfl) rfl rfl (fun _ h => h.drop (.cons_cons _ <| .cons_cons _ <| .cons_cons _ <| .refl _)) (fun _ _ _ h => h) (Af (A8 rfl <| Ba rfl <| Az rfl <| Al rfl <| Ap rfl <| Ao rfl <| Ab)) ?_
      refine Bb 15 rfl (by kernel_rfl) (by kernel_rfl) (by kernel_rfl) (by kernel_rfl) rfl rfl (fun _ h => h.drop (.cons_cons _ <| .cons_cons _ <| .cons_cons _ <| .refl _)) (fun _ _ _ h => h) (Af (A8 rfl <| Ba rfl <| Az rfl <| Ao rfl <| As rfl hs9)) ?_
      refine Bb 16 rfl (by kernel_rfl) (by kernel_rfl) (by kernel_rfl) (by kernel_rfl) rfl rfl (fun _ h => h.drop (.cons_cons _ <| .cons_cons _ <| .cons_cons _ <| .refl _)) (fun _ _ _ h => h) (Bj  Dc (Al rfl <| Ab) hq.plain (Ab) rfl hlt) ?_
      refine Bb 17 rfl (by kernel_rfl) (by kernel_rfl) (by kernel_rfl) (by kernel_rfl) rfl rfl (fun _ h => h.drop (.cons_cons _ <| .cons_cons _ <| .cons_cons _ <| .refl _)) (fun _ _ _ h => h) (Bx Fb (Ab)) ?_
      refine Bb 18 rfl (by kernel_rfl) (by kernel_rfl) (by kernel_rfl) (by kernel_rfl) rfl rfl (fun _ h => h.drop (.cons_cons _ <| .cons_cons _ <| .cons_cons _ <| .refl _)) (fun _ _ _ h => h) (Aq Bi (Ab) (hq.cell hlt rfl)) ?_
      refine Bb 19 rfl (by kernel_rfl) (by kernel_rfl) (by kernel_rfl) (by kernel_rfl) rfl rfl (fun _ h => h.drop (.cons_cons _ <| .cons_cons _ <| .cons_cons _ <| .refl _)) (fun _ _ _ h => h) (Aj fd_82_2 (Bl rfl <| Ao rfl <| Ap rfl <| Ba rfl <| Ao rfl <| Ab)) ?_
      refine Bb 20 rfl (by kernel_rfl) (by kernel_rfl) (by kernel_rfl) (by kernel_rfl) rfl rfl (fun _ h => h.drop (.cons_cons _ <| .cons_cons _ <| .cons_cons _ <| .refl _)) (fun _ _ _ h => h) (Aq one_80 (Ab) (Cell.own 1 rfl rfl)) ?_
      refine Bb 21 rfl (by kernel_rfl) (by kernel_rfl) (by kernel_rfl) (by kernel_rfl) rfl rfl (fun _ h => h.drop (.cons_cons _ <| .cons_cons _ <| .cons_cons _ <| .refl _)) (fun _ _ _ h => h) (Af (Bl rfl <| Az rfl <| As rfl hs9)) ?_
      refine Bb 22 rfl (by kernel_rfl) (by kernel_rfl) (by kernel_rfl) (by kernel_rfl) rfl rfl (fun _ h => h.drop (.cons_cons _ <| .cons_cons _ <| .cons_cons _ <| .refl _)) (fun _ _ _ h => h) (q_mul Ac (Ab) rfl (by omega) (by omega)) ?_
      refine Bb 23 rfl (by kernel_rfl) (by kernel_rfl) (by kernel_rfl) (by kernel_rfl) rfl rfl (fun _ h => h.drop (.cons_cons _ <| .cons_cons _ <| .cons_cons _ <| .refl _)) (fun _ _ _ h => h) (Bp (Ab) Ac rfl (by omega) (by omega)) ?_
      refine Da 10 rfl (by kernel_rfl) rfl (Br (Bc bd_91 A2 (.cons (Ba rfl <| Az rfl <| Ab) (.cons (Ba rfl <| Ao rfl <| Ab) .nil)) (off_ok ho_ hob (n := 2 * k) (by push_cast; rfl)) (fun _ _ h => h)) ⟨fun _ _ => (fun _ h => h.drop (.cons_cons _ <| .cons_cons _ <| .cons_cons _ <| .refl _)), ?_⟩)
      refine Bb 11 rfl (by kernel_rfl) (by kernel_rfl) (by kernel_rfl) (by kernel_rfl) rfl rfl (fun _ h => h.drop (.cons_cons _ <| .cons_cons _ <| .cons_cons _ <| .refl _)) (fun _ _ _ h => h) (E8 (Ab) Ac (Int.natCast_nonneg _) (by decide)) ?_
      refine Bb 12 rfl (by kernel_rfl) (by kernel_rfl) (by kernel_rfl) (by kernel_rfl) rfl rfl (fun _ h => h.drop (.cons_cons _ <| .cons_cons _ <| .cons_cons _ <| .refl _)) (fun _ _ _ h => h) (Cj (A8 rfl <| Ab) (Ab) rfl (by omega) (by omega)) ?_
      refine Bb 13 rfl (by kernel_rfl) (by kernel_rfl) (by kernel_rfl) (by kernel_rfl) rfl rfl (fun _ h => h.drop (.cons_cons _ <| .cons_cons _ <| .cons_cons _ <| .refl _)) (fun _ _ _ h => h) (q_max2 Ac (Ab)) ?_
      refine Da 24 rfl (by kernel_rfl) rfl (Br (Bc bd_91 A2 (.cons (Az rfl <| Ao rfl <| Al rfl <| Ab) (.cons (Az rfl <| Ab) .nil)) (off_ok ho_ hob (n := 2 * k + 1) (by push_cast; rfl)) (fun _ _ h => h)) ⟨fun _ _ => (fun _ h => h.drop (.cons_cons _ <| .cons_cons _ <| .cons_cons _ <| .refl _)), ?_⟩)
      refine Bb 25 rfl (by kernel_rfl) (by kernel_rfl) (by kernel_rfl) (by kernel_rfl) rfl rfl (fun _ h => h.drop (.cons_cons _ <| .cons_cons _ <| .cons_cons _ <| .refl _)) (fun _ _ _ h => h) (E8 (Ab) Ac (Int.natCast_nonneg _) (by decide)) ?_
      refine Bb 26 rfl (by kernel_rfl) (by kernel_rfl) (by kernel_rfl) (by kernel_rfl) rfl rfl (fun _ h => h.drop (.cons_cons _ <| .cons_cons _ <| .cons_cons _ <| .refl _)) (fun _ _ _ h => h) (Bp (Ba rfl <| Ao rfl <| Al rfl <| Ab) (Ab) rfl (by omega) (by omega)) ?_
      refine Bb 27 rfl (by kernel_rfl) (by kernel_rfl) (by kernel_rfl) (by kernel_rfl) rfl rfl (fun _ h => h.drop (.cons_cons _ <| .cons_cons _ <| .cons_cons _ <| .refl _)) (fun _ _ _ h => h) (D0 Ac (Ab)) ?_
      refine Da 28 rfl (by kernel_rfl) rfl (Br (Bc bd_36 A2 (.cons (A8 rfl <| Ba rfl <| Ao rfl <| Al rfl <| Ab) (.cons (Az rfl <| Ab) (.cons (Ab) .nil))) (Fq _ _ _) (fun _ _ h => h)) ⟨(fun h => nomatch h), ?_⟩)
      refine WX_x0 29 rfl (by kernel_rfl) (B5 sz_60 (Bl rfl <| Ao rfl <| Al rfl <| Ab) (Ab) (i := 0) rfl rfl rfl rfl (by simp [Value.oneCell']) (.here) ⟨(fun h => nomatch h), ?_⟩)
      refine C7 (by kernel_rfl) ?_ _
      refine Ad <| Ag <| Ag <| Ai fun ds => Aa rfl (Af (Bl rfl <| A8 rfl <| Ap rfl <| Ba rfl <| Az rfl <| Ak rfl)) ?_
      refine Aa rfl (Af (Bl rfl <| A8 rfl <| Al rfl <| As rfl hs8)) ?_
      refine Aa rfl (Bg Cv (Ab) (ho.plain (by omega))) ?_
      refine Aa rfl (Ew (Ao rfl <| Ab) (Ab) (k := (toldTo s (castL (ringN s r)) off lb bits k).length) rfl (by show _ < 8; omega) De) ?_
      refine Aa rfl (E8 (Ab) Ac (Int.natCast_nonneg _) (by decide)) ?_
      refine Aa rfl (B1 (Ab) Ac) ?_
      refine Ah <| Ad <| Am (Ab) (by rw [Ex]; exact hbt) ?_
      refine Aw <| Ad <| Ai fun ds => Aa rfl (Af (Bl rfl <| A8 rfl <| Az rfl <| Ao rfl <| As rfl hs8)) ?_
      refine Aa rfl (Bh Eg (Bl rfl <| Ba rfl <| Ao rfl <| Ab) rfl rfl (Bk 0 rfl)) ?_
      refine Bn rfl (C9 (offs := [(0, 4)]) (zl := [.int .i64 0, .bool false, .int .i64 0, .int .i64 0]) Cv E7 rfl (.cons (Ab) rfl .nil) (by intro i p h; rcases i with _ | i <;> simp at h <;> subst h <;> rfl) (.cons rfl rfl (Nat.le_of_ble_eq_true rfl) (.cons (.here) (.cons (.next <| .here) (.cons (.next <| .next <| .here) (.cons (.next <| .next <| .next <| .here) .nil)))) .nil) (by decide) (by decide) fun b26 hb26 nb26 => ?_)
      refine Bn rfl (Cw Cv el_60 (Ao rfl <| Ab) ho (Ab) (C6 (s := 4) 0 rfl rfl (by simp [Value.oneCell'])) (by omega) (by omega) (.s <| .s <| .s <| .s <| .z) .last fun v27 R28 ho29 => ?_)
      have ho2 := ho29.snoc (x := (⟨(k : Int), true, max 0 ((allS s (castL (ringN s r)))[k].price - ((offN off (2 * k) : Nat) : Int) % 40), min 100000 ((allS s (castL (ringN s r)))[k].price + ((offN off (2 * k + 1) : Nat) : Int) % 40)⟩ : Ent)) rfl rfl
      refine Aa rfl (Ae (Ab)) ?_
      refine Ah <| Bf <| Ad <| Cc (fun _ _ h => h.drop (.cons _ <| .cons _ <| .cons_cons _ <| .cons_cons _ <| .refl _)) ?_
      refine Ai fun ds => Aa rfl (Af (Bl rfl <| A8 rfl <| Ba rfl <| Ao rfl <| Al rfl <| As rfl hs9)) ?_
      refine Aa rfl (Bp (Ab) Ac rfl (by omega) (by omega)) ?_
      refine Aa rfl (Ae (Ab)) ?_
      refine Ah <| Ad ⟨_, m - 1, Off.eq (D1 rfl <| C3 rfl <| Ed rfl <| E0 rfl <| Eo rfl <| Be), by omega, ?_⟩
      refine ⟨k + 1, by omega, (Ab), _, _, (Ao rfl <| Al rfl <| Ab), ?_, rfl⟩
      rw [told_s hlb (x := ⟨(k : Int), true, max 0 ((allS s (castL (ringN s r)))[k].price - ((offN off (2 * k) : Nat) : Int) % 40), min 100000 ((allS s (castL (ringN s r)))[k].price + ((offN off (2 * k + 1) : Nat) : Int) % 40)⟩) (by rw [hbt, told_some hne]; rw [Fr hlt]; rfl)]
      exact ho2
  ·
   refine Ag <| Ag <| Ai fun ds => Aa rfl (Af (As rfl hs9)) ?_
   refine Aa rfl (Af (Al rfl <| Ap rfl <| Ao rfl <| Ab)) ?_
   refine Aa rfl (Bg Dc (Ab) hq.plain) ?_
   refine Aa rfl (Bs (Ao rfl <| Ab) (Ab)) ?_
   refine Ah <| Ad <| Am (Ab) (by first | rfl | exact decide_eq_false (by omega)) ?_
   obtain rfl : k = (allS s (castL (ringN s r))).length := by omega
   refine Ec (σ := ⟨_, _⟩) (by rfl) ho (.s <| .s <| .z) .last fun F30 hF31 hz32 => ?_
   have hn2 := ho.sl (fun _ => rfl) hz32 (by have := hv.nl; have := Eq (s := s) (ring := castL (ringN s r)); omega)
   refine Bv ?_
   refine Bm <| Bm <| Bo <| Ad <| Ag <| Ai fun ds => Aa rfl (Af (Az rfl <| As rfl hs8)) ?_
   refine Aa rfl (Ae (Ab)) ?_
   refine Ah <| Ad <| A9 <| Ay rfl (.tmp (Ab) .nil) ?_
   rw [Eq] at hn2; exact hn2
end Go.Proofs.Ytaikojfonleccaa
namespace Go.Proofs.Ytaikojfonleccaa
section
variable {s : Sale} {r : Nat} {off : List Nat} {lb : Nat}
theorem tr_asked (h0 : (checkS s).2.2 = 0) {ring : List Int} {bits : Nat} : askedE s (toldL s ring off lb bits) = 0 := by rw [askedE_cat h0]; exact told_cat (Di h0)
end
section
variable {s : Sale} {l : List Ent}
theorem fw_bad (h : ¬ ((checkS s).2.2 = 0 ∧ catE s l = 0)) : (wrongE s l).1 = [] ∧ (wrongE s l).2 ≠ 0 := by
 have h1 : askedE s l ≠ 0 := fun h2 => h (askedE_ok h2)
 rw [wrongE_bad rfl h1]; exact ⟨rfl, h1⟩
theorem fw_asked (h0 : (checkS s).2.2 = 0) (hc : catE s l = 0) : askedE s l = 0 := by rw [askedE_cat h0]; exact hc
theorem fw_wrong : ∃ x ∈ everyR s.bidders.length, wrongP s l = badL s l x ∧ ∀ y ∈ everyR s.bidders.length, (wrongP s l).length ≤ (badL s l y).length := by
 obtain ⟨x, hx, he, hb⟩ := wrong_best (s := s) (l := l)
 refine ⟨x, hx, he, fun y hy => ?_⟩
 rw [he]
 rcases hb y hy with h | ⟨h, -⟩ <;> omega
theorem wrongP_asc : Asc (wrongP s l) := by obtain ⟨x, -, h, -⟩ := fw_wrong (s := s) (l := l); rw [h]; exact badL_asc
theorem wrongP_lt : ∀ i ∈ wrongP s l, i < l.length := by obtain ⟨x, -, h, -⟩ := fw_wrong (s := s) (l := l); rw [h]; exact badL_lt
theorem wrongP_len : (wrongP s l).length ≤ l.length := by
 have := sub_len (b := List.range l.length) wrongP_asc (fun i hi => List.mem_range.2 (wrongP_lt (s := s) i hi))
 simpa using this
theorem fw_rings (h0 : (checkS s).2.2 = 0) (hc : catE s l = 0) : (ringsE s (lackL l (wrongP s l))).2 = 0 := by
 obtain ⟨x, hx, he, -⟩ := fw_wrong (s := s) (l := l)
 rw [ringsE_ok (fw_asked h0 (lack_cat hc)) (fun h => ?_)]
 have : x ∈ fitS s (lackL l (wrongP s l)) [] := fit_lack.2 ⟨hx, fun i hi => by rw [he]; exact hi⟩
 rw [h] at this; cases this
theorem fw_fewest {o : List Nat} (hg : (ringsE s (lackL l o)).2 = 0) (h0 : (checkS s).2.2 = 0) (hc : catE s l = 0) : (wrongP s l).length ≤ o.length := by
 obtain ⟨x, hx, he, hm⟩ := fw_wrong (s := s) (l := l)
 by_cases hf : fitS s (lackL l o) [] = []
 · rw [ringsE_none (fw_asked h0 (lack_cat hc)) hf] at hg; cases hg
 · obtain ⟨y, hy⟩ := List.exists_mem_of_ne_nil _ hf
   obtain ⟨h1, h2⟩ := fit_lack.1 hy
   exact Nat.le_trans (hm y h1) (sub_len badL_asc h2)
theorem fw_told {r : Nat} {off : List Nat} {lb bits : Nat} (hv : ValidS s) : (wrongP s (toldL s (castL (ringN s r)) off lb bits)).length ≤ (selTo bits.testBit (toldL s (castL (ringN s r)) off lb bits).length).length := by
 obtain ⟨x, hx, he, hm⟩ := fw_wrong (s := s) (l := toldL s (castL (ringN s r)) off lb bits)
 refine Nat.le_trans (hm _ ringN_every) (sub_len badL_asc fun i hi => mem_selTo.2 ⟨badL_lt i hi, told_bad hv i hi⟩)
end
section
variable {s : Sale} {l : List Ent} {o : List Nat}
end
end Go.Proofs.Ytaikojfonleccaa
namespace Go.Proofs.Ytaikojfonleccaa
open Go.RowKit
theorem agg_82 : AggT Try.prog 82 3 := aggT_of (by kernel_rfl)
theorem bd_38 : Body Try.prog 38 := Bt (by kernel_rfl)
theorem bd_43 : Body Try.prog 43 := Bt (by kernel_rfl)
end Go.Proofs.Ytaikojfonleccaa
namespace Go.Proofs.Ytaikojfonleccaa
open Go.RowKit
theorem bd_47 : Body Try.prog 47 := Bt (by kernel_rfl)
end Go.Proofs.Ytaikojfonleccaa
namespace Go.Proofs.Ytaikojfonleccaa
open Go.RowKit
theorem fd_87_0 : FieldT Try.prog 87 0 0 := B8 (by kernel_rfl)
theorem fd_87_1 : FieldT Try.prog 87 1 3 := B8 (by kernel_rfl)
set_option maxRecDepth 100000 in
theorem fewestLaw_ok {F : Heap} {vs vb vl vn vd : Value} {s : Sale} (hr : SaleR F vs vb vl vn vd s) {ve : Value} {l : List Ent} (he : Sl F ve 4 Ent.enc l) {vo : Value} {off : List Nat} (ho_ : Sl F vo 1 u16E off) (hob : ∀ x ∈ off, x < 65536) {r lb cb : Nat} : Ok Try.prog 12 [.agg #[vs, .int .i64 s.premium, .int .i64 s.fee, .int .i64 s.days, vb, vl, vn, vd], ve, .agg #[.int .u8 (r : Int), .int .u8 (lb : Int), vo, .int .u8 (cb : Int)]].toArray F fun u _ => u = .bool true := by
 refine Ok.intro Try.func12 rfl Try.ntmps12 rfl fun w0 => ?_
 have hle0 : F.le F := Heap.le_refl _
 have hL9 := he.plain.lt
 by_cases h0 : (checkS s).2.2 = 0
 ·
  by_cases hc : catE s l = 0
  ·
   have hv := Di h0
   have hL := hv.nl
   have hl6 := ent_len hv hc
   refine Ag <| Ai fun ds => Bn rfl (Cf (Ak rfl) rfl fun b1 hb1 nb1 => ?_)
   refine Bn rfl (Cf (Al rfl <| Ak rfl) rfl fun b2 hb2 nb2 => ?_)
   refine Aa rfl (Ae Ac) ?_
   refine Ah <| Ad <| Ag <| Ai fun ds => Aa rfl (Bh Ca (Ao rfl <| Ab) rfl rfl (Bk 1 rfl)) ?_
   refine Aa rfl (Af (Az rfl <| Ak rfl)) ?_
   refine Bn rfl (Cp bd_33 A2 (.cons (Al rfl <| Ab) (.cons (Ab) .nil)) ((wrong_ok hr he).mono fun u F2 _ h => (by rw [wrongE_ok (fw_asked h0 hc)] at h; exact h : ∃ w, u = .tuple #[w, .int .i64 0] ∧ Nats F2 w (wrongP s l))) fun v3 F4 hr5 hF6 => ?_)
   replace hr := hr.mono hF6
   replace he := he.mono hF6
   replace ho_ := ho_.mono hF6
   replace hle0 := Heap.le_trans hle0 hF6
   obtain ⟨hq1_, rfl, hq1⟩ := hr5
   refine Aa rfl (Af (Ab)) ?_
   refine Aa rfl (A5 (Ab) rfl) ?_
   refine Aa rfl (A5 (Al rfl <| Ab) rfl) ?_
   refine Aa rfl (Ae (Al rfl <| Ab)) ?_
   refine Aa rfl (Ae (Al rfl <| Ab)) ?_
   refine Ah <| Ad <| Ag <| Ag <| Ai fun ds => Aa rfl (Bh Ca (Ba rfl <| Ao rfl <| Ab) rfl rfl (Bk 1 rfl)) ?_
   refine Bw rfl (Bc bd_38 A2 (.cons (Ab) .nil) (valid_ok hr) (fun _ _ h => h)) ?_
   refine Aa rfl (Ct (Ab)) ?_
   refine Aa rfl (Af (Ab)) ?_
   refine At rfl rfl (Ab) (by simp [h0]) ?_
   refine Aa rfl (Bh Ca (Ba rfl <| Az rfl <| Ao rfl <| Ab) rfl rfl (Bk 1 rfl)) ?_
   refine At rfl rfl (Al rfl <| Ab) (by simp [h0]) ?_
   refine Aa rfl (Af (A8 rfl <| Ak rfl)) ?_
   refine At rfl rfl (Ao rfl <| Ab) (by simp [h0]) ?_
   refine Bw rfl (Bc bd_46 A2 (.cons (Al rfl <| Ab) (.cons (Ab) .nil)) (refCatalogue_ok hr he) (fun _ _ h => h)) ?_
   refine At rfl rfl (Ao rfl <| Al rfl <| Ab) (by simp [h0]) ?_
   refine Aa rfl (B7 (Ab) Ac) ?_
   refine Aa rfl (A7 (Az rfl <| Ab) (by simp [h0]) (Ab)) ?_
   refine Ah <| Ad <| Am (Ab) (decide_eq_false (fun h => h hc)) ?_
   refine Aw <| Ad <| Ag <| Ag <| Ai fun ds => Aa rfl (Af (Ba rfl <| Al rfl <| Ab)) ?_
   refine Aa rfl (B7 (Ab) Ac) ?_
   refine Ah <| Ad <| Am (Ab) (by first | rfl | decide) ?_
   refine Aw <| Ad <| Ag <| Ai fun ds => Aa rfl (Ae Ac) ?_
   refine Ah <| Ad <| Ag <| Ag <| Ai fun ds => Aa rfl (Ae Ac) ?_
   refine Ah <| Ad <| A4 <| Bz [6, 9, 10, 47, 48, 49, 50, 51, 52, 53, 54, 55, 56, 57, 58, 59, 60, 61, 62, 63, 64, 65, 66, 67, 68, 69, 70, 71, 72, 73, 74, 75, 76, 77, 78, 79, 80, 81, 82, 83, 84, 85, 86, 87, 88, 89, 90, 91, 92, 93, 94, 95, 96, 97, 98] (fun m e σ => ∃ k : Nat, m + k = l.length ∧ e 10 = .int .i64 (k : Int) ∧ ∃ v R, e 9 = v ∧ Own 3 1 v (selTo cb.testBit k).length ((selTo cb.testBit k).flatMap natE) R ∧ σ = ⟨F4, (b2, bx 87 [.int .u8 (r : Int), .int .u8 (lb : Int), vo, .int .u8 (cb : Int)]) :: (b1, bx 27 [vs, .int .i64 s.premium, .int .i64 s.fee, .int .i64 s.days, vb, vl, vn, vd]) :: R⟩) (l.length) ?_ ?_
   · exact ⟨0, by omega, (Ab), _, _, (Al rfl <| Ab), own_nil, rfl⟩
   ·
    rintro m e _ ⟨k, hm, hs10, v9, R9, hs9, ho, rfl⟩; have hsl := Ek (p := cb.testBit) (k := k)
    by_cases hlt : k < l.length
    ·
     refine Ag <| Ag <| Ai fun ds => Aa rfl (Af (As rfl hs10)) ?_
     refine Aa rfl (Af (Al rfl <| Ap rfl <| A8 rfl <| Ba rfl <| Ak rfl)) ?_
     refine Aa rfl (Bg Cv (Ab) he.plain) ?_
     refine Aa rfl (Bs (Ao rfl <| Ab) (Ab)) ?_
     refine Ah <| Ad <| Ar (Ab) (by first | rfl | exact decide_eq_true (by omega)) ?_
     by_cases hb : cb.testBit k = true
     ·
      refine Aw <| Ad <| Ag <| A4 <| Ag <| Ag <| Ai fun ds => Aa rfl (Aj fd_87_1 (Az rfl <| Ap rfl <| A8 rfl <| Az rfl <| Ao rfl <| Ab)) ?_
      refine Aa rfl (Aq one_5 (Ab) (Cell.own 0 rfl rfl)) ?_
      refine Aa rfl (Af (Az rfl <| Ao rfl <| As rfl hs10)) ?_
      refine Aa rfl (Ew (Al rfl <| Ab) (Ab) (k := k) rfl (by show k < 8; omega) De) ?_
      refine Aa rfl (E8 (Ab) Ac (Int.natCast_nonneg _) (by decide)) ?_
      refine Aa rfl (B1 (Ab) Ac) ?_
      refine Ah <| Ad <| Ar (Ab) (by rw [Ex]; exact hb) ?_
      by_cases hkw : k < (wrongP s l).length
      ·
       have hw2 := wrongP_lt (s := s) _ (List.getElem_mem hkw)
       refine Ai fun ds => Aa rfl (Af (Ba rfl <| Ao rfl <| As rfl hs9)) ?_
       refine Aa rfl (Af (Ba rfl <| Ao rfl <| Al rfl <| As rfl hs10)) ?_
       refine Bn rfl (B0 Bq C8 rfl (.cons (Ab) .nil) rfl rfl (by decide) (by simp [Value.oneCell']) fun b8 hb8 nb8 => ?_)
       refine Bn rfl (Cw Bq el_3 (Ao rfl <| Ab) ho (Ab) (C6 (s := 1) 0 rfl rfl (by simp [Value.oneCell'])) (by omega) (by omega) (.s <| .s <| .s <| .z) .last fun v9 R10 ho11 => ?_)
       have ho2 := ho11.snoc (x := k) rfl rfl
       refine Aa rfl (Ae (Ab)) ?_
       refine Ah <| Ad <| Ag <| Cb (.inl rfl) (fun _ _ h => h) (by kernel_rfl) (by kernel_rfl) fun ds => ?_
       refine A0 rfl (Af (Ba rfl <| Az rfl <| Ao rfl <| Al rfl <| As rfl hs10)) ?_
       refine A0 rfl (Af (A8 rfl <| Ap rfl <| Ba rfl <| Az rfl <| Ao rfl <| Ab)) ?_
       refine A0 rfl (Bg Bq (Ab) hq1.plain) ?_
       refine A0 rfl (Bs (Ao rfl <| Ab) (Ab)) ?_
       refine A0 rfl (Af (Ab)) ?_
       refine A1 rfl rfl (Ab) (decide_eq_true (by omega)) ?_
       refine A0 rfl (Af (A8 rfl <| Az rfl <| Ap rfl <| Ba rfl <| Az rfl <| Ao rfl <| Ab)) ?_
       refine A1 rfl rfl (Al rfl <| Ab) (decide_eq_true (by omega)) ?_
       refine A0 rfl (Af (A8 rfl <| Az rfl <| Al rfl <| As rfl hs10)) ?_
       refine A1 rfl rfl (Ao rfl <| Ab) (decide_eq_true (by omega)) ?_
       refine A0 rfl (Bj  Bq (Al rfl <| Ab) hq1.plain (Ab) rfl hkw) ?_
       refine A1 rfl rfl (Ao rfl <| Al rfl <| Ab) (decide_eq_true (by omega)) ?_
       refine A0 rfl (Aq Bi (Ab) (hq1.cell1 hkw rfl)) ?_
       refine A1 rfl rfl (Az rfl <| Ab) (decide_eq_true (by omega)) ?_
       refine A0 rfl (Bs (Ab) Ac) ?_
       refine A1 rfl rfl (Az rfl <| Al rfl <| Ab) (decide_eq_true (by omega)) ?_
       refine A0 rfl (Af (Ab)) ?_
       refine A1 rfl rfl (Ab) (decide_eq_false (by omega)) ?_
       refine A0 rfl (Af (A8 rfl <| Ba rfl <| Ao rfl <| Ap rfl <| Ba rfl <| Az rfl <| Ao rfl <| Ab)) ?_
       refine A1 rfl rfl (Al rfl <| Ab) (decide_eq_false (by omega)) ?_
       refine A0 rfl (Af (A8 rfl <| Ba rfl <| Ao rfl <| Al rfl <| As rfl hs10)) ?_
       refine A1 rfl rfl (Ao rfl <| Ab) (decide_eq_false (by omega)) ?_
       refine A0 rfl (Bj  Bq (Al rfl <| Ab) hq1.plain (Ab) rfl hkw) ?_
       refine A1 rfl rfl (Ao rfl <| Al rfl <| Ab) (decide_eq_false (by omega)) ?_
       refine A0 rfl (Aq Bi (Ab) (hq1.cell1 hkw rfl)) ?_
       refine A1 rfl rfl (Az rfl <| Ab) (decide_eq_false (by omega)) ?_
       refine A0 rfl (Af (A8 rfl <| Ba rfl <| Az rfl <| Ao rfl <| Ap rfl <| A8 rfl <| Ba rfl <| Ak rfl)) ?_
       refine A1 rfl rfl (Az rfl <| Al rfl <| Ab) (decide_eq_false (by omega)) ?_
       refine A0 rfl (Bg Cv (Ab) he.plain) ?_
       refine A1 rfl rfl (Az rfl <| Ao rfl <| Ab) (decide_eq_false (by omega)) ?_
       refine A0 rfl (Dr (Ao rfl <| Ab) (Ab)) ?_
       refine A1 rfl rfl (Ba rfl <| Az rfl <| Al rfl <| Ab) (decide_eq_true (by omega)) ?_
       refine A0 rfl (A7 (Az rfl <| Ao rfl <| Al rfl <| Ab) (decide_eq_false (by omega)) (Ab)) ?_
       refine A1 rfl rfl (Ba rfl <| Az rfl <| Ao rfl <| Ab) (decide_eq_true (by omega)) ?_
       refine A0 rfl (Af (Ab)) ?_
       refine A1 rfl rfl (Ab) (decide_eq_false (by omega)) ?_
       refine A0 rfl (Af (Bl rfl <| Ao rfl <| Al rfl <| As rfl hs10)) ?_
       refine A1 rfl rfl (Al rfl <| Ab) (decide_eq_false (by omega)) ?_
       refine A0 rfl (Ck (Ab) Ac) ?_
       refine A1 rfl rfl (Ao rfl <| Ab) (decide_eq_false (by omega)) ?_
       refine A0 rfl (Af (Ab)) ?_
       by_cases hk0 : 0 < k
       ·
        have hkw1 : k - 1 < (wrongP s l).length := by omega
        have hw3 := List.pairwise_iff_getElem.1 (wrongP_asc (s := s) (l := l)) (k - 1) k hkw1 hkw (by omega)
        refine A1 rfl rfl (Ab) (decide_eq_true (by omega)) ?_
        refine A0 rfl (Af (Bl rfl <| Az rfl <| Ao rfl <| Ap rfl <| Ba rfl <| Az rfl <| Ao rfl <| Ab)) ?_
        refine A1 rfl rfl (Al rfl <| Ab) (decide_eq_true (by omega)) ?_
        refine A0 rfl (Af (Bl rfl <| Az rfl <| Ao rfl <| Al rfl <| As rfl hs10)) ?_
        refine A1 rfl rfl (Ao rfl <| Ab) (decide_eq_true (by omega)) ?_
        refine A0 rfl (Bj  Bq (Al rfl <| Ab) hq1.plain (Ab) rfl hkw) ?_
        refine A1 rfl rfl (Ao rfl <| Al rfl <| Ab) (decide_eq_true (by omega)) ?_
        refine A0 rfl (Aq Bi (Ab) (hq1.cell1 hkw rfl)) ?_
        refine A1 rfl rfl (Az rfl <| Ab) (decide_eq_true (by omega)) ?_
        refine A0 rfl (Af (Bl rfl <| Ba rfl <| Ao rfl <| Ap rfl <| Ba rfl <| Az rfl <| Ao rfl <| Ab)) ?_
        refine A1 rfl rfl (Az rfl <| Al rfl <| Ab) (decide_eq_true (by omega)) ?_
        refine A0 rfl (Af (Bl rfl <| Ba rfl <| Ao rfl <| Al rfl <| As rfl hs10)) ?_
        refine A1 rfl rfl (Az rfl <| Ao rfl <| Ab) (decide_eq_true (by omega)) ?_
        refine A0 rfl (Cj (Ab) Ac rfl (by omega) (by omega)) ?_
        refine A1 rfl rfl (Az rfl <| Ao rfl <| Al rfl <| Ab) (decide_eq_true (by omega)) ?_
        refine A0 rfl (Bj (k := k - 1) Bq (Ao rfl <| Ab) hq1.plain (Ab) (by omega) hkw1) ?_
        refine A1 rfl rfl (Ba rfl <| Ab) (decide_eq_true (by omega)) ?_
        refine A0 rfl (Aq Bi (Ab) (hq1.cell1 hkw1 rfl)) ?_
        refine A1 rfl rfl (Ba rfl <| Al rfl <| Ab) (decide_eq_true (by omega)) ?_
        refine A0 rfl (Eh (Az rfl <| Al rfl <| Ab) (Ab)) ?_
        refine A1 rfl rfl (Ba rfl <| Az rfl <| Al rfl <| Ab) (decide_eq_false (by omega)) ?_
        refine A0 rfl (A3 (Ba rfl <| Ao rfl <| Ab) (decide_eq_true (by omega)) (Ab)) ?_
        refine A1 rfl rfl (A8 rfl <| Ba rfl <| Az rfl <| Al rfl <| Ab) (decide_eq_true (by omega)) ?_
        refine A0 rfl (A7 (Ba rfl <| Az rfl <| Ao rfl <| Ab) (decide_eq_false (by omega)) (Ab)) ?_
        refine A0 rfl (A3 (A8 rfl <| Ba rfl <| Az rfl <| Ao rfl <| Ab) (decide_eq_true (by omega)) (Ab)) ?_
        refine B9 ?_
        refine Ad <| Am (Ab) (decide_eq_false (by omega)) ?_
        refine Aw <| Bf <| Ad <| Cc (fun _ _ h => h.drop (.cons _ <| .cons_cons _ <| .cons_cons _ <| .refl _)) ?_
        refine Ai fun ds => Aa rfl (Af (Bl rfl <| A8 rfl <| Ao rfl <| Al rfl <| As rfl hs10)) ?_
        refine Aa rfl (Bp (Ab) Ac rfl (by omega) (by omega)) ?_
        refine Aa rfl (Ae (Ab)) ?_
        refine Ah <| Ad ⟨_, m - 1, Off.eq (D1 rfl <| C3 rfl <| E0 rfl <| Eo rfl <| Be), by omega, ?_⟩
        exact ⟨k + 1, by omega, (Ab), _, _, (Bl rfl <| Az rfl <| Ao rfl <| Al rfl <| Ab), by rw [Cq, if_pos hb]; exact ho2, rfl⟩
       ·
        refine Ax rfl rfl (Ab) (.inl (congrArg Value.bool (decide_eq_false (by omega)))) rfl ?_
        refine Ax rfl rfl (Al rfl <| Ab) (.inl (congrArg Value.bool (decide_eq_false (by omega)))) rfl ?_
        refine Ax rfl rfl (Ao rfl <| Ab) (.inl (congrArg Value.bool (decide_eq_false (by omega)))) rfl ?_
        refine Ax rfl rfl (Ao rfl <| Al rfl <| Ab) (.inl (congrArg Value.bool (decide_eq_false (by omega)))) rfl ?_
        refine Ax rfl rfl (Az rfl <| Ab) (.inl (congrArg Value.bool (decide_eq_false (by omega)))) rfl ?_
        refine Ax rfl rfl (Az rfl <| Al rfl <| Ab) (.inl (congrArg Value.bool (decide_eq_false (by omega)))) rfl ?_
        refine Ax rfl rfl (Az rfl <| Ao rfl <| Ab) (.inl (congrArg Value.bool (decide_eq_false (by omega)))) rfl ?_
        refine Ax rfl rfl (Az rfl <| Ao rfl <| Al rfl <| Ab) (.inl (congrArg Value.bool (decide_eq_false (by omega)))) rfl ?_
        refine Ax rfl rfl (Ba rfl <| Ab) (.inl (congrArg Value.bool (decide_eq_false (by omega)))) rfl ?_
        refine Ax rfl rfl (Ba rfl <| Al rfl <| Ab) (.inl (congrArg Value.bool (decide_eq_false (by omega)))) rfl ?_
        refine A1 rfl rfl (Ba rfl <| Az rfl <| Al rfl <| Ab) (decide_eq_false (by omega)) ?_
        refine A0 rfl (A7 (Ba rfl <| Ao rfl <| Ab) (decide_eq_false (by omega)) Ac) ?_
        refine A1 rfl rfl (A8 rfl <| Ba rfl <| Az rfl <| Al rfl <| Ab) (decide_eq_true (by omega)) ?_
        refine A0 rfl (A7 (Ba rfl <| Az rfl <| Ao rfl <| Ab) (decide_eq_false (by omega)) (Ab)) ?_
        refine A0 rfl (A3 (A8 rfl <| Ba rfl <| Az rfl <| Ao rfl <| Ab) (decide_eq_true (by omega)) (Ab)) ?_
        refine B9 ?_
        refine Ad <| Am (Ab) rfl ?_
        refine Aw <| Bf <| Ad <| Cc (fun _ _ h => h.drop (.cons _ <| .cons_cons _ <| .cons_cons _ <| .refl _)) ?_
        refine Ai fun ds => Aa rfl (Af (Bl rfl <| A8 rfl <| Ao rfl <| Al rfl <| As rfl hs10)) ?_
        refine Aa rfl (Bp (Ab) Ac rfl (by omega) (by omega)) ?_
        refine Aa rfl (Ae (Ab)) ?_
        refine Ah <| Ad ⟨_, m - 1, Off.eq (D1 rfl <| C3 rfl <| E0 rfl <| Eo rfl <| Be), by omega, ?_⟩
        exact ⟨k + 1, by omega, (Ab), _, _, (Bl rfl <| Az rfl <| Ao rfl <| Al rfl <| Ab), by rw [Cq, if_pos hb]; exact ho2, rfl⟩
      ·
       refine Ai fun ds => Aa rfl (Af (Ba rfl <| Ao rfl <| As rfl hs9)) ?_
       refine Aa rfl (Af (Ba rfl <| Ao rfl <| Al rfl <| As rfl hs10)) ?_
       refine Bn rfl (B0 Bq C8 rfl (.cons (Ab) .nil) rfl rfl (by decide) (by simp [Value.oneCell']) fun b12 hb12 nb12 => ?_)
       refine Bn rfl (Cw Bq el_3 (Ao rfl <| Ab) ho (Ab) (C6 (s := 1) 0 rfl rfl (by simp [Value.oneCell'])) (by omega) (by omega) (.s <| .s <| .s <| .z) .last fun v13 R14 ho15 => ?_)
       have ho2 := ho15.snoc (x := k) rfl rfl
       refine Aa rfl (Ae (Ab)) ?_
       refine Ah <| Ad <| Ag <| Cb (.inl rfl) (fun _ _ h => h) (by kernel_rfl) (by kernel_rfl) fun ds => ?_
       refine A0 rfl (Af (Ba rfl <| Az rfl <| Ao rfl <| Al rfl <| As rfl hs10)) ?_
       refine A0 rfl (Af (A8 rfl <| Ap rfl <| Ba rfl <| Az rfl <| Ao rfl <| Ab)) ?_
       refine A0 rfl (Bg Bq (Ab) hq1.plain) ?_
       refine A0 rfl (Bs (Ao rfl <| Ab) (Ab)) ?_
       refine A0 rfl (Af (Ab)) ?_
       refine Ax rfl rfl (Ab) (.inl (congrArg Value.bool (decide_eq_false (by omega)))) rfl ?_
       refine Ax rfl rfl (Al rfl <| Ab) (.inl (congrArg Value.bool (decide_eq_false (by omega)))) rfl ?_
       refine Ax rfl rfl (Ao rfl <| Ab) (.inl (congrArg Value.bool (decide_eq_false (by omega)))) rfl ?_
       refine Ax rfl rfl (Ao rfl <| Al rfl <| Ab) (.inl (congrArg Value.bool (decide_eq_false (by omega)))) rfl ?_
       refine Ax rfl rfl (Az rfl <| Ab) (.inl (congrArg Value.bool (decide_eq_false (by omega)))) rfl ?_
       refine Ax rfl rfl (Az rfl <| Al rfl <| Ab) (.inl (congrArg Value.bool (decide_eq_false (by omega)))) rfl ?_
       refine Ax rfl rfl (Ab) (.inr rfl) rfl ?_
       refine Ax rfl rfl (Al rfl <| Ab) (.inr rfl) rfl ?_
       refine Ax rfl rfl (Ao rfl <| Ab) (.inr rfl) rfl ?_
       refine Ax rfl rfl (Ao rfl <| Al rfl <| Ab) (.inr rfl) rfl ?_
       refine Ax rfl rfl (Az rfl <| Ab) (.inr rfl) rfl ?_
       refine Ax rfl rfl (Az rfl <| Al rfl <| Ab) (.inr rfl) rfl ?_
       refine Ax rfl rfl (Az rfl <| Ao rfl <| Ab) (.inr rfl) rfl ?_
       refine Ax rfl rfl (Ba rfl <| Az rfl <| Al rfl <| Ab) (.inl (congrArg Value.bool (decide_eq_false (by omega)))) rfl ?_
       refine Ax rfl rfl (Ba rfl <| Az rfl <| Ao rfl <| Ab) (.inl (congrArg Value.bool (decide_eq_false (by omega)))) rfl ?_
       refine Ax rfl rfl (Ab) (.inr rfl) rfl ?_
       refine Ax rfl rfl (Al rfl <| Ab) (.inr rfl) rfl ?_
       refine Ax rfl rfl (Ao rfl <| Ab) (.inr rfl) rfl ?_
       refine Ax rfl rfl (Ab) (.inr rfl) rfl ?_
       refine Ax rfl rfl (Al rfl <| Ab) (.inr rfl) rfl ?_
       refine Ax rfl rfl (Ao rfl <| Ab) (.inr rfl) rfl ?_
       refine Ax rfl rfl (Ao rfl <| Al rfl <| Ab) (.inr rfl) rfl ?_
       refine Ax rfl rfl (Az rfl <| Ab) (.inr rfl) rfl ?_
       refine Ax rfl rfl (Az rfl <| Al rfl <| Ab) (.inr rfl) rfl ?_
       refine Ax rfl rfl (Az rfl <| Ao rfl <| Ab) (.inr rfl) rfl ?_
       refine Ax rfl rfl (Az rfl <| Ao rfl <| Al rfl <| Ab) (.inr rfl) rfl ?_
       refine Ax rfl rfl (Ba rfl <| Ab) (.inr rfl) rfl ?_
       refine Ax rfl rfl (Ba rfl <| Al rfl <| Ab) (.inr rfl) rfl ?_
       refine Ax rfl rfl (Ba rfl <| Az rfl <| Al rfl <| Ab) (.inr rfl) rfl ?_
       refine Ax rfl rfl (A8 rfl <| Ba rfl <| Az rfl <| Al rfl <| Ab) (.inl (congrArg Value.bool (decide_eq_false (by omega)))) rfl ?_
       refine A0 rfl (A7 (A8 rfl <| Ba rfl <| Az rfl <| Ao rfl <| Ab) (decide_eq_false (by omega)) Ac) ?_
       refine B9 ?_
       refine Ad <| Am (Ab) rfl ?_
       refine Aw <| Bf <| Ad <| Cc (fun _ _ h => h.drop (.cons _ <| .cons_cons _ <| .cons_cons _ <| .refl _)) ?_
       refine Ai fun ds => Aa rfl (Af (Bl rfl <| A8 rfl <| Ao rfl <| Al rfl <| As rfl hs10)) ?_
       refine Aa rfl (Bp (Ab) Ac rfl (by omega) (by omega)) ?_
       refine Aa rfl (Ae (Ab)) ?_
       refine Ah <| Ad ⟨_, m - 1, Off.eq (D1 rfl <| C3 rfl <| E0 rfl <| Eo rfl <| Be), by omega, ?_⟩
       exact ⟨k + 1, by omega, (Ab), _, _, (Bl rfl <| Az rfl <| Ao rfl <| Al rfl <| Ab), by rw [Cq, if_pos hb]; exact ho2, rfl⟩
     ·
      replace hb : cb.testBit k = false := by simpa using hb
      refine Aw <| Ad <| Ag <| A4 <| Ag <| Ag <| Ai fun ds => Aa rfl (Aj fd_87_1 (Az rfl <| Ap rfl <| A8 rfl <| Az rfl <| Ao rfl <| Ab)) ?_
      refine Aa rfl (Aq one_5 (Ab) (Cell.own 0 rfl rfl)) ?_
      refine Aa rfl (Af (Az rfl <| Ao rfl <| As rfl hs10)) ?_
      refine Aa rfl (Ew (Al rfl <| Ab) (Ab) (k := k) rfl (by show k < 8; omega) De) ?_
      refine Aa rfl (E8 (Ab) Ac (Int.natCast_nonneg _) (by decide)) ?_
      refine Aa rfl (B1 (Ab) Ac) ?_
      refine Ah <| Ad <| Am (Ab) (by rw [Ex]; exact hb) ?_
      by_cases hkw : k < (wrongP s l).length
      ·
       have hw2 := wrongP_lt (s := s) _ (List.getElem_mem hkw)
       refine Aw <| Ad <| Ag <| Cb (.inl rfl) (fun _ _ h => h) (by kernel_rfl) (by kernel_rfl) fun ds => ?_
       refine A0 rfl (Af (Ba rfl <| Ao rfl <| As rfl hs10)) ?_
       refine A0 rfl (Af (Ba rfl <| Ao rfl <| Al rfl <| Ap rfl <| Ba rfl <| Az rfl <| Ao rfl <| Ab)) ?_
       refine A0 rfl (Bg Bq (Ab) hq1.plain) ?_
       refine A0 rfl (Bs (Ao rfl <| Ab) (Ab)) ?_
       refine A0 rfl (Af (Ab)) ?_
       refine A1 rfl rfl (Ab) (decide_eq_true (by omega)) ?_
       refine A0 rfl (Af (Ba rfl <| Az rfl <| Ao rfl <| Al rfl <| Ap rfl <| Ba rfl <| Az rfl <| Ao rfl <| Ab)) ?_
       refine A1 rfl rfl (Al rfl <| Ab) (decide_eq_true (by omega)) ?_
       refine A0 rfl (Af (A8 rfl <| As rfl hs10)) ?_
       refine A1 rfl rfl (Ao rfl <| Ab) (decide_eq_true (by omega)) ?_
       refine A0 rfl (Bj  Bq (Al rfl <| Ab) hq1.plain (Ab) rfl hkw) ?_
       refine A1 rfl rfl (Ao rfl <| Al rfl <| Ab) (decide_eq_true (by omega)) ?_
       refine A0 rfl (Aq Bi (Ab) (hq1.cell1 hkw rfl)) ?_
       refine A1 rfl rfl (Az rfl <| Ab) (decide_eq_true (by omega)) ?_
       refine A0 rfl (Bs (Ab) Ac) ?_
       refine A1 rfl rfl (Az rfl <| Al rfl <| Ab) (decide_eq_true (by omega)) ?_
       refine A0 rfl (Af (Ab)) ?_
       refine A1 rfl rfl (Ab) (decide_eq_false (by omega)) ?_
       refine A0 rfl (Af (A8 rfl <| Az rfl <| Al rfl <| Ap rfl <| Ba rfl <| Az rfl <| Ao rfl <| Ab)) ?_
       refine A1 rfl rfl (Al rfl <| Ab) (decide_eq_false (by omega)) ?_
       refine A0 rfl (Af (A8 rfl <| Az rfl <| Ao rfl <| As rfl hs10)) ?_
       refine A1 rfl rfl (Ao rfl <| Ab) (decide_eq_false (by omega)) ?_
       refine A0 rfl (Bj  Bq (Al rfl <| Ab) hq1.plain (Ab) rfl hkw) ?_
       refine A1 rfl rfl (Ao rfl <| Al rfl <| Ab) (decide_eq_false (by omega)) ?_
       refine A0 rfl (Aq Bi (Ab) (hq1.cell1 hkw rfl)) ?_
       refine A1 rfl rfl (Az rfl <| Ab) (decide_eq_false (by omega)) ?_
       refine A0 rfl (Af (A8 rfl <| Ba rfl <| Al rfl <| Ap rfl <| A8 rfl <| Ba rfl <| Ak rfl)) ?_
       refine A1 rfl rfl (Az rfl <| Al rfl <| Ab) (decide_eq_false (by omega)) ?_
       refine A0 rfl (Bg Cv (Ab) he.plain) ?_
       refine A1 rfl rfl (Az rfl <| Ao rfl <| Ab) (decide_eq_false (by omega)) ?_
       refine A0 rfl (Dr (Ao rfl <| Ab) (Ab)) ?_
       refine A1 rfl rfl (Ba rfl <| Az rfl <| Al rfl <| Ab) (decide_eq_true (by omega)) ?_
       refine A0 rfl (A7 (Az rfl <| Ao rfl <| Al rfl <| Ab) (decide_eq_false (by omega)) (Ab)) ?_
       refine A1 rfl rfl (Ba rfl <| Az rfl <| Ao rfl <| Ab) (decide_eq_true (by omega)) ?_
       refine A0 rfl (Af (Ab)) ?_
       refine A1 rfl rfl (Ab) (decide_eq_false (by omega)) ?_
       refine A0 rfl (Af (A8 rfl <| Ba rfl <| Az rfl <| Ao rfl <| As rfl hs10)) ?_
       refine A1 rfl rfl (Al rfl <| Ab) (decide_eq_false (by omega)) ?_
       refine A0 rfl (Ck (Ab) Ac) ?_
       refine A1 rfl rfl (Ao rfl <| Ab) (decide_eq_false (by omega)) ?_
       refine A0 rfl (Af (Ab)) ?_
       by_cases hk0 : 0 < k
       ·
        have hkw1 : k - 1 < (wrongP s l).length := by omega
        have hw3 := List.pairwise_iff_getElem.1 (wrongP_asc (s := s) (l := l)) (k - 1) k hkw1 hkw (by omega)
        refine A1 rfl rfl (Ab) (decide_eq_true (by omega)) ?_
        refine A0 rfl (Af (Bl rfl <| Al rfl <| Ap rfl <| Ba rfl <| Az rfl <| Ao rfl <| Ab)) ?_
        refine A1 rfl rfl (Al rfl <| Ab) (decide_eq_true (by omega)) ?_
        refine A0 rfl (Af (Bl rfl <| Ao rfl <| As rfl hs10)) ?_
        refine A1 rfl rfl (Ao rfl <| Ab) (decide_eq_true (by omega)) ?_
        refine A0 rfl (Bj  Bq (Al rfl <| Ab) hq1.plain (Ab) rfl hkw) ?_
        refine A1 rfl rfl (Ao rfl <| Al rfl <| Ab) (decide_eq_true (by omega)) ?_
        refine A0 rfl (Aq Bi (Ab) (hq1.cell1 hkw rfl)) ?_
        refine A1 rfl rfl (Az rfl <| Ab) (decide_eq_true (by omega)) ?_
        refine A0 rfl (Af (Bl rfl <| Az rfl <| Al rfl <| Ap rfl <| Ba rfl <| Az rfl <| Ao rfl <| Ab)) ?_
        refine A1 rfl rfl (Az rfl <| Al rfl <| Ab) (decide_eq_true (by omega)) ?_
        refine A0 rfl (Af (Bl rfl <| Az rfl <| Ao rfl <| As rfl hs10)) ?_
        refine A1 rfl rfl (Az rfl <| Ao rfl <| Ab) (decide_eq_true (by omega)) ?_
        refine A0 rfl (Cj (Ab) Ac rfl (by omega) (by omega)) ?_
        refine A1 rfl rfl (Az rfl <| Ao rfl <| Al rfl <| Ab) (decide_eq_true (by omega)) ?_
        refine A0 rfl (Bj (k := k - 1) Bq (Ao rfl <| Ab) hq1.plain (Ab) (by omega) hkw1) ?_
        refine A1 rfl rfl (Ba rfl <| Ab) (decide_eq_true (by omega)) ?_
        refine A0 rfl (Aq Bi (Ab) (hq1.cell1 hkw1 rfl)) ?_
        refine A1 rfl rfl (Ba rfl <| Al rfl <| Ab) (decide_eq_true (by omega)) ?_
        refine A0 rfl (Eh (Az rfl <| Al rfl <| Ab) (Ab)) ?_
        refine A1 rfl rfl (Ba rfl <| Az rfl <| Al rfl <| Ab) (decide_eq_false (by omega)) ?_
        refine A0 rfl (A3 (Ba rfl <| Ao rfl <| Ab) (decide_eq_true (by omega)) (Ab)) ?_
        refine A1 rfl rfl (A8 rfl <| Ba rfl <| Az rfl <| Al rfl <| Ab) (decide_eq_true (by omega)) ?_
        refine A0 rfl (A7 (Ba rfl <| Az rfl <| Ao rfl <| Ab) (decide_eq_false (by omega)) (Ab)) ?_
        refine A0 rfl (A3 (A8 rfl <| Ba rfl <| Az rfl <| Ao rfl <| Ab) (decide_eq_true (by omega)) (Ab)) ?_
        refine B9 ?_
        refine Ad <| Am (Ab) (decide_eq_false (by omega)) ?_
        refine Aw <| Bf <| Ad <| Ai fun ds => Aa rfl (Af (Bl rfl <| Ba rfl <| Az rfl <| Ao rfl <| As rfl hs10)) ?_
        refine Aa rfl (Bp (Ab) Ac rfl (by omega) (by omega)) ?_
        refine Aa rfl (Ae (Ab)) ?_
        refine Ah <| Ad ⟨_, m - 1, Off.eq (D1 rfl <| C3 rfl <| El rfl <| Be), by omega, ?_⟩
        exact ⟨k + 1, by omega, (Ab), _, _, (Bl rfl <| A8 rfl <| Al rfl <| As rfl hs9), by rw [Cq, if_neg (by rw [hb]; simp)]; exact ho, rfl⟩
       ·
        refine Ax rfl rfl (Ab) (.inl (congrArg Value.bool (decide_eq_false (by omega)))) rfl ?_
        refine Ax rfl rfl (Al rfl <| Ab) (.inl (congrArg Value.bool (decide_eq_false (by omega)))) rfl ?_
        refine Ax rfl rfl (Ao rfl <| Ab) (.inl (congrArg Value.bool (decide_eq_false (by omega)))) rfl ?_
        refine Ax rfl rfl (Ao rfl <| Al rfl <| Ab) (.inl (congrArg Value.bool (decide_eq_false (by omega)))) rfl ?_
        refine Ax rfl rfl (Az rfl <| Ab) (.inl (congrArg Value.bool (decide_eq_false (by omega)))) rfl ?_
        refine Ax rfl rfl (Az rfl <| Al rfl <| Ab) (.inl (congrArg Value.bool (decide_eq_false (by omega)))) rfl ?_
        refine Ax rfl rfl (Az rfl <| Ao rfl <| Ab) (.inl (congrArg Value.bool (decide_eq_false (by omega)))) rfl ?_
        refine Ax rfl rfl (Az rfl <| Ao rfl <| Al rfl <| Ab) (.inl (congrArg Value.bool (decide_eq_false (by omega)))) rfl ?_
        refine Ax rfl rfl (Ba rfl <| Ab) (.inl (congrArg Value.bool (decide_eq_false (by omega)))) rfl ?_
        refine Ax rfl rfl (Ba rfl <| Al rfl <| Ab) (.inl (congrArg Value.bool (decide_eq_false (by omega)))) rfl ?_
        refine A1 rfl rfl (Ba rfl <| Az rfl <| Al rfl <| Ab) (decide_eq_false (by omega)) ?_
        refine A0 rfl (A7 (Ba rfl <| Ao rfl <| Ab) (decide_eq_false (by omega)) Ac) ?_
        refine A1 rfl rfl (A8 rfl <| Ba rfl <| Az rfl <| Al rfl <| Ab) (decide_eq_true (by omega)) ?_
        refine A0 rfl (A7 (Ba rfl <| Az rfl <| Ao rfl <| Ab) (decide_eq_false (by omega)) (Ab)) ?_
        refine A0 rfl (A3 (A8 rfl <| Ba rfl <| Az rfl <| Ao rfl <| Ab) (decide_eq_true (by omega)) (Ab)) ?_
        refine B9 ?_
        refine Ad <| Am (Ab) rfl ?_
        refine Aw <| Bf <| Ad <| Ai fun ds => Aa rfl (Af (Bl rfl <| Ba rfl <| Az rfl <| Ao rfl <| As rfl hs10)) ?_
        refine Aa rfl (Bp (Ab) Ac rfl (by omega) (by omega)) ?_
        refine Aa rfl (Ae (Ab)) ?_
        refine Ah <| Ad ⟨_, m - 1, Off.eq (D1 rfl <| C3 rfl <| El rfl <| Be), by omega, ?_⟩
        exact ⟨k + 1, by omega, (Ab), _, _, (Bl rfl <| A8 rfl <| Al rfl <| As rfl hs9), by rw [Cq, if_neg (by rw [hb]; simp)]; exact ho, rfl⟩
      ·
       refine Aw <| Ad <| Ag <| Cb (.inl rfl) (fun _ _ h => h) (by kernel_rfl) (by kernel_rfl) fun ds => ?_
       refine A0 rfl (Af (Ba rfl <| Ao rfl <| As rfl hs10)) ?_
       refine A0 rfl (Af (Ba rfl <| Ao rfl <| Al rfl <| Ap rfl <| Ba rfl <| Az rfl <| Ao rfl <| Ab)) ?_
       refine A0 rfl (Bg Bq (Ab) hq1.plain) ?_
       refine A0 rfl (Bs (Ao rfl <| Ab) (Ab)) ?_
       refine A0 rfl (Af (Ab)) ?_
       refine Ax rfl rfl (Ab) (.inl (congrArg Value.bool (decide_eq_false (by omega)))) rfl ?_
       refine Ax rfl rfl (Al rfl <| Ab) (.inl (congrArg Value.bool (decide_eq_false (by omega)))) rfl ?_
       refine Ax rfl rfl (Ao rfl <| Ab) (.inl (congrArg Value.bool (decide_eq_false (by omega)))) rfl ?_
       refine Ax rfl rfl (Ao rfl <| Al rfl <| Ab) (.inl (congrArg Value.bool (decide_eq_false (by omega)))) rfl ?_
       refine Ax rfl rfl (Az rfl <| Ab) (.inl (congrArg Value.bool (decide_eq_false (by omega)))) rfl ?_
       refine Ax rfl rfl (Az rfl <| Al rfl <| Ab) (.inl (congrArg Value.bool (decide_eq_false (by omega)))) rfl ?_
       refine Ax rfl rfl (Ab) (.inr rfl) rfl ?_
       refine Ax rfl rfl (Al rfl <| Ab) (.inr rfl) rfl ?_
       refine Ax rfl rfl (Ao rfl <| Ab) (.inr rfl) rfl ?_
       refine Ax rfl rfl (Ao rfl <| Al rfl <| Ab) (.inr rfl) rfl ?_
       refine Ax rfl rfl (Az rfl <| Ab) (.inr rfl) rfl ?_
       refine Ax rfl rfl (Az rfl <| Al rfl <| Ab) (.inr rfl) rfl ?_
       refine Ax rfl rfl (Az rfl <| Ao rfl <| Ab) (.inr rfl) rfl ?_
       refine Ax rfl rfl (Ba rfl <| Az rfl <| Al rfl <| Ab) (.inl (congrArg Value.bool (decide_eq_false (by omega)))) rfl ?_
       refine Ax rfl rfl (Ba rfl <| Az rfl <| Ao rfl <| Ab) (.inl (congrArg Value.bool (decide_eq_false (by omega)))) rfl ?_
       refine Ax rfl rfl (Ab) (.inr rfl) rfl ?_
       refine Ax rfl rfl (Al rfl <| Ab) (.inr rfl) rfl ?_
       refine Ax rfl rfl (Ao rfl <| Ab) (.inr rfl) rfl ?_
       refine Ax rfl rfl (Ab) (.inr rfl) rfl ?_
       refine Ax rfl rfl (Al rfl <| Ab) (.inr rfl) rfl ?_
       refine Ax rfl rfl (Ao rfl <| Ab) (.inr rfl) rfl ?_
       refine Ax rfl rfl (Ao rfl <| Al rfl <| Ab) (.inr rfl) rfl ?_
       refine Ax rfl rfl (Az rfl <| Ab) (.inr rfl) rfl ?_
       refine Ax rfl rfl (Az rfl <| Al rfl <| Ab) (.inr rfl) rfl ?_
       refine Ax rfl rfl (Az rfl <| Ao rfl <| Ab) (.inr rfl) rfl ?_
       refine Ax rfl rfl (Az rfl <| Ao rfl <| Al rfl <| Ab) (.inr rfl) rfl ?_
       refine Ax rfl rfl (Ba rfl <| Ab) (.inr rfl) rfl ?_
       refine Ax rfl rfl (Ba rfl <| Al rfl <| Ab) (.inr rfl) rfl ?_
       refine Ax rfl rfl (Ba rfl <| Az rfl <| Al rfl <| Ab) (.inr rfl) rfl ?_
       refine Ax rfl rfl (A8 rfl <| Ba rfl <| Az rfl <| Al rfl <| Ab) (.inl (congrArg Value.bool (decide_eq_false (by omega)))) rfl ?_
       refine A0 rfl (A7 (A8 rfl <| Ba rfl <| Az rfl <| Ao rfl <| Ab) (decide_eq_false (by omega)) Ac) ?_
       refine B9 ?_
       refine Ad <| Am (Ab) rfl ?_
       refine Aw <| Bf <| Ad <| Ai fun ds => Aa rfl (Af (Bl rfl <| Ba rfl <| Az rfl <| Ao rfl <| As rfl hs10)) ?_
       refine Aa rfl (Bp (Ab) Ac rfl (by omega) (by omega)) ?_
       refine Aa rfl (Ae (Ab)) ?_
       refine Ah <| Ad ⟨_, m - 1, Off.eq (D1 rfl <| C3 rfl <| El rfl <| Be), by omega, ?_⟩
       exact ⟨k + 1, by omega, (Ab), _, _, (Bl rfl <| A8 rfl <| Al rfl <| As rfl hs9), by rw [Cq, if_neg (by rw [hb]; simp)]; exact ho, rfl⟩
    ·
     refine Ag <| Ag <| Ai fun ds => Aa rfl (Af (As rfl hs10)) ?_
     refine Aa rfl (Af (Al rfl <| Ap rfl <| A8 rfl <| Ba rfl <| Ak rfl)) ?_
     refine Aa rfl (Bg Cv (Ab) he.plain) ?_
     refine Aa rfl (Bs (Ao rfl <| Ab) (Ab)) ?_
     refine Ah <| Ad <| Am (Ab) (by first | rfl | exact decide_eq_false (by omega)) ?_
     obtain rfl : k = l.length := by omega
     refine Ec (σ := ⟨_, _⟩) (by rfl) ho (.s <| .s <| .z) .last fun F16 hF17 hz18 => ?_
     replace hr := hr.mono hF17
     replace he := he.mono hF17
     replace ho_ := ho_.mono hF17
     replace hle0 := Heap.le_trans hle0 hF17
     replace hq1 := hq1.mono hF17
     have ho9 := ho.sl (fun _ => rfl) hz18 (by omega)
     have hfr := fw_rings h0 hc
     have hwl := wrongP_len (s := s) (l := l)
     refine Bv ?_
     refine Bm <| Bm <| Bo <| Ad <| Ag ?_
     have hleS := hle0
     refine Du (.inl rfl) (fun _ _ h => h) (.cons_cons _ <| .cons_cons _ <| .refl _) [] (by kernel_rfl) fun ds => ?_
     refine Bb 0 rfl (by kernel_rfl) (by kernel_rfl) (by kernel_rfl) (by kernel_rfl) rfl rfl (fun _ h => h.drop (.cons_cons _ <| .cons_cons _ <| .refl _)) (fun _ _ _ h => h) (Bh Ca (Az rfl <| Ap rfl <| A8 rfl <| Az rfl <| Ao rfl <| Al rfl <| Ab) rfl rfl (Bk 1 rfl)) ?_
     refine Bb 1 rfl (by kernel_rfl) (by kernel_rfl) (by kernel_rfl) (by kernel_rfl) rfl rfl (fun _ h => h.drop (.cons_cons _ <| .cons_cons _ <| .refl _)) (fun _ _ _ h => h) (Af (Az rfl <| Al rfl <| Ap rfl <| A8 rfl <| Ba rfl <| Ak rfl)) ?_
     refine Bb 2 rfl (by kernel_rfl) (by kernel_rfl) (by kernel_rfl) (by kernel_rfl) rfl rfl (fun _ h => h.drop (.cons_cons _ <| .cons_cons _ <| .refl _)) (fun _ _ _ h => h) (Af (Az rfl <| Ao rfl <| Ap rfl <| Ba rfl <| Az rfl <| Ao rfl <| Ab)) ?_
     refine Da 3 rfl (by kernel_rfl) rfl (Cp bd_47 A2 (.cons (Al rfl <| Ab) (.cons (Ab) .nil)) (without_ok he hq1 hl6) fun v19 F20 hr21 hF22 => ⟨fun _ _ _ h => (h.drop (.cons_cons _ <| .cons_cons _ <| .refl _)).weak hF22 hleS, ?_⟩)
     replace hr := hr.mono hF22
     replace he := he.mono hF22
     replace ho_ := ho_.mono hF22
     replace hle0 := Heap.le_trans hle0 hF22
     replace hq1 := hq1.mono hF22
     replace ho9 := ho9.mono hF22
     have hf1 : Sl _ _ 4 Ent.enc (lackL l (wrongP s l)) := hr21
     refine Da 4 rfl (by kernel_rfl) rfl (Cp bd_28 A2 (.cons (Ao rfl <| Al rfl <| Ab) (.cons (Ab) .nil)) (E2 hr hf1) fun v23 F24 hr25 hF26 => ⟨fun _ _ _ h => (h.drop (.cons_cons _ <| .cons_cons _ <| .refl _)).weak (Heap.le_trans hF22 hF26) hleS, ?_⟩)
     replace hr := hr.mono hF26
     replace he := he.mono hF26
     replace ho_ := ho_.mono hF26
     replace hle0 := Heap.le_trans hle0 hF26
     replace hq1 := hq1.mono hF26
     replace ho9 := ho9.mono hF26
     obtain ⟨hq2_, rfl, hq2⟩ := hr25
     refine Bb 5 rfl (by kernel_rfl) (by kernel_rfl) (by kernel_rfl) (by kernel_rfl) rfl rfl (fun _ h => (h.drop (.cons_cons _ <| .cons_cons _ <| .refl _)).weak (Heap.le_trans hF22 hF26) hleS) (fun _ _ _ h => h) (Af (Ab)) ?_
     refine Bb 6 rfl (by kernel_rfl) (by kernel_rfl) (by kernel_rfl) (by kernel_rfl) rfl rfl (fun _ h => (h.drop (.cons_cons _ <| .cons_cons _ <| .refl _)).weak (Heap.le_trans hF22 hF26) hleS) (fun _ _ _ h => h) (A5 (Ab) rfl) ?_
     refine Bb 7 rfl (by kernel_rfl) (by kernel_rfl) (by kernel_rfl) (by kernel_rfl) rfl rfl (fun _ h => (h.drop (.cons_cons _ <| .cons_cons _ <| .refl _)).weak (Heap.le_trans hF22 hF26) hleS) (fun _ _ _ h => h) (A5 (Al rfl <| Ab) rfl) ?_
     refine Bb 8 rfl (by kernel_rfl) (by kernel_rfl) (by kernel_rfl) (by kernel_rfl) rfl rfl (fun _ h => (h.drop (.cons_cons _ <| .cons_cons _ <| .refl _)).weak (Heap.le_trans hF22 hF26) hleS) (fun _ _ _ h => h) (Ae (Al rfl <| Ab)) ?_
     refine Bb 9 rfl (by kernel_rfl) (by kernel_rfl) (by kernel_rfl) (by kernel_rfl) rfl rfl (fun _ h => (h.drop (.cons_cons _ <| .cons_cons _ <| .refl _)).weak (Heap.le_trans hF22 hF26) hleS) (fun _ _ _ h => h) (Ae (Al rfl <| Ab)) ?_
     refine C7 (by kernel_rfl) ?_ _
     refine Ad <| Ag ?_
     have hleS := hle0
     refine Du (.inl rfl) (fun _ _ h => h) (.cons_cons _ <| .cons_cons _ <| .refl _) [] (by kernel_rfl) fun ds => ?_
     refine Bb 0 rfl (by kernel_rfl) (by kernel_rfl) (by kernel_rfl) (by kernel_rfl) rfl rfl (fun _ h => h.drop (.cons_cons _ <| .cons_cons _ <| .refl _)) (fun _ _ _ h => h) (Bh Ca (Ba rfl <| Az rfl <| Ao rfl <| Ap rfl <| A8 rfl <| Az rfl <| Ao rfl <| Al rfl <| Ab) rfl rfl (Bk 1 rfl)) ?_
     refine Bb 1 rfl (by kernel_rfl) (by kernel_rfl) (by kernel_rfl) (by kernel_rfl) rfl rfl (fun _ h => h.drop (.cons_cons _ <| .cons_cons _ <| .refl _)) (fun _ _ _ h => h) (Af (Ba rfl <| Az rfl <| Ao rfl <| Al rfl <| Ap rfl <| A8 rfl <| Ba rfl <| Ak rfl)) ?_
     refine Bb 2 rfl (by kernel_rfl) (by kernel_rfl) (by kernel_rfl) (by kernel_rfl) rfl rfl (fun _ h => h.drop (.cons_cons _ <| .cons_cons _ <| .refl _)) (fun _ _ _ h => h) (Af (A8 rfl <| As rfl hs9)) ?_
     refine Da 3 rfl (by kernel_rfl) rfl (Cp bd_47 A2 (.cons (Al rfl <| Ab) (.cons (Ab) .nil)) (without_ok he ho9 hl6) fun v27 F28 hr29 hF30 => ⟨fun _ _ _ h => (h.drop (.cons_cons _ <| .cons_cons _ <| .refl _)).weak hF30 hleS, ?_⟩)
     replace hr := hr.mono hF30
     replace he := he.mono hF30
     replace ho_ := ho_.mono hF30
     replace hq1 := hq1.mono hF30
     replace ho9 := ho9.mono hF30
     have hf2 : Sl _ _ 4 Ent.enc (lackL l (selTo cb.testBit l.length)) := hr29
     refine Da 4 rfl (by kernel_rfl) rfl (Cp bd_28 A2 (.cons (Ao rfl <| Al rfl <| Ab) (.cons (Ab) .nil)) (E2 hr hf2) fun v31 F32 hr33 hF34 => ⟨fun _ _ _ h => (h.drop (.cons_cons _ <| .cons_cons _ <| .refl _)).weak (Heap.le_trans hF30 hF34) hleS, ?_⟩)
     replace hr := hr.mono hF34
     replace he := he.mono hF34
     replace ho_ := ho_.mono hF34
     replace hq1 := hq1.mono hF34
     replace ho9 := ho9.mono hF34
     obtain ⟨hq3_, rfl, hq3⟩ := hr33
     refine Bb 5 rfl (by kernel_rfl) (by kernel_rfl) (by kernel_rfl) (by kernel_rfl) rfl rfl (fun _ h => (h.drop (.cons_cons _ <| .cons_cons _ <| .refl _)).weak (Heap.le_trans hF30 hF34) hleS) (fun _ _ _ h => h) (Af (Ab)) ?_
     refine Bb 6 rfl (by kernel_rfl) (by kernel_rfl) (by kernel_rfl) (by kernel_rfl) rfl rfl (fun _ h => (h.drop (.cons_cons _ <| .cons_cons _ <| .refl _)).weak (Heap.le_trans hF30 hF34) hleS) (fun _ _ _ h => h) (A5 (Ab) rfl) ?_
     refine Bb 7 rfl (by kernel_rfl) (by kernel_rfl) (by kernel_rfl) (by kernel_rfl) rfl rfl (fun _ h => (h.drop (.cons_cons _ <| .cons_cons _ <| .refl _)).weak (Heap.le_trans hF30 hF34) hleS) (fun _ _ _ h => h) (A5 (Al rfl <| Ab) rfl) ?_
     refine Bb 8 rfl (by kernel_rfl) (by kernel_rfl) (by kernel_rfl) (by kernel_rfl) rfl rfl (fun _ h => (h.drop (.cons_cons _ <| .cons_cons _ <| .refl _)).weak (Heap.le_trans hF30 hF34) hleS) (fun _ _ _ h => h) (Ae (Al rfl <| Ab)) ?_
     refine Bb 9 rfl (by kernel_rfl) (by kernel_rfl) (by kernel_rfl) (by kernel_rfl) rfl rfl (fun _ h => (h.drop (.cons_cons _ <| .cons_cons _ <| .refl _)).weak (Heap.le_trans hF30 hF34) hleS) (fun _ _ _ h => h) (Ae (Al rfl <| Ab)) ?_
     refine C7 (by kernel_rfl) ?_ _
     refine Ad <| Ag <| Ag ?_
     by_cases hg : (ringsE s (lackL l (selTo cb.testBit l.length))).2 = 0
     ·
      have hfe := fw_fewest hg h0 hc
      refine Ai fun ds => Aa rfl (Af (Ba rfl <| Ao rfl <| Ab)) ?_
      refine Aa rfl (B7 (Ab) Ac) ?_
      refine Aa rfl (Af (Ab)) ?_
      refine At rfl rfl (Ab) (by rw [hfr]; rfl) ?_
      refine Aa rfl (Af (Ao rfl <| Al rfl <| Ab)) ?_
      refine At rfl rfl (Al rfl <| Ab) (by rw [hfr]; rfl) ?_
      refine Aa rfl (B1 (Ab) Ac) ?_
      refine At rfl rfl (Ao rfl <| Ab) (by rw [hfr]; rfl) ?_
      refine Aa rfl (Af (Ab)) ?_
      refine At rfl rfl (Ab) (decide_eq_true hg) ?_
      refine Aa rfl (Af (A8 rfl <| Ba rfl <| Az rfl <| Ao rfl <| As rfl hs9)) ?_
      refine At rfl rfl (Al rfl <| Ab) (decide_eq_true hg) ?_
      refine Aa rfl (Bg Bq (Ab) ho9.plain) ?_
      refine At rfl rfl (Ao rfl <| Ab) (decide_eq_true hg) ?_
      refine Aa rfl (Af (Bl rfl <| Ap rfl <| Ba rfl <| Az rfl <| Ao rfl <| Ab)) ?_
      refine At rfl rfl (Ao rfl <| Al rfl <| Ab) (decide_eq_true hg) ?_
      refine Aa rfl (Bg Bq (Ab) hq1.plain) ?_
      refine At rfl rfl (Az rfl <| Ab) (decide_eq_true hg) ?_
      refine Aa rfl (Bs (Ao rfl <| Ab) (Ab)) ?_
      refine At rfl rfl (Ba rfl <| Ab) (by rw [hfr]; rfl) ?_
      refine Aa rfl (A3 (Az rfl <| Al rfl <| Ab) (decide_eq_true hg) (Ab)) ?_
      refine Aa rfl (A7 (Ba rfl <| Al rfl <| Ab) (by rw [hfr]; rfl) (Ab)) ?_
      refine Aa rfl (Af (Ab)) ?_
      refine At rfl rfl (Ab) (decide_eq_false (by omega)) ?_
      refine Aa rfl (Af (Bl rfl <| Az rfl <| Ao rfl <| Ap rfl <| Ba rfl <| Az rfl <| Ao rfl <| Ab)) ?_
      refine At rfl rfl (Al rfl <| Ab) (decide_eq_false (by omega)) ?_
      refine Aa rfl (Bg Bq (Ab) hq1.plain) ?_
      refine At rfl rfl (Ao rfl <| Ab) (decide_eq_false (by omega)) ?_
      refine Aa rfl (Af (Bl rfl <| Ba rfl <| Ap rfl <| A8 rfl <| Ba rfl <| Ak rfl)) ?_
      refine At rfl rfl (Ao rfl <| Al rfl <| Ab) (decide_eq_false (by omega)) ?_
      refine Aa rfl (Bg Cv (Ab) he.plain) ?_
      refine At rfl rfl (Az rfl <| Ab) (decide_eq_false (by omega)) ?_
      refine Aa rfl (Ck (Ao rfl <| Ab) (Ab)) ?_
      refine Aa rfl (A7 (Az rfl <| Al rfl <| Ab) (decide_eq_false (by omega)) (Ab)) ?_
      refine Ah <| Ad <| Am (Ab) (decide_eq_false (by omega)) ?_
      refine Aw <| Ad <| Ag <| Ai fun ds => Aa rfl (Bh Ca (Bl rfl <| Ba rfl <| Az rfl <| Ap rfl <| A8 rfl <| Az rfl <| Ao rfl <| Al rfl <| Ab) rfl rfl (Bk 1 rfl)) ?_
      refine Aa rfl (Aj fd_87_0 (Bl rfl <| Ba rfl <| Az rfl <| Al rfl <| Ap rfl <| A8 rfl <| Az rfl <| Ao rfl <| Ab)) ?_
      refine Aa rfl (Bh (vs := [.int .u8 (r : Int), .int .u8 (lb : Int), vo]) agg_82 (Ab) rfl rfl (D5 0 rfl rfl)) ?_
      refine Aa rfl (Aj fd_87_1 (Bl rfl <| Ba rfl <| Az rfl <| Ao rfl <| Al rfl <| Ap rfl <| A8 rfl <| Az rfl <| Ao rfl <| Ab)) ?_
      refine Aa rfl (Aq one_5 (Ab) (Cell.own 0 rfl rfl)) ?_
      refine Bn rfl (Cp bd_43 A2 (.cons (Az rfl <| Ab) (.cons (Ao rfl <| Ab) (.cons (Ab) .nil))) (told_ok hr hv ho_ hob (r := r) (lb := lb) (bits := cb)) fun v35 F36 hr37 hF38 => ?_)
      replace hr := hr.mono hF38
      have hk_ : Sl _ _ 4 Ent.enc (toldL s (castL (ringN s r)) off lb cb) := hr37
      refine Aa rfl (Ae (Ab)) ?_
      refine Ah <| Ad <| Ag <| Ai fun ds => Aa rfl (Ae Ac) ?_
      refine Ah <| Ad <| Ag <| Ag <| Ai fun ds => Aa rfl (Ae Ac) ?_
      refine Ah <| Ad <| A4 <| Bz [16, 17, 141, 142, 143, 144, 145, 146, 147, 148, 149, 150, 151, 152, 153, 154] (fun m e σ => ∃ k : Nat, m + k = (toldL s (castL (ringN s r)) off lb cb).length ∧ e 17 = .int .i64 (k : Int) ∧ e 16 = .int .i64 ((selTo cb.testBit k).length : Int) ∧ σ = ⟨F36, [(b2, bx 87 [.int .u8 (r : Int), .int .u8 (lb : Int), vo, .int .u8 (cb : Int)]), (b1, bx 27 [vs, .int .i64 s.premium, .int .i64 s.fee, .int .i64 s.days, vb, vl, vn, vd])]⟩) ((toldL s (castL (ringN s r)) off lb cb).length) ?_ ?_
      · exact ⟨0, by omega, (Ab), (Al rfl <| Ab), rfl⟩
      ·
       have hkl := told_len (s := s) (rg := castL (ringN s r)) (off := off) (lots := lb) (bits := cb) s.lots.length; change (toldL s (castL (ringN s r)) off lb cb).length ≤ _ at hkl; rintro m e _ ⟨k, hm, hs17, hs16, rfl⟩
       by_cases hlt : k < (toldL s (castL (ringN s r)) off lb cb).length
       ·
        have hsl := Ek (p := cb.testBit) (k := k)
        refine Ag <| Ag <| Ai fun ds => Aa rfl (Af (As rfl hs17)) ?_
        refine Aa rfl (Af (Al rfl <| Ap rfl <| Ao rfl <| Ab)) ?_
        refine Aa rfl (Bg Cv (Ab) hk_.plain) ?_
        refine Aa rfl (Bs (Ao rfl <| Ab) (Ab)) ?_
        refine Ah <| Ad <| Ar (Ab) (by first | rfl | exact decide_eq_true (by omega)) ?_
        by_cases hb : cb.testBit k = true
        ·
         refine Aw <| Ad <| Ag <| A4 <| Ag <| Ai fun ds => Aa rfl (Aj fd_87_1 (Az rfl <| Ap rfl <| Bl rfl <| A8 rfl <| Az rfl <| Al rfl <| Ap rfl <| A8 rfl <| Az rfl <| Ao rfl <| Ab)) ?_
         refine Aa rfl (Aq one_5 (Ab) (Cell.own 0 rfl rfl)) ?_
         refine Aa rfl (Af (Az rfl <| Ao rfl <| As rfl hs17)) ?_
         refine Aa rfl (Ew (Al rfl <| Ab) (Ab) (k := k) rfl (by show k < 8; omega) De) ?_
         refine Aa rfl (E8 (Ab) Ac (Int.natCast_nonneg _) (by decide)) ?_
         refine Aa rfl (B1 (Ab) Ac) ?_
         refine Ah <| Ad <| Ar (Ab) (by rw [Ex]; exact hb) ?_
         refine Ai fun ds => Aa rfl (Af (Ba rfl <| Ao rfl <| As rfl hs16)) ?_
         refine Aa rfl (Bp (Ab) Ac rfl (by omega) (by omega)) ?_
         refine Aa rfl (Ae (Ab)) ?_
         refine Ah <| Bf <| Ad <| Ai fun ds => Aa rfl (Af (Ba rfl <| Az rfl <| Al rfl <| As rfl hs17)) ?_
         refine Aa rfl (Bp (Ab) Ac rfl (by omega) (by omega)) ?_
         refine Aa rfl (Ae (Ab)) ?_
         refine Ah <| Ad ⟨_, m - 1, Off.eq (C3 rfl <| Be), by omega, ?_⟩
         exact ⟨k + 1, by omega, (Ab), by rw [Cq, if_pos hb, List.length_append]; exact (Ao rfl <| Al rfl <| Ab), rfl⟩
        ·
         replace hb : cb.testBit k = false := by simpa using hb
         refine Aw <| Ad <| Ag <| A4 <| Ag <| Ai fun ds => Aa rfl (Aj fd_87_1 (Az rfl <| Ap rfl <| Bl rfl <| A8 rfl <| Az rfl <| Al rfl <| Ap rfl <| A8 rfl <| Az rfl <| Ao rfl <| Ab)) ?_
         refine Aa rfl (Aq one_5 (Ab) (Cell.own 0 rfl rfl)) ?_
         refine Aa rfl (Af (Az rfl <| Ao rfl <| As rfl hs17)) ?_
         refine Aa rfl (Ew (Al rfl <| Ab) (Ab) (k := k) rfl (by show k < 8; omega) De) ?_
         refine Aa rfl (E8 (Ab) Ac (Int.natCast_nonneg _) (by decide)) ?_
         refine Aa rfl (B1 (Ab) Ac) ?_
         refine Ah <| Ad <| Am (Ab) (by rw [Ex]; exact hb) ?_
         refine Aw <| Bf <| Ad <| Ai fun ds => Aa rfl (Af (Ba rfl <| Ao rfl <| As rfl hs17)) ?_
         refine Aa rfl (Bp (Ab) Ac rfl (by omega) (by omega)) ?_
         refine Aa rfl (Ae (Ab)) ?_
         refine Ah <| Ad ⟨_, m - 1, Off.eq (Ed rfl <| E0 rfl <| El rfl <| Be), by omega, ?_⟩
         exact ⟨k + 1, by omega, (Ab), by rw [Cq, if_neg (by rw [hb]; simp)]; exact (Ba rfl <| Az rfl <| Al rfl <| As rfl hs16), rfl⟩
       ·
        refine Ag <| Ag <| Ai fun ds => Aa rfl (Af (As rfl hs17)) ?_
        refine Aa rfl (Af (Al rfl <| Ap rfl <| Ao rfl <| Ab)) ?_
        refine Aa rfl (Bg Cv (Ab) hk_.plain) ?_
        refine Aa rfl (Bs (Ao rfl <| Ab) (Ab)) ?_
        refine Ah <| Ad <| Am (Ab) (by first | rfl | exact decide_eq_false (by omega)) ?_
        obtain rfl : k = (toldL s (castL (ringN s r)) off lb cb).length := by omega
        have hfw := fw_told (s := s) (r := r) (off := off) (lb := lb) (bits := cb) hv
        refine Bv ?_
        refine Bm <| Bm <| Bo <| Ad <| Ag <| Ai fun ds => Aa rfl (Bh Ca (Az rfl <| Ap rfl <| Bl rfl <| A8 rfl <| Az rfl <| Al rfl <| Ap rfl <| A8 rfl <| Az rfl <| Ao rfl <| Al rfl <| Ab) rfl rfl (Bk 1 rfl)) ?_
        refine Aa rfl (Af (Az rfl <| Al rfl <| Ap rfl <| Ao rfl <| Ab)) ?_
        refine Bn rfl (Cp bd_33 A2 (.cons (Al rfl <| Ab) (.cons (Ab) .nil)) ((wrong_ok hr hk_).mono fun u F2 _ h => (by rw [wrongE_ok (tr_asked h0)] at h; exact h : ∃ w, u = .tuple #[w, .int .i64 0] ∧ Nats F2 w (wrongP s (toldL s (castL (ringN s r)) off lb cb)))) fun v40 F41 hr42 hF43 => ?_)
        obtain ⟨hq4_, rfl, hq4⟩ := hr42
        refine Aa rfl (Af (Ab)) ?_
        refine Aa rfl (A5 (Ab) rfl) ?_
        refine Aa rfl (A5 (Al rfl <| Ab) rfl) ?_
        refine Aa rfl (Ae (Al rfl <| Ab)) ?_
        refine Aa rfl (Ae (Al rfl <| Ab)) ?_
        refine Ah <| Ad <| Ag <| Ai fun ds => Aa rfl (Af (Ab)) ?_
        refine Aa rfl (B1 (Ab) Ac) ?_
        refine Aa rfl (Af (Ab)) ?_
        refine At rfl rfl (Ab) (by first | rfl | decide) ?_
        refine Aa rfl (Af (Az rfl <| Ab)) ?_
        refine At rfl rfl (Al rfl <| Ab) (by first | rfl | decide) ?_
        refine Aa rfl (Bg Bq (Ab) hq4.plain) ?_
        refine At rfl rfl (Ao rfl <| Ab) (by first | rfl | decide) ?_
        refine Aa rfl (Af (A8 rfl <| Al rfl <| As rfl hs16)) ?_
        refine At rfl rfl (Ao rfl <| Al rfl <| Ab) (by first | rfl | decide) ?_
        refine Aa rfl (Eh (Al rfl <| Ab) (Ab)) ?_
        refine Aa rfl (A3 (Az rfl <| Ab) (by first | rfl | decide) (Ab)) ?_
        refine Aa rfl (Af (Ab)) ?_
        refine At rfl rfl (Ab) (decide_eq_true (by omega)) ?_
        refine Bw rfl (Bc bd_22 A2 .nil awake_ok (fun _ _ h => h)) ?_
        refine Aa rfl (A3 (Al rfl <| Ab) (decide_eq_true (by omega)) (Ab)) ?_
        refine Aa rfl (Ae (Ab)) ?_
        refine Ah <| Ad <| A9 <| Ay rfl (.tmp (Ab) .nil) ?_
        rfl
     ·
      refine Ai fun ds => Aa rfl (Af (Ba rfl <| Ao rfl <| Ab)) ?_
      refine Aa rfl (B7 (Ab) Ac) ?_
      refine Aa rfl (Af (Ab)) ?_
      refine At rfl rfl (Ab) (by rw [hfr]; rfl) ?_
      refine Aa rfl (Af (Ao rfl <| Al rfl <| Ab)) ?_
      refine At rfl rfl (Al rfl <| Ab) (by rw [hfr]; rfl) ?_
      refine Aa rfl (B1 (Ab) Ac) ?_
      refine At rfl rfl (Ao rfl <| Ab) (by rw [hfr]; rfl) ?_
      refine Aa rfl (Af (Ab)) ?_
      refine Au rfl rfl (Ab) (.inl (congrArg Value.bool (decide_eq_false hg))) rfl ?_
      refine Au rfl rfl (Al rfl <| Ab) (.inl (congrArg Value.bool (decide_eq_false hg))) rfl ?_
      refine Au rfl rfl (Ao rfl <| Ab) (.inl (congrArg Value.bool (decide_eq_false hg))) rfl ?_
      refine Au rfl rfl (Ao rfl <| Al rfl <| Ab) (.inl (congrArg Value.bool (decide_eq_false hg))) rfl ?_
      refine Au rfl rfl (Az rfl <| Ab) (.inl (congrArg Value.bool (decide_eq_false hg))) rfl ?_
      refine At rfl rfl (Ba rfl <| Ab) (by rw [hfr]; rfl) ?_
      refine Aa rfl (A7 (Az rfl <| Al rfl <| Ab) (decide_eq_false hg) Ac) ?_
      refine Aa rfl (A7 (Ba rfl <| Al rfl <| Ab) (by rw [hfr]; rfl) (Ab)) ?_
      refine Aa rfl (Af (Ab)) ?_
      refine At rfl rfl (Ab) rfl ?_
      refine Aa rfl (Af (Bl rfl <| Az rfl <| Ao rfl <| Ap rfl <| Ba rfl <| Az rfl <| Ao rfl <| Ab)) ?_
      refine At rfl rfl (Al rfl <| Ab) rfl ?_
      refine Aa rfl (Bg Bq (Ab) hq1.plain) ?_
      refine At rfl rfl (Ao rfl <| Ab) rfl ?_
      refine Aa rfl (Af (Bl rfl <| Ba rfl <| Ap rfl <| A8 rfl <| Ba rfl <| Ak rfl)) ?_
      refine At rfl rfl (Ao rfl <| Al rfl <| Ab) rfl ?_
      refine Aa rfl (Bg Cv (Ab) he.plain) ?_
      refine At rfl rfl (Az rfl <| Ab) rfl ?_
      refine Aa rfl (Ck (Ao rfl <| Ab) (Ab)) ?_
      refine Aa rfl (A7 (Az rfl <| Al rfl <| Ab) rfl (Ab)) ?_
      refine Ah <| Ad <| Am (Ab) (decide_eq_false (by omega)) ?_
      refine Aw <| Ad <| Ag <| Ai fun ds => Aa rfl (Bh Ca (Bl rfl <| Ba rfl <| Az rfl <| Ap rfl <| A8 rfl <| Az rfl <| Ao rfl <| Al rfl <| Ab) rfl rfl (Bk 1 rfl)) ?_
      refine Aa rfl (Aj fd_87_0 (Bl rfl <| Ba rfl <| Az rfl <| Al rfl <| Ap rfl <| A8 rfl <| Az rfl <| Ao rfl <| Ab)) ?_
      refine Aa rfl (Bh (vs := [.int .u8 (r : Int), .int .u8 (lb : Int), vo]) agg_82 (Ab) rfl rfl (D5 0 rfl rfl)) ?_
      refine Aa rfl (Aj fd_87_1 (Bl rfl <| Ba rfl <| Az rfl <| Ao rfl <| Al rfl <| Ap rfl <| A8 rfl <| Az rfl <| Ao rfl <| Ab)) ?_
      refine Aa rfl (Aq one_5 (Ab) (Cell.own 0 rfl rfl)) ?_
      refine Bn rfl (Cp bd_43 A2 (.cons (Az rfl <| Ab) (.cons (Ao rfl <| Ab) (.cons (Ab) .nil))) (told_ok hr hv ho_ hob (r := r) (lb := lb) (bits := cb)) fun v44 F45 hr46 hF47 => ?_)
      replace hr := hr.mono hF47
      have hk_ : Sl _ _ 4 Ent.enc (toldL s (castL (ringN s r)) off lb cb) := hr46
      refine Aa rfl (Ae (Ab)) ?_
      refine Ah <| Ad <| Ag <| Ai fun ds => Aa rfl (Ae Ac) ?_
      refine Ah <| Ad <| Ag <| Ag <| Ai fun ds => Aa rfl (Ae Ac) ?_
      refine Ah <| Ad <| A4 <| Bz [16, 17, 141, 142, 143, 144, 145, 146, 147, 148, 149, 150, 151, 152, 153, 154] (fun m e σ => ∃ k : Nat, m + k = (toldL s (castL (ringN s r)) off lb cb).length ∧ e 17 = .int .i64 (k : Int) ∧ e 16 = .int .i64 ((selTo cb.testBit k).length : Int) ∧ σ = ⟨F45, [(b2, bx 87 [.int .u8 (r : Int), .int .u8 (lb : Int), vo, .int .u8 (cb : Int)]), (b1, bx 27 [vs, .int .i64 s.premium, .int .i64 s.fee, .int .i64 s.days, vb, vl, vn, vd])]⟩) ((toldL s (castL (ringN s r)) off lb cb).length) ?_ ?_
      · exact ⟨0, by omega, (Ab), (Al rfl <| Ab), rfl⟩
      ·
       have hkl := told_len (s := s) (rg := castL (ringN s r)) (off := off) (lots := lb) (bits := cb) s.lots.length; change (toldL s (castL (ringN s r)) off lb cb).length ≤ _ at hkl; rintro m e _ ⟨k, hm, hs17, hs16, rfl⟩
       by_cases hlt : k < (toldL s (castL (ringN s r)) off lb cb).length
       ·
        have hsl := Ek (p := cb.testBit) (k := k)
        refine Ag <| Ag <| Ai fun ds => Aa rfl (Af (As rfl hs17)) ?_
        refine Aa rfl (Af (Al rfl <| Ap rfl <| Ao rfl <| Ab)) ?_
        refine Aa rfl (Bg Cv (Ab) hk_.plain) ?_
        refine Aa rfl (Bs (Ao rfl <| Ab) (Ab)) ?_
        refine Ah <| Ad <| Ar (Ab) (by first | rfl | exact decide_eq_true (by omega)) ?_
        by_cases hb : cb.testBit k = true
        ·
         refine Aw <| Ad <| Ag <| A4 <| Ag <| Ai fun ds => Aa rfl (Aj fd_87_1 (Az rfl <| Ap rfl <| Bl rfl <| A8 rfl <| Az rfl <| Al rfl <| Ap rfl <| A8 rfl <| Az rfl <| Ao rfl <| Ab)) ?_
         refine Aa rfl (Aq one_5 (Ab) (Cell.own 0 rfl rfl)) ?_
         refine Aa rfl (Af (Az rfl <| Ao rfl <| As rfl hs17)) ?_
         refine Aa rfl (Ew (Al rfl <| Ab) (Ab) (k := k) rfl (by show k < 8; omega) De) ?_
         refine Aa rfl (E8 (Ab) Ac (Int.natCast_nonneg _) (by decide)) ?_
         refine Aa rfl (B1 (Ab) Ac) ?_
         refine Ah <| Ad <| Ar (Ab) (by rw [Ex]; exact hb) ?_
         refine Ai fun ds => Aa rfl (Af (Ba rfl <| Ao rfl <| As rfl hs16)) ?_
         refine Aa rfl (Bp (Ab) Ac rfl (by omega) (by omega)) ?_
         refine Aa rfl (Ae (Ab)) ?_
         refine Ah <| Bf <| Ad <| Ai fun ds => Aa rfl (Af (Ba rfl <| Az rfl <| Al rfl <| As rfl hs17)) ?_
         refine Aa rfl (Bp (Ab) Ac rfl (by omega) (by omega)) ?_
         refine Aa rfl (Ae (Ab)) ?_
         refine Ah <| Ad ⟨_, m - 1, Off.eq (C3 rfl <| Be), by omega, ?_⟩
         exact ⟨k + 1, by omega, (Ab), by rw [Cq, if_pos hb, List.length_append]; exact (Ao rfl <| Al rfl <| Ab), rfl⟩
        ·
         replace hb : cb.testBit k = false := by simpa using hb
         refine Aw <| Ad <| Ag <| A4 <| Ag <| Ai fun ds => Aa rfl (Aj fd_87_1 (Az rfl <| Ap rfl <| Bl rfl <| A8 rfl <| Az rfl <| Al rfl <| Ap rfl <| A8 rfl <| Az rfl <| Ao rfl <| Ab)) ?_
         refine Aa rfl (Aq one_5 (Ab) (Cell.own 0 rfl rfl)) ?_
         refine Aa rfl (Af (Az rfl <| Ao rfl <| As rfl hs17)) ?_
         refine Aa rfl (Ew (Al rfl <| Ab) (Ab) (k := k) rfl (by show k < 8; omega) De) ?_
         refine Aa rfl (E8 (Ab) Ac (Int.natCast_nonneg _) (by decide)) ?_
         refine Aa rfl (B1 (Ab) Ac) ?_
         refine Ah <| Ad <| Am (Ab) (by rw [Ex]; exact hb) ?_
         refine Aw <| Bf <| Ad <| Ai fun ds => Aa rfl (Af (Ba rfl <| Ao rfl <| As rfl hs17)) ?_
         refine Aa rfl (Bp (Ab) Ac rfl (by omega) (by omega)) ?_
         refine Aa rfl (Ae (Ab)) ?_
         refine Ah <| Ad ⟨_, m - 1, Off.eq (Ed rfl <| E0 rfl <| El rfl <| Be), by omega, ?_⟩
         exact ⟨k + 1, by omega, (Ab), by rw [Cq, if_neg (by rw [hb]; simp)]; exact (Ba rfl <| Az rfl <| Al rfl <| As rfl hs16), rfl⟩
       ·
        refine Ag <| Ag <| Ai fun ds => Aa rfl (Af (As rfl hs17)) ?_
        refine Aa rfl (Af (Al rfl <| Ap rfl <| Ao rfl <| Ab)) ?_
        refine Aa rfl (Bg Cv (Ab) hk_.plain) ?_
        refine Aa rfl (Bs (Ao rfl <| Ab) (Ab)) ?_
        refine Ah <| Ad <| Am (Ab) (by first | rfl | exact decide_eq_false (by omega)) ?_
        obtain rfl : k = (toldL s (castL (ringN s r)) off lb cb).length := by omega
        have hfw := fw_told (s := s) (r := r) (off := off) (lb := lb) (bits := cb) hv
        refine Bv ?_
        refine Bm <| Bm <| Bo <| Ad <| Ag <| Ai fun ds => Aa rfl (Bh Ca (Az rfl <| Ap rfl <| Bl rfl <| A8 rfl <| Az rfl <| Al rfl <| Ap rfl <| A8 rfl <| Az rfl <| Ao rfl <| Al rfl <| Ab) rfl rfl (Bk 1 rfl)) ?_
        refine Aa rfl (Af (Az rfl <| Al rfl <| Ap rfl <| Ao rfl <| Ab)) ?_
        refine Bn rfl (Cp bd_33 A2 (.cons (Al rfl <| Ab) (.cons (Ab) .nil)) ((wrong_ok hr hk_).mono fun u F2 _ h => (by rw [wrongE_ok (tr_asked h0)] at h; exact h : ∃ w, u = .tuple #[w, .int .i64 0] ∧ Nats F2 w (wrongP s (toldL s (castL (ringN s r)) off lb cb)))) fun v49 F50 hr51 hF52 => ?_)
        obtain ⟨hq4_, rfl, hq4⟩ := hr51
        refine Aa rfl (Af (Ab)) ?_
        refine Aa rfl (A5 (Ab) rfl) ?_
        refine Aa rfl (A5 (Al rfl <| Ab) rfl) ?_
        refine Aa rfl (Ae (Al rfl <| Ab)) ?_
        refine Aa rfl (Ae (Al rfl <| Ab)) ?_
        refine Ah <| Ad <| Ag <| Ai fun ds => Aa rfl (Af (Ab)) ?_
        refine Aa rfl (B1 (Ab) Ac) ?_
        refine Aa rfl (Af (Ab)) ?_
        refine At rfl rfl (Ab) (by first | rfl | decide) ?_
        refine Aa rfl (Af (Az rfl <| Ab)) ?_
        refine At rfl rfl (Al rfl <| Ab) (by first | rfl | decide) ?_
        refine Aa rfl (Bg Bq (Ab) hq4.plain) ?_
        refine At rfl rfl (Ao rfl <| Ab) (by first | rfl | decide) ?_
        refine Aa rfl (Af (A8 rfl <| Al rfl <| As rfl hs16)) ?_
        refine At rfl rfl (Ao rfl <| Al rfl <| Ab) (by first | rfl | decide) ?_
        refine Aa rfl (Eh (Al rfl <| Ab) (Ab)) ?_
        refine Aa rfl (A3 (Az rfl <| Ab) (by first | rfl | decide) (Ab)) ?_
        refine Aa rfl (Af (Ab)) ?_
        refine At rfl rfl (Ab) (decide_eq_true (by omega)) ?_
        refine Bw rfl (Bc bd_22 A2 .nil awake_ok (fun _ _ h => h)) ?_
        refine Aa rfl (A3 (Al rfl <| Ab) (decide_eq_true (by omega)) (Ab)) ?_
        refine Aa rfl (Ae (Ab)) ?_
        refine Ah <| Ad <| A9 <| Ay rfl (.tmp (Ab) .nil) ?_
        rfl
  ·
   have hbad : ¬ ((checkS s).2.2 = 0 ∧ catE s l = 0) := fun h => hc h.2
   refine Ag <| Ai fun ds => Bn rfl (Cf (Ak rfl) rfl fun b53 hb53 nb53 => ?_)
   refine Bn rfl (Cf (Al rfl <| Ak rfl) rfl fun b54 hb54 nb54 => ?_)
   refine Aa rfl (Ae Ac) ?_
   refine Ah <| Ad <| Ag <| Ai fun ds => Aa rfl (Bh Ca (Ao rfl <| Ab) rfl rfl (Bk 1 rfl)) ?_
   refine Aa rfl (Af (Az rfl <| Ak rfl)) ?_
   refine Bn rfl (Cp bd_33 A2 (.cons (Al rfl <| Ab) (.cons (Ab) .nil)) (wrong_ok hr he) fun v55 F56 hr57 hF58 => ?_)
   replace hr := hr.mono hF58
   replace he := he.mono hF58
   obtain ⟨hq1_, rfl, hq1⟩ := hr57
   obtain ⟨hb1, hb2⟩ := fw_bad hbad
   refine Aa rfl (Af (Ab)) ?_
   refine Aa rfl (A5 (Ab) rfl) ?_
   refine Aa rfl (A5 (Al rfl <| Ab) rfl) ?_
   refine Aa rfl (Ae (Al rfl <| Ab)) ?_
   refine Aa rfl (Ae (Al rfl <| Ab)) ?_
   refine Ah <| Ad <| Ag <| Ag <| Ai fun ds => Aa rfl (Bh Ca (Ba rfl <| Ao rfl <| Ab) rfl rfl (Bk 1 rfl)) ?_
   refine Bw rfl (Bc bd_38 A2 (.cons (Ab) .nil) (valid_ok hr) (fun _ _ h => h)) ?_
   refine Aa rfl (Ct (Ab)) ?_
   refine Aa rfl (Af (Ab)) ?_
   refine At rfl rfl (Ab) (by simp [h0]) ?_
   refine Aa rfl (Bh Ca (Ba rfl <| Az rfl <| Ao rfl <| Ab) rfl rfl (Bk 1 rfl)) ?_
   refine At rfl rfl (Al rfl <| Ab) (by simp [h0]) ?_
   refine Aa rfl (Af (A8 rfl <| Ak rfl)) ?_
   refine At rfl rfl (Ao rfl <| Ab) (by simp [h0]) ?_
   refine Bw rfl (Bc bd_46 A2 (.cons (Al rfl <| Ab) (.cons (Ab) .nil)) (refCatalogue_ok hr he) (fun _ _ h => h)) ?_
   refine At rfl rfl (Ao rfl <| Al rfl <| Ab) (by simp [h0]) ?_
   refine Aa rfl (B7 (Ab) Ac) ?_
   refine Aa rfl (A7 (Az rfl <| Ab) (by simp [h0]) (Ab)) ?_
   refine Ah <| Ad <| Ar (Ab) (decide_eq_true hc) ?_
   refine Ag <| Ai fun ds => Aa rfl (Af (Ba rfl <| Al rfl <| Ab)) ?_
   refine Aa rfl (B7 (Ab) Ac) ?_
   refine Aa rfl (Af (Ab)) ?_
   refine At rfl rfl (Ab) (by rw [decide_eq_true hb2]) ?_
   refine Aa rfl (Af (Ba rfl <| Az rfl <| Al rfl <| Ab)) ?_
   refine At rfl rfl (Al rfl <| Ab) (by rw [decide_eq_true hb2]) ?_
   refine Aa rfl (Bg Bq (Ab) hq1.plain) ?_
   refine At rfl rfl (Ao rfl <| Ab) (by rw [decide_eq_true hb2]) ?_
   refine Aa rfl (B1 (Ab) Ac) ?_
   refine Aa rfl (A3 (Ao rfl <| Al rfl <| Ab) (by rw [decide_eq_true hb2]) (Ab)) ?_
   refine Aa rfl (Af (Ab)) ?_
   refine At rfl rfl (Ab) (decide_eq_true (by rw [hb1]; rfl)) ?_
   refine Bw rfl (Bc bd_22 A2 .nil awake_ok (fun _ _ h => h)) ?_
   refine Aa rfl (A3 (Al rfl <| Ab) (decide_eq_true (by rw [hb1]; rfl)) (Ab)) ?_
   refine Aa rfl (Ae (Ab)) ?_
   refine Ah <| Ad <| A9 <| A6 ?_
   refine Ay rfl (.tmp (Ab) .nil) ?_
   rfl
 ·
  have hbad : ¬ ((checkS s).2.2 = 0 ∧ catE s l = 0) := fun h => h0 h.1
  refine Ag <| Ai fun ds => Bn rfl (Cf (Ak rfl) rfl fun b59 hb59 nb59 => ?_)
  refine Bn rfl (Cf (Al rfl <| Ak rfl) rfl fun b60 hb60 nb60 => ?_)
  refine Aa rfl (Ae Ac) ?_
  refine Ah <| Ad <| Ag <| Ai fun ds => Aa rfl (Bh Ca (Ao rfl <| Ab) rfl rfl (Bk 1 rfl)) ?_
  refine Aa rfl (Af (Az rfl <| Ak rfl)) ?_
  refine Bn rfl (Cp bd_33 A2 (.cons (Al rfl <| Ab) (.cons (Ab) .nil)) (wrong_ok hr he) fun v61 F62 hr63 hF64 => ?_)
  replace hr := hr.mono hF64
  obtain ⟨hq1_, rfl, hq1⟩ := hr63
  obtain ⟨hb1, hb2⟩ := fw_bad hbad
  refine Aa rfl (Af (Ab)) ?_
  refine Aa rfl (A5 (Ab) rfl) ?_
  refine Aa rfl (A5 (Al rfl <| Ab) rfl) ?_
  refine Aa rfl (Ae (Al rfl <| Ab)) ?_
  refine Aa rfl (Ae (Al rfl <| Ab)) ?_
  refine Ah <| Ad <| Ag <| Ag <| Ai fun ds => Aa rfl (Bh Ca (Ba rfl <| Ao rfl <| Ab) rfl rfl (Bk 1 rfl)) ?_
  refine Bw rfl (Bc bd_38 A2 (.cons (Ab) .nil) (valid_ok hr) (fun _ _ h => h)) ?_
  refine Aa rfl (Ct (Ab)) ?_
  refine Aa rfl (Af (Ab)) ?_
  refine Au rfl rfl (Ab) (.inl (congrArg Value.bool (by simp [h0]))) rfl ?_
  refine Au rfl rfl (Al rfl <| Ab) (.inl (congrArg Value.bool (by simp [h0]))) rfl ?_
  refine Au rfl rfl (Ao rfl <| Ab) (.inl (congrArg Value.bool (by simp [h0]))) rfl ?_
  refine Au rfl rfl (Ao rfl <| Al rfl <| Ab) (.inl (congrArg Value.bool (by simp [h0]))) rfl ?_
  refine Aa rfl (A3 (Az rfl <| Ab) (by simp [h0]) Ac) ?_
  refine Ah <| Ad <| Ar (Ab) rfl ?_
  refine Ag <| Ai fun ds => Aa rfl (Af (Ba rfl <| Al rfl <| Ab)) ?_
  refine Aa rfl (B7 (Ab) Ac) ?_
  refine Aa rfl (Af (Ab)) ?_
  refine At rfl rfl (Ab) (by rw [decide_eq_true hb2]) ?_
  refine Aa rfl (Af (Ba rfl <| Az rfl <| Al rfl <| Ab)) ?_
  refine At rfl rfl (Al rfl <| Ab) (by rw [decide_eq_true hb2]) ?_
  refine Aa rfl (Bg Bq (Ab) hq1.plain) ?_
  refine At rfl rfl (Ao rfl <| Ab) (by rw [decide_eq_true hb2]) ?_
  refine Aa rfl (B1 (Ab) Ac) ?_
  refine Aa rfl (A3 (Ao rfl <| Al rfl <| Ab) (by rw [decide_eq_true hb2]) (Ab)) ?_
  refine Aa rfl (Af (Ab)) ?_
  refine At rfl rfl (Ab) (decide_eq_true (by rw [hb1]; rfl)) ?_
  refine Bw rfl (Bc bd_22 A2 .nil awake_ok (fun _ _ h => h)) ?_
  refine Aa rfl (A3 (Al rfl <| Ab) (decide_eq_true (by rw [hb1]; rfl)) (Ab)) ?_
  refine Aa rfl (Ae (Ab)) ?_
  refine Ah <| Ad <| A9 <| A6 ?_
  refine Ay rfl (.tmp (Ab) .nil) ?_
  rfl
end Go.Proofs.Ytaikojfonleccaa
namespace Go.Proofs.Ytaikojfonleccaa
open Go.ChangeShapes Go.WideShapes Go.ChangeAt Go.RowKit
set_option maxRecDepth 100000 in
theorem saleFewestLifted (os : Os) (started : os.Started) (H : Type) (enc : TypeId × Value → H) :
   ReturnsInHanded {} Try.checked os 12 .any (Rows.saleFewestSpec.pre6 enc Try.prog Try.f12 Rows.saleFewestRow.domain false) (Rows.saleFewestSpec.post enc Try.prog Try.f12 false true false false) := by
 refine returnsInHanded_of_change_sized (C := Try.checked) ownKnob0 started (by kernel_rfl) Try.func12
   (ChangeSpec.witness6 (enc := enc) (C := Try.checked) false ⟨#[], #[.agg #[.slice none 0 0, .int .i64 0, .int .i64 0, .int .i64 0, .slice none 0 0, .slice none 0 0, .slice none 0 0, .slice none 0 0], .slice none 0 0, .agg #[.int .u8 0, .int .u8 0, .slice none 0 0, .int .u8 0]], []⟩ 8 (by kernel_rfl) (by kernel_rfl) (by kernel_rfl) (by kernel_rfl)) ?_
 intro W base args ds gs before hval0 hW hcnd hsz _
 have hval : ∀ (j : Nat) t v, Try.f12.params[j]? = some t → args[j]? = some v → Value.okWide Try.prog W .any base t v := hval0
 have hW' := hW
 obtain ⟨p, q, hA0, hV, rfl, hfz, hnd⟩ := hW
 have hA : DataW.TrodAll enc Try.prog W 0 (fun _ => true) true Try.f12.params.toList args.toList ds p := hA0
 rw [Try.params12] at hA hval
 obtain ⟨v0, vs0, d0, ds0, p0, q0, hargs, rfl, rfl, h0, r0⟩ := trodAll_cons hA
 obtain ⟨v1, vs1, d1, ds1, p1, q1, rfl, rfl, rfl, h1, r1⟩ := trodAll_cons r0
 obtain ⟨v2, vs2, d2, ds2, p2, q2, rfl, rfl, rfl, h2, r2⟩ := trodAll_cons r1
 obtain ⟨rfl, rfl, rfl⟩ := trodAll_nil r2
 obtain rfl : args = #[v0, v1, v2] := by cases args; simp_all
 obtain ⟨rfl, rfl⟩ := trodVars_none hV
 have hsz' : (DataW.weightsEach Try.prog (Try.f12.params.toList ++ []) ([d0, d1, d2] ++ [])).all (· ≤ reachBytes) = true := hsz
 rw [Try.params12] at hsz'
 have k0 := h0
 have lt0 : ∀ x ∈ p0, x.block < W.heap.size := by obtain ⟨m, hm⟩ := k0; exact DataW.trod_lt m _ _ _ hm
 have k1 := h1
 have lt1 : ∀ x ∈ p1, x.block < W.heap.size := by obtain ⟨m, hm⟩ := k1; exact DataW.trod_lt m _ _ _ hm
 have k2 := h2
 have lt2 : ∀ x ∈ p2, x.block < W.heap.size := by obtain ⟨m, hm⟩ := k2; exact DataW.trod_lt m _ _ _ hm
 obtain ⟨vs, vb, vl, vn, vd, s, rfl, hr⟩ := arg_sale (hval 0 27 v0 rfl rfl) h0 (weights_at hsz' (j := 0) rfl rfl)
 obtain ⟨l, he, -⟩ := arg_ents (hval 1 47 v1 rfl rfl) h1 (weights_at hsz' (j := 1) rfl rfl)
 obtain ⟨r, lb, vo, off, cb, rfl, hr8, hl8, hc8, ho, hob⟩ := arg_changed (hval 2 87 v2 rfl rfl) h2 (weights_at hsz' (j := 2) rfl rfl)
 clear hA0 hval0
 refine (Ok.law (fewestLaw_ok hr he ho hob)).mono fun e W' ⟨he, bel⟩ => ?_
 subst he
 exact ⟨_, rfl, _, _, _, [], _, [], hW', trodAll_mk1 (shut_bool Try.underlying4 _), (trodAll_cons_mk (Below.trod laidOut (by kernel_rfl) (of_decide_eq_true (by kernel_rfl)) k0 bel lt0) (trodAll_cons_mk (Below.trod laidOut (by kernel_rfl) (of_decide_eq_true (by kernel_rfl)) k1 bel lt1) (trodAll_cons_mk (Below.trod laidOut (by kernel_rfl) (of_decide_eq_true (by kernel_rfl)) k2 bel lt2) trodAll_mk0))), rfl, bel.frame _, fun h => by cases h⟩
theorem saleFewest : Rows.SaleFewestSaid :=
 OpenClaim.holds_of_wide 12 Try.f12 rfl rfl rfl rfl rfl rfl rfl ⟨rfl, rfl, rfl, rfl, rfl⟩ rfl rfl rfl rfl rfl (by kernel_rfl) Try.func12 (by kernel_rfl)
   (of_decide_eq_true (by kernel_rfl)) (by unfold Func.isWrapper; first | (rw [if_pos (by decide +kernel)]; kernel_rfl) | (rw [if_neg (by decide +kernel)]; exact ⟨rfl, rfl⟩))
   (fun os started H enc _ => saleFewestLifted os started H enc)
#print axioms saleFewest
end Go.Proofs.Ytaikojfonleccaa
