/-
  A part of a proof: SaleRings returns true of any sale and catalogue, and leaves what it is handed as it was. No conditions.
-/
import Derived.Test.YtaikojfonleccaaPae
import Derived.KernelRfl
namespace Go.Proofs.Ytaikojfonleccaa
open Go.RowKit
theorem zr_123 : ZeroT Try.prog 123 (.nilFunc) := Db (by kernel_rfl)
theorem zr_48 : ZeroT Try.prog 48 (.slice none 0 0) := Db (by kernel_rfl)
theorem bd_108 : Body Try.prog 108 := Bq (by kernel_rfl)
theorem bd_83 : Body Try.prog 83 := Bq (by kernel_rfl)
theorem bd_84 : Body Try.prog 84 := Bq (by kernel_rfl)
theorem one_123 : OneT Try.prog 123 := Dy (by kernel_rfl)
theorem one_48 : OneT Try.prog 48 := Dy (by kernel_rfl)
theorem sz_123 : SizeT Try.prog 123 1 := Dt (by kernel_rfl)
theorem sz_48 : SizeT Try.prog 48 1 := Dt (by kernel_rfl)
set_option maxRecDepth 100000 in
theorem fit_ok {F : Heap} {b kb : Nat} {vs vb vl vn vd : Value} {s : Sale} (hX : AucX 156 F b vs vb vl vn vd kb s) (hv : ValidS s) {ve : Value} {l : List Ent} (he : Sl F ve 4 Ent.enc l) (hcat : catE s l = 0) {es : List (Value × Value)} (hK : KnownC Try.prog 3 F es s) : OkM Try.prog 78 [.pointer (some ⟨b, 0, none⟩), ve].toArray F [(kb, mapO es)] fun u F' H' => ∃ es', H' = [(kb, mapO es')] ∧ KnownC Try.prog 3 F' es' s ∧ Lsts F' u (fitS s l []) := by
 refine OkM.intro Try.func78 rfl Try.ntmps78 rfl fun w0 => ?_
 have hnb := hv.nb
 have hF0 : F.le F := Heap.le_refl _
 have hL2 := hX.sale.lots.plain.lt
 have hel := he.plain.lt
 refine Ag <| Ai fun ds => Bm rfl (B9 (Ak rfl) (D2 he.plain.one) fun b1 hb1 nb1 => ?_)
 refine Bm rfl (B5 zr_48 rfl fun b2 hb2 nb2 => ?_)
 refine Ah <| Ad <| WC_scope ?_
 refine Ag <| Ai fun ds => Aa rfl (Af (Ap rfl <| Ak rfl)) ?_
 refine Aa rfl (q_makeFunc2 (.cons (Ab) .nil) .nil) ?_
 refine Bm rfl (B5 zr_123 rfl fun b3 hb3 nb3 => ?_)
 refine Cm (Do sz_123 (Ab) (Al rfl <| Ab) (i := 0) rfl (.here) rfl (.here) ?_)
 refine Ah <| Ad <| Ag <| WC_label ?_
 refine Ad <| Ag <| Ag <| Cz (i := 2) rfl hb1 (.next <| .next <| .here) fun F4 hF5 hz3 => ?_
 replace hX := hX.mono hF5
 replace hK := hK.mono hF5
 replace he := he.mono hF5
 refine Cz (i := 0) rfl hb3 (.here) fun F6 hF7 hz5 => ?_
 replace hX := hX.mono hF7
 replace hK := hK.mono hF7
 replace he := he.mono hF7
 replace hz3 := hF7 _ _ hz3
 refine Ai fun ds => Aa rfl (Af (Ay rfl <| Al rfl <| Ak rfl)) ?_
 refine Bm rfl (Ck bd_83 A0 (.cons (Ab) .nil) (rings_ok hX hv) fun v8 F9 hr10 hF11 => ?_)
 replace hX := hX.mono hF11
 replace hK := hK.mono hF11
 replace he := he.mono hF11
 replace hz3 := hF11 _ _ hz3
 replace hz5 := hF11 _ _ hz5
 obtain ⟨dz, rfl, hzd⟩ := hr10
 refine Ah <| Ad <| A4 <| WC_rangeG rfl (Ab) (bd_108) (rings1_iter hX hv hzd) (Heap.le_refl _) (fun pre G H => ∃ es2 v4 R4 ps, KnownC Try.prog 3 G es2 s ∧ Own 28 1 v4 ps.length (ps.flatMap slE) R4 ∧ AllN G ps ∧ ps.map (·.2) = (pre.filter (rightS s l [])) ∧ H = (b2, bx 48 [v4]) :: (kb, mapO es2) :: R4) (fun _ _ _ => False) (fun _ _ _ _ hF h => by obtain ⟨a1, a2, a3, a4, a5, a6, a7, a8, a9⟩ := h; exact ⟨a1, a2, a3, a4, a5.mono hF, a6, a7.mono hF, a8, a9⟩) (fun _ _ _ _ _ h => h) ⟨es, _, [], [], hK, own_nil, (fun p hp => nomatch hp), rfl, rfl⟩ (fun L D fn tm pre x rest G H1 vs hxs hle hJ hA => ?_) (fun _ _ _ _ h => h.elim) (fun F2 H1 hF2 hJ => ?_)
 ·
  replace hX := hX.mono hle
  replace he := he.mono hle
  replace hz3 := hle _ _ hz3
  replace hz5 := hle _ _ hz5
  obtain ⟨es2, v4, R4, ps, hK2, ho, hpa, hps, rfl⟩ := hJ
  obtain ⟨v9, set, rfl, hv9, hset, hsof⟩ := hA
  have hxm : x ∈ everyR s.bidders.length := by rw [hxs]; simp
  have hxl := (everyR_mem hxm).2.2
  have hpl : ps.length ≤ 134217728 := by have h9 := congrArg List.length hps; rw [List.length_map] at h9; have h8 := List.length_filter_le (rightS s l []) pre; have h7 := everyTo_bound (n := s.bidders.length) (k := s.bidders.length + 1) (by omega) (by omega); rw [Fe, hxs, List.length_append] at h7; omega
  refine ⟨rfl, rfl, fun w1 => ?_⟩
  refine WC_eq (e' := (upd (upd _ 16 v9) 17 (.int .i64 (set : Int)))) rfl rfl ?_
  refine Ag <| Ci (.inr (by kernel_rfl)) (fun _ _ h => h) fun ds => ?_
  refine Aa rfl (Ae (Al rfl <| Ab)) ?_
  refine Ah <| Ad <| Ci (.inr (by kernel_rfl)) (fun _ _ h => h) fun ds => ?_
  refine Aa rfl (Ae (Al rfl <| Ab)) ?_
  refine Ah <| Ad ⟨_, rfl, ?_⟩
  refine A4 <| Ag <| Ci (.inr (by kernel_rfl)) (fun _ _ h => h) fun ds => ?_
  refine Aa rfl (Ar one_123 (Ay rfl <| Ap rfl <| Ab) (CellF.own hz5 rfl).cell) ?_
  refine Aa rfl (Af (Al rfl <| Ab)) ?_
  refine WL_orderB (.one (.next <| .next <| .next <| .here) <| .one (.here) <| .one (.here) <| .one (.here) <| .lastb (.last)) ?_
  refine Bm rfl (x_callMF bd_70 (Al rfl <| Ab) (.cons (Ab) .nil) rfl (sell_ok hX hv hK2 (set := set) hset) fun v16 F17 H20 hr18 hF19 => ?_)
  replace he := he.mono hF19
  replace hle := hle.mono hF19
  replace hv9 := hv9.mono hF19
  replace hpa := hpa.mono hF19
  replace hz3 := hF19 _ _ hz3
  obtain ⟨es3, rfl, hK3, hal⟩ := hr18
  rw [sellL_eq hv (fun b _ => hsof b)] at hal
  refine Aa rfl (Ae (Ab)) ?_
  refine Ah <| Ad <| Ag <| Ag <| WC_name (i := 1) rfl (fun _ => .next <| .here) fun oL hoL => ?_
  refine Ci (.inr (by kernel_rfl)) (fun _ _ h => h) fun ds => ?_
  refine Aa rfl (Ar one_47 (A9 rfl <| Ay rfl <| Ap rfl <| Ab) (CellF.own hz3 rfl).cell) ?_
  refine Aa rfl (Bi Dn (Ab) he.plain) ?_
  refine Aa rfl (Af Ac) ?_
  refine Ah <| Ad <| A4 <| Bx [10, 23, 24, 25, 26, 27, 28, 29, 30, 31, 32, 33, 34, 35] (fun m e σ => ∃ k : Nat, m + k = l.length ∧ e 23 = .int .i64 (k : Int) ∧ σ = ⟨F17, (kb, mapO es3) :: (L, oL) :: (D, openO) :: (b2, bx 48 [v4]) :: R4⟩ ∧ ∀ j (hj : j < l.length), j < k → rightE l[j] (entRes s l[j] x) = true) (l.length) ?_ ?_
  · exact ⟨0, by omega, (Ab), rfl, fun j hj h => absurd h (by omega)⟩
  ·
   rintro m e _ ⟨k, hm, hs23, rfl, hno⟩
   by_cases hlt : k < l.length
   ·
    obtain ⟨n, hn, hnl⟩ := ent_lot hcat hlt
    have hn2 : n < (allS s (castL x)).length := by rw [E5]; exact hnl
    have hres : (allS s (castL x))[n] = entRes s l[k] x := by rw [allS_at]; unfold entRes; rw [hn]; rfl
    refine Ag <| Ci (.inr (by kernel_rfl)) (fun _ _ h => h) fun ds => ?_
    refine Aa rfl (Bt (As rfl hs23) (Ao rfl <| Al rfl <| Ab)) ?_
    refine Ah <| Ad <| Ag <| Aq (Ab) (by first | rfl | exact decide_eq_true (by omega)) ?_
    by_cases hrt : rightE l[k] (entRes s l[k] x) = true
    ·
     refine Aw <| Ad <| Ag <| A4 <| Ag <| Ci (.inr (by kernel_rfl)) (fun _ _ h => h) fun ds => ?_
     refine Aa rfl (Bh  Dn (Al rfl <| Ao rfl <| Ap rfl <| Ab) he.plain (Al rfl <| As rfl hs23) rfl hlt) ?_
     refine Aa rfl (Bg Fa (Ab) rfl rfl (he.whole hlt)) ?_
     refine Bm rfl (B5 zr_60 rfl fun b23 hb23 nb23 => ?_)
     refine Cm (B4 sz_60 (Ab) (Al rfl <| Ab) (i := 0) rfl rfl rfl rfl Ent.enc_one (.here) ?_)
     refine Ah <| Ad <| Ag <| Cf (.inr (by kernel_rfl)) (fun _ _ h => h) (by kernel_rfl) (by kernel_rfl) fun ds => ?_
     refine Az rfl (Bg Fa (Ab) rfl rfl (Bl 0 rfl)) ?_
     refine Az rfl (Af (Ay rfl <| Al rfl <| Ao rfl <| Ap rfl <| Al rfl <| Ab)) ?_
     refine Az rfl (Aj Ex (Ap rfl <| Ab)) ?_
     refine Az rfl (Ar Bj (Ab) (Cell.own 0 rfl rfl)) ?_
     refine Az rfl (Bh (k := n) Dp (Ap rfl <| Ab) hal.plain (Ab) hn hn2) ?_
     refine Az rfl (Bg En (Ab) rfl rfl (hal.whole hn2)) ?_
     refine WQ_c rfl (Bc bd_84 A0 (.cons (Ay rfl <| Al rfl <| Ab) (.cons (Ab) .nil)) (right_ok _ _) (fun _ _ h => h)) ?_
     refine Az rfl (Cu (Ab)) ?_
     refine Cb ?_
     refine Ad <| Am (Ab) (by rw [hres, hrt]; rfl) ?_
     refine Aw <| Bf <| Ad <| Cd (fun _ _ h => h.drop (.cons _ <| .cons_cons _ <| .cons_cons _ <| .cons_cons _ <| .cons_cons _ <| .refl _)) ?_
     refine Ci (.inr (by kernel_rfl)) (fun _ _ h => h) fun ds => ?_
     refine Aa rfl (Bp (A9 rfl <| Ay rfl <| As rfl hs23) Ac rfl (by omega) (by omega)) ?_
     refine Aa rfl (Af (Ab)) ?_
     refine Ah <| Ad ⟨_, m - 1, Off.eq (D7 rfl <| Et rfl <| Eb rfl <| Bd), by omega, ?_⟩
     refine ⟨k + 1, by omega, (Ab), rfl, fun j hj hjk => ?_⟩
     rcases Nat.lt_succ_iff_lt_or_eq.1 hjk with hjk | rfl
     · exact hno j hj hjk
     · exact hrt
    ·
     replace hrt : rightE l[k] (entRes s l[k] x) = false := by simpa using hrt
     refine Aw <| Ad <| Ag <| A4 <| Ag <| Ci (.inr (by kernel_rfl)) (fun _ _ h => h) fun ds => ?_
     refine Aa rfl (Bh  Dn (Al rfl <| Ao rfl <| Ap rfl <| Ab) he.plain (Al rfl <| As rfl hs23) rfl hlt) ?_
     refine Aa rfl (Bg Fa (Ab) rfl rfl (he.whole hlt)) ?_
     refine Bm rfl (B5 zr_60 rfl fun b24 hb24 nb24 => ?_)
     refine Cm (B4 sz_60 (Ab) (Al rfl <| Ab) (i := 0) rfl rfl rfl rfl Ent.enc_one (.here) ?_)
     refine Ah <| Ad <| Ag <| Cf (.inr (by kernel_rfl)) (fun _ _ h => h) (by kernel_rfl) (by kernel_rfl) fun ds => ?_
     refine Az rfl (Bg Fa (Ab) rfl rfl (Bl 0 rfl)) ?_
     refine Az rfl (Af (Ay rfl <| Al rfl <| Ao rfl <| Ap rfl <| Al rfl <| Ab)) ?_
     refine Az rfl (Aj Ex (Ap rfl <| Ab)) ?_
     refine Az rfl (Ar Bj (Ab) (Cell.own 0 rfl rfl)) ?_
     refine Az rfl (Bh (k := n) Dp (Ap rfl <| Ab) hal.plain (Ab) hn hn2) ?_
     refine Az rfl (Bg En (Ab) rfl rfl (hal.whole hn2)) ?_
     refine WQ_c rfl (Bc bd_84 A0 (.cons (Ay rfl <| Al rfl <| Ab) (.cons (Ab) .nil)) (right_ok _ _) (fun _ _ h => h)) ?_
     refine Az rfl (Cu (Ab)) ?_
     refine Cb ?_
     refine Ad <| Aq (Ab) (by rw [hres, hrt]; rfl) ?_
     subst hoL
     refine Bv ?_
     refine exit_past rfl (Bk (Bk (exit_past rfl (Bk (Bn ?_)))))
     refine round_nG (.one (.next <| .next <| .here) <| .one (.next <| .next <| .here) <| .one (.next <| .next <| .here) <| .one (.next <| .here) <| .lastb (.next <| .last)) ?_
     refine .inl ⟨rfl, _, rfl, hle, ?_⟩
     have hr0 : rightS s l [] x = false := rightS_false hlt List.not_mem_nil hrt
     have e1 : ((pre ++ [x]).filter (rightS s l [])) = pre.filter (rightS s l []) := by rw [List.filter_append]; simp [hr0]
     exact ⟨_, _, _, _, hK3, ho, hpa, by rw [e1]; exact hps, rfl⟩
   ·
    refine Ag <| Ci (.inr (by kernel_rfl)) (fun _ _ h => h) fun ds => ?_
    refine Aa rfl (Bt (As rfl hs23) (Ao rfl <| Al rfl <| Ab)) ?_
    refine Ah <| Ad <| Ag <| Am (Ab) (by first | rfl | exact decide_eq_false (by omega)) ?_
    have hr1 : rightS s l [] x = true := rightS_true fun j hj => .inr (hno j hj (by omega))
    refine Bv ?_
    refine Bk <| Bk <| Bn <| Ad <| Ag <| Ci (.inr (by kernel_rfl)) (fun _ _ h => h) fun ds => ?_
    refine Aa rfl (Af (Al rfl <| Ao rfl <| A9 rfl <| Ab)) ?_
    refine Aa rfl (Bi Bs (Ab) hv9.plain) ?_
    refine Bm rfl (x_make (k := x.length) Bs el_3 rfl rfl (Ab) (Ab) rfl (by omega) (by omega) fun b25 hb25 nb25 => ?_)
    refine Aa rfl (Ae (Ab)) ?_
    refine Ah <| Ad <| Ag <| Ci (.inr (by kernel_rfl)) (fun _ _ h => h) fun ds => ?_
    refine Aa rfl (Af (Ab)) ?_
    refine Aa rfl (Af (Ay rfl <| Ap rfl <| Ao rfl <| A9 rfl <| Ab)) ?_
    refine Bm rfl (x_copy (s := 1) rfl Bs (Al rfl <| Ab) (Ab) (i := 0) rfl (by simp) (hv9.src (fun _ => rfl) natE_one) (.here) ?_)
    refine Ah <| Ad <| Cz (i := 0) rfl hb25 (.here) fun F26 hF27 hz38 => ?_
    replace hle := hle.mono hF27
    replace hpa := hpa.mono hF27
    replace hK3 := hK3.mono hF27
    have hn38 := nats_box (l := x) hz38 rfl (by omega)
    subst hoL
    refine Ci (.inr (by kernel_rfl)) (fun _ _ h => h) fun ds => ?_
    refine Aa rfl (Ar one_48 (A9 rfl <| Ao rfl <| Ba rfl <| Ab) (Cell.own 3 rfl rfl)) ?_
    refine Aa rfl (Af (Ay rfl <| Ab)) ?_
    refine Bm rfl (Bz Cx zr_28 rfl (.cons (Ab) .nil) rfl rfl (by decide) (by simp [Value.oneCell']) fun b28 hb28 nb28 => ?_)
    refine Bm rfl (Ct Cx el_28 (Ap rfl <| Ab) ho (Ab) (C8 (s := 1) 0 rfl rfl (by simp [Value.oneCell'])) (by omega) (by omega) (.s <| .s <| .s <| .s <| .s <| .z) .last fun v29 R30 ho31 => ?_)
    have ho2 := ho31.snoc (x := ((_, x) : Value × List Nat)) rfl rfl
    refine Cm (Do sz_48 (A9 rfl <| Ay rfl <| Ao rfl <| Ba rfl <| Ab) (Ab) (i := 4) rfl (.here) (Own.one ho2) (.next <| .next <| .next <| .next <| .here) ?_)
    refine Ah <| Bf ?_
    refine round_nG (.one (.next <| .next <| .here) <| .one (.next <| .next <| .here) <| .one (.next <| .next <| .here) <| .one (.next <| .here) <| .lastb (.next <| .last)) ?_
    refine .inl ⟨rfl, _, rfl, hle, ?_⟩
    have e1 : ((pre ++ [x]).filter (rightS s l [])) = pre.filter (rightS s l []) ++ [x] := by rw [List.filter_append]; simp [hr1]
    refine ⟨_, _, _, ps ++ [(_, x)], hK3, ho2, fun p hp => ?_, by rw [e1, List.map_append, hps]; rfl, rfl⟩
    rcases List.mem_append.1 hp with hp | hp
    · exact hpa p hp
    · simp at hp; subst hp; exact hn38
 obtain ⟨es2, v4, R4, ps, hK2, ho, hpa, hps, rfl⟩ := hJ
 refine Bf <| Ad <| WC_freezeRM (σ := ⟨_, _⟩) (by intro m hm; exact .tail _ hm) ho (.s <| .s <| .z) .last fun F32 hF33 hz34 => ?_
 replace hK2 := hK2.mono hF33
 replace hpa := hpa.mono hF33
 have hsp := ho.sl (fun _ => rfl) hz34 (by have h9 := congrArg List.length hps; rw [List.length_map] at h9; have h8 := List.length_filter_le (rightS s l []) (everyR s.bidders.length); have h7 := everyTo_bound (n := s.bidders.length) (k := s.bidders.length + 1) (by omega) (by omega); rw [Fe] at h7; omega)
 refine Ag <| Ai fun ds => Aa rfl (Ar one_48 (Ay rfl <| Al rfl <| Ab) (Cell.own 0 rfl rfl)) ?_
 refine Cm (Do sz_48 (Ay rfl <| Ap rfl <| Ab) (Ab) (i := 0) rfl (.here) hsp.plain.one (.here) ?_)
 refine Ah <| Ad <| A5 <| scope_r ?_
 refine post_retM rfl (.one one_48 (Ay rfl <| Ap rfl <| Ab) (Cell.own 0 rfl rfl) .nil) (.cons (.next <| .here) <| .nil) rfl ?_
 exact ⟨es2, rfl, hK2, ⟨ps, hsp, hpa, hps⟩⟩
end Go.Proofs.Ytaikojfonleccaa
namespace Go.Proofs.Ytaikojfonleccaa
theorem cmpL_refl : ∀ a : List Nat, cmpL a a = 0
 | [] => rfl
 | a :: as1 => by rw [cmpL_same]; exact cmpL_refl as1
theorem cmpL_eq : ∀ {a b : List Nat}, cmpL a b = 0 → a = b
 | [], [], _ => rfl
 | [], _ :: _, h => by simp [cmpL] at h
 | _ :: _, [], h => by simp [cmpL] at h
 | x :: xs, y :: ys, h => by
   unfold cmpL at h
   split at h
   · cases h
   · split at h
     · cases h
     · obtain rfl : x = y := by omega
       rw [cmpL_eq h]
theorem cmpL_neg : ∀ a b : List Nat, cmpL b a = - cmpL a b
 | [], [] => rfl
 | [], _ :: _ => rfl
 | _ :: _, [] => rfl
 | x :: xs, y :: ys => by
   unfold cmpL
   by_cases h1 : x < y
   · rw [if_neg (by omega), if_pos h1, if_pos h1]; rfl
   · by_cases h2 : y < x
     · rw [if_pos h2, if_neg h1, if_pos h2]
     · rw [if_neg h2, if_neg h1, if_neg h1, if_neg h2]; exact cmpL_neg xs ys
theorem cmpL_trans : ∀ {a b c : List Nat}, cmpL a b ≤ 0 → cmpL b c ≤ 0 → cmpL a c ≤ 0
 | [], _, c, _, _ => by cases c <;> simp [cmpL]
 | _ :: _, [], _, h, _ => by simp [cmpL] at h
 | _ :: _, _ :: _, [], _, h => by simp [cmpL] at h
 | x :: xs, y :: ys, z :: zs, h1, h2 => by
   unfold cmpL at h1 h2 ⊢
   by_cases a1 : x < y
   · by_cases a2 : y < z
     · rw [if_pos (by omega)]; omega
     · rw [if_neg a2] at h2
       by_cases a3 : z < y
       · rw [if_pos a3] at h2; omega
       · rw [if_pos (by omega)]; omega
   · rw [if_neg a1] at h1
     by_cases a2 : y < x
     · rw [if_pos a2] at h1; omega
     · rw [if_neg a2] at h1
       obtain rfl : x = y := by omega
       by_cases a3 : x < z
       · rw [if_pos a3]; omega
       · rw [if_neg a3] at h2 ⊢
         by_cases a4 : z < x
         · rw [if_pos a4] at h2; omega
         · rw [if_neg a4] at h2 ⊢
           exact cmpL_trans h1 h2
theorem cmpL_total {a b : List Nat} (h : ¬ cmpL a b < 0) : cmpL b a ≤ 0 := by rw [cmpL_neg]; omega
def Asc (l : List Nat) : Prop := l.Pairwise (· < ·)
/-- All that go on from 'b' with requests from 'k', of which the first one is before 'm'. -/
def Deep (r : Room) (b : List Nat) (k m : Nat) (y : List Nat) : Prop := ∃ e, y = b ++ e ∧ Asc e ∧ (∀ i ∈ e, k ≤ i ∧ i < r.reqs.length) ∧ (e = [] ∨ canB r y = true) ∧ ∀ i ∈ e.head?, i < m
theorem asc_ext {a b : List Nat} (ha : Asc a) (hb : Asc b) (h : ∀ i, i ∈ a ↔ i ∈ b) : a = b :=
 List.Perm.eq_of_pairwise (le := (· < ·)) (fun x y _ _ h1 h2 => by omega) ha hb
   ((List.perm_ext_iff_of_nodup (ha.imp fun h => Nat.ne_of_lt h) (hb.imp fun h => Nat.ne_of_lt h)).2 h)
end Go.Proofs.Ytaikojfonleccaa
namespace Go.Proofs.Ytaikojfonleccaa
def Before (p p' : List Nat) : Prop := p.length < p'.length ∨ (p.length = p'.length ∧ cmpL p p' ≤ 0)
theorem Eu {hi : Nat} : ∀ {m lo : Nat} {p : List Nat}, p ∈ listsR m lo hi ↔ Asc p ∧ (∀ i ∈ p, lo ≤ i ∧ i < hi) ∧ p.length = m
 | 0, lo, p => by
   simp only [listsR, List.mem_singleton]
   constructor
   · rintro rfl; exact ⟨.nil, by simp, rfl⟩
   · rintro ⟨-, -, h⟩; exact List.eq_nil_of_length_eq_zero h
 | m + 1, lo, p => by
   simp only [listsR, List.mem_flatMap, List.mem_map, List.mem_range'_1]
   constructor
   · rintro ⟨i, hi1, s, hs, rfl⟩
     obtain ⟨h1, h2, h3⟩ := Eu.1 hs
     refine ⟨List.pairwise_cons.2 ⟨fun j hj => (h2 j hj).1, h1⟩, fun j hj => ?_, by simp [h3]⟩
     rcases List.mem_cons.1 hj with rfl | hj
     · omega
     · have := h2 j hj; omega
   · rintro ⟨h1, h2, h3⟩
     cases p with
     | nil => simp at h3
     | cons i s =>
       have h4 := List.pairwise_cons.1 h1
       have h5 := h2 i (by simp)
       have h6 : Asc s := h4.2
       have key : ∀ (s : List Nat) (lo : Nat), Asc s → (∀ j ∈ s, lo ≤ j ∧ j < hi) → lo + s.length ≤ hi ∨ s = [] := by
         intro s
         induction s with
         | nil => intro _ _ _; exact .inr rfl
         | cons a s ih =>
           intro lo ha hb
           have h7 := List.pairwise_cons.1 ha
           have h8 := hb a (by simp)
           left
           rcases ih (a + 1) h7.2 (fun j hj => ⟨h7.1 j hj, (hb j (List.mem_cons_of_mem _ hj)).2⟩) with h | h
           · simp only [List.length_cons]; omega
           · subst h; simp; omega
       have h7 : i + 1 + s.length ≤ hi := by
         rcases key s (i + 1) h6 (fun j hj => ⟨h4.1 j hj, (h2 j (List.mem_cons_of_mem _ hj)).2⟩) with h | h
         · exact h
         · subst h; simp; omega
       simp only [List.length_cons] at h3
       exact ⟨i, by omega, s, Eu.2 ⟨h6, fun j hj => ⟨h4.1 j hj, (h2 j (List.mem_cons_of_mem _ hj)).2⟩, by omega⟩, rfl⟩
theorem lists_order {hi : Nat} : ∀ {m lo : Nat}, (listsR m lo hi).Pairwise fun p p' => cmpL p p' ≤ 0
 | 0, lo => by simp [listsR]
 | m + 1, lo => by
   unfold listsR
   rw [List.pairwise_flatMap]
   refine ⟨fun i _ => ?_, ?_⟩
   · rw [List.pairwise_map]
     exact lists_order.imp fun h => by rw [cmpL_same]; exact h
   · refine List.Pairwise.imp ?_ (List.pairwise_lt_range' (s := lo) (n := hi - m - lo))
     intro i j hij x hx y hy
     obtain ⟨a, -, rfl⟩ := List.mem_map.1 hx
     obtain ⟨b, -, rfl⟩ := List.mem_map.1 hy
     simp [cmpL, hij]
theorem mem_cands {n m : Nat} {p : List Nat} : p ∈ candsTo n m ↔ Asc p ∧ (∀ i ∈ p, i < n) ∧ p.length < m := by
 unfold candsTo
 simp only [List.mem_flatMap, List.mem_range]
 constructor
 · rintro ⟨k, hk, hp⟩
   obtain ⟨h1, h2, h3⟩ := Eu.1 hp
   exact ⟨h1, fun i hi => (h2 i hi).2, by omega⟩
 · rintro ⟨h1, h2, h3⟩
   exact ⟨p.length, h3, Eu.2 ⟨h1, fun i hi => ⟨by omega, h2 i hi⟩, rfl⟩⟩
theorem cands_order {n m : Nat} : (candsTo n m).Pairwise Before := by
 unfold candsTo
 rw [List.pairwise_flatMap]
 refine ⟨fun k _ => ?_, ?_⟩
 · refine List.Pairwise.imp_of_mem ?_ (lists_order (hi := n) (m := k) (lo := 0))
   intro a b ha hb h
   exact .inr ⟨by rw [(Eu.1 ha).2.2, (Eu.1 hb).2.2], h⟩
 · refine List.Pairwise.imp ?_ List.pairwise_lt_range
   intro i j hij x hx y hy
   exact .inl (by rw [(Eu.1 hx).2.2, (Eu.1 hy).2.2]; exact hij)
end Go.Proofs.Ytaikojfonleccaa
namespace Go.Proofs.Ytaikojfonleccaa
open Go
def ent (l : List Ent) (i : Nat) : Ent := l[i]?.getD ⟨0, false, 0, 0⟩
theorem ent_at {l : List Ent} {i : Nat} (h : i < l.length) : l[i] = ent l i := by simp [ent, h]
def badB (s : Sale) (l : List Ent) (ring : List Nat) (i : Nat) : Bool := !(rightE (ent l i) (entRes s (ent l i) ring))
def badL (s : Sale) (l : List Ent) (ring : List Nat) : List Nat := selTo (badB s l ring) l.length
def badMask (s : Sale) (l : List Ent) (ring : List Nat) : Nat → Nat
 | 0 => 0
 | k + 1 => if badB s l ring k = true then badMask s l ring k ||| 2 ^ k else badMask s l ring k
theorem badMask_bit {s : Sale} {l : List Ent} {ring : List Nat} : ∀ (k t : Nat), (badMask s l ring k).testBit t = (decide (t < k) && badB s l ring t)
 | 0, t => by simp [badMask]
 | k + 1, t => by
   unfold badMask
   by_cases h : badB s l ring k = true
   · rw [if_pos h, Nat.testBit_or, Nat.testBit_two_pow, badMask_bit k t]
     by_cases hk : k = t
     · subst hk; simp [h]
     · have : decide (t < k + 1) = decide (t < k) := by congr 1; rw [eq_iff_iff]; omega
       simp [hk, this]
   · rw [if_neg h, badMask_bit k t]
     by_cases hk : k = t
     · subst hk; simp [h]
     · have : decide (t < k + 1) = decide (t < k) := by congr 1; rw [eq_iff_iff]; omega
       rw [this]
theorem badMask_lt {s : Sale} {l : List Ent} {ring : List Nat} : ∀ {k : Nat}, k ≤ 6 → badMask s l ring k < 64
 | 0, _ => by simp [badMask]
 | k + 1, h => by
   unfold badMask
   have ih := badMask_lt (s := s) (l := l) (ring := ring) (k := k) (by omega)
   split
   · exact mask_lt ih (by omega)
   · exact ih
theorem bits_bad {s : Sale} {l : List Ent} {ring : List Nat} (hl : l.length ≤ 6) : bitsL (badMask s l ring l.length) = badL s l ring := by
 unfold bitsL badL selTo
 rw [List.range_eq_range', show 8 = l.length + (8 - l.length) by omega, ← List.range'_append_1, List.filter_append, ← List.range_eq_range']
 have h1 : (List.range' (0 + l.length) (8 - l.length)).filter (fun i => (badMask s l ring l.length).testBit i) = [] := by
   rw [List.filter_eq_nil_iff]
   intro i hi
   have := (List.mem_range'_1.1 hi).1
   rw [badMask_bit]; simp; omega
 rw [h1, List.append_nil]
 apply List.filter_congr
 intro i hi
 have hi : i < l.length := by simpa using hi
 rw [badMask_bit]; simp [hi]
theorem badL_asc {s : Sale} {l : List Ent} {ring : List Nat} : Asc (badL s l ring) := List.Pairwise.sublist List.filter_sublist List.pairwise_lt_range
theorem badL_lt {s : Sale} {l : List Ent} {ring : List Nat} : ∀ i ∈ badL s l ring, i < l.length := fun i hi => by simpa using (List.mem_filter.1 hi).1
theorem badL_mem {s : Sale} {l : List Ent} {ring : List Nat} {i : Nat} : i ∈ badL s l ring ↔ i < l.length ∧ badB s l ring i = true := by
 unfold badL selTo; rw [List.mem_filter]; simp
theorem rightS_iff {s : Sale} {l : List Ent} {but ring : List Nat} : rightS s l but ring = true ↔ ∀ i ∈ badL s l ring, i ∈ but := by
 unfold rightS
 rw [List.all_eq_true]
 constructor
 · intro h i hi
   obtain ⟨h1, h2⟩ := badL_mem.1 hi
   have := h i (by simpa using h1)
   unfold badB ent at h2
   simp only [Bool.not_eq_true'] at h2
   rw [h2] at this
   simpa using this
 · intro h i hi
   have hi : i < l.length := by simpa using hi
   by_cases hb : badB s l ring i = true
   · simp [h i (badL_mem.2 ⟨hi, hb⟩)]
   · unfold badB ent at hb
     simp only [Bool.not_eq_true', Bool.not_eq_false] at hb
     rw [hb]; simp
/-- By rings: the fewest that are wrong with one. -/
def wrongStep (s : Sale) (l : List Ent) (w : Option (List Nat)) (x : List Nat) : Option (List Nat) := match w with
 | none => some (badL s l x)
 | some m => if (badL s l x).length < m.length ∨ (badL s l x).length = m.length ∧ cmpL (badL s l x) m < 0 then some (badL s l x) else some m
def wrongTo (s : Sale) (l : List Ent) (xs : List (List Nat)) : Option (List Nat) := xs.foldl (wrongStep s l) none
theorem E0 {s : Sale} {l : List Ent} {xs : List (List Nat)} {x : List Nat} : wrongTo s l (xs ++ [x]) = wrongStep s l (wrongTo s l xs) x := by unfold wrongTo; rw [List.foldl_append]; rfl
theorem wrongStep_new {s : Sale} {l : List Ent} {x m : List Nat} (h : (badL s l x).length < m.length ∨ (badL s l x).length = m.length ∧ cmpL (badL s l x) m < 0) : wrongStep s l (some m) x = some (badL s l x) := if_pos h
theorem wrongStep_old {s : Sale} {l : List Ent} {x m : List Nat} (h : ¬ ((badL s l x).length < m.length ∨ (badL s l x).length = m.length ∧ cmpL (badL s l x) m < 0)) : wrongStep s l (some m) x = some m := if_neg h
def wrongP (s : Sale) (l : List Ent) : List Nat := (wrongTo s l (everyR s.bidders.length)).getD []
/-- By lists: the first without which all others are right. -/
def wrongR (s : Sale) (l : List Ent) : List Nat := match (candsTo l.length l.length).find? (fun p => !(fitS s l p).isEmpty) with
 | some p => p
 | none => List.range l.length
theorem wrongTo_spec {s : Sale} {l : List Ent} : ∀ (n : Nat) (xs : List (List Nat)), xs.length = n → (xs = [] ∧ wrongTo s l xs = none) ∨ ∃ x ∈ xs, wrongTo s l xs = some (badL s l x) ∧ ∀ y ∈ xs, Before (badL s l x) (badL s l y)
 | 0, xs, h => by
   have : xs = [] := List.eq_nil_of_length_eq_zero h
   subst this; exact .inl ⟨rfl, rfl⟩
 | n + 1, xs, h => by
   right
   obtain ⟨ys, z, rfl⟩ : ∃ ys z, xs = ys ++ [z] := ⟨xs.dropLast, xs.getLast (by intro e; subst e; simp at h), (List.dropLast_concat_getLast _).symm⟩
   have hn : ys.length = n := by simpa using h
   rw [E0]
   have hself : Before (badL s l z) (badL s l z) := .inr ⟨rfl, by rw [cmpL_refl]; omega⟩
   rcases wrongTo_spec n ys hn with ⟨rfl, h1⟩ | ⟨x, hx, h1, h2⟩
   · rw [h1]
     exact ⟨z, by simp, rfl, fun y hy => by simp at hy; subst hy; exact hself⟩
   · rw [h1]
     by_cases hc : (badL s l z).length < (badL s l x).length ∨ (badL s l z).length = (badL s l x).length ∧ cmpL (badL s l z) (badL s l x) < 0
     · rw [wrongStep_new hc]
       refine ⟨z, by simp, rfl, fun y hy => ?_⟩
       rcases List.mem_append.1 hy with hy | hy
       · have := h2 y hy
         unfold Before at this ⊢
         rcases this with h3 | ⟨h3, h4⟩
         · left; omega
         · rcases hc with hc | ⟨hc1, hc2⟩
           · left; omega
           · right; exact ⟨by omega, cmpL_trans (by omega) h4⟩
       · simp at hy; subst hy; exact hself
     · rw [wrongStep_old hc]
       refine ⟨x, by simp [hx], rfl, fun y hy => ?_⟩
       rcases List.mem_append.1 hy with hy | hy
       · exact h2 y hy
       · simp at hy; subst hy
         unfold Before
         by_cases h3 : (badL s l x).length = (badL s l y).length
         · right; exact ⟨h3, cmpL_total fun h4 => hc (.inr ⟨h3.symm, h4⟩)⟩
         · left; omega
theorem nodup_len : ∀ {a b : List Nat}, a.Nodup → (∀ i ∈ a, i ∈ b) → a.length ≤ b.length
 | [], _, _, _ => Nat.zero_le _
 | x :: a, b, hn, h => by
   rw [List.nodup_cons] at hn
   have hx := h x (by simp)
   have h1 := nodup_len (b := b.erase x) hn.2 fun i hi => (List.mem_erase_of_ne (fun e => hn.1 (by rw [← e]; exact hi))).2 (h i (List.mem_cons_of_mem _ hi))
   have h2 := List.length_erase_of_mem hx
   have h3 := List.length_pos_of_mem hx
   rw [List.length_cons]; omega
theorem asc_nodup {a : List Nat} (h : Asc a) : a.Nodup := h.imp Nat.ne_of_lt
theorem sub_len {a b : List Nat} (ha : Asc a) (h : ∀ i ∈ a, i ∈ b) : a.length ≤ b.length := nodup_len (asc_nodup ha) h
theorem sub_eq {a b : List Nat} (ha : Asc a) (hb : Asc b) (h : ∀ i ∈ a, i ∈ b) (hl : a.length = b.length) : a = b := by
 refine asc_ext ha hb fun i => ⟨h i, fun hi => ?_⟩
 by_cases hia : i ∈ a
 · exact hia
 · have := nodup_len (a := i :: a) (b := b) (List.nodup_cons.2 ⟨hia, asc_nodup ha⟩) fun k hk => by
     rcases List.mem_cons.1 hk with rfl | hk
     · exact hi
     · exact h k hk
   rw [List.length_cons] at this
   omega
theorem fit_ne {s : Sale} {l : List Ent} {p : List Nat} : (!(fitS s l p).isEmpty) = true ↔ ∃ x ∈ everyR s.bidders.length, ∀ i ∈ badL s l x, i ∈ p := by
 constructor
 · intro h
   obtain ⟨x, hx⟩ : ∃ x, x ∈ fitS s l p := by
     cases hf : fitS s l p with
     | nil => rw [hf] at h; cases h
     | cons x _ => exact ⟨x, by simp⟩
   obtain ⟨h1, h2⟩ := List.mem_filter.1 hx
   exact ⟨x, h1, rightS_iff.1 h2⟩
 · rintro ⟨x, hx, h⟩
   have : x ∈ fitS s l p := List.mem_filter.2 ⟨hx, rightS_iff.2 h⟩
   cases hf : fitS s l p with
   | nil => rw [hf] at this; cases this
   | cons y _ => rfl
theorem wrong_best {s : Sale} {l : List Ent} : ∃ x ∈ everyR s.bidders.length, wrongP s l = badL s l x ∧ ∀ y ∈ everyR s.bidders.length, Before (badL s l x) (badL s l y) := by
 rcases wrongTo_spec (s := s) (l := l) _ (everyR s.bidders.length) rfl with ⟨h, -⟩ | ⟨x, h1, h2, h3⟩
 · exact absurd h (by simp [everyR])
 · exact ⟨x, h1, by unfold wrongP; rw [h2]; rfl, h3⟩
/-- Both ways give the same. -/
theorem wrong_eq {s : Sale} {l : List Ent} : wrongP s l = wrongR s l := by
 obtain ⟨x, hx, hp, hb⟩ := wrong_best (s := s) (l := l)
 rw [hp]
 have key : ∀ q, Asc q → (∃ y ∈ everyR s.bidders.length, ∀ i ∈ badL s l y, i ∈ q) → Before (badL s l x) q := by
   rintro q hq ⟨y, hy, hs⟩
   have h1 := sub_len badL_asc hs
   have h2 := hb y hy
   unfold Before at h2 ⊢
   rcases h2 with h2 | ⟨h2, h3⟩
   · left; omega
   · by_cases h4 : (badL s l y).length = q.length
     · have := sub_eq badL_asc hq hs h4
       rw [← this]; exact .inr ⟨h2, h3⟩
     · left; omega
 unfold wrongR
 cases hf : (candsTo l.length l.length).find? (fun p => !(fitS s l p).isEmpty) with
 | none =>
   show _ = List.range l.length
   have hno := List.find?_eq_none.1 hf
   have hlen : (badL s l x).length ≤ l.length := by
     have := sub_len (badL_asc (s := s) (l := l) (ring := x)) (b := List.range l.length) fun i hi => by simpa using badL_lt (s := s) (ring := x) i hi
     simpa using this
   have hfull : ¬ (badL s l x).length < l.length := fun hlt => by
     have := hno (badL s l x) (mem_cands.2 ⟨badL_asc, badL_lt, hlt⟩)
     exact this (fit_ne.2 ⟨x, hx, fun i hi => hi⟩)
   exact sub_eq badL_asc List.pairwise_lt_range (fun i hi => by simpa using badL_lt (s := s) (ring := x) i hi) (by simp; omega)
 | some p =>
   show _ = p
   obtain ⟨hpt, as_, bs, hcat, hbefore⟩ := List.find?_eq_some_iff_append.1 hf
   have hpm : p ∈ candsTo l.length l.length := by rw [hcat]; simp
   obtain ⟨p1, p2, p3⟩ := mem_cands.1 hpm
   have hk := key p p1 (fit_ne.1 hpt)
   have hxm : badL s l x ∈ candsTo l.length l.length := mem_cands.2 ⟨badL_asc, badL_lt, by unfold Before at hk; omega⟩
   have hxn : badL s l x ∉ as_ := fun h => by
     have := hbefore _ h
     rw [fit_ne.2 ⟨x, hx, fun i hi => hi⟩] at this
     cases this
   have hord := cands_order (n := l.length) (m := l.length)
   rw [hcat] at hxm hord
   rcases List.mem_append.1 hxm with h | h
   · exact absurd h hxn
   · rcases List.mem_cons.1 h with h | h
     · exact h
     · have hpx : Before p (badL s l x) := by
         rw [List.pairwise_append] at hord
         exact (List.pairwise_cons.1 hord.2.1).1 _ h
       unfold Before at hk hpx
       have h5 : (badL s l x).length = p.length := by omega
       have h6 : cmpL (badL s l x) p ≤ 0 := by omega
       have h7 : cmpL p (badL s l x) ≤ 0 := by omega
       rw [cmpL_neg] at h7
       exact cmpL_eq (by omega)
def wrongE (s : Sale) (l : List Ent) : List Nat × Int := if askedE s l ≠ 0 then ([], askedE s l) else (wrongP s l, 0)
theorem wrongE_bad {s : Sale} {l : List Ent} {e : Int} (h : askedE s l = e) (he : e ≠ 0) : wrongE s l = ([], e) := by subst h; exact if_pos he
theorem wrongE_ok {s : Sale} {l : List Ent} (h : askedE s l = 0) : wrongE s l = (wrongP s l, 0) := if_neg (fun k => k h)
def NatsR (F : Heap) (u : Value) (p : List Nat × Int) : Prop := ∃ v, u = .tuple #[v, .int .i64 p.2] ∧ Nats F v p.1
theorem NatsR.mono {F F' : Heap} {u : Value} {p : List Nat × Int} (h : NatsR F u p) (hF : F.le F') : NatsR F' u p := by obtain ⟨v, h1, h2⟩ := h; exact ⟨v, h1, h2.mono hF⟩
/-- Among the candidates. -/
theorem wrongR_found {s : Sale} {l : List Ent} {m i : Nat} (hm : m < l.length) (hi : i < (listsR m 0 l.length).length) (h1 : ∀ p ∈ candsTo l.length m, fitS s l p = []) (h2 : ∀ p ∈ (listsR m 0 l.length).take i, fitS s l p = []) (h3 : fitS s l (listsR m 0 l.length)[i] ≠ []) : wrongR s l = (listsR m 0 l.length)[i] := by
 unfold wrongR
 have hf : (candsTo l.length l.length).find? (fun p => !(fitS s l p).isEmpty) = some (listsR m 0 l.length)[i] := by
   obtain ⟨d, hd⟩ : ∃ d, l.length = m + 1 + d := ⟨l.length - (m + 1), by omega⟩
   obtain ⟨rest, hr⟩ := candsTo_le (n := l.length) (m := m + 1) (d := d)
   rw [show candsTo l.length l.length = candsTo l.length (m + 1 + d) by rw [← hd], hr, candsTo_succ, List.append_assoc, List.find?_append, List.find?_append]
   have e1 : (candsTo l.length m).find? (fun p => !(fitS s l p).isEmpty) = none := List.find?_eq_none.2 fun p hp => by rw [h1 p hp]; simp
   have e2 : (listsR m 0 l.length).find? (fun p => !(fitS s l p).isEmpty) = some (listsR m 0 l.length)[i] := by
     rw [List.find?_eq_some_iff_append]
     refine ⟨by simpa using h3, (listsR m 0 l.length).take i, (listsR m 0 l.length).drop (i + 1), by rw [← List.drop_eq_getElem_cons hi, List.take_append_drop], fun p hp => by rw [h2 p hp]; rfl⟩
   rw [e1, e2]; rfl
 rw [hf]
theorem wrongR_none {s : Sale} {l : List Ent} (h : ∀ p ∈ candsTo l.length l.length, fitS s l p = []) : wrongR s l = List.range l.length := by
 unfold wrongR
 rw [List.find?_eq_none.2 fun p hp => by rw [h p hp]; simp]
theorem lists_full {n : Nat} : listsR n 0 n = [List.range n] := by
 have h1 : ∀ p ∈ listsR n 0 n, p = List.range n := fun p hp => by
   obtain ⟨a1, a2, a3⟩ := Eu.1 hp
   exact sub_eq a1 List.pairwise_lt_range (fun i hi => by simpa using (a2 i hi).2) (by simpa using a3)
 have h2 : List.range n ∈ listsR n 0 n := Eu.2 ⟨List.pairwise_lt_range, fun i hi => ⟨by omega, by simpa using hi⟩, by simp⟩
 have h3 : ∀ m lo, lo + m = n → (listsR m lo n).length = 1 := by
   intro m
   induction m with
   | zero => intro lo _; rfl
   | succ m ih =>
     intro lo h
     unfold listsR
     rw [show n - m - lo = 1 by omega]
     simp only [List.range'_one, List.flatMap_cons, List.flatMap_nil, List.append_nil, List.length_map]
     exact ih (lo + 1) (by omega)
 have h4 := h3 n 0 (by omega)
 match hl : listsR n 0 n, h4 with
 | [p], _ => rw [hl] at h1; rw [h1 p (by simp)]
end Go.Proofs.Ytaikojfonleccaa
namespace Go.Proofs.Ytaikojfonleccaa
open Go.RowKit
theorem bd_28 : Body Try.prog 28 := Bq (by kernel_rfl)
theorem bd_77 : Body Try.prog 77 := Bq (by kernel_rfl)
theorem bd_78 : Body Try.prog 78 := Bq (by kernel_rfl)
theorem bd_82 : Body Try.prog 82 := Bq (by kernel_rfl)
theorem ringsE_asked {s : Sale} {l : List Ent} (h : (ringsE s l).2 = 0) : askedE s l = 0 := by
 by_cases h0 : askedE s l = 0
 · exact h0
 · rw [ringsE_bad rfl h0] at h; exact h
set_option maxRecDepth 100000 in
theorem Fi {F : Heap} {vs vb vl vn vd : Value} {s : Sale} (hr : SaleR F vs vb vl vn vd s) {ve : Value} {l : List Ent} (he : Sl F ve 4 Ent.enc l) : Ok Try.prog 28 [.agg #[vs, .int .i64 s.premium, .int .i64 s.fee, .int .i64 s.days, vb, vl, vn, vd], ve].toArray F fun u F' => LstsR F' u (ringsE s l) := by
 refine Ok.intro Try.func28 rfl Try.ntmps28 rfl fun w0 => ?_
 by_cases hok : askedE s l = 0
 ·
  have hv := C7 (Eh hok).1
  have hcat := (Eh hok).2
  refine Ag <| Ai fun ds => Bm rfl (B9 (Ak rfl) rfl fun b1 hb1 nb1 => ?_)
  refine Aa rfl (Ae Ac) ?_
  refine Aa rfl (Ae Ac) ?_
  refine Ah <| Ad <| Ag <| Ai fun ds => Aa rfl (Bg B8 (Ap rfl <| Ab) rfl rfl (Bl 0 rfl)) ?_
  refine Aa rfl (Af (Ay rfl <| Ak rfl)) ?_
  refine Bm rfl (x_callN bd_77 A0 (.cons (Al rfl <| Ab) (.cons (Ab) .nil)) (catalogue_ok hr he hok) fun v2 F3 R6 hr4 hF5 => ?_)
  replace he := he.mono hF5
  obtain ⟨ba, kb, rfl, hX, rfl⟩ := hr4
  refine Aa rfl (Af (Ab)) ?_
  refine Aa rfl (A2 (Ab) rfl) ?_
  refine Aa rfl (A2 (Al rfl <| Ab) rfl) ?_
  refine Aa rfl (Ae (Al rfl <| Ab)) ?_
  refine Aa rfl (Ae (Al rfl <| Ab)) ?_
  refine Ah <| Ad <| Ag <| Ag <| Ai fun ds => Aa rfl (Af (Ab)) ?_
  refine Aa rfl (B6 (Ab) Ac) ?_
  refine Ah <| Ad <| Am (Ab) (by decide) ?_
  by_cases hf : fitS s l [] = []
  ·
   refine Aw <| Ad <| Ag <| Ai fun ds => Aa rfl (Af (Ap rfl <| Al rfl <| Ab)) ?_
   refine Aa rfl (Af (A9 rfl <| Ay rfl <| Ap rfl <| Ak rfl)) ?_
   refine WL_order (.cons (.next <| .here) <| .cons (.here) <| .nil) ?_
   refine Bm rfl (x_callM bd_78 A0 (.cons (Al rfl <| Ab) (.cons (Ab) .nil)) rfl (fit_ok hX hv he hcat KnownC.nil) fun v11 F12 H15 hr13 hF14 => ?_)
   obtain ⟨es2, rfl, hK2, ps, hsp, hpa, hps⟩ := hr13
   refine Aa rfl (Ae (Ab)) ?_
   refine Ah <| Ad <| Ag <| Ag <| Ai fun ds => Aa rfl (Af (Ab)) ?_
   refine Aa rfl (Bi Cx (Ab) hsp.plain) ?_
   refine Aa rfl (B7 (Ab) Ac) ?_
   refine Ah <| Ad <| Aq (Ab) (decide_eq_true (by have h9 := congrArg List.length hps; rw [List.length_map, hf] at h9; simp at h9; rw [h9]; rfl)) ?_
   refine Ag <| Ai fun ds => Aa rfl (Ae Ac) ?_
   refine Aa rfl (Ae Ac) ?_
   refine Ah <| Ad <| A5 <| A3 ?_
   refine Ax rfl (.tmp (Al rfl <| Ab) (.tmp (Ab) .nil)) ?_
   rw [ringsE_none hok hf]
   exact ⟨_, rfl, [], Sl.nil, (fun p hp => nomatch hp), rfl⟩
  ·
   refine Aw <| Ad <| Ag <| Ai fun ds => Aa rfl (Af (Ap rfl <| Al rfl <| Ab)) ?_
   refine Aa rfl (Af (A9 rfl <| Ay rfl <| Ap rfl <| Ak rfl)) ?_
   refine WL_order (.cons (.next <| .here) <| .cons (.here) <| .nil) ?_
   refine Bm rfl (x_callM bd_78 A0 (.cons (Al rfl <| Ab) (.cons (Ab) .nil)) rfl (fit_ok hX hv he hcat KnownC.nil) fun v20 F21 H24 hr22 hF23 => ?_)
   obtain ⟨es2, rfl, hK2, ps, hsp, hpa, hps⟩ := hr22
   refine Aa rfl (Ae (Ab)) ?_
   refine Ah <| Ad <| Ag <| Ag <| Ai fun ds => Aa rfl (Af (Ab)) ?_
   refine Aa rfl (Bi Cx (Ab) hsp.plain) ?_
   refine Aa rfl (B7 (Ab) Ac) ?_
   refine Ah <| Ad <| Am (Ab) (decide_eq_false (fun h => hf (by rw [← hps]; have h8 : ps = [] := List.eq_nil_of_length_eq_zero (by omega); rw [h8]; rfl))) ?_
   refine Aw <| Ad <| Ag <| Ai fun ds => Aa rfl (Af (Ap rfl <| Al rfl <| Ab)) ?_
   refine Aa rfl (Ae (Ab)) ?_
   refine Aa rfl (Ae Ac) ?_
   refine Ah <| Ad <| A5 <| Ax rfl (.tmp (Al rfl <| Ab) (.tmp (Ab) .nil)) ?_
   rw [ringsE_ok hok hf]
   exact ⟨_, rfl, ps, hsp, hpa, hps⟩
 ·
  refine Ag <| Ai fun ds => Bm rfl (B9 (Ak rfl) rfl fun b25 hb25 nb25 => ?_)
  refine Aa rfl (Ae Ac) ?_
  refine Aa rfl (Ae Ac) ?_
  refine Ah <| Ad <| Ag <| Ai fun ds => Aa rfl (Bg B8 (Ap rfl <| Ab) rfl rfl (Bl 0 rfl)) ?_
  refine Aa rfl (Af (Ay rfl <| Ak rfl)) ?_
  refine Bm rfl (Ck bd_77 A0 (.cons (Al rfl <| Ab) (.cons (Ab) .nil)) (catalogue_bad hr he hok) fun v26 F27 hr28 hF29 => ?_)
  obtain ⟨va, hva1, rfl⟩ := hr28
  refine Aa rfl (Af (Ab)) ?_
  refine Aa rfl (A2 (Ab) rfl) ?_
  refine Aa rfl (A2 (Al rfl <| Ab) rfl) ?_
  refine Aa rfl (Ae (Al rfl <| Ab)) ?_
  refine Aa rfl (Ae (Al rfl <| Ab)) ?_
  refine Ah <| Ad <| Ag <| Ag <| Ai fun ds => Aa rfl (Af (Ab)) ?_
  refine Aa rfl (B6 (Ab) Ac) ?_
  refine Ah <| Ad <| Aq (Ab) (decide_eq_true hok) ?_
  refine Ag <| Ai fun ds => Aa rfl (Af (Ap rfl <| Ab)) ?_
  refine Aa rfl (Ae Ac) ?_
  refine Aa rfl (Ae (Al rfl <| Ab)) ?_
  refine Ah <| Ad <| A5 <| A3 ?_
  refine Ax rfl (.tmp (Al rfl <| Ab) (.tmp (Ab) .nil)) ?_
  rw [ringsE_bad rfl hok]
  exact ⟨_, rfl, [], Sl.nil, (fun p hp => nomatch hp), rfl⟩
set_option maxRecDepth 100000 in
theorem members_ok {F : Heap} {vs vb vl vn vd : Value} {s : Sale} (hr : SaleR F vs vb vl vn vd s) {ve : Value} {l : List Ent} (he : Sl F ve 4 Ent.enc l) : Ok Try.prog 31 [.agg #[vs, .int .i64 s.premium, .int .i64 s.fee, .int .i64 s.days, vb, vl, vn, vd], ve].toArray F fun u F' => MemR F' u (membersE s l) := by
 refine Ok.intro Try.func31 rfl Try.ntmps31 rfl fun w0 => ?_
 have hL2 := hr.bidders.plain.lt
 by_cases h0 : (ringsE s l).2 = 0
 ·
  refine Ag <| Ai fun ds => Bm rfl (B9 (Ak rfl) rfl fun b1 hb1 nb1 => ?_)
  refine Aa rfl (Ae Ac) ?_
  refine Aa rfl (Ae Ac) ?_
  refine Aa rfl (Ae Ac) ?_
  refine Ah <| Ad <| Ag <| Ai fun ds => Aa rfl (Bg B8 (Ap rfl <| Al rfl <| Ab) rfl rfl (Bl 0 rfl)) ?_
  refine Aa rfl (Af (Ay rfl <| Al rfl <| Ak rfl)) ?_
  refine Bm rfl (Ck bd_28 A0 (.cons (Al rfl <| Ab) (.cons (Ab) .nil)) (Fi hr he) fun v2 F3 hr4 hF5 => ?_)
  replace hr := hr.mono hF5
  obtain ⟨vq, rfl, qs, hqs, hqa, hqm⟩ := hr4
  replace hqa : AllN _ qs := hqa
  refine Aa rfl (Af (Ab)) ?_
  refine Aa rfl (A2 (Ab) rfl) ?_
  refine Aa rfl (A2 (Al rfl <| Ab) rfl) ?_
  refine Aa rfl (Ae (Al rfl <| Ab)) ?_
  refine Aa rfl (Ae (Al rfl <| Ab)) ?_
  refine Ah <| Ad <| Ag <| Ag <| Ai fun ds => Aa rfl (Af (Ab)) ?_
  refine Aa rfl (B6 (Ab) Ac) ?_
  refine Ah <| Ad <| Am (Ab) (decide_eq_false (fun h => h h0)) ?_
  have hqpl := hqs.plain.lt
  have hnb := (C7 (Eh (ringsE_asked h0)).1).nb
  refine Aw <| Ad <| Ag <| Ag <| Ai fun ds => Aa rfl (Aj C4 (A9 rfl <| Ay rfl <| Al rfl <| Ab)) ?_
  refine Aa rfl (Ar Cv (Ab) (Cell.own 0 rfl rfl)) ?_
  refine Aa rfl (Bi Cs (Ab) hr.bidders.plain) ?_
  refine Aa rfl (Af Ac) ?_
  refine Ah <| Ad <| A4 <| Bx [4, 5, 8, 9, 11, 24, 25, 26, 27, 28, 29, 30, 31, 32, 33, 34, 35, 36, 37, 38, 39, 40, 41, 42, 43, 44, 45, 46, 47, 48, 49, 50, 51, 52, 53] (fun m e σ => ∃ b : Nat, m + b = s.bidders.length ∧ e 24 = .int .i64 (b : Int) ∧ ∃ v4 v5 R4 R5, e 4 = v4 ∧ e 5 = v5 ∧ Own 3 1 v4 (selTo (mustB (ringsE s l).1) b).length ((selTo (mustB (ringsE s l).1) b).flatMap natE) R4 ∧ Own 3 1 v5 (selTo (mayB (ringsE s l).1) b).length ((selTo (mayB (ringsE s l).1) b).flatMap natE) R5 ∧ σ = ⟨F3, (b1, bx 27 [vs, .int .i64 s.premium, .int .i64 s.fee, .int .i64 s.days, vb, vl, vn, vd]) :: (R4 ++ R5)⟩) (s.bidders.length) ?_ ?_
  · exact ⟨0, by omega, (Ab), _, _, [], [], (Ba rfl <| Ab), (A9 rfl <| Ay rfl <| Ap rfl <| Al rfl <| Ab), Own.nil, Own.nil, rfl⟩
  ·
   rintro m e _ ⟨b, hm9, hs24, v4, v5, R4, R5, hs4, hs5, ho4, ho5, rfl⟩; have hl4 := selTo_length (p := mustB (ringsE s l).1) (k := b); have hl5 := selTo_length (p := mayB (ringsE s l).1) (k := b)
   by_cases hlt : b < s.bidders.length
   ·
    refine Ag <| Ai fun ds => Aa rfl (Bt (As rfl hs24) (Ao rfl <| Al rfl <| Ab)) ?_
    refine Ah <| Ad <| Ag <| Aq (Ab) (by first | rfl | exact decide_eq_true (by omega)) ?_
    refine Aw <| Ad <| Ag <| A4 <| Ag <| Ai fun ds => Aa rfl (Af (Al rfl <| As rfl hs24)) ?_
    refine Aa rfl (Ae (Ab)) ?_
    refine Ah <| Ad <| Ag <| Ai fun ds => Aa rfl (Ae Ac) ?_
    refine Ah <| Ad <| Ag <| Ag <| Ai fun ds => Aa rfl (Af (Ay rfl <| Ao rfl <| Ay rfl <| Ap rfl <| Al rfl <| Ab)) ?_
    refine Aa rfl (Bi Cx (Ab) hqs.plain) ?_
    refine Aa rfl (Af Ac) ?_
    refine Ah <| Ad <| A4 <| Bx [9, 11, 29, 30, 31, 32, 33, 34, 35, 36, 37, 38] (fun m e σ => ∃ k : Nat, m + k = qs.length ∧ e 29 = .int .i64 (k : Int) ∧ e 9 = .int .i64 (manyTo (ringsE s l).1 b k) ∧ σ = ⟨F3, (b1, bx 27 [vs, .int .i64 s.premium, .int .i64 s.fee, .int .i64 s.days, vb, vl, vn, vd]) :: (R4 ++ R5)⟩) (qs.length) ?_ ?_
    · exact ⟨0, by omega, (Ab), (Ap rfl <| Al rfl <| Ab), rfl⟩
    ·
     rintro m2 e2 _ ⟨k, hm2, ht29, ht9, rfl⟩
     by_cases hlk : k < qs.length
     ·
      have hql := hqa _ (List.getElem_mem hlk)
      have hka : k < (ringsE s l).1.length := by rw [← hqm]; simpa using hlk
      have hqk : (ringsE s l).1[k] = qs[k].2 := by simp [← hqm]
      have hmb := manyTo_bound (all := (ringsE s l).1) (b := b) (k := k)
      have hqL0 : (ringsE s l).1.length = qs.length := by rw [← hqm, List.length_map]
      refine Ag <| Ai fun ds => Aa rfl (Bt (As rfl ht29) (Ao rfl <| Al rfl <| Ab)) ?_
      refine Ah <| Ad <| Ag <| Aq (Ab) (by first | rfl | exact decide_eq_true (by omega)) ?_
      by_cases hm : b ∈ qs[k].2
      ·
       refine Aw <| Ad <| Ag <| A4 <| Ag <| Ai fun ds => Aa rfl (Bh  Cx (Al rfl <| Ao rfl <| Ap rfl <| Ab) hqs.plain (Al rfl <| As rfl ht29) rfl hlk) ?_
       refine Aa rfl (Ar Ef (Ab) (hqs.cell1 hlk rfl)) ?_
       refine Aa rfl (Ae (Ab)) ?_
       refine Ah <| Ad <| Ag <| Ai fun ds => Aa rfl (Af (Ab)) ?_
       refine Aa rfl (Af (Ay rfl <| Al rfl <| Ao rfl <| Ay rfl <| Ab)) ?_
       refine Bw rfl (Bc bd_82 A0 (.cons (Al rfl <| Ab) (.cons (Ab) .nil)) (contains_nat hql b) (fun _ _ h => h)) ?_
       refine Ah <| Ad <| Aq (Ab) (decide_eq_true hm) ?_
       refine Ai fun ds => Aa rfl (Af (Ay rfl <| Ap rfl <| Al rfl <| As rfl ht9)) ?_
       refine Aa rfl (Bp (Ab) Ac rfl (by omega) (by omega)) ?_
       refine Aa rfl (Ae (Ab)) ?_
       refine Ah <| Bf <| Ad <| Ai fun ds => Aa rfl (Bp (A9 rfl <| Ap rfl <| As rfl ht29) Ac rfl (by omega) (by omega)) ?_
       refine Aa rfl (Af (Ab)) ?_
       refine Ah <| Ad ⟨_, m2 - 1, Off.eq (D7 rfl <| Et rfl <| Bd), by omega, ?_⟩
       exact ⟨k + 1, by omega, (Ab), by rw [manyTo_succ hka, if_pos (by rw [hqk]; exact hm)]; exact (Ap rfl <| Ab), rfl⟩
      ·
       refine Aw <| Ad <| Ag <| A4 <| Ag <| Ai fun ds => Aa rfl (Bh  Cx (Al rfl <| Ao rfl <| Ap rfl <| Ab) hqs.plain (Al rfl <| As rfl ht29) rfl hlk) ?_
       refine Aa rfl (Ar Ef (Ab) (hqs.cell1 hlk rfl)) ?_
       refine Aa rfl (Ae (Ab)) ?_
       refine Ah <| Ad <| Ag <| Ai fun ds => Aa rfl (Af (Ab)) ?_
       refine Aa rfl (Af (Ay rfl <| Al rfl <| Ao rfl <| Ay rfl <| Ab)) ?_
       refine Bw rfl (Bc bd_82 A0 (.cons (Al rfl <| Ab) (.cons (Ab) .nil)) (contains_nat hql b) (fun _ _ h => h)) ?_
       refine Ah <| Ad <| Am (Ab) (decide_eq_false hm) ?_
       refine Aw <| Bf <| Ad <| Ai fun ds => Aa rfl (Bp (Ay rfl <| Ap rfl <| Al rfl <| As rfl ht29) Ac rfl (by omega) (by omega)) ?_
       refine Aa rfl (Af (Ab)) ?_
       refine Ah <| Ad ⟨_, m2 - 1, Off.eq (D7 rfl <| Ej rfl <| Bd), by omega, ?_⟩
       exact ⟨k + 1, by omega, (Ab), by rw [manyTo_succ hka, if_neg (by rw [hqk]; exact hm)]; exact (A9 rfl <| Al rfl <| As rfl ht9), rfl⟩
     ·
      refine Ag <| Ai fun ds => Aa rfl (Bt (As rfl ht29) (Ao rfl <| Al rfl <| Ab)) ?_
      refine Ah <| Ad <| Ag <| Am (Ab) (by first | rfl | exact decide_eq_false (by omega)) ?_
      obtain rfl : k = qs.length := by omega
      have hqn : manyTo (ringsE s l).1 b qs.length = manyOf (ringsE s l).1 b := by unfold manyOf; rw [← hqm, List.length_map]
      have hqL : (qs.length : Int) = ((ringsE s l).1.length : Int) := by rw [← hqm, List.length_map]
      by_cases hmu : mustB (ringsE s l).1 b = true
      ·
       refine Bv ?_
       refine Bk <| Bk <| Bn <| Ad <| Ag <| Ag <| Ai fun ds => Aa rfl (Af (Al rfl <| As rfl ht9)) ?_
       refine Aa rfl (Af (Ap rfl <| Ao rfl <| Ay rfl <| Ap rfl <| Al rfl <| Ao rfl <| Ay rfl <| Ap rfl <| Al rfl <| Ab)) ?_
       refine Aa rfl (Bi Cx (Ab) hqs.plain) ?_
       refine Aa rfl (B7 (Ap rfl <| Ab) (Ab)) ?_
       refine Ah <| Ad <| Aq (Ab) (by rw [hqn, hqL]; exact hmu) ?_
       by_cases hma : mayB (ringsE s l).1 b = true
       ·
        refine Ai fun ds => Aa rfl (Af (Ay rfl <| Al rfl <| Ao rfl <| Ay rfl <| Ap rfl <| Al rfl <| As rfl hs4)) ?_
        refine Aa rfl (Af (Ay rfl <| Ap rfl <| Ao rfl <| Ay rfl <| Ab)) ?_
        refine Bm rfl (Bz Bs C6 rfl (.cons (Ab) .nil) rfl rfl (by decide) (by simp [Value.oneCell']) fun b8 hb8 nb8 => ?_)
        refine Bm rfl (Ct Bs el_3 (Ap rfl <| Ab) ho4 (Ab) (C8 (s := 1) 0 rfl rfl (by simp [Value.oneCell'])) (by omega) (by omega) (.s <| .s <| .z) .more fun v9 R10 ho11 => ?_)
        have ho4b := ho11.snoc (x := b) rfl rfl
        refine Aa rfl (Ae (Ab)) ?_
        refine Ah <| Ad <| Ag <| Ai fun ds => Aa rfl (Af (A9 rfl <| Ap rfl <| As rfl ht9)) ?_
        refine Aa rfl (Cj (Ab) Ac) ?_
        refine Ah <| Ad <| Aq (Ab) (by rw [hqn]; exact hma) ?_
        refine Ai fun ds => Aa rfl (Af (A9 rfl <| Ay rfl <| Ao rfl <| Ay rfl <| Ap rfl <| Al rfl <| As rfl hs5)) ?_
        refine Aa rfl (Af (A9 rfl <| Ay rfl <| Al rfl <| Ao rfl <| Ay rfl <| Ab)) ?_
        refine Bm rfl (Bz Bs C6 rfl (.cons (Ab) .nil) rfl rfl (by decide) (by simp [Value.oneCell']) fun b12 hb12 nb12 => ?_)
        refine Bm rfl (Ct Bs el_3 (Ap rfl <| Ab) ho5 (Ab) (C8 (s := 1) 0 rfl rfl (by simp [Value.oneCell'])) (by omega) (by omega) (.s <| .s <| .s <| .k <| .z) .last fun v13 R14 ho15 => ?_)
        have ho5b := ho15.snoc (x := b) rfl rfl
        refine Aa rfl (Ae (Ab)) ?_
        refine Ah <| Bf <| Ad <| Cd (fun _ _ h => h.drop (.cons _ <| .cons _ <| .cons_cons _ <| .refl _)) ?_
        refine Ai fun ds => Aa rfl (Bp (Ba rfl <| Al rfl <| Ao rfl <| Ay rfl <| Ap rfl <| Al rfl <| As rfl hs24) Ac rfl (by omega) (by omega)) ?_
        refine Aa rfl (Af (Ab)) ?_
        refine Ah <| Ad ⟨_, m - 1, Off.eq (C5 rfl <| Eb rfl <| Ej rfl <| off_in rfl <| Et rfl <| Eb rfl <| Ej rfl <| Bd), by omega, ?_⟩
        exact ⟨b + 1, by omega, (Ab), _, _, _, _, (A9 rfl <| Al rfl <| Ab), (Ap rfl <| Ab), by rw [C2, if_pos hmu]; exact ho4b, by rw [C2, if_pos hma]; exact ho5b, rfl⟩
       ·
        replace hma : mayB (ringsE s l).1 b = false := by simpa using hma
        refine Ai fun ds => Aa rfl (Af (Ay rfl <| Al rfl <| Ao rfl <| Ay rfl <| Ap rfl <| Al rfl <| As rfl hs4)) ?_
        refine Aa rfl (Af (Ay rfl <| Ap rfl <| Ao rfl <| Ay rfl <| Ab)) ?_
        refine Bm rfl (Bz Bs C6 rfl (.cons (Ab) .nil) rfl rfl (by decide) (by simp [Value.oneCell']) fun b16 hb16 nb16 => ?_)
        refine Bm rfl (Ct Bs el_3 (Ap rfl <| Ab) ho4 (Ab) (C8 (s := 1) 0 rfl rfl (by simp [Value.oneCell'])) (by omega) (by omega) (.s <| .s <| .z) .more fun v17 R18 ho19 => ?_)
        have ho4b := ho19.snoc (x := b) rfl rfl
        refine Aa rfl (Ae (Ab)) ?_
        refine Ah <| Ad <| Ag <| Ai fun ds => Aa rfl (Af (A9 rfl <| Ap rfl <| As rfl ht9)) ?_
        refine Aa rfl (Cj (Ab) Ac) ?_
        refine Ah <| Ad <| Am (Ab) (by rw [hqn]; exact hma) ?_
        refine Aw <| Bf <| Ad <| Cd (fun _ _ h => h.drop (.cons _ <| .cons_cons _ <| .refl _)) ?_
        refine Ai fun ds => Aa rfl (Bp (A9 rfl <| Ay rfl <| Ao rfl <| Ay rfl <| Ap rfl <| Al rfl <| As rfl hs24) Ac rfl (by omega) (by omega)) ?_
        refine Aa rfl (Af (Ab)) ?_
        refine Ah <| Ad ⟨_, m - 1, Off.eq (D7 rfl <| Et rfl <| Eb rfl <| off_in rfl <| Et rfl <| Eb rfl <| Ej rfl <| Bd), by omega, ?_⟩
        exact ⟨b + 1, by omega, (Ab), _, _, _, _, (Ay rfl <| Ab), (A9 rfl <| Ay rfl <| Ap rfl <| Ao rfl <| Ay rfl <| Ap rfl <| Al rfl <| As rfl hs5), by rw [C2, if_pos hmu]; exact ho4b, by rw [C2, if_neg (by rw [hma]; decide)]; exact ho5, rfl⟩
      ·
       replace hmu : mustB (ringsE s l).1 b = false := by simpa using hmu
       refine Bv ?_
       refine Bk <| Bk <| Bn <| Ad <| Ag <| Ag <| Ai fun ds => Aa rfl (Af (Al rfl <| As rfl ht9)) ?_
       refine Aa rfl (Af (Ap rfl <| Ao rfl <| Ay rfl <| Ap rfl <| Al rfl <| Ao rfl <| Ay rfl <| Ap rfl <| Al rfl <| Ab)) ?_
       refine Aa rfl (Bi Cx (Ab) hqs.plain) ?_
       refine Aa rfl (B7 (Ap rfl <| Ab) (Ab)) ?_
       refine Ah <| Ad <| Am (Ab) (by rw [hqn, hqL]; exact hmu) ?_
       by_cases hma : mayB (ringsE s l).1 b = true
       ·
        refine Aw <| Ad <| Ag <| Ai fun ds => Aa rfl (Af (Ay rfl <| Al rfl <| As rfl ht9)) ?_
        refine Aa rfl (Cj (Ab) Ac) ?_
        refine Ah <| Ad <| Aq (Ab) (by rw [hqn]; exact hma) ?_
        refine Ai fun ds => Aa rfl (Af (Ay rfl <| Ap rfl <| Al rfl <| Ao rfl <| Ay rfl <| Ap rfl <| Al rfl <| As rfl hs5)) ?_
        refine Aa rfl (Af (A9 rfl <| Ao rfl <| Ay rfl <| Ab)) ?_
        refine Bm rfl (Bz Bs C6 rfl (.cons (Ab) .nil) rfl rfl (by decide) (by simp [Value.oneCell']) fun b20 hb20 nb20 => ?_)
        refine Bm rfl (Ct Bs el_3 (Ap rfl <| Ab) ho5 (Ab) (C8 (s := 1) 0 rfl rfl (by simp [Value.oneCell'])) (by omega) (by omega) (.s <| .s <| .k <| .z) .last fun v21 R22 ho23 => ?_)
        have ho5b := ho23.snoc (x := b) rfl rfl
        refine Aa rfl (Ae (Ab)) ?_
        refine Ah <| Bf <| Ad <| Cd (fun _ _ h => h.drop (.cons _ <| .cons_cons _ <| .refl _)) ?_
        refine Ai fun ds => Aa rfl (Bp (A9 rfl <| Ay rfl <| Ao rfl <| Ay rfl <| Ap rfl <| Al rfl <| As rfl hs24) Ac rfl (by omega) (by omega)) ?_
        refine Aa rfl (Af (Ab)) ?_
        refine Ah <| Ad ⟨_, m - 1, Off.eq (D7 rfl <| Et rfl <| Eb rfl <| off_in rfl <| Et rfl <| Eb rfl <| Ej rfl <| Bd), by omega, ?_⟩
        exact ⟨b + 1, by omega, (Ab), _, _, _, _, (A9 rfl <| Ay rfl <| Ap rfl <| Ao rfl <| Ay rfl <| Ap rfl <| Al rfl <| As rfl hs4), (Ap rfl <| Ab), by rw [C2, if_neg (by rw [hmu]; decide)]; exact ho4, by rw [C2, if_pos hma]; exact ho5b, rfl⟩
       ·
        replace hma : mayB (ringsE s l).1 b = false := by simpa using hma
        refine Aw <| Ad <| Ag <| Ai fun ds => Aa rfl (Af (Ay rfl <| Al rfl <| As rfl ht9)) ?_
        refine Aa rfl (Cj (Ab) Ac) ?_
        refine Ah <| Ad <| Am (Ab) (by rw [hqn]; exact hma) ?_
        refine Aw <| Bf <| Ad <| Ai fun ds => Aa rfl (Bp (Ay rfl <| Ap rfl <| Al rfl <| Ao rfl <| Ay rfl <| Ap rfl <| Al rfl <| As rfl hs24) Ac rfl (by omega) (by omega)) ?_
        refine Aa rfl (Af (Ab)) ?_
        refine Ah <| Ad ⟨_, m - 1, Off.eq (D7 rfl <| Ej rfl <| off_in rfl <| Et rfl <| Eb rfl <| Ej rfl <| Bd), by omega, ?_⟩
        exact ⟨b + 1, by omega, (Ab), _, _, _, _, (A9 rfl <| Al rfl <| Ao rfl <| Ay rfl <| Ap rfl <| Al rfl <| As rfl hs4), (A9 rfl <| Al rfl <| Ao rfl <| Ay rfl <| Ap rfl <| Al rfl <| As rfl hs5), by rw [C2, if_neg (by rw [hmu]; decide)]; exact ho4, by rw [C2, if_neg (by rw [hma]; decide)]; exact ho5, rfl⟩
   ·
    refine Ag <| Ai fun ds => Aa rfl (Bt (As rfl hs24) (Ao rfl <| Al rfl <| Ab)) ?_
    refine Ah <| Ad <| Ag <| Am (Ab) (by first | rfl | exact decide_eq_false (by omega)) ?_
    obtain rfl : b = s.bidders.length := by omega
    refine Dm (σ := ⟨_, _⟩) (by rfl) ho4 (.s <| .z) .more fun F24 hF25 hz26 => ?_
    have hn4 := ho4.sl (fun _ => rfl) hz26 (by omega)
    refine Dm (σ := ⟨_, _⟩) (by rfl) ho5 (.s <| .z) .last fun F27 hF28 hz29 => ?_
    replace hn4 := hn4.mono hF28
    have hn5 := ho5.sl (fun _ => rfl) hz29 (by omega)
    refine Bv ?_
    refine Bk <| Bk <| Bn <| Ad <| Ag <| Ai fun ds => Aa rfl (Af (Al rfl <| As rfl hs4)) ?_
    refine Aa rfl (Af (Ap rfl <| As rfl hs5)) ?_
    refine Aa rfl (Ae (Al rfl <| Ab)) ?_
    refine Aa rfl (Ae (Al rfl <| Ab)) ?_
    refine Aa rfl (Ae Ac) ?_
    refine Ah <| Ad <| A5 <| Ax rfl (.tmp (Ap rfl <| Ab) (.tmp (Al rfl <| Ab) (.tmp (Ab) .nil))) ?_
    rw [membersE_ok h0]
    exact ⟨_, _, rfl, hn4, hn5⟩
 ·
  refine Ag <| Ai fun ds => Bm rfl (B9 (Ak rfl) rfl fun b30 hb30 nb30 => ?_)
  refine Aa rfl (Ae Ac) ?_
  refine Aa rfl (Ae Ac) ?_
  refine Aa rfl (Ae Ac) ?_
  refine Ah <| Ad <| Ag <| Ai fun ds => Aa rfl (Bg B8 (Ap rfl <| Al rfl <| Ab) rfl rfl (Bl 0 rfl)) ?_
  refine Aa rfl (Af (Ay rfl <| Al rfl <| Ak rfl)) ?_
  refine Bm rfl (Ck bd_28 A0 (.cons (Al rfl <| Ab) (.cons (Ab) .nil)) (Fi hr he) fun v31 F32 hr33 hF34 => ?_)
  obtain ⟨vq, rfl, qs, hqs, hqa, hqm⟩ := hr33
  replace hqa : AllN _ qs := hqa
  refine Aa rfl (Af (Ab)) ?_
  refine Aa rfl (A2 (Ab) rfl) ?_
  refine Aa rfl (A2 (Al rfl <| Ab) rfl) ?_
  refine Aa rfl (Ae (Al rfl <| Ab)) ?_
  refine Aa rfl (Ae (Al rfl <| Ab)) ?_
  refine Ah <| Ad <| Ag <| Ag <| Ai fun ds => Aa rfl (Af (Ab)) ?_
  refine Aa rfl (B6 (Ab) Ac) ?_
  refine Ah <| Ad <| Aq (Ab) (decide_eq_true h0) ?_
  refine Ag <| Ai fun ds => Aa rfl (Af (Ap rfl <| Ab)) ?_
  refine Aa rfl (Ae Ac) ?_
  refine Aa rfl (Ae Ac) ?_
  refine Aa rfl (Ae (Ap rfl <| Ab)) ?_
  refine Ah <| Ad <| A5 <| A3 ?_
  refine Ax rfl (.tmp (Ap rfl <| Ab) (.tmp (Al rfl <| Ab) (.tmp (Ab) .nil))) ?_
  rw [membersE_bad h0]
  exact ⟨_, _, rfl, Sl.nil, Sl.nil⟩
end Go.Proofs.Ytaikojfonleccaa
namespace Go.Proofs.Ytaikojfonleccaa
open Go.RowKit
theorem zr_116 : ZeroT Try.prog 116 (.pointer none) := Db (by kernel_rfl)
theorem zr_4 : ZeroT Try.prog 4 (.bool false) := Db (by kernel_rfl)
theorem bd_85 : Body Try.prog 85 := Bq (by kernel_rfl)
theorem bd_86 : Body Try.prog 86 := Bq (by kernel_rfl)
theorem sz_116 : SizeT Try.prog 116 1 := Dt (by kernel_rfl)
theorem sz_28 : SizeT Try.prog 28 1 := Dt (by kernel_rfl)
theorem sz_4 : SizeT Try.prog 4 1 := Dt (by kernel_rfl)
def WrongC (G : Heap) (o : Option (List Nat)) (vw : Value) (fo : Bool) : Prop := o = none ∧ fo = false ∧ vw = .slice none 0 0 ∨ ∃ mm, o = some mm ∧ fo = true ∧ Nats G vw mm ∧ mm.length ≤ 8
theorem WrongC.mono {F F' : Heap} {o : Option (List Nat)} {vw : Value} {fo : Bool} (h : WrongC F o vw fo) (hF : F.le F') : WrongC F' o vw fo := by
 rcases h with h | ⟨mm, h1, h2, h3, h4⟩
 · exact .inl h
 · exact .inr ⟨mm, h1, h2, h3.mono hF, h4⟩
theorem WrongC.all {F : Heap} {s : Sale} {l : List Ent} {vw : Value} {fo : Bool} (h : WrongC F (wrongTo s l (everyR s.bidders.length)) vw fo) : Nats F vw (wrongP s l) := by
 rcases h with ⟨h1, -⟩ | ⟨mm, h1, -, h2, -⟩
 · rcases wrongTo_spec (s := s) (l := l) _ (everyR s.bidders.length) rfl with ⟨h, -⟩ | ⟨x, -, h, -⟩
   · exact absurd h (by simp [everyR])
   · rw [h] at h1; cases h1
 · unfold wrongP; rw [h1]; exact h2
set_option maxRecDepth 100000 in
theorem wrong_ok {F : Heap} {vs vb vl vn vd : Value} {s : Sale} (hr : SaleR F vs vb vl vn vd s) {ve : Value} {l : List Ent} (he : Sl F ve 4 Ent.enc l) : Ok Try.prog 33 [.agg #[vs, .int .i64 s.premium, .int .i64 s.fee, .int .i64 s.days, vb, vl, vn, vd], ve].toArray F fun u F' => NatsR F' u (wrongE s l) := by
 refine Ok.intro Try.func33 rfl Try.ntmps33 rfl fun w0 => ?_
 have hel := he.plain.lt
 by_cases hok : askedE s l = 0
 ·
  have hv := C7 (Eh hok).1
  have hcat := (Eh hok).2
  have hnb := hv.nb
  have hl6 := ent_len hv hcat
  refine Ag <| Ai fun ds => Bm rfl (B9 (Ak rfl) rfl fun b1 hb1 nb1 => ?_)
  refine Bm rfl (B9 (Al rfl <| Ak rfl) (D2 he.plain.one) fun b2 hb2 nb2 => ?_)
  refine Bm rfl (B5 zr_28 rfl fun b3 hb3 nb3 => ?_)
  refine Aa rfl (Ae Ac) ?_
  refine Ah <| Ad <| Ag <| Ai fun ds => Aa rfl (Bg B8 (Ap rfl <| Al rfl <| Ab) rfl rfl (Bl 2 rfl)) ?_
  refine Aa rfl (Ar one_47 (Ap rfl <| Al rfl <| Ab) (Cell.own 1 rfl rfl)) ?_
  refine Bm rfl (x_callN bd_77 A0 (.cons (Al rfl <| Ab) (.cons (Ab) .nil)) (catalogue_ok hr he hok) fun v4 F5 R8 hr6 hF7 => ?_)
  replace he := he.mono hF7
  obtain ⟨ba, kb, rfl, hX, rfl⟩ := hr6
  refine Aa rfl (Af (Ab)) ?_
  refine Aa rfl (A2 (Ab) rfl) ?_
  refine Aa rfl (A2 (Al rfl <| Ab) rfl) ?_
  refine Bm rfl (B5 zr_116 rfl fun b9 hb9 nb9 => ?_)
  refine Cm (Do sz_116 (Ab) (Ap rfl <| Ab) (i := 0) rfl (.here) (by first | rfl | exact hva1) (.here) ?_)
  refine Aa rfl (Ae (Al rfl <| Ab)) ?_
  refine Ah <| Ad <| Ag <| Ag <| Ai fun ds => Aa rfl (Af (Ab)) ?_
  refine Aa rfl (B6 (Ab) Ac) ?_
  refine Ah <| Ad <| Am (Ab) (by decide) ?_
  refine Aw <| Ad <| Ag <| Ai fun ds => Bm rfl (B5 zr_4 rfl fun b10 hb10 nb10 => ?_)
  refine Cm (Do sz_4 (Ab) Ac (i := 0) rfl (.here) rfl (.here) ?_)
  refine Ah <| Ad <| Ag <| Ag <| Cz (i := 3) rfl hb2 (.next <| .next <| .next <| .here) fun F11 hF12 hz3 => ?_
  replace he := he.mono hF12
  replace hX := hX.mono hF12
  refine Cz (i := 1) rfl hb9 (.next <| .here) fun F13 hF14 hz6 => ?_
  replace he := he.mono hF14
  replace hX := hX.mono hF14
  replace hz3 := hF14 _ _ hz3
  refine WC_pick (.cons (.here) <| .cons (.here) <| .cons (.next <| .here) <| .nil) ?_
  refine Ai fun ds => Aa rfl (Ar one_116 (Ay rfl <| Ab) (CellF.own hz6 rfl).cell) ?_
  refine Bm rfl (Ck bd_83 A0 (.cons (Ab) .nil) (rings_ok hX hv) fun v15 F16 hr17 hF18 => ?_)
  replace he := he.mono hF18
  replace hX := hX.mono hF18
  replace hz3 := hF18 _ _ hz3
  replace hz6 := hF18 _ _ hz6
  obtain ⟨dz, rfl, hzd⟩ := hr17
  refine Ah <| Ad <| A4 <| WC_rangeG rfl (Ab) (bd_108) (rings1_iter hX hv hzd) (Heap.le_refl _) (fun pre G H => ∃ es2 vw fo, KnownC Try.prog 3 G es2 s ∧ WrongC G (wrongTo s l pre) vw fo ∧ H = (b10, bx 4 [.bool fo]) :: (b3, bx 28 [vw]) :: [(kb, mapO es2)]) (fun _ _ _ => False) (fun _ _ _ _ hF h => by obtain ⟨a1, a2, a3, a4, a5, a6⟩ := h; exact ⟨a1, a2, a3, a4.mono hF, a5.mono hF, a6⟩) (fun _ _ _ _ _ h => h) ⟨_, _, _, KnownC.nil, .inl ⟨rfl, rfl, rfl⟩, rfl⟩ (fun L D fn tm pre x rest G H1 vs hxs hle hJ hA => ?_) (fun _ _ _ _ h => h.elim) (fun F2 H1 hF2 hJ => ?_)
  ·
   replace he := he.mono hle
   replace hX := hX.mono hle
   replace hz3 := hle _ _ hz3
   replace hz6 := hle _ _ hz6
   obtain ⟨es2, vw, fo, hK2, hW, rfl⟩ := hJ
   obtain ⟨v9, set, rfl, hv9, hset, hsof⟩ := hA
   refine ⟨rfl, rfl, fun w1 => ?_⟩
   refine WC_eq (e' := (upd (upd _ 26 v9) 27 (.int .i64 (set : Int)))) rfl rfl ?_
   refine Ci (.inr (by kernel_rfl)) (fun _ _ h => h) fun ds => ?_
   refine Aa rfl (Ae (Ab)) ?_
   refine Ah <| Ad ⟨_, rfl, ?_⟩
   refine A4 <| Ag <| Ci (.inr (by kernel_rfl)) (fun _ _ h => h) fun ds => ?_
   refine Aa rfl (Ar one_116 (A9 rfl <| Al rfl <| Ab) (CellF.own hz6 rfl).cell) ?_
   refine Aa rfl (Af (Al rfl <| Ab)) ?_
   refine WL_order (.cons (.next <| .next <| .next <| .next <| .here) <| .cons (.here) <| .cons (.here) <| .cons (.here) <| .cons (.here) <| .nil) ?_
   refine Bm rfl (x_callM bd_70 A0 (.cons (Al rfl <| Ab) (.cons (Ab) .nil)) rfl (sell_ok hX hv hK2 (set := set) hset) fun v23 F24 H27 hr25 hF26 => ?_)
   replace he := he.mono hF26
   replace hle := hle.mono hF26
   replace hW := hW.mono hF26
   replace hz3 := hF26 _ _ hz3
   obtain ⟨es3, rfl, hK3, hal⟩ := hr25
   rw [sellL_eq hv (fun b _ => hsof b)] at hal
   refine Aa rfl (Ae (Ab)) ?_
   refine Ah <| Ad <| Ag <| Ci (.inr (by kernel_rfl)) (fun _ _ h => h) fun ds => ?_
   refine Aa rfl (Ae Ac) ?_
   refine Ah <| Ad <| Ag <| Ag <| WC_name (i := 1) rfl (fun _ => .next <| .here) fun oL hoL => ?_
   refine Ci (.inr (by kernel_rfl)) (fun _ _ h => h) fun ds => ?_
   refine Aa rfl (Ar one_47 (Ba rfl <| Ay rfl <| Ap rfl <| Al rfl <| Ab) (CellF.own hz3 rfl).cell) ?_
   refine Aa rfl (Bi Dn (Ab) he.plain) ?_
   refine Aa rfl (Af Ac) ?_
   refine Ah <| Ad <| A4 <| Bx [11, 12, 13, 33, 34, 35, 36, 37, 38, 39, 40, 41, 42, 43, 44, 45, 46, 47, 48, 49, 50] (fun m e σ => ∃ k : Nat, m + k = l.length ∧ e 33 = .int .i64 (k : Int) ∧ e 11 = .int .i64 (badMask s l x k : Int) ∧ σ = ⟨F24, [(kb, mapO es3), (L, oL), (D, openO), (b10, bx 4 [.bool fo]), (b3, bx 28 [vw])]⟩) (l.length) ?_ ?_
   · exact ⟨0, by omega, (Ab), (Ap rfl <| Al rfl <| Ab), rfl⟩
   ·
    rintro m e _ ⟨k, hm, hs33, hs11, rfl⟩
    by_cases hlt : k < l.length
    ·
     obtain ⟨n, hn, hnl⟩ := ent_lot hcat hlt
     have hn2 : n < (allS s (castL x)).length := by rw [E5]; exact hnl
     have hres : (allS s (castL x))[n] = entRes s l[k] x := by rw [allS_at]; unfold entRes; rw [hn]; rfl
     have hbb : badB s l x k = !(rightE l[k] (entRes s l[k] x)) := by unfold badB; rw [← ent_at hlt]
     have hkp := pow_lt (show k < 6 by omega)
     have hml6 := badMask_lt (s := s) (l := l) (ring := x) (k := k) (by omega)
     refine Ag <| Ci (.inr (by kernel_rfl)) (fun _ _ h => h) fun ds => ?_
     refine Aa rfl (Bt (As rfl hs33) (Ao rfl <| Al rfl <| Ab)) ?_
     refine Ah <| Ad <| Ag <| Aq (Ab) (by first | rfl | exact decide_eq_true (by omega)) ?_
     by_cases hbd : badB s l x k = true
     ·
      refine Aw <| Ad <| Ag <| A4 <| Ag <| Ci (.inr (by kernel_rfl)) (fun _ _ h => h) fun ds => ?_
      refine Aa rfl (Af (Al rfl <| As rfl hs33)) ?_
      refine Aa rfl (Bh  Dn (Ap rfl <| Ao rfl <| Ap rfl <| Ab) he.plain (Ap rfl <| As rfl hs33) rfl hlt) ?_
      refine Aa rfl (Bg Fa (Ab) rfl rfl (he.whole hlt)) ?_
      refine Bm rfl (B5 zr_60 rfl fun b29 hb29 nb29 => ?_)
      refine Aa rfl (Ae (Ap rfl <| Al rfl <| Ab)) ?_
      refine Cm (B4 sz_60 (Al rfl <| Ab) (Ap rfl <| Ab) (i := 0) rfl rfl rfl rfl Ent.enc_one (.here) ?_)
      refine Ah <| Ad <| Ag <| Cf (.inr (by kernel_rfl)) (fun _ _ h => h) (by kernel_rfl) (by kernel_rfl) fun ds => ?_
      refine Az rfl (Bg Fa (Al rfl <| Ab) rfl rfl (Bl 0 rfl)) ?_
      refine Az rfl (Af (Ay rfl <| Ap rfl <| Al rfl <| Ao rfl <| Ay rfl <| Ab)) ?_
      refine Az rfl (Aj Ex (Ap rfl <| Al rfl <| Ab)) ?_
      refine Az rfl (Ar Bj (Ab) (Cell.own 0 rfl rfl)) ?_
      refine Az rfl (Bh (k := n) Dp (Ap rfl <| Ab) hal.plain (Ab) hn hn2) ?_
      refine Az rfl (Bg En (Ab) rfl rfl (hal.whole hn2)) ?_
      refine WQ_c rfl (Bc bd_84 A0 (.cons (Ay rfl <| Al rfl <| Ab) (.cons (Ab) .nil)) (right_ok _ _) (fun _ _ h => h)) ?_
      refine Az rfl (Cu (Ab)) ?_
      refine Cb ?_
      refine Ad <| Aq (Ab) (by rw [hres, ← hbb]; exact hbd) ?_
      refine Ci (.inr (by kernel_rfl)) (fun _ _ h => h) fun ds => ?_
      refine Aa rfl (Af (A9 rfl <| Ay rfl <| Ap rfl <| As rfl hs11)) ?_
      refine Aa rfl (Af (A9 rfl <| Al rfl <| Ab)) ?_
      refine Aa rfl (q_shl Ac (Ab) (k := k) rfl (by omega) (show (1 : Int) * 2 ^ k = ((2 ^ k : Nat) : Int) by simp) (Int.le_trans (by decide) (Int.natCast_nonneg _)) (by omega)) ?_
      refine Aa rfl (q_or (Ap rfl <| Ab) (Ab) (m := badMask s l x k) (k := 2 ^ k) rfl rfl (by omega) (by omega) rfl) ?_
      refine Aa rfl (Ae (Ab)) ?_
      refine Ah <| Bf <| Ad <| Cd (fun _ _ h => h.drop (.cons _ <| .cons_cons _ <| .cons_cons _ <| .cons_cons _ <| .cons_cons _ <| .cons_cons _ <| .refl _)) ?_
      refine Ci (.inr (by kernel_rfl)) (fun _ _ h => h) fun ds => ?_
      refine Aa rfl (Bp (Ba rfl <| Ap rfl <| Al rfl <| As rfl hs33) Ac rfl (by omega) (by omega)) ?_
      refine Aa rfl (Af (Ab)) ?_
      refine Ah <| Ad ⟨_, m - 1, Off.eq (C5 rfl <| Et rfl <| Ej rfl <| Bd), by omega, ?_⟩
      exact ⟨k + 1, by omega, (Ab), by rw [badMask, if_pos hbd]; exact (Ap rfl <| Ab), rfl⟩
     ·
      replace hbd : badB s l x k = false := by simpa using hbd
      refine Aw <| Ad <| Ag <| A4 <| Ag <| Ci (.inr (by kernel_rfl)) (fun _ _ h => h) fun ds => ?_
      refine Aa rfl (Af (Al rfl <| As rfl hs33)) ?_
      refine Aa rfl (Bh  Dn (Ap rfl <| Ao rfl <| Ap rfl <| Ab) he.plain (Ap rfl <| As rfl hs33) rfl hlt) ?_
      refine Aa rfl (Bg Fa (Ab) rfl rfl (he.whole hlt)) ?_
      refine Bm rfl (B5 zr_60 rfl fun b30 hb30 nb30 => ?_)
      refine Aa rfl (Ae (Ap rfl <| Al rfl <| Ab)) ?_
      refine Cm (B4 sz_60 (Al rfl <| Ab) (Ap rfl <| Ab) (i := 0) rfl rfl rfl rfl Ent.enc_one (.here) ?_)
      refine Ah <| Ad <| Ag <| Cf (.inr (by kernel_rfl)) (fun _ _ h => h) (by kernel_rfl) (by kernel_rfl) fun ds => ?_
      refine Az rfl (Bg Fa (Al rfl <| Ab) rfl rfl (Bl 0 rfl)) ?_
      refine Az rfl (Af (Ay rfl <| Ap rfl <| Al rfl <| Ao rfl <| Ay rfl <| Ab)) ?_
      refine Az rfl (Aj Ex (Ap rfl <| Al rfl <| Ab)) ?_
      refine Az rfl (Ar Bj (Ab) (Cell.own 0 rfl rfl)) ?_
      refine Az rfl (Bh (k := n) Dp (Ap rfl <| Ab) hal.plain (Ab) hn hn2) ?_
      refine Az rfl (Bg En (Ab) rfl rfl (hal.whole hn2)) ?_
      refine WQ_c rfl (Bc bd_84 A0 (.cons (Ay rfl <| Al rfl <| Ab) (.cons (Ab) .nil)) (right_ok _ _) (fun _ _ h => h)) ?_
      refine Az rfl (Cu (Ab)) ?_
      refine Cb ?_
      refine Ad <| Am (Ab) (by rw [hres, ← hbb]; exact hbd) ?_
      refine Aw <| Bf <| Ad <| Cd (fun _ _ h => h.drop (.cons _ <| .cons_cons _ <| .cons_cons _ <| .cons_cons _ <| .cons_cons _ <| .cons_cons _ <| .refl _)) ?_
      refine Ci (.inr (by kernel_rfl)) (fun _ _ h => h) fun ds => ?_
      refine Aa rfl (Bp (A9 rfl <| Ay rfl <| Ap rfl <| As rfl hs33) Ac rfl (by omega) (by omega)) ?_
      refine Aa rfl (Af (Ab)) ?_
      refine Ah <| Ad ⟨_, m - 1, Off.eq (C5 rfl <| Bd), by omega, ?_⟩
      exact ⟨k + 1, by omega, (Ab), by rw [badMask, if_neg (by rw [hbd]; decide)]; exact (Ba rfl <| As rfl hs11), rfl⟩
    ·
     refine Ag <| Ci (.inr (by kernel_rfl)) (fun _ _ h => h) fun ds => ?_
     refine Aa rfl (Bt (As rfl hs33) (Ao rfl <| Al rfl <| Ab)) ?_
     refine Ah <| Ad <| Ag <| Am (Ab) (by first | rfl | exact decide_eq_false (by omega)) ?_
     obtain rfl : k = l.length := by omega
     have hml6 := badMask_lt (s := s) (l := l) (ring := x) (k := l.length) (by omega)
     refine Bv ?_
     refine Bk <| Bk <| Bn <| Ad <| Ag <| Ci (.inr (by kernel_rfl)) (fun _ _ h => h) fun ds => ?_
     refine Aa rfl (Af (Al rfl <| As rfl hs11)) ?_
     refine Bm rfl (Ck bd_85 A0 (.cons (Ab) .nil) (list_ok (n := badMask s l x l.length) (by omega)) fun v31 F32 hr33 hF34 => ?_)
     replace hle := hle.mono hF34
     replace hW := hW.mono hF34
     replace hK3 := hK3.mono hF34
     have hn14 := hr33
     rw [bits_bad hl6] at hn14
     have hbl8 : (badL s l x).length ≤ 8 := by rw [← bits_bad hl6]; exact bitsL_len
     have hn14l := hn14.plain.lt
     refine Aa rfl (Ae (Ab)) ?_
     refine Ah <| Ad <| Ag ?_
     rcases hW with ⟨hw1, rfl, rfl⟩ | ⟨mm, hw1, rfl, hmm, hml⟩
     ·
      refine Ci (.inr (by kernel_rfl)) (fun _ _ h => h) fun ds => ?_
      refine Aa rfl (Ar one_4 (Ay rfl <| Ao rfl <| A9 rfl <| Ay rfl <| Al rfl <| Ab) (Cell.own 3 rfl rfl)) ?_
      refine Aa rfl (Cu (Ab)) ?_
      refine Aa rfl (Af (Ab)) ?_
      refine Au rfl rfl (Ab) (.inl (congrArg Value.bool (by rfl))) rfl ?_
      refine Au rfl rfl (Al rfl <| Ab) (.inl (congrArg Value.bool (by rfl))) rfl ?_
      refine Au rfl rfl (Ap rfl <| Ab) (.inl (congrArg Value.bool (by rfl))) rfl ?_
      refine Au rfl rfl (Ap rfl <| Al rfl <| Ab) (.inl (congrArg Value.bool (by rfl))) rfl ?_
      refine Au rfl rfl (Ay rfl <| Ab) (.inl (congrArg Value.bool (by rfl))) rfl ?_
      refine Aa rfl (A6 (Ay rfl <| Al rfl <| Ab) (by rfl) Ac) ?_
      refine Aa rfl (Af (Ab)) ?_
      refine Au rfl rfl (Ab) (.inl (congrArg Value.bool rfl)) rfl ?_
      refine Au rfl rfl (Al rfl <| Ab) (.inl (congrArg Value.bool rfl)) rfl ?_
      refine Au rfl rfl (Ap rfl <| Ab) (.inl (congrArg Value.bool rfl)) rfl ?_
      refine Au rfl rfl (Ap rfl <| Al rfl <| Ab) (.inl (congrArg Value.bool rfl)) rfl ?_
      refine Au rfl rfl (Ay rfl <| Ab) (.inl (congrArg Value.bool rfl)) rfl ?_
      refine Au rfl rfl (Ay rfl <| Al rfl <| Ab) (.inl (congrArg Value.bool rfl)) rfl ?_
      refine Au rfl rfl (Ab) (.inr rfl) rfl ?_
      refine Au rfl rfl (Al rfl <| Ab) (.inr rfl) rfl ?_
      refine Au rfl rfl (Ap rfl <| Ab) (.inr rfl) rfl ?_
      refine Au rfl rfl (Ap rfl <| Al rfl <| Ab) (.inr rfl) rfl ?_
      refine Au rfl rfl (A9 rfl <| Ap rfl <| Ab) (.inl (congrArg Value.bool rfl)) rfl ?_
      refine Aa rfl (A6 (A9 rfl <| Ap rfl <| Al rfl <| Ab) rfl Ac) ?_
      refine Ah <| Ad <| Aq (Ab) rfl ?_
      subst hoL
      refine Ci (.inr (by kernel_rfl)) (fun _ _ h => h) fun ds => ?_
      refine Aa rfl (Af (Ba rfl <| Ay rfl <| Ap rfl <| Ab)) ?_
      refine Cm (Do sz_28 (Ba rfl <| A9 rfl <| Ap rfl <| Al rfl <| Ao rfl <| Ba rfl <| A9 rfl <| Al rfl <| Ab) (Ab) (i := 4) rfl (.here) (by first | rfl | exact hn14.plain.one) (.next <| .next <| .next <| .next <| .here) ?_)
      refine Cm (Do sz_4 (Ba rfl <| A9 rfl <| Ap rfl <| Al rfl <| Ao rfl <| A9 rfl <| Ay rfl <| Al rfl <| Ab) Ac (i := 3) rfl (.here) (by first | rfl | exact hn14.plain.one) (.next <| .next <| .next <| .here) ?_)
      refine Ah <| Bf ?_
      refine round_nG (.one (.next <| .here) <| .one (.next <| .here) <| .one (.next <| .here) <| .one (.next <| .here) <| .one (.here) <| .nil) ?_
      refine .inl ⟨rfl, _, rfl, hle, ?_⟩
      have e1 : wrongTo s l (pre ++ [x]) = some (badL s l x) := by rw [E0, hw1]; rfl
      exact ⟨_, _, true, hK3, .inr ⟨_, e1, rfl, hn14, hbl8⟩, rfl⟩
     ·
      refine Ci (.inr (by kernel_rfl)) (fun _ _ h => h) fun ds => ?_
      refine Aa rfl (Ar one_4 (Ay rfl <| Ao rfl <| A9 rfl <| Ay rfl <| Al rfl <| Ab) (Cell.own 3 rfl rfl)) ?_
      refine Aa rfl (Cu (Ab)) ?_
      refine Aa rfl (Af (Ab)) ?_
      refine At rfl rfl (Ab) (by rfl) ?_
      refine Aa rfl (Af (Ap rfl <| Al rfl <| Ab)) ?_
      refine At rfl rfl (Al rfl <| Ab) (by rfl) ?_
      refine Aa rfl (Bi Bs (Ab) hn14.plain) ?_
      refine At rfl rfl (Ap rfl <| Ab) (by rfl) ?_
      refine Aa rfl (Ar Ef (A9 rfl <| Al rfl <| Ao rfl <| Ba rfl <| A9 rfl <| Al rfl <| Ab) (Cell.own 4 rfl rfl)) ?_
      refine At rfl rfl (Ap rfl <| Al rfl <| Ab) (by rfl) ?_
      refine Aa rfl (Bi Bs (Ab) hmm.plain) ?_
      refine At rfl rfl (Ay rfl <| Ab) (by rfl) ?_
      refine Aa rfl (Bt (Ap rfl <| Ab) (Ab)) ?_
      refine Aa rfl (A8 (Ay rfl <| Al rfl <| Ab) (by rfl) (Ab)) ?_
      refine Aa rfl (Af (Ab)) ?_
      by_cases h1 : (badL s l x).length < mm.length
      ·
       refine Au rfl rfl (Ab) (.inl (congrArg Value.bool (decide_eq_true (by omega)))) rfl ?_
       refine Au rfl rfl (Al rfl <| Ab) (.inl (congrArg Value.bool (decide_eq_true (by omega)))) rfl ?_
       refine Au rfl rfl (Ap rfl <| Ab) (.inl (congrArg Value.bool (decide_eq_true (by omega)))) rfl ?_
       refine Au rfl rfl (Ap rfl <| Al rfl <| Ab) (.inl (congrArg Value.bool (decide_eq_true (by omega)))) rfl ?_
       refine Au rfl rfl (Ay rfl <| Ab) (.inl (congrArg Value.bool (decide_eq_true (by omega)))) rfl ?_
       refine Au rfl rfl (Ay rfl <| Al rfl <| Ab) (.inl (congrArg Value.bool (decide_eq_true (by omega)))) rfl ?_
       refine Au rfl rfl (Ab) (.inr rfl) rfl ?_
       refine Au rfl rfl (Al rfl <| Ab) (.inr rfl) rfl ?_
       refine Au rfl rfl (Ap rfl <| Ab) (.inr rfl) rfl ?_
       refine Au rfl rfl (Ap rfl <| Al rfl <| Ab) (.inr rfl) rfl ?_
       refine Au rfl rfl (A9 rfl <| Ap rfl <| Ab) (.inl (congrArg Value.bool (decide_eq_true (by omega)))) rfl ?_
       refine Aa rfl (A6 (A9 rfl <| Ap rfl <| Al rfl <| Ab) (decide_eq_true (by omega)) Ac) ?_
       refine Ah <| Ad <| Aq (Ab) rfl ?_
       subst hoL
       refine Ci (.inr (by kernel_rfl)) (fun _ _ h => h) fun ds => ?_
       refine Aa rfl (Af (Ba rfl <| Ay rfl <| Ap rfl <| Ab)) ?_
       refine Cm (Do sz_28 (Ba rfl <| A9 rfl <| Ap rfl <| Al rfl <| Ao rfl <| Ba rfl <| A9 rfl <| Al rfl <| Ab) (Ab) (i := 4) rfl (.here) (by first | rfl | exact hn14.plain.one) (.next <| .next <| .next <| .next <| .here) ?_)
       refine Cm (Do sz_4 (Ba rfl <| A9 rfl <| Ap rfl <| Al rfl <| Ao rfl <| A9 rfl <| Ay rfl <| Al rfl <| Ab) Ac (i := 3) rfl (.here) (by first | rfl | exact hn14.plain.one) (.next <| .next <| .next <| .here) ?_)
       refine Ah <| Bf ?_
       refine round_nG (.one (.next <| .here) <| .one (.next <| .here) <| .one (.next <| .here) <| .one (.next <| .here) <| .one (.here) <| .nil) ?_
       refine .inl ⟨rfl, _, rfl, hle, ?_⟩
       have e1 : wrongTo s l (pre ++ [x]) = some (badL s l x) := by rw [E0, hw1, wrongStep_new (.inl h1)]
       exact ⟨_, _, true, hK3, .inr ⟨_, e1, rfl, hn14, hbl8⟩, rfl⟩
      ·
       refine At rfl rfl (Ab) (decide_eq_false (by omega)) ?_
       refine Aa rfl (Af (A9 rfl <| Ap rfl <| Ab)) ?_
       refine At rfl rfl (Al rfl <| Ab) (decide_eq_false (by omega)) ?_
       refine Aa rfl (Bi Bs (Ab) hn14.plain) ?_
       refine At rfl rfl (Ap rfl <| Ab) (decide_eq_false (by omega)) ?_
       refine Aa rfl (Ar Ef (Ba rfl <| Ao rfl <| Ba rfl <| A9 rfl <| Al rfl <| Ab) (Cell.own 4 rfl rfl)) ?_
       refine At rfl rfl (Ap rfl <| Al rfl <| Ab) (decide_eq_false (by omega)) ?_
       refine Aa rfl (Bi Bs (Ab) hmm.plain) ?_
       refine At rfl rfl (Ay rfl <| Ab) (decide_eq_false (by omega)) ?_
       refine Aa rfl (B7 (Ap rfl <| Ab) (Ab)) ?_
       refine At rfl rfl (Ay rfl <| Al rfl <| Ab) (decide_eq_false (by omega)) ?_
       refine Aa rfl (Af (Ab)) ?_
       by_cases h2 : (badL s l x).length = mm.length
       ·
        refine At rfl rfl (Ab) (decide_eq_true (by omega)) ?_
        refine Aa rfl (Af (Ba rfl <| Ab)) ?_
        refine At rfl rfl (Al rfl <| Ab) (decide_eq_true (by omega)) ?_
        refine Aa rfl (Ar Ef (Ba rfl <| Ay rfl <| Al rfl <| Ao rfl <| Ba rfl <| A9 rfl <| Al rfl <| Ab) (Cell.own 4 rfl rfl)) ?_
        refine At rfl rfl (Ap rfl <| Ab) (decide_eq_true (by omega)) ?_
        refine Bw rfl (Bc bd_86 A0 (.cons (Al rfl <| Ab) (.cons (Ab) .nil)) (compare_ok hn14 hmm) (fun _ _ h => h)) ?_
        refine At rfl rfl (Ap rfl <| Al rfl <| Ab) (decide_eq_true (by omega)) ?_
        refine Aa rfl (Bt (Ab) Ac) ?_
        refine At rfl rfl (A9 rfl <| Ap rfl <| Ab) (decide_eq_false (by omega)) ?_
        refine Aa rfl (A6 (Ay rfl <| Ab) (decide_eq_true (by omega)) (Ab)) ?_
        refine Aa rfl (A8 (A9 rfl <| Ap rfl <| Al rfl <| Ab) (decide_eq_false (by omega)) (Ab)) ?_
        refine Ah <| Ad ?_
        by_cases h3 : cmpL (badL s l x) mm < 0
        ·
         refine Aq (Ab) (decide_eq_true h3) ?_
         subst hoL
         refine Ci (.inr (by kernel_rfl)) (fun _ _ h => h) fun ds => ?_
         refine Aa rfl (Af (Ba rfl <| Ay rfl <| Ap rfl <| Ab)) ?_
         refine Cm (Do sz_28 (Ba rfl <| A9 rfl <| Ap rfl <| Al rfl <| Ao rfl <| Ba rfl <| A9 rfl <| Al rfl <| Ab) (Ab) (i := 4) rfl (.here) (by first | rfl | exact hn14.plain.one) (.next <| .next <| .next <| .next <| .here) ?_)
         refine Cm (Do sz_4 (Ba rfl <| A9 rfl <| Ap rfl <| Al rfl <| Ao rfl <| A9 rfl <| Ay rfl <| Al rfl <| Ab) Ac (i := 3) rfl (.here) (by first | rfl | exact hn14.plain.one) (.next <| .next <| .next <| .here) ?_)
         refine Ah <| Bf ?_
         refine round_nG (.one (.next <| .here) <| .one (.next <| .here) <| .one (.next <| .here) <| .one (.next <| .here) <| .one (.here) <| .nil) ?_
         refine .inl ⟨rfl, _, rfl, hle, ?_⟩
         have e1 : wrongTo s l (pre ++ [x]) = some (badL s l x) := by rw [E0, hw1, wrongStep_new (.inr ⟨h2, h3⟩)]
         exact ⟨_, _, true, hK3, .inr ⟨_, e1, rfl, hn14, hbl8⟩, rfl⟩
        ·
         refine Am (Ab) (decide_eq_false h3) ?_
         subst hoL
         refine Aw <| Bf ?_
         refine round_nG (.one (.next <| .here) <| .one (.next <| .here) <| .one (.next <| .here) <| .one (.next <| .here) <| .one (.here) <| .nil) ?_
         refine .inl ⟨rfl, _, rfl, hle, ?_⟩
         have e1 : wrongTo s l (pre ++ [x]) = some mm := by rw [E0, hw1, wrongStep_old (fun h => h.elim h1 (fun h => h3 h.2))]
         exact ⟨_, _, true, hK3, .inr ⟨_, e1, rfl, hmm, hml⟩, rfl⟩
       ·
        refine Au rfl rfl (Ab) (.inl (congrArg Value.bool (decide_eq_false (by omega)))) rfl ?_
        refine Au rfl rfl (Al rfl <| Ab) (.inl (congrArg Value.bool (decide_eq_false (by omega)))) rfl ?_
        refine Au rfl rfl (Ap rfl <| Ab) (.inl (congrArg Value.bool (decide_eq_false (by omega)))) rfl ?_
        refine Au rfl rfl (Ap rfl <| Al rfl <| Ab) (.inl (congrArg Value.bool (decide_eq_false (by omega)))) rfl ?_
        refine At rfl rfl (A9 rfl <| Ap rfl <| Ab) (decide_eq_false (by omega)) ?_
        refine Aa rfl (A8 (Ay rfl <| Ab) (decide_eq_false (by omega)) Ac) ?_
        refine Aa rfl (A8 (A9 rfl <| Ap rfl <| Al rfl <| Ab) (decide_eq_false (by omega)) (Ab)) ?_
        refine Ah <| Ad <| Am (Ab) rfl ?_
        subst hoL
        refine Aw <| Bf ?_
        refine round_nG (.one (.next <| .here) <| .one (.next <| .here) <| .one (.next <| .here) <| .one (.next <| .here) <| .one (.here) <| .nil) ?_
        refine .inl ⟨rfl, _, rfl, hle, ?_⟩
        have e1 : wrongTo s l (pre ++ [x]) = some mm := by rw [E0, hw1, wrongStep_old (fun h => h.elim h1 (fun h => h2 h.1))]
        exact ⟨_, _, true, hK3, .inr ⟨_, e1, rfl, hmm, hml⟩, rfl⟩
  obtain ⟨es2, vw, fo, hK2, hW, rfl⟩ := hJ
  have hwm := hW.all
  refine Bf <| Ad <| Ag <| Ai fun ds => Aa rfl (Ar Ef (A9 rfl <| Ay rfl <| Ap rfl <| Ab) (Cell.own 1 rfl rfl)) ?_
  refine Cm (Do sz_28 (A9 rfl <| Ay rfl <| Ap rfl <| Al rfl <| Ab) (Ab) (i := 1) rfl (.here) hwm.plain.one (.next <| .here) ?_)
  refine Aa rfl (Ae Ac) ?_
  refine Ah <| Ad <| A5 <| Ax rfl (.one Ef (Ba rfl <| Ab) (Cell.own 1 rfl rfl) (.tmp (Ab) .nil)) ?_
  rw [wrongE_ok hok]
  exact ⟨_, rfl, hwm⟩
 ·
  refine Ag <| Ai fun ds => Bm rfl (B9 (Ak rfl) rfl fun b35 hb35 nb35 => ?_)
  refine Bm rfl (B9 (Al rfl <| Ak rfl) (D2 he.plain.one) fun b36 hb36 nb36 => ?_)
  refine Bm rfl (B5 zr_28 rfl fun b37 hb37 nb37 => ?_)
  refine Aa rfl (Ae Ac) ?_
  refine Ah <| Ad <| Ag <| Ai fun ds => Aa rfl (Bg B8 (Ap rfl <| Al rfl <| Ab) rfl rfl (Bl 2 rfl)) ?_
  refine Aa rfl (Ar one_47 (Ap rfl <| Al rfl <| Ab) (Cell.own 1 rfl rfl)) ?_
  refine Bm rfl (Ck bd_77 A0 (.cons (Al rfl <| Ab) (.cons (Ab) .nil)) (catalogue_bad hr he hok) fun v38 F39 hr40 hF41 => ?_)
  obtain ⟨va, hva1, rfl⟩ := hr40
  refine Aa rfl (Af (Ab)) ?_
  refine Aa rfl (A2 (Ab) rfl) ?_
  refine Aa rfl (A2 (Al rfl <| Ab) rfl) ?_
  refine Bm rfl (B5 zr_116 rfl fun b42 hb42 nb42 => ?_)
  refine Cm (Do sz_116 (Ab) (Ap rfl <| Ab) (i := 0) rfl (.here) (by first | rfl | exact hva1) (.here) ?_)
  refine Aa rfl (Ae (Al rfl <| Ab)) ?_
  refine Ah <| Ad <| Ag <| Ag <| Ai fun ds => Aa rfl (Af (Ab)) ?_
  refine Aa rfl (B6 (Ab) Ac) ?_
  refine Ah <| Ad <| Aq (Ab) (decide_eq_true hok) ?_
  refine Ag <| Ai fun ds => Aa rfl (Af (Ap rfl <| Ab)) ?_
  refine Cm (Do sz_28 (A9 rfl <| Ay rfl <| Ab) Ac (i := 1) rfl (.here) rfl (.next <| .here) ?_)
  refine Aa rfl (Ae (Ab)) ?_
  refine Ah <| Ad <| A5 <| A3 ?_
  refine Ax rfl (.one Ef (A9 rfl <| Ay rfl <| Al rfl <| Ab) (Cell.own 1 rfl rfl) (.tmp (Ab) .nil)) ?_
  rw [wrongE_bad rfl hok]
  exact ⟨_, rfl, Sl.nil⟩
end Go.Proofs.Ytaikojfonleccaa
namespace Go.Proofs.Ytaikojfonleccaa
open Go.RowKit
theorem Sl.srcM {α : Type} {F : Heap} {H : List (Nat × Obj)} {v : Value} {s : Nat} {enc : α → List Value} {xs : List α} (h : Sl F v s enc xs) (hs : ∀ x, (enc x).length = s) (h1 : ∀ x ∈ xs, ∀ u ∈ enc x, u.oneCell' = true) :
   Src ⟨F, H⟩ v xs.length (xs.flatMap enc) s := by
 have hlen : ∀ l : List α, (l.flatMap enc).length = l.length * s := fun l => flat_len hs l
 obtain ⟨a, c, rfl, hsp, hno, hlc, -⟩ := h.plain
 refine ⟨hlen xs, fun u hu => ?_, a, c, rfl, fun ha => (hno ha).1, fun x hx => ⟨fun h0 => hsp (by omega) x hx, fun j u hj => ?_⟩⟩
 · obtain ⟨x, hm, hx⟩ := List.mem_flatMap.1 hu
   exact h1 x hm u hx
 · have hs0 : 0 < s := by
     rcases Nat.eq_zero_or_pos s with h0 | h0
     · have := (List.getElem?_eq_some_iff.1 hj).1
       rw [hlen, h0] at this; omega
     · exact h0
   have hj1 := (List.getElem?_eq_some_iff.1 hj).1
   rw [hlen] at hj1
   have hi : j / s < xs.length := Nat.div_lt_of_lt_mul (by rw [Nat.mul_comm]; exact hj1)
   have hm : j % s < s := Nat.mod_lt _ hs0
   have hje : j / s * s + j % s = j := by rw [Nat.mul_comm]; exact Nat.div_add_mod j s
   have hcell : (enc xs[j / s])[j % s]? = some u := by
     have hl : j % s < (enc xs[j / s]).length := by rw [hs]; exact hm
     have := flat_at hs (u := (enc xs[j / s])[j % s]'hl) xs (j / s) hi (List.getElem?_eq_getElem hl)
     rw [hje, hj] at this
     rw [List.getElem?_eq_getElem hl, this]
   have := h.cells (j / s) hi (j % s) u hcell
   rw [hje] at this
   subst hx
   exact this.cell
/-- A list of lists of results. -/
def rsE (p : Value × List Res) : List Value := [p.1]
def RLs (F : Heap) (v : Value) (xss : List (List Res)) : Prop := ∃ ps : List (Value × List Res), Sl F v 1 rsE ps ∧ (∀ p ∈ ps, Sl F p.1 2 Res.enc p.2) ∧ ps.map (·.2) = xss
theorem RLs.mono {F F' : Heap} {v : Value} {xss : List (List Res)} (h : RLs F v xss) (hF : F.le F') : RLs F' v xss := by
 obtain ⟨ps, h1, h2, h3⟩ := h
 exact ⟨ps, h1.mono hF, fun p hp => (h2 p hp).mono hF, h3⟩
def AllR (F : Heap) (ps : List (Value × List Res)) : Prop := ∀ p ∈ ps, Sl F p.1 2 Res.enc p.2
theorem AllR.mono {F F' : Heap} {ps : List (Value × List Res)} (h : AllR F ps) (hF : F.le F') : AllR F' ps := fun p hp => (h p hp).mono hF
theorem AllN.one {F : Heap} {ps : List (Value × List Nat)} (h : AllN F ps) : ∀ x ∈ ps, ∀ u ∈ slE x, u.oneCell' = true := fun x hx u hu => by
 simp only [slE, List.mem_cons, List.not_mem_nil, or_false] at hu
 subst hu; exact (h x hx).plain.one
theorem flat_snd {ps qs : List (Value × List Nat)} : (ps ++ qs).flatMap slE = ps.flatMap slE ++ qs.flatMap slE := List.flatMap_append
end Go.Proofs.Ytaikojfonleccaa
namespace Go.Proofs.Ytaikojfonleccaa
open Go.RowKit
theorem bd_46 : Body Try.prog 46 := Bq (by kernel_rfl)
theorem bd_92 : Body Try.prog 92 := Bq (by kernel_rfl)
set_option maxRecDepth 100000 in
theorem refCatalogue_ok {F : Heap} {vs vb vl vn vd : Value} {s : Sale} (hr : SaleR F vs vb vl vn vd s) {ve : Value} {l : List Ent} (he : Sl F ve 4 Ent.enc l) : Ok Try.prog 46 [.agg #[vs, .int .i64 s.premium, .int .i64 s.fee, .int .i64 s.days, vb, vl, vn, vd], ve].toArray F fun u _ => u = .int .i64 (catE s l) := by
 refine Ok.intro Try.func46 rfl Try.ntmps46 rfl fun w0 => ?_
 have hL1 := hr.lots.plain.lt
 have hL2 := he.plain.lt
 refine Ag <| Ai fun ds => Bm rfl (B9 (Ak rfl) rfl fun b1 hb1 nb1 => ?_)
 refine Aa rfl (Ae Ac) ?_
 refine Ah <| Ad <| Ag <| Ag <| Ai fun ds => Aa rfl (Ae Ac) ?_
 refine Ah <| Ad <| A4 <| Bx [4, 5, 6, 7, 8, 9, 10, 11, 12, 13, 14, 15, 16, 17, 18, 19, 20, 21, 22, 23, 24, 25, 26, 27, 28, 29, 30, 31, 32, 33, 34, 35, 36, 37, 38, 39, 40, 41, 42, 43, 44, 45, 46, 47, 48, 49, 50, 51, 52, 53, 54, 55] (fun m e σ => ∃ k : Nat, m + k = l.length ∧ e 5 = .int .i64 (k : Int) ∧ σ = ⟨F, [(b1, bx 27 [vs, .int .i64 s.premium, .int .i64 s.fee, .int .i64 s.days, vb, vl, vn, vd])]⟩ ∧ ∀ j, j < k → entErr s l j = 0) (l.length) ?_ ?_
 · exact ⟨0, by omega, (Ab), rfl, fun j h => absurd h (by omega)⟩
 ·
  rintro m e _ ⟨k, hm, hs5, rfl, hno⟩
  by_cases hlt : k < l.length
  ·
   refine Ag <| Ag <| Ai fun ds => Aa rfl (Af (As rfl hs5)) ?_
   refine Aa rfl (Af (Al rfl <| Ao rfl <| Ap rfl <| Al rfl <| Ak rfl)) ?_
   refine Aa rfl (Bi Dn (Ab) he.plain) ?_
   refine Aa rfl (Bt (Ap rfl <| Ab) (Ab)) ?_
   refine Ah <| Ad <| Aq (Ab) (by first | rfl | exact decide_eq_true (by omega)) ?_
   by_cases h1 : inB 0 (s.lots.length - 1) l[k].lot = true
   ·
    refine Aw <| Ad <| Ag <| A4 <| Ag <| Ai fun ds => Aa rfl (Af (Ay rfl <| Ao rfl <| Ap rfl <| Al rfl <| Ak rfl)) ?_
    refine Aa rfl (Af (Ay rfl <| Al rfl <| As rfl hs5)) ?_
    refine Aa rfl (Bh  Dn (Al rfl <| Ab) he.plain (Ab) rfl hlt) ?_
    refine Aa rfl (Bg Fa (Ab) rfl rfl (he.whole hlt)) ?_
    refine Bm rfl (B5 zr_60 rfl fun b3 hb3 nb3 => ?_)
    refine Cm (B4 sz_60 (Ab) (Al rfl <| Ab) (i := 0) rfl rfl rfl rfl Ent.enc_one (.here) ?_)
    refine Ah <| Ad <| Ag <| Ag <| Ai fun ds => Aa rfl (Aj Ex (Ab)) ?_
    refine Aa rfl (Ar Bj (Ab) (Cell.own 0 rfl rfl)) ?_
    refine Aa rfl (Aj Cw (A9 rfl <| Ap rfl <| Al rfl <| Ao rfl <| Ap rfl <| Ab)) ?_
    refine Aa rfl (Ar Da (Ab) (Cell.own 1 rfl rfl)) ?_
    refine Aa rfl (Bi Dc (Ab) hr.lots.plain) ?_
    refine Aa rfl (Cl (Ab) Ac rfl (by omega) (by omega)) ?_
    refine Bw rfl (Bc bd_62 A0 (.cons (Ay rfl <| Ab) (.cons Ac (.cons (Ab) .nil))) (Dz _ _ _) (fun _ _ h => h)) ?_
    refine Aa rfl (Cu (Ab)) ?_
    refine Ah <| Ad <| Am (Ab) (by first | (rw [h1]; done) | (rw [h1]; rfl)) ?_
    by_cases hk0 : 0 < k
    ·
     have hk1 : k - 1 < l.length := by omega
     have hprev : ((l[k - 1]?).map (·.lot)).getD 0 = l[k - 1].lot := by rw [List.getElem?_eq_getElem hk1]; rfl
     refine Aw <| Ad <| Ag <| Ag <| Cf (.inl rfl) (fun _ _ h => h) (by kernel_rfl) (by kernel_rfl) fun ds => ?_
     refine Az rfl (Af (Ba rfl <| Al rfl <| As rfl hs5)) ?_
     refine Az rfl (Cj (Ab) Ac) ?_
     refine Az rfl (Af (Ab)) ?_
     refine A7 rfl rfl (Ab) (decide_eq_true (by omega)) ?_
     refine Az rfl (Aj Ex (A9 rfl <| Ap rfl <| Al rfl <| Ab)) ?_
     refine A7 rfl rfl (Al rfl <| Ab) (decide_eq_true (by omega)) ?_
     refine Az rfl (Ar Bj (Ab) (Cell.own 0 rfl rfl)) ?_
     refine A7 rfl rfl (Ap rfl <| Ab) (decide_eq_true (by omega)) ?_
     refine Az rfl (Af (Ba rfl <| Ay rfl <| Ap rfl <| Ao rfl <| Ap rfl <| Al rfl <| Ak rfl)) ?_
     refine A7 rfl rfl (Ap rfl <| Al rfl <| Ab) (decide_eq_true (by omega)) ?_
     refine Az rfl (Af (Ba rfl <| Ay rfl <| Ap rfl <| Al rfl <| As rfl hs5)) ?_
     refine A7 rfl rfl (Ay rfl <| Ab) (decide_eq_true (by omega)) ?_
     refine Az rfl (Cl (Ab) Ac rfl (by omega) (by omega)) ?_
     refine A7 rfl rfl (Ay rfl <| Al rfl <| Ab) (decide_eq_true (by omega)) ?_
     refine Az rfl (Bh (k := k - 1) Dn (Ap rfl <| Ab) he.plain (Ab) (by omega) hk1) ?_
     refine A7 rfl rfl (Ay rfl <| Ap rfl <| Ab) (decide_eq_true (by omega)) ?_
     refine Az rfl (B0 Ex (Ab)) ?_
     refine A7 rfl rfl (Ay rfl <| Ap rfl <| Al rfl <| Ab) (decide_eq_true (by omega)) ?_
     refine Az rfl (Ar Bj (Ab) (he.cell hk1 rfl)) ?_
     refine A7 rfl rfl (A9 rfl <| Ab) (decide_eq_true (by omega)) ?_
     refine Az rfl (Du (Ay rfl <| Ap rfl <| Ab) (Ab)) ?_
     refine Az rfl (A6 (A9 rfl <| Al rfl <| Ab) (decide_eq_true (by omega)) (Ab)) ?_
     refine Az rfl (Af (Ab)) ?_
     by_cases h2 : l[k].lot ≤ l[k - 1].lot
     ·
      refine A1 rfl rfl (Ab) (.inl (congrArg Value.bool (decide_eq_true h2))) rfl ?_
      refine A1 rfl rfl (Al rfl <| Ab) (.inl (congrArg Value.bool (decide_eq_true h2))) rfl ?_
      refine A1 rfl rfl (Ap rfl <| Ab) (.inl (congrArg Value.bool (decide_eq_true h2))) rfl ?_
      refine A1 rfl rfl (Ap rfl <| Al rfl <| Ab) (.inl (congrArg Value.bool (decide_eq_true h2))) rfl ?_
      refine A1 rfl rfl (Ab) (.inr rfl) rfl ?_
      refine A1 rfl rfl (Al rfl <| Ab) (.inr rfl) rfl ?_
      refine A1 rfl rfl (Ap rfl <| Ab) (.inr rfl) rfl ?_
      refine A1 rfl rfl (Ap rfl <| Al rfl <| Ab) (.inr rfl) rfl ?_
      refine A1 rfl rfl (A9 rfl <| Ab) (.inl (congrArg Value.bool (decide_eq_true h2))) rfl ?_
      refine Az rfl (A6 (A9 rfl <| Al rfl <| Ab) (decide_eq_true h2) Ac) ?_
      refine Cb ?_
      refine Ad <| Aq (Ab) rfl ?_
      refine Ag <| Ai fun ds => Aa rfl (Ae Ac) ?_
      refine Ah <| Ad <| A5 <| A3 (Bb (A3 (A3 (Bb (A3 ?_)))))
      refine Ax rfl (.tmp (Ab) .nil) ?_
      show _ = _
      rw [catE_bad hlt hno (show entErr s l k = 2 by rw [Eg hlt, if_neg (by rw [h1]; decide), if_pos (.inl ⟨hk0, by rw [hprev]; exact h2⟩)]) (by decide)]; rfl
     ·
      have hA : ¬ (0 < k ∧ l[k].lot ≤ ((l[k - 1]?).map (·.lot)).getD 0) := fun h => h2 (by rw [← hprev]; exact h.2)
      refine A7 rfl rfl (Ab) (decide_eq_false h2) ?_
      refine Az rfl (Aj fd_60_1 (Ba rfl <| Ay rfl <| Ap rfl <| Ab)) ?_
      refine A7 rfl rfl (Al rfl <| Ab) (decide_eq_false h2) ?_
      refine Az rfl (Ar one_4 (Ab) (Cell.own 0 rfl rfl)) ?_
      refine A7 rfl rfl (Ap rfl <| Ab) (decide_eq_false h2) ?_
      refine Az rfl (Cu (Ab)) ?_
      refine A7 rfl rfl (Ap rfl <| Al rfl <| Ab) (decide_eq_false h2) ?_
      refine Az rfl (Af (Ab)) ?_
      rcases Bool.eq_false_or_eq_true l[k].sold with h3 | h3
      ·
       have hB : ¬ (l[k].sold = false ∧ ¬ (l[k].lo = 0 ∧ l[k].hi = 0)) := fun h => by rw [h3] at h; exact absurd h.1 (by decide)
       refine A1 rfl rfl (Ab) (.inl (congrArg Value.bool (by first | (rw [h3]; done) | (rw [h3]; rfl)))) rfl ?_
       refine A1 rfl rfl (Al rfl <| Ab) (.inl (congrArg Value.bool (by first | (rw [h3]; done) | (rw [h3]; rfl)))) rfl ?_
       refine A1 rfl rfl (Ap rfl <| Ab) (.inl (congrArg Value.bool (by first | (rw [h3]; done) | (rw [h3]; rfl)))) rfl ?_
       refine A1 rfl rfl (Ap rfl <| Al rfl <| Ab) (.inl (congrArg Value.bool (by first | (rw [h3]; done) | (rw [h3]; rfl)))) rfl ?_
       refine A7 rfl rfl (A9 rfl <| Ab) (decide_eq_false h2) ?_
       refine Az rfl (A8 (Ay rfl <| Ab) (by first | (rw [h3]; done) | (rw [h3]; rfl)) Ac) ?_
       refine Az rfl (A8 (A9 rfl <| Al rfl <| Ab) (decide_eq_false h2) (Ab)) ?_
       refine Cb ?_
       refine Ad <| Am (Ab) rfl ?_
       by_cases hrg : rangeE l[k].lo l[k].hi 0 100000 = 0
       ·
        refine Aw <| Ad <| Ag <| Ai fun ds => Aa rfl (Aj Ca (Bo rfl <| Ab)) ?_
        refine Aa rfl (Bg (vs := [.int .i64 l[k].lo, .int .i64 l[k].hi]) Fm (Ab) rfl rfl (Ep 0 rfl rfl)) ?_
        refine Bw rfl (Bc bd_92 A0 (.cons (Ab) (.cons Ac (.cons Ac .nil))) (range_ok _ _ _ _) (fun _ _ h => h)) ?_
        refine Aa rfl (Ae (Ab)) ?_
        refine Ah <| Ad <| Ag <| Ai fun ds => Aa rfl (Af (Ab)) ?_
        refine Aa rfl (B6 (Ab) Ac) ?_
        refine Ah <| Ad <| Am (Ab) (decide_eq_false (fun h => h hrg)) ?_
        refine Aw <| Bf <| Ad <| Cd (fun _ _ h => h.drop (.cons _ <| .cons_cons _ <| .refl _)) ?_
        refine Ai fun ds => Aa rfl (Af (Bo rfl <| A9 rfl <| Ay rfl <| Ap rfl <| Al rfl <| As rfl hs5)) ?_
        refine Aa rfl (Bp (Ab) Ac rfl (by omega) (by omega)) ?_
        refine Aa rfl (Ae (Ab)) ?_
        refine Ah <| Ad ⟨_, m - 1, Off.eq (Ey rfl <| C5 rfl <| Eb rfl <| Bd), by omega, ?_⟩
        refine ⟨k + 1, by omega, (Ab), rfl, fun j hjk => ?_⟩
        rcases Nat.lt_succ_iff_lt_or_eq.1 hjk with hjk | rfl
        · exact hno j hjk
        · rw [Cq hlt h1 hA hB]; exact hrg
       ·
        refine Aw <| Ad <| Ag <| Ai fun ds => Aa rfl (Aj Ca (Bo rfl <| Ab)) ?_
        refine Aa rfl (Bg (vs := [.int .i64 l[k].lo, .int .i64 l[k].hi]) Fm (Ab) rfl rfl (Ep 0 rfl rfl)) ?_
        refine Bw rfl (Bc bd_92 A0 (.cons (Ab) (.cons Ac (.cons Ac .nil))) (range_ok _ _ _ _) (fun _ _ h => h)) ?_
        refine Aa rfl (Ae (Ab)) ?_
        refine Ah <| Ad <| Ag <| Ai fun ds => Aa rfl (Af (Ab)) ?_
        refine Aa rfl (B6 (Ab) Ac) ?_
        refine Ah <| Ad <| Aq (Ab) (decide_eq_true hrg) ?_
        refine Ag <| Ai fun ds => Aa rfl (Af (Ap rfl <| Ab)) ?_
        refine Aa rfl (Ae (Ab)) ?_
        refine Ah <| Ad <| A5 <| Bb (A3 (A3 (Bb (A3 ?_))))
        refine Ax rfl (.tmp (Ab) .nil) ?_
        show _ = _
        rw [catE_bad hlt hno (Cq hlt h1 hA hB) hrg]; rfl
      ·
       refine A7 rfl rfl (Ab) (by first | (rw [h3]; done) | (rw [h3]; rfl)) ?_
       refine Az rfl (Aj Ca (Ba rfl <| A9 rfl <| Ap rfl <| Ab)) ?_
       refine A7 rfl rfl (Al rfl <| Ab) (by first | (rw [h3]; done) | (rw [h3]; rfl)) ?_
       refine Az rfl (Bg (vs := [.int .i64 l[k].lo, .int .i64 l[k].hi]) Fm (Ab) rfl rfl (Ep 0 rfl rfl)) ?_
       refine A7 rfl rfl (Ap rfl <| Ab) (by first | (rw [h3]; done) | (rw [h3]; rfl)) ?_
       refine Az rfl (C9 bt_58 .nil .nil) ?_
       refine A7 rfl rfl (Ap rfl <| Al rfl <| Ab) (by first | (rw [h3]; done) | (rw [h3]; rfl)) ?_
       refine Az rfl (q_neqZ2 Try.underlying58 stoodSp guardSp (by decide) (by decide) rfl rfl Try.underlying3 Try.underlying3 oneSp oneSp (Al rfl <| Ab) (Ab)) ?_
       refine A7 rfl rfl (A9 rfl <| Ab) (decide_eq_false h2) ?_
       refine Az rfl (A6 (Ay rfl <| Ab) (by first | (rw [h3]; done) | (rw [h3]; rfl)) (Ab)) ?_
       refine Az rfl (A8 (A9 rfl <| Al rfl <| Ab) (decide_eq_false h2) (Ab)) ?_
       refine Cb ?_
       refine Ad ?_
       by_cases h4 : l[k].lo = 0 ∧ l[k].hi = 0
       ·
        have hB : ¬ (l[k].sold = false ∧ ¬ (l[k].lo = 0 ∧ l[k].hi = 0)) := fun h => h.2 h4
        refine Am (Ab) (by rw [Fb]; exact decide_eq_false (fun h => h h4)) ?_
        by_cases hrg : rangeE l[k].lo l[k].hi 0 100000 = 0
        ·
         refine Aw <| Ad <| Ag <| Ai fun ds => Aa rfl (Aj Ca (Bo rfl <| Ab)) ?_
         refine Aa rfl (Bg (vs := [.int .i64 l[k].lo, .int .i64 l[k].hi]) Fm (Ab) rfl rfl (Ep 0 rfl rfl)) ?_
         refine Bw rfl (Bc bd_92 A0 (.cons (Ab) (.cons Ac (.cons Ac .nil))) (range_ok _ _ _ _) (fun _ _ h => h)) ?_
         refine Aa rfl (Ae (Ab)) ?_
         refine Ah <| Ad <| Ag <| Ai fun ds => Aa rfl (Af (Ab)) ?_
         refine Aa rfl (B6 (Ab) Ac) ?_
         refine Ah <| Ad <| Am (Ab) (decide_eq_false (fun h => h hrg)) ?_
         refine Aw <| Bf <| Ad <| Cd (fun _ _ h => h.drop (.cons _ <| .cons_cons _ <| .refl _)) ?_
         refine Ai fun ds => Aa rfl (Af (Bo rfl <| A9 rfl <| Ay rfl <| Ap rfl <| Al rfl <| As rfl hs5)) ?_
         refine Aa rfl (Bp (Ab) Ac rfl (by omega) (by omega)) ?_
         refine Aa rfl (Ae (Ab)) ?_
         refine Ah <| Ad ⟨_, m - 1, Off.eq (Ey rfl <| C5 rfl <| Eb rfl <| Bd), by omega, ?_⟩
         refine ⟨k + 1, by omega, (Ab), rfl, fun j hjk => ?_⟩
         rcases Nat.lt_succ_iff_lt_or_eq.1 hjk with hjk | rfl
         · exact hno j hjk
         · rw [Cq hlt h1 hA hB]; exact hrg
        ·
         refine Aw <| Ad <| Ag <| Ai fun ds => Aa rfl (Aj Ca (Bo rfl <| Ab)) ?_
         refine Aa rfl (Bg (vs := [.int .i64 l[k].lo, .int .i64 l[k].hi]) Fm (Ab) rfl rfl (Ep 0 rfl rfl)) ?_
         refine Bw rfl (Bc bd_92 A0 (.cons (Ab) (.cons Ac (.cons Ac .nil))) (range_ok _ _ _ _) (fun _ _ h => h)) ?_
         refine Aa rfl (Ae (Ab)) ?_
         refine Ah <| Ad <| Ag <| Ai fun ds => Aa rfl (Af (Ab)) ?_
         refine Aa rfl (B6 (Ab) Ac) ?_
         refine Ah <| Ad <| Aq (Ab) (decide_eq_true hrg) ?_
         refine Ag <| Ai fun ds => Aa rfl (Af (Ap rfl <| Ab)) ?_
         refine Aa rfl (Ae (Ab)) ?_
         refine Ah <| Ad <| A5 <| Bb (A3 (A3 (Bb (A3 ?_))))
         refine Ax rfl (.tmp (Ab) .nil) ?_
         show _ = _
         rw [catE_bad hlt hno (Cq hlt h1 hA hB) hrg]; rfl
       ·
        refine Aq (Ab) (by rw [Fb]; exact decide_eq_true h4) ?_
        refine Ag <| Ai fun ds => Aa rfl (Ae Ac) ?_
        refine Ah <| Ad <| A5 <| A3 (Bb (A3 (A3 (Bb (A3 ?_)))))
        refine Ax rfl (.tmp (Ab) .nil) ?_
        show _ = _
        rw [catE_bad hlt hno (show entErr s l k = 2 by rw [Eg hlt, if_neg (by rw [h1]; decide), if_pos (.inr ⟨h3, h4⟩)]) (by decide)]; rfl
    ·
     have hA : ¬ (0 < k ∧ l[k].lot ≤ ((l[k - 1]?).map (·.lot)).getD 0) := fun h => hk0 h.1
     refine Aw <| Ad <| Ag <| Ag <| Cf (.inl rfl) (fun _ _ h => h) (by kernel_rfl) (by kernel_rfl) fun ds => ?_
     refine Az rfl (Af (Ba rfl <| Al rfl <| As rfl hs5)) ?_
     refine Az rfl (Cj (Ab) Ac) ?_
     refine Az rfl (Af (Ab)) ?_
     refine A1 rfl rfl (Ab) (.inl (congrArg Value.bool (decide_eq_false (by omega)))) rfl ?_
     refine A1 rfl rfl (Al rfl <| Ab) (.inl (congrArg Value.bool (decide_eq_false (by omega)))) rfl ?_
     refine A1 rfl rfl (Ap rfl <| Ab) (.inl (congrArg Value.bool (decide_eq_false (by omega)))) rfl ?_
     refine A1 rfl rfl (Ap rfl <| Al rfl <| Ab) (.inl (congrArg Value.bool (decide_eq_false (by omega)))) rfl ?_
     refine A1 rfl rfl (Ay rfl <| Ab) (.inl (congrArg Value.bool (decide_eq_false (by omega)))) rfl ?_
     refine A1 rfl rfl (Ay rfl <| Al rfl <| Ab) (.inl (congrArg Value.bool (decide_eq_false (by omega)))) rfl ?_
     refine A1 rfl rfl (Ay rfl <| Ap rfl <| Ab) (.inl (congrArg Value.bool (decide_eq_false (by omega)))) rfl ?_
     refine A1 rfl rfl (Ay rfl <| Ap rfl <| Al rfl <| Ab) (.inl (congrArg Value.bool (decide_eq_false (by omega)))) rfl ?_
     refine A1 rfl rfl (A9 rfl <| Ab) (.inl (congrArg Value.bool (decide_eq_false (by omega)))) rfl ?_
     refine Az rfl (A8 (A9 rfl <| Al rfl <| Ab) (decide_eq_false (by omega)) Ac) ?_
     refine Az rfl (Af (Ab)) ?_
     refine A7 rfl rfl (Ab) rfl ?_
     refine Az rfl (Aj fd_60_1 (Ba rfl <| Ay rfl <| Ap rfl <| Ab)) ?_
     refine A7 rfl rfl (Al rfl <| Ab) rfl ?_
     refine Az rfl (Ar one_4 (Ab) (Cell.own 0 rfl rfl)) ?_
     refine A7 rfl rfl (Ap rfl <| Ab) rfl ?_
     refine Az rfl (Cu (Ab)) ?_
     refine A7 rfl rfl (Ap rfl <| Al rfl <| Ab) rfl ?_
     refine Az rfl (Af (Ab)) ?_
     rcases Bool.eq_false_or_eq_true l[k].sold with h3 | h3
     ·
      have hB : ¬ (l[k].sold = false ∧ ¬ (l[k].lo = 0 ∧ l[k].hi = 0)) := fun h => by rw [h3] at h; exact absurd h.1 (by decide)
      refine A1 rfl rfl (Ab) (.inl (congrArg Value.bool (by first | (rw [h3]; done) | (rw [h3]; rfl)))) rfl ?_
      refine A1 rfl rfl (Al rfl <| Ab) (.inl (congrArg Value.bool (by first | (rw [h3]; done) | (rw [h3]; rfl)))) rfl ?_
      refine A1 rfl rfl (Ap rfl <| Ab) (.inl (congrArg Value.bool (by first | (rw [h3]; done) | (rw [h3]; rfl)))) rfl ?_
      refine A1 rfl rfl (Ap rfl <| Al rfl <| Ab) (.inl (congrArg Value.bool (by first | (rw [h3]; done) | (rw [h3]; rfl)))) rfl ?_
      refine A7 rfl rfl (A9 rfl <| Ab) rfl ?_
      refine Az rfl (A8 (Ay rfl <| Ab) (by first | (rw [h3]; done) | (rw [h3]; rfl)) Ac) ?_
      refine Az rfl (A8 (A9 rfl <| Al rfl <| Ab) rfl (Ab)) ?_
      refine Cb ?_
      refine Ad <| Am (Ab) rfl ?_
      by_cases hrg : rangeE l[k].lo l[k].hi 0 100000 = 0
      ·
       refine Aw <| Ad <| Ag <| Ai fun ds => Aa rfl (Aj Ca (Bo rfl <| Ab)) ?_
       refine Aa rfl (Bg (vs := [.int .i64 l[k].lo, .int .i64 l[k].hi]) Fm (Ab) rfl rfl (Ep 0 rfl rfl)) ?_
       refine Bw rfl (Bc bd_92 A0 (.cons (Ab) (.cons Ac (.cons Ac .nil))) (range_ok _ _ _ _) (fun _ _ h => h)) ?_
       refine Aa rfl (Ae (Ab)) ?_
       refine Ah <| Ad <| Ag <| Ai fun ds => Aa rfl (Af (Ab)) ?_
       refine Aa rfl (B6 (Ab) Ac) ?_
       refine Ah <| Ad <| Am (Ab) (decide_eq_false (fun h => h hrg)) ?_
       refine Aw <| Bf <| Ad <| Cd (fun _ _ h => h.drop (.cons _ <| .cons_cons _ <| .refl _)) ?_
       refine Ai fun ds => Aa rfl (Af (Bo rfl <| A9 rfl <| Ay rfl <| Ap rfl <| Al rfl <| As rfl hs5)) ?_
       refine Aa rfl (Bp (Ab) Ac rfl (by omega) (by omega)) ?_
       refine Aa rfl (Ae (Ab)) ?_
       refine Ah <| Ad ⟨_, m - 1, Off.eq (Ey rfl <| C5 rfl <| Eb rfl <| Bd), by omega, ?_⟩
       refine ⟨k + 1, by omega, (Ab), rfl, fun j hjk => ?_⟩
       rcases Nat.lt_succ_iff_lt_or_eq.1 hjk with hjk | rfl
       · exact hno j hjk
       · rw [Cq hlt h1 hA hB]; exact hrg
      ·
       refine Aw <| Ad <| Ag <| Ai fun ds => Aa rfl (Aj Ca (Bo rfl <| Ab)) ?_
       refine Aa rfl (Bg (vs := [.int .i64 l[k].lo, .int .i64 l[k].hi]) Fm (Ab) rfl rfl (Ep 0 rfl rfl)) ?_
       refine Bw rfl (Bc bd_92 A0 (.cons (Ab) (.cons Ac (.cons Ac .nil))) (range_ok _ _ _ _) (fun _ _ h => h)) ?_
       refine Aa rfl (Ae (Ab)) ?_
       refine Ah <| Ad <| Ag <| Ai fun ds => Aa rfl (Af (Ab)) ?_
       refine Aa rfl (B6 (Ab) Ac) ?_
       refine Ah <| Ad <| Aq (Ab) (decide_eq_true hrg) ?_
       refine Ag <| Ai fun ds => Aa rfl (Af (Ap rfl <| Ab)) ?_
       refine Aa rfl (Ae (Ab)) ?_
       refine Ah <| Ad <| A5 <| Bb (A3 (A3 (Bb (A3 ?_))))
       refine Ax rfl (.tmp (Ab) .nil) ?_
       show _ = _
       rw [catE_bad hlt hno (Cq hlt h1 hA hB) hrg]; rfl
     ·
      refine A7 rfl rfl (Ab) (by first | (rw [h3]; done) | (rw [h3]; rfl)) ?_
      refine Az rfl (Aj Ca (Ba rfl <| A9 rfl <| Ap rfl <| Ab)) ?_
      refine A7 rfl rfl (Al rfl <| Ab) (by first | (rw [h3]; done) | (rw [h3]; rfl)) ?_
      refine Az rfl (Bg (vs := [.int .i64 l[k].lo, .int .i64 l[k].hi]) Fm (Ab) rfl rfl (Ep 0 rfl rfl)) ?_
      refine A7 rfl rfl (Ap rfl <| Ab) (by first | (rw [h3]; done) | (rw [h3]; rfl)) ?_
      refine Az rfl (C9 bt_58 .nil .nil) ?_
      refine A7 rfl rfl (Ap rfl <| Al rfl <| Ab) (by first | (rw [h3]; done) | (rw [h3]; rfl)) ?_
      refine Az rfl (q_neqZ2 Try.underlying58 stoodSp guardSp (by decide) (by decide) rfl rfl Try.underlying3 Try.underlying3 oneSp oneSp (Al rfl <| Ab) (Ab)) ?_
      refine A7 rfl rfl (A9 rfl <| Ab) rfl ?_
      refine Az rfl (A6 (Ay rfl <| Ab) (by first | (rw [h3]; done) | (rw [h3]; rfl)) (Ab)) ?_
      refine Az rfl (A8 (A9 rfl <| Al rfl <| Ab) rfl (Ab)) ?_
      refine Cb ?_
      refine Ad ?_
      by_cases h4 : l[k].lo = 0 ∧ l[k].hi = 0
      ·
       have hB : ¬ (l[k].sold = false ∧ ¬ (l[k].lo = 0 ∧ l[k].hi = 0)) := fun h => h.2 h4
       refine Am (Ab) (by rw [Fb]; exact decide_eq_false (fun h => h h4)) ?_
       by_cases hrg : rangeE l[k].lo l[k].hi 0 100000 = 0
       ·
        refine Aw <| Ad <| Ag <| Ai fun ds => Aa rfl (Aj Ca (Bo rfl <| Ab)) ?_
        refine Aa rfl (Bg (vs := [.int .i64 l[k].lo, .int .i64 l[k].hi]) Fm (Ab) rfl rfl (Ep 0 rfl rfl)) ?_
        refine Bw rfl (Bc bd_92 A0 (.cons (Ab) (.cons Ac (.cons Ac .nil))) (range_ok _ _ _ _) (fun _ _ h => h)) ?_
        refine Aa rfl (Ae (Ab)) ?_
        refine Ah <| Ad <| Ag <| Ai fun ds => Aa rfl (Af (Ab)) ?_
        refine Aa rfl (B6 (Ab) Ac) ?_
        refine Ah <| Ad <| Am (Ab) (decide_eq_false (fun h => h hrg)) ?_
        refine Aw <| Bf <| Ad <| Cd (fun _ _ h => h.drop (.cons _ <| .cons_cons _ <| .refl _)) ?_
        refine Ai fun ds => Aa rfl (Af (Bo rfl <| A9 rfl <| Ay rfl <| Ap rfl <| Al rfl <| As rfl hs5)) ?_
        refine Aa rfl (Bp (Ab) Ac rfl (by omega) (by omega)) ?_
        refine Aa rfl (Ae (Ab)) ?_
        refine Ah <| Ad ⟨_, m - 1, Off.eq (Ey rfl <| C5 rfl <| Eb rfl <| Bd), by omega, ?_⟩
        refine ⟨k + 1, by omega, (Ab), rfl, fun j hjk => ?_⟩
        rcases Nat.lt_succ_iff_lt_or_eq.1 hjk with hjk | rfl
        · exact hno j hjk
        · rw [Cq hlt h1 hA hB]; exact hrg
       ·
        refine Aw <| Ad <| Ag <| Ai fun ds => Aa rfl (Aj Ca (Bo rfl <| Ab)) ?_
        refine Aa rfl (Bg (vs := [.int .i64 l[k].lo, .int .i64 l[k].hi]) Fm (Ab) rfl rfl (Ep 0 rfl rfl)) ?_
        refine Bw rfl (Bc bd_92 A0 (.cons (Ab) (.cons Ac (.cons Ac .nil))) (range_ok _ _ _ _) (fun _ _ h => h)) ?_
        refine Aa rfl (Ae (Ab)) ?_
        refine Ah <| Ad <| Ag <| Ai fun ds => Aa rfl (Af (Ab)) ?_
        refine Aa rfl (B6 (Ab) Ac) ?_
        refine Ah <| Ad <| Aq (Ab) (decide_eq_true hrg) ?_
        refine Ag <| Ai fun ds => Aa rfl (Af (Ap rfl <| Ab)) ?_
        refine Aa rfl (Ae (Ab)) ?_
        refine Ah <| Ad <| A5 <| Bb (A3 (A3 (Bb (A3 ?_))))
        refine Ax rfl (.tmp (Ab) .nil) ?_
        show _ = _
        rw [catE_bad hlt hno (Cq hlt h1 hA hB) hrg]; rfl
      ·
       refine Aq (Ab) (by rw [Fb]; exact decide_eq_true h4) ?_
       refine Ag <| Ai fun ds => Aa rfl (Ae Ac) ?_
       refine Ah <| Ad <| A5 <| A3 (Bb (A3 (A3 (Bb (A3 ?_)))))
       refine Ax rfl (.tmp (Ab) .nil) ?_
       show _ = _
       rw [catE_bad hlt hno (show entErr s l k = 2 by rw [Eg hlt, if_neg (by rw [h1]; decide), if_pos (.inr ⟨h3, h4⟩)]) (by decide)]; rfl
   ·
    replace h1 : inB 0 (s.lots.length - 1) l[k].lot = false := by simpa using h1
    refine Aw <| Ad <| Ag <| A4 <| Ag <| Ai fun ds => Aa rfl (Af (Ay rfl <| Ao rfl <| Ap rfl <| Al rfl <| Ak rfl)) ?_
    refine Aa rfl (Af (Ay rfl <| Al rfl <| As rfl hs5)) ?_
    refine Aa rfl (Bh  Dn (Al rfl <| Ab) he.plain (Ab) rfl hlt) ?_
    refine Aa rfl (Bg Fa (Ab) rfl rfl (he.whole hlt)) ?_
    refine Bm rfl (B5 zr_60 rfl fun b4 hb4 nb4 => ?_)
    refine Cm (B4 sz_60 (Ab) (Al rfl <| Ab) (i := 0) rfl rfl rfl rfl Ent.enc_one (.here) ?_)
    refine Ah <| Ad <| Ag <| Ag <| Ai fun ds => Aa rfl (Aj Ex (Ab)) ?_
    refine Aa rfl (Ar Bj (Ab) (Cell.own 0 rfl rfl)) ?_
    refine Aa rfl (Aj Cw (A9 rfl <| Ap rfl <| Al rfl <| Ao rfl <| Ap rfl <| Ab)) ?_
    refine Aa rfl (Ar Da (Ab) (Cell.own 1 rfl rfl)) ?_
    refine Aa rfl (Bi Dc (Ab) hr.lots.plain) ?_
    refine Aa rfl (Cl (Ab) Ac rfl (by omega) (by omega)) ?_
    refine Bw rfl (Bc bd_62 A0 (.cons (Ay rfl <| Ab) (.cons Ac (.cons (Ab) .nil))) (Dz _ _ _) (fun _ _ h => h)) ?_
    refine Aa rfl (Cu (Ab)) ?_
    refine Ah <| Ad <| Aq (Ab) (by first | (rw [h1]; done) | (rw [h1]; rfl)) ?_
    refine Ag <| Ai fun ds => Aa rfl (Ae Ac) ?_
    refine Ah <| Ad <| A5 <| A3 (Bb (A3 (A3 (Bb (A3 ?_)))))
    refine Ax rfl (.tmp (Ab) .nil) ?_
    show _ = _
    rw [catE_bad hlt hno (show entErr s l k = 4 by rw [Eg hlt, if_pos h1]) (by decide)]; rfl
  ·
   refine Ag <| Ag <| Ai fun ds => Aa rfl (Af (As rfl hs5)) ?_
   refine Aa rfl (Af (Al rfl <| Ao rfl <| Ap rfl <| Al rfl <| Ak rfl)) ?_
   refine Aa rfl (Bi Dn (Ab) he.plain) ?_
   refine Aa rfl (Bt (Ap rfl <| Ab) (Ab)) ?_
   refine Ah <| Ad <| Am (Ab) (by first | rfl | exact decide_eq_false (by omega)) ?_
   refine Bv ?_
   refine Bk <| Bk <| Bn <| Ad <| Ag <| Ai fun ds => Aa rfl (Ae Ac) ?_
   refine Ah <| Ad <| A5 <| Ax rfl (.tmp (Ab) .nil) ?_
   show _ = _
   rw [catE_ok fun j hj => hno j (by omega)]; rfl
set_option maxRecDepth 100000 in
theorem refAsked_ok {F : Heap} {vs vb vl vn vd : Value} {s : Sale} (hr : SaleR F vs vb vl vn vd s) {ve : Value} {l : List Ent} (he : Sl F ve 4 Ent.enc l) : Ok Try.prog 79 [.agg #[vs, .int .i64 s.premium, .int .i64 s.fee, .int .i64 s.days, vb, vl, vn, vd], ve].toArray F fun u _ => u = .int .i64 (askedE s l) := by
 refine Ok.intro Try.func79 rfl Try.ntmps79 rfl fun w0 => ?_
 by_cases h0 : (checkS s).2.2 = 0
 ·
  refine Ag <| Ai fun ds => Bm rfl (B9 (Ak rfl) rfl fun b1 hb1 nb1 => ?_)
  refine Aa rfl (Ae Ac) ?_
  refine Ah <| Ad <| Ag <| Ai fun ds => Aa rfl (Bg B8 (Al rfl <| Ab) rfl rfl (Bl 0 rfl)) ?_
  refine Bw rfl (Bc bd_16 A0 (.cons (Ab) .nil) (refCheckS_ok hr) (fun _ _ h => h)) ?_
  refine Aa rfl (Af (Ab)) ?_
  refine Aa rfl (A2 (Ab) rfl) ?_
  refine Aa rfl (A2 (Al rfl <| Ab) rfl) ?_
  refine Aa rfl (A2 (Ap rfl <| Ab) rfl) ?_
  refine Aa rfl (Ae (Ap rfl <| Ab)) ?_
  refine Aa rfl (Ae (Ap rfl <| Ab)) ?_
  refine Aa rfl (Ae (Ap rfl <| Ab)) ?_
  refine Ah <| Ad <| Ag <| Ag <| Ai fun ds => Aa rfl (Af (Ab)) ?_
  refine Aa rfl (B7 (Ab) Ac) ?_
  refine Ah <| Ad <| Aq (Ab) (decide_eq_true h0) ?_
  refine Ai fun ds => Aa rfl (Bg B8 (A9 rfl <| Ay rfl <| Ab) rfl rfl (Bl 0 rfl)) ?_
  refine Aa rfl (Af (A9 rfl <| Ay rfl <| Ap rfl <| Ak rfl)) ?_
  refine Bw rfl (Bc bd_46 A0 (.cons (Al rfl <| Ab) (.cons (Ab) .nil)) (refCatalogue_ok hr he) (fun _ _ h => h)) ?_
  refine Aa rfl (Ae (Ab)) ?_
  refine Ah <| Ad <| Ag <| Ai fun ds => Aa rfl (Af (Ab)) ?_
  refine Aa rfl (Ae (Ab)) ?_
  refine Ah <| Ad <| A5 <| Ax rfl (.tmp (Ab) .nil) ?_
  show _ = _
  rw [askedE_cat h0]; rfl
 ·
  refine Ag <| Ai fun ds => Bm rfl (B9 (Ak rfl) rfl fun b2 hb2 nb2 => ?_)
  refine Aa rfl (Ae Ac) ?_
  refine Ah <| Ad <| Ag <| Ai fun ds => Aa rfl (Bg B8 (Al rfl <| Ab) rfl rfl (Bl 0 rfl)) ?_
  refine Bw rfl (Bc bd_16 A0 (.cons (Ab) .nil) (refCheckS_ok hr) (fun _ _ h => h)) ?_
  refine Aa rfl (Af (Ab)) ?_
  refine Aa rfl (A2 (Ab) rfl) ?_
  refine Aa rfl (A2 (Al rfl <| Ab) rfl) ?_
  refine Aa rfl (A2 (Ap rfl <| Ab) rfl) ?_
  refine Aa rfl (Ae (Ap rfl <| Ab)) ?_
  refine Aa rfl (Ae (Ap rfl <| Ab)) ?_
  refine Aa rfl (Ae (Ap rfl <| Ab)) ?_
  refine Ah <| Ad <| Ag <| Ag <| Ai fun ds => Aa rfl (Af (Ab)) ?_
  refine Aa rfl (B7 (Ab) Ac) ?_
  refine Ah <| Ad <| Am (Ab) (decide_eq_false h0) ?_
  refine Aw <| Ad <| Ag <| Ai fun ds => Aa rfl (Af (Ap rfl <| Ab)) ?_
  refine Aa rfl (Ae (Ab)) ?_
  refine Ah <| Ad <| A5 <| Ax rfl (.tmp (Ab) .nil) ?_
  show _ = _
  rw [askedE_bad h0]; rfl
def evTo (n j : Nat) : List (List Nat) := [] :: (List.range' 2 j).flatMap fun m => listsR m 0 n
theorem evTo_succ {n j : Nat} : evTo n (j + 1) = evTo n j ++ listsR (2 + j) 0 n := by
 unfold evTo; rw [List.range'_concat, List.flatMap_append]; simp
theorem evTo_bound {n j : Nat} (hn : n ≤ 6) (hj : j ≤ 5) : (evTo n j).length ≤ 134217729 := by
 unfold evTo
 have := flatMap_len_le (f := fun m => listsR m 0 n) (c := 16777216) (List.range' 2 j) fun m hm => Fj (by omega) (by have := (List.mem_range'_1.1 hm).2; omega)
 rw [List.length_range'] at this
 have h2 : j * 16777216 ≤ 5 * 16777216 := Nat.mul_le_mul_right _ hj
 rw [List.length_cons]; omega
set_option maxRecDepth 100000 in
theorem refEvery_ok {F : Heap} {vs vb vl vn vd : Value} {s : Sale} (hr : SaleR F vs vb vl vn vd s) (hv : ValidS s) : Ok Try.prog 105 [.agg #[vs, .int .i64 s.premium, .int .i64 s.fee, .int .i64 s.days, vb, vl, vn, vd]].toArray F fun u F' => Lsts F' u (everyR s.bidders.length) := by
 refine Ok.intro Try.func105 rfl Try.ntmps105 rfl fun w0 => ?_
 have hL2 := hr.bidders.plain.lt
 have hnb := hv.nb
 refine Ag <| Ai fun ds => Bm rfl (B9 (Ak rfl) rfl fun b1 hb1 nb1 => ?_)
 refine Aa rfl (Ae Ac) ?_
 refine Ah <| Ad <| Ag <| Ai fun ds => Bm rfl (Bz Cx zr_28 rfl (.cons Ac .nil) rfl rfl (by decide) (by simp [Value.oneCell']) fun b2 hb2 nb2 => ?_)
 refine Aa rfl (Ae (Ab)) ?_
 refine Ah <| Ad <| Ag <| Ag <| WC_pick (.cons (.next <| .here) <| .cons (.here) <| .nil) ?_
 refine Ai fun ds => Aa rfl (Ae Ac) ?_
 refine Ah <| Ad <| A4 <| Bx [3, 4, 6, 7, 8, 9, 10, 11, 12, 13, 14, 15, 16, 17, 18, 19] (fun m e σ => ∃ G, ∃ j : Nat, m + j = s.bidders.length - 1 ∧ j ≤ 5 ∧ e 4 = .int .i64 ((2 + j : Nat) : Int) ∧ ∃ v3 R3 ps, e 3 = v3 ∧ Own 28 1 v3 ps.length (ps.flatMap slE) R3 ∧ AllN G ps ∧ ps.map (·.2) = evTo s.bidders.length j ∧ σ = ⟨G, (b1, bx 27 [vs, .int .i64 s.premium, .int .i64 s.fee, .int .i64 s.days, vb, vl, vn, vd]) :: R3⟩) (s.bidders.length - 1) ?_ ?_
 · exact ⟨_, 0, by omega, by omega, (Ab), _, _, [(.slice none 0 0, [])], (Al rfl <| Ab), own_box rfl, (fun p hp => by simp at hp; subst hp; exact Sl.nil), rfl, rfl⟩
 ·
  rintro m e _ ⟨G, j, hm1, hj5, hs4, v3, R3, ps, hs3, ho, hpa, hps, rfl⟩; have hpl : ps.length ≤ 134217729 := by have h1 := evTo_bound (n := s.bidders.length) (j := j) hnb hj5; have h2 := congrArg List.length hps; rw [List.length_map] at h2; omega
  by_cases hlt : 2 + j ≤ s.bidders.length
  ·
   refine Ag <| Ag <| Ai fun ds => Aa rfl (Af (As rfl hs4)) ?_
   refine Aa rfl (Aj C4 (Al rfl <| Ao rfl <| Ay rfl <| Ab)) ?_
   refine Aa rfl (Ar Cv (Ab) (Cell.own 0 rfl rfl)) ?_
   refine Aa rfl (Bi Cs (Ab) hr.bidders.plain) ?_
   refine Aa rfl (Du (Ap rfl <| Al rfl <| Ab) (Ab)) ?_
   refine Ah <| Ad <| Aq (Ab) (decide_eq_true (by omega)) ?_
   refine Aw <| Ad <| Ag <| A4 <| Ai fun ds => Aa rfl (Af (Ay rfl <| Al rfl <| As rfl hs3)) ?_
   refine Aa rfl (Aj C4 (Ay rfl <| Ap rfl <| Ao rfl <| Ay rfl <| Ab)) ?_
   refine Aa rfl (Ar Cv (Ab) (Cell.own 0 rfl rfl)) ?_
   refine Aa rfl (Bi Cs (Ab) hr.bidders.plain) ?_
   refine Aa rfl (Af (A9 rfl <| Al rfl <| As rfl hs4)) ?_
   refine Bm rfl (Ck bd_87 A0 (.cons Ac (.cons (Al rfl <| Ab) (.cons (Ab) .nil))) (lists_ok (hi := s.bidders.length) (by omega) (2 + j) (lo := 0) (by omega) (by omega)) fun v4 F5 hr6 hF7 => ?_)
   replace hpa := hpa.mono hF7
   obtain ⟨qs, hqs, hqa, hqm⟩ := hr6
   replace hqa : AllN _ qs := hqa
   have hql : qs.length ≤ 16777216 := by have h1 := Fj (hi := s.bidders.length) (m := 2 + j) (lo := 0) (by omega) (by omega); have h2 := congrArg List.length hqm; rw [List.length_map] at h2; omega
   refine Bm rfl (Ct Cx el_28 (Ay rfl <| Al rfl <| Ab) ho (Ab) (hqs.srcM (fun _ => rfl) hqa.one) (by omega) (by omega) (.s <| .z) .last fun v8 R9 ho10 => ?_)
   have ho2 := ho10
   refine Aa rfl (Ae (Ab)) ?_
   refine Ah <| Bf <| Ad <| Ai fun ds => Aa rfl (Af (A9 rfl <| Ay rfl <| Al rfl <| As rfl hs4)) ?_
   refine Aa rfl (Bp (Ab) Ac (show ((2 + j : Nat) : Int) + 1 = ((2 + (j + 1) : Nat) : Int) by omega) (by omega) (by omega)) ?_
   refine Aa rfl (Ae (Ab)) ?_
   refine Ah <| Ad ⟨_, m - 1, Off.eq (C5 rfl <| Bd), by omega, ?_⟩
   refine ⟨_, j + 1, by omega, by omega, (Ab), _, _, ps ++ qs, (Ap rfl <| Al rfl <| Ab), by rw [flat_snd, List.length_append]; exact ho2, fun p hp => ?_, by rw [List.map_append, hps, hqm, evTo_succ], rfl⟩
   rcases List.mem_append.1 hp with hp | hp
   · exact hpa p hp
   · exact hqa p hp
  ·
   refine Ag <| Ag <| Ai fun ds => Aa rfl (Af (As rfl hs4)) ?_
   refine Aa rfl (Aj C4 (Al rfl <| Ao rfl <| Ay rfl <| Ab)) ?_
   refine Aa rfl (Ar Cv (Ab) (Cell.own 0 rfl rfl)) ?_
   refine Aa rfl (Bi Cs (Ab) hr.bidders.plain) ?_
   refine Aa rfl (Du (Ap rfl <| Al rfl <| Ab) (Ab)) ?_
   refine Ah <| Ad <| Am (Ab) (decide_eq_false (by omega)) ?_
   refine Dm (σ := ⟨_, _⟩) (by rfl) ho (.s <| .z) .last fun F11 hF12 hz13 => ?_
   replace hpa := hpa.mono hF12
   have hsp := ho.sl (fun _ => rfl) hz13 (by have h1 := evTo_bound (n := s.bidders.length) (j := j) hnb (by omega); have h2 := congrArg List.length hps; rw [List.length_map] at h2; omega)
   refine Bv ?_
   refine Bk <| Bk <| Bn <| Ad <| Ag <| Ai fun ds => Aa rfl (Af (Ay rfl <| Al rfl <| As rfl hs3)) ?_
   refine Aa rfl (Ae (Ab)) ?_
   refine Ah <| Ad <| A5 <| Ax rfl (.tmp (Ab) .nil) ?_
   exact ⟨ps, hsp, hpa, by rw [hps]; unfold everyR evTo; rw [show j = s.bidders.length - 1 by omega]⟩
end Go.Proofs.Ytaikojfonleccaa
namespace Go.Proofs.Ytaikojfonleccaa
open Go.RowKit
theorem zr_34 : ZeroT Try.prog 34 (.slice none 0 0) := Db (by kernel_rfl)
theorem bd_105 : Body Try.prog 105 := Bq (by kernel_rfl)
theorem bd_106 : Body Try.prog 106 := Bq (by kernel_rfl)
theorem bd_118 : Body Try.prog 118 := Bq (by kernel_rfl)
theorem el_34 : ElemT Try.prog 34 1 24 (.slice none 0 0) := elemT_of (by kernel_rfl) rfl (by decide)
theorem one_34 : OneT Try.prog 34 := Dy (by kernel_rfl)
theorem sl_132 : SliceT Try.prog 132 34 1 := Es (by kernel_rfl)
theorem rightE_ref {x : Ent} {r : Res} : rightE x r = !(!(decide (decide (r.bidder ≠ -1) = x.sold)) || (x.sold && !(inB x.lo x.hi r.price))) := by
 unfold rightE inB
 cases x.sold <;> by_cases h : r.bidder = -1 <;> simp [h]
set_option maxRecDepth 100000 in
theorem refRight_ok {F : Heap} {ve va vb : Value} {s : Sale} {l : List Ent} {but x : List Nat} (he : Sl F ve 4 Ent.enc l) (hcat : catE s l = 0) (hal : Sl F va 2 Res.enc (allS s (castL x))) (hb_ : Nats F vb but) : Ok Try.prog 106 [ve, va, vb].toArray F fun u _ => u = .bool (rightS s l but x) := by
 refine Ok.intro Try.func106 rfl Try.ntmps106 rfl fun w0 => ?_
 have hl1 := he.plain.lt
 have hl2 := hb_.plain.lt
 have hl3 := hal.plain.lt
 refine Ag <| Ai fun ds => Aa rfl (Ae Ac) ?_
 refine Ah <| Ad <| Ag <| Ag <| Ai fun ds => Aa rfl (Ae Ac) ?_
 refine Ah <| Ad <| A4 <| Bx [6, 7, 8, 9, 10, 11, 12, 13, 14, 15, 16, 17, 18, 19, 20, 21, 22, 23, 24, 25, 26, 27, 28, 29, 30, 31, 32, 33, 34, 35, 36, 37, 38, 39, 40, 41, 42, 43, 44, 45, 46, 47, 48, 49, 50, 51, 52] (fun m e σ => ∃ k : Nat, m + k = l.length ∧ e 7 = .int .i64 (k : Int) ∧ σ = ⟨F, []⟩ ∧ ∀ j (hj : j < l.length), j < k → j ∈ but ∨ rightE l[j] (entRes s l[j] x) = true) (l.length) ?_ ?_
 · exact ⟨0, by omega, (Ab), rfl, fun j hj h => absurd h (by omega)⟩
 ·
  rintro m e _ ⟨k, hm, hs7, rfl, hno⟩
  by_cases hlt : k < l.length
  ·
   obtain ⟨n, hn, hnl⟩ := ent_lot hcat hlt
   have hn2 : n < (allS s (castL x)).length := by rw [E5]; exact hnl
   have hres : (allS s (castL x))[n] = entRes s l[k] x := by rw [allS_at]; unfold entRes; rw [hn]; rfl
   refine Ag <| Ag <| Ai fun ds => Aa rfl (Af (As rfl hs7)) ?_
   refine Aa rfl (Af (Al rfl <| Ao rfl <| Ap rfl <| Ak rfl)) ?_
   refine Aa rfl (Bi Dn (Ab) he.plain) ?_
   refine Aa rfl (Bt (Ap rfl <| Ab) (Ab)) ?_
   refine Ah <| Ad <| Aq (Ab) (by first | rfl | exact decide_eq_true (by omega)) ?_
   by_cases hb : k ∈ but
   ·
    refine Aw <| Ad <| Ag <| A4 <| Ag <| Ag <| Ai fun ds => Aa rfl (Af (Ay rfl <| Ao rfl <| Ap rfl <| Ak rfl)) ?_
    refine Aa rfl (Af (Ay rfl <| Al rfl <| As rfl hs7)) ?_
    refine Bw rfl (Bc bd_42 A0 (.cons (Al rfl <| Ab) (.cons (Ab) .nil)) (has_nat hb_ k) (fun _ _ h => h)) ?_
    refine Ah <| Ad <| Aq (Ab) (decide_eq_true hb) ?_
    refine Bv ?_
    refine Bk (Bn ?_)
    refine Ad <| Ai fun ds => Aa rfl (Af (Ay rfl <| Ap rfl <| Al rfl <| As rfl hs7)) ?_
    refine Aa rfl (Bp (Ab) Ac rfl (by omega) (by omega)) ?_
    refine Aa rfl (Ae (Ab)) ?_
    refine Ah <| Ad ⟨_, m - 1, Off.eq (D7 rfl <| Eb rfl <| Bd), by omega, ?_⟩
    refine ⟨k + 1, by omega, (Ab), rfl, fun j hj hjk => ?_⟩
    rcases Nat.lt_succ_iff_lt_or_eq.1 hjk with hjk | rfl
    · exact hno j hj hjk
    · exact .inl hb
   ·
    refine Aw <| Ad <| Ag <| A4 <| Ag <| Ag <| Ai fun ds => Aa rfl (Af (Ay rfl <| Ao rfl <| Ap rfl <| Ak rfl)) ?_
    refine Aa rfl (Af (Ay rfl <| Al rfl <| As rfl hs7)) ?_
    refine Bw rfl (Bc bd_42 A0 (.cons (Al rfl <| Ab) (.cons (Ab) .nil)) (has_nat hb_ k) (fun _ _ h => h)) ?_
    refine Ah <| Ad <| Am (Ab) (decide_eq_false hb) ?_
    by_cases h2 : decide ((entRes s l[k] x).bidder ≠ -1) = l[k].sold
    ·
     refine Aw <| Ad <| Ag <| Ai fun ds => Aa rfl (Af (Ay rfl <| Ap rfl <| Al rfl <| Ao rfl <| Ap rfl <| Ak rfl)) ?_
     refine Aa rfl (Af (A9 rfl <| Ao rfl <| Ap rfl <| Ak rfl)) ?_
     refine Aa rfl (Af (A9 rfl <| Al rfl <| As rfl hs7)) ?_
     refine Aa rfl (Bh  Dn (Al rfl <| Ab) he.plain (Ab) rfl hlt) ?_
     refine Aa rfl (B0 Ex (Ab)) ?_
     refine Aa rfl (Ar Bj (Ab) (he.cell hlt rfl)) ?_
     refine Aa rfl (Bh (k := n) Dp (Ay rfl <| Al rfl <| Ab) hal.plain (Ab) hn hn2) ?_
     refine Aa rfl (Bg En (Ab) rfl rfl (hal.whole hn2)) ?_
     refine Bm rfl (B5 zr_63 rfl fun b2 hb2 nb2 => ?_)
     refine Cm (B4 sz_63 (Ab) (Al rfl <| Ab) (i := 0) rfl rfl rfl rfl Res.enc_one (.here) ?_)
     refine Ah <| Ad <| Ag <| Cf (.inl rfl) (fun _ _ h => h) (by kernel_rfl) (by kernel_rfl) fun ds => ?_
     refine Az rfl (Aj fd_63_0 (Ab)) ?_
     refine Az rfl (Ar Bj (Ab) (Cell.own 0 rfl rfl)) ?_
     refine Az rfl (B6 (Ab) Ac) ?_
     refine Az rfl (Af (Ba rfl <| Ap rfl <| Al rfl <| Ao rfl <| Ap rfl <| Ak rfl)) ?_
     refine Az rfl (Af (Ba rfl <| Ay rfl <| As rfl hs7)) ?_
     refine Az rfl (Bh  Dn (Al rfl <| Ab) he.plain (Ab) rfl hlt) ?_
     refine Az rfl (B0 fd_60_1 (Ab)) ?_
     refine Az rfl (Ar one_4 (Ab) (he.cell hlt rfl)) ?_
     refine Az rfl (q_neb Try.underlying4 (Ay rfl <| Al rfl <| Ab) (Ab)) ?_
     refine Az rfl (Af (Ab)) ?_
     refine A7 rfl rfl (Ab) (by rw [hres]; simpa using h2) ?_
     refine Az rfl (Af (Ba rfl <| A9 rfl <| Ap rfl <| Ao rfl <| Ap rfl <| Ak rfl)) ?_
     refine A7 rfl rfl (Al rfl <| Ab) (by rw [hres]; simpa using h2) ?_
     refine Az rfl (Af (Ba rfl <| A9 rfl <| Ap rfl <| Al rfl <| As rfl hs7)) ?_
     refine A7 rfl rfl (Ap rfl <| Ab) (by rw [hres]; simpa using h2) ?_
     refine Az rfl (Bh  Dn (Al rfl <| Ab) he.plain (Ab) rfl hlt) ?_
     refine A7 rfl rfl (Ap rfl <| Al rfl <| Ab) (by rw [hres]; simpa using h2) ?_
     refine Az rfl (B0 fd_60_1 (Ab)) ?_
     refine A7 rfl rfl (Ay rfl <| Ab) (by rw [hres]; simpa using h2) ?_
     refine Az rfl (Ar one_4 (Ab) (he.cell hlt rfl)) ?_
     refine A7 rfl rfl (Ay rfl <| Al rfl <| Ab) (by rw [hres]; simpa using h2) ?_
     refine Az rfl (Af (Ab)) ?_
     rcases Bool.eq_false_or_eq_true l[k].sold with h3 | h3
     ·
      refine A7 rfl rfl (Ab) h3 ?_
      refine Az rfl (Aj fd_63_1 (Ba rfl <| Ab)) ?_
      refine A7 rfl rfl (Al rfl <| Ab) h3 ?_
      refine Az rfl (Ar Bj (Ab) (Cell.own 0 rfl rfl)) ?_
      refine A7 rfl rfl (Ap rfl <| Ab) h3 ?_
      refine Az rfl (Af (Bo rfl <| Ap rfl <| Ao rfl <| Ap rfl <| Ak rfl)) ?_
      refine A7 rfl rfl (Ap rfl <| Al rfl <| Ab) h3 ?_
      refine Az rfl (Af (Bo rfl <| Ap rfl <| Al rfl <| As rfl hs7)) ?_
      refine A7 rfl rfl (Ay rfl <| Ab) h3 ?_
      refine Az rfl (Bh  Dn (Al rfl <| Ab) he.plain (Ab) rfl hlt) ?_
      refine A7 rfl rfl (Ay rfl <| Al rfl <| Ab) h3 ?_
      refine Az rfl (B0 Ca (Ab)) ?_
      refine A7 rfl rfl (Ay rfl <| Ap rfl <| Ab) h3 ?_
      refine Az rfl (Bg (vs := [.int .i64 l[k].lo, .int .i64 l[k].hi]) Fm (Ab) rfl rfl (he.part (off := 2) (us := [.int .i64 l[k].lo, .int .i64 l[k].hi]) (rest := []) hlt rfl)) ?_
      refine A7 rfl rfl (Ay rfl <| Ap rfl <| Al rfl <| Ab) h3 ?_
      refine WQ_c rfl (Bc bd_118 A0 (.cons (Ay rfl <| Al rfl <| Ab) (.cons (Ab) .nil)) (inside_ok _ _ _) (fun _ _ h => h)) ?_
      refine A7 rfl rfl (A9 rfl <| Ab) h3 ?_
      refine Az rfl (Cu (Ab)) ?_
      refine A7 rfl rfl (A9 rfl <| Ay rfl <| Ap rfl <| Al rfl <| Ab) (by rw [hres]; simpa using h2) ?_
      refine Az rfl (A6 (A9 rfl <| Al rfl <| Ab) h3 (Ab)) ?_
      refine Az rfl (A8 (Ba rfl <| Ab) (by rw [hres]; simpa using h2) (Ab)) ?_
      refine Cb ?_
      refine Ad ?_
      by_cases h4 : inB l[k].lo l[k].hi (entRes s l[k] x).price = true
      ·
       refine Am (Ab) (by rw [hres, h4]; rfl) ?_
       refine Aw <| Bf <| Ad <| Cd (fun _ _ h => h.drop (.cons _ <| .refl _)) ?_
       refine Ai fun ds => Aa rfl (Af (Bo rfl <| A9 rfl <| Ap rfl <| Al rfl <| As rfl hs7)) ?_
       refine Aa rfl (Bp (Ab) Ac rfl (by omega) (by omega)) ?_
       refine Aa rfl (Ae (Ab)) ?_
       refine Ah <| Ad ⟨_, m - 1, Off.eq (Ey rfl <| D7 rfl <| Et rfl <| Eb rfl <| Bd), by omega, ?_⟩
       refine ⟨k + 1, by omega, (Ab), rfl, fun j hj hjk => ?_⟩
       rcases Nat.lt_succ_iff_lt_or_eq.1 hjk with hjk | rfl
       · exact hno j hj hjk
       · right; rw [rightE_ref, h2, h3]; simp [h4]
      ·
       replace h4 : inB l[k].lo l[k].hi (entRes s l[k] x).price = false := by simpa using h4
       refine Aq (Ab) (by rw [hres, h4]; rfl) ?_
       refine Ag <| Ai fun ds => Aa rfl (Ae Ac) ?_
       refine Ah <| Ad <| A5 <| Bb (A3 (A3 (Bb (A3 ?_))))
       refine Ax rfl (.tmp (Ab) .nil) ?_
       show _ = _
       rw [rightS_false hlt hb (show rightE l[k] (entRes s l[k] x) = false by rw [rightE_ref]; simp [h2, h3, h4])]; rfl
     ·
      refine A1 rfl rfl (Ab) (.inl (congrArg Value.bool h3)) rfl ?_
      refine A1 rfl rfl (Al rfl <| Ab) (.inl (congrArg Value.bool h3)) rfl ?_
      refine A1 rfl rfl (Ap rfl <| Ab) (.inl (congrArg Value.bool h3)) rfl ?_
      refine A1 rfl rfl (Ap rfl <| Al rfl <| Ab) (.inl (congrArg Value.bool h3)) rfl ?_
      refine A1 rfl rfl (Ay rfl <| Ab) (.inl (congrArg Value.bool h3)) rfl ?_
      refine A1 rfl rfl (Ay rfl <| Al rfl <| Ab) (.inl (congrArg Value.bool h3)) rfl ?_
      refine A1 rfl rfl (Ay rfl <| Ap rfl <| Ab) (.inl (congrArg Value.bool h3)) rfl ?_
      refine A1 rfl rfl (Ay rfl <| Ap rfl <| Al rfl <| Ab) (.inl (congrArg Value.bool h3)) rfl ?_
      refine A1 rfl rfl (A9 rfl <| Ab) (.inl (congrArg Value.bool h3)) rfl ?_
      refine A7 rfl rfl (A9 rfl <| Ay rfl <| Ap rfl <| Al rfl <| Ab) (by rw [hres]; simpa using h2) ?_
      refine Az rfl (A8 (A9 rfl <| Al rfl <| Ab) h3 Ac) ?_
      refine Az rfl (A8 (Ba rfl <| Ab) (by rw [hres]; simpa using h2) (Ab)) ?_
      refine Cb ?_
      refine Ad <| Am (Ab) rfl ?_
      refine Aw <| Bf <| Ad <| Cd (fun _ _ h => h.drop (.cons _ <| .refl _)) ?_
      refine Ai fun ds => Aa rfl (Af (Bo rfl <| A9 rfl <| Ap rfl <| Al rfl <| As rfl hs7)) ?_
      refine Aa rfl (Bp (Ab) Ac rfl (by omega) (by omega)) ?_
      refine Aa rfl (Ae (Ab)) ?_
      refine Ah <| Ad ⟨_, m - 1, Off.eq (Ey rfl <| D7 rfl <| Et rfl <| Eb rfl <| Bd), by omega, ?_⟩
      refine ⟨k + 1, by omega, (Ab), rfl, fun j hj hjk => ?_⟩
      rcases Nat.lt_succ_iff_lt_or_eq.1 hjk with hjk | rfl
      · exact hno j hj hjk
      · right; rw [rightE_ref, h2, h3]; simp
    ·
     refine Aw <| Ad <| Ag <| Ai fun ds => Aa rfl (Af (Ay rfl <| Ap rfl <| Al rfl <| Ao rfl <| Ap rfl <| Ak rfl)) ?_
     refine Aa rfl (Af (A9 rfl <| Ao rfl <| Ap rfl <| Ak rfl)) ?_
     refine Aa rfl (Af (A9 rfl <| Al rfl <| As rfl hs7)) ?_
     refine Aa rfl (Bh  Dn (Al rfl <| Ab) he.plain (Ab) rfl hlt) ?_
     refine Aa rfl (B0 Ex (Ab)) ?_
     refine Aa rfl (Ar Bj (Ab) (he.cell hlt rfl)) ?_
     refine Aa rfl (Bh (k := n) Dp (Ay rfl <| Al rfl <| Ab) hal.plain (Ab) hn hn2) ?_
     refine Aa rfl (Bg En (Ab) rfl rfl (hal.whole hn2)) ?_
     refine Bm rfl (B5 zr_63 rfl fun b3 hb3 nb3 => ?_)
     refine Cm (B4 sz_63 (Ab) (Al rfl <| Ab) (i := 0) rfl rfl rfl rfl Res.enc_one (.here) ?_)
     refine Ah <| Ad <| Ag <| Cf (.inl rfl) (fun _ _ h => h) (by kernel_rfl) (by kernel_rfl) fun ds => ?_
     refine Az rfl (Aj fd_63_0 (Ab)) ?_
     refine Az rfl (Ar Bj (Ab) (Cell.own 0 rfl rfl)) ?_
     refine Az rfl (B6 (Ab) Ac) ?_
     refine Az rfl (Af (Ba rfl <| Ap rfl <| Al rfl <| Ao rfl <| Ap rfl <| Ak rfl)) ?_
     refine Az rfl (Af (Ba rfl <| Ay rfl <| As rfl hs7)) ?_
     refine Az rfl (Bh  Dn (Al rfl <| Ab) he.plain (Ab) rfl hlt) ?_
     refine Az rfl (B0 fd_60_1 (Ab)) ?_
     refine Az rfl (Ar one_4 (Ab) (he.cell hlt rfl)) ?_
     refine Az rfl (q_neb Try.underlying4 (Ay rfl <| Al rfl <| Ab) (Ab)) ?_
     refine Az rfl (Af (Ab)) ?_
     refine A1 rfl rfl (Ab) (.inl (congrArg Value.bool (by rw [hres]; revert h2; cases l[k].sold <;> by_cases hq : (entRes s l[k] x).bidder = -1 <;> simp [hq]))) rfl ?_
     refine A1 rfl rfl (Al rfl <| Ab) (.inl (congrArg Value.bool (by rw [hres]; revert h2; cases l[k].sold <;> by_cases hq : (entRes s l[k] x).bidder = -1 <;> simp [hq]))) rfl ?_
     refine A1 rfl rfl (Ap rfl <| Ab) (.inl (congrArg Value.bool (by rw [hres]; revert h2; cases l[k].sold <;> by_cases hq : (entRes s l[k] x).bidder = -1 <;> simp [hq]))) rfl ?_
     refine A1 rfl rfl (Ap rfl <| Al rfl <| Ab) (.inl (congrArg Value.bool (by rw [hres]; revert h2; cases l[k].sold <;> by_cases hq : (entRes s l[k] x).bidder = -1 <;> simp [hq]))) rfl ?_
     refine A1 rfl rfl (Ay rfl <| Ab) (.inl (congrArg Value.bool (by rw [hres]; revert h2; cases l[k].sold <;> by_cases hq : (entRes s l[k] x).bidder = -1 <;> simp [hq]))) rfl ?_
     refine A1 rfl rfl (Ay rfl <| Al rfl <| Ab) (.inl (congrArg Value.bool (by rw [hres]; revert h2; cases l[k].sold <;> by_cases hq : (entRes s l[k] x).bidder = -1 <;> simp [hq]))) rfl ?_
     refine A1 rfl rfl (Ab) (.inr rfl) rfl ?_
     refine A1 rfl rfl (Al rfl <| Ab) (.inr rfl) rfl ?_
     refine A1 rfl rfl (Ap rfl <| Ab) (.inr rfl) rfl ?_
     refine A1 rfl rfl (Ap rfl <| Al rfl <| Ab) (.inr rfl) rfl ?_
     refine A1 rfl rfl (Ay rfl <| Ab) (.inr rfl) rfl ?_
     refine A1 rfl rfl (Ay rfl <| Al rfl <| Ab) (.inr rfl) rfl ?_
     refine A1 rfl rfl (Ay rfl <| Ap rfl <| Ab) (.inr rfl) rfl ?_
     refine A1 rfl rfl (Ay rfl <| Ap rfl <| Al rfl <| Ab) (.inr rfl) rfl ?_
     refine A1 rfl rfl (A9 rfl <| Ab) (.inr rfl) rfl ?_
     refine A1 rfl rfl (A9 rfl <| Ay rfl <| Ap rfl <| Al rfl <| Ab) (.inl (congrArg Value.bool (by rw [hres]; revert h2; cases l[k].sold <;> by_cases hq : (entRes s l[k] x).bidder = -1 <;> simp [hq]))) rfl ?_
     refine Az rfl (A6 (Ba rfl <| Ab) (by rw [hres]; revert h2; cases l[k].sold <;> by_cases hq : (entRes s l[k] x).bidder = -1 <;> simp [hq]) Ac) ?_
     refine Cb ?_
     refine Ad <| Aq (Ab) rfl ?_
     refine Ag <| Ai fun ds => Aa rfl (Ae Ac) ?_
     refine Ah <| Ad <| A5 <| Bb (A3 (A3 (Bb (A3 ?_))))
     refine Ax rfl (.tmp (Ab) .nil) ?_
     show _ = _
     rw [rightS_false hlt hb (show rightE l[k] (entRes s l[k] x) = false by rw [rightE_ref, decide_eq_false h2]; rfl)]; rfl
  ·
   refine Ag <| Ag <| Ai fun ds => Aa rfl (Af (As rfl hs7)) ?_
   refine Aa rfl (Af (Al rfl <| Ao rfl <| Ap rfl <| Ak rfl)) ?_
   refine Aa rfl (Bi Dn (Ab) he.plain) ?_
   refine Aa rfl (Bt (Ap rfl <| Ab) (Ab)) ?_
   refine Ah <| Ad <| Am (Ab) (by first | rfl | exact decide_eq_false (by omega)) ?_
   refine Bv ?_
   refine Bk <| Bk <| Bn <| Ad <| Ag <| Ai fun ds => Aa rfl (Ae Ac) ?_
   refine Ah <| Ad <| A5 <| Ax rfl (.tmp (Ab) .nil) ?_
   show _ = _
   rw [rightS_true fun j hj => hno j hj (by omega)]; rfl
set_option maxRecDepth 100000 in
theorem refResults_ok {F : Heap} {vs vb vl vn vd : Value} {s : Sale} (hr : SaleR F vs vb vl vn vd s) (hv : ValidS s) : Ok Try.prog 81 [.agg #[vs, .int .i64 s.premium, .int .i64 s.fee, .int .i64 s.days, vb, vl, vn, vd]].toArray F fun u F' => RLs F' u ((everyR s.bidders.length).map fun x => allS s (castL x)) := by
 refine Ok.intro Try.func81 rfl Try.ntmps81 rfl fun w0 => ?_
 have hL2 := hr.bidders.plain.lt
 have hnb := hv.nb
 refine Ag <| Ai fun ds => Bm rfl (B9 (Ak rfl) rfl fun b1 hb1 nb1 => ?_)
 refine Aa rfl (Ae Ac) ?_
 refine Ah <| Ad <| Ag <| Ai fun ds => Aa rfl (Bg B8 (Al rfl <| Ab) rfl rfl (Bl 0 rfl)) ?_
 refine Bm rfl (Ck bd_105 A0 (.cons (Ab) .nil) (refEvery_ok hr hv) fun v2 F3 hr4 hF5 => ?_)
 replace hr := hr.mono hF5
 have hle1 : F.le _ := hF5
 obtain ⟨qs, hqs, hqa, hqm⟩ := hr4
 replace hqa : AllN _ qs := hqa
 have hqb : qs.length ≤ 134217728 := by have h1 := everyTo_bound (n := s.bidders.length) (k := s.bidders.length + 1) hnb (by omega); rw [Fe, ← hqm, List.length_map] at h1; exact h1
 refine Aa rfl (Ae (Ab)) ?_
 refine Ah <| Ad <| Ag <| Ai fun ds => Aa rfl (Ae Ac) ?_
 refine Ah <| Ad <| Ag <| Ag <| Ai fun ds => Aa rfl (Ae Ac) ?_
 refine Ah <| Ad <| A4 <| Bx [4, 5, 8, 9, 10, 11, 12, 13, 14, 15, 16, 17, 18, 19, 20, 21, 22] (fun m e σ => ∃ G, F.le G ∧ F3.le G ∧ ∃ k : Nat, m + k = qs.length ∧ e 5 = .int .i64 (k : Int) ∧ ∃ v4 R4 ps, e 4 = v4 ∧ Own 34 1 v4 ps.length (ps.flatMap rsE) R4 ∧ AllR G ps ∧ ps.map (·.2) = (qs.take k).map (fun q => allS s (castL q.2)) ∧ σ = ⟨G, (b1, bx 27 [vs, .int .i64 s.premium, .int .i64 s.fee, .int .i64 s.days, vb, vl, vn, vd]) :: R4⟩) (qs.length) ?_ ?_
 · exact ⟨_, hle1, Heap.le_refl _, 0, by omega, (Ab), _, _, [], (Al rfl <| Ab), own_nil, (fun p hp => nomatch hp), rfl, rfl⟩
 ·
  rintro m e _ ⟨G, hle0, hFG, k, hm, hs5, v4, R4, ps, hs4, ho, hpa, hps, rfl⟩; replace hr := hr.mono hFG; replace hqs := hqs.mono hFG; replace hqa := hqa.mono hFG; have hpl : ps.length ≤ 134217728 := by have h2 := congrArg List.length hps; simp at h2; omega
  by_cases hlt : k < qs.length
  ·
   have hql : Nats _ _ _ := hqa _ (List.getElem_mem hlt)
   refine Ag <| Ag <| Ai fun ds => Aa rfl (Af (As rfl hs5)) ?_
   refine Aa rfl (Af (Al rfl <| Ao rfl <| Ap rfl <| Ab)) ?_
   refine Aa rfl (Bi Cx (Ab) hqs.plain) ?_
   refine Aa rfl (Bt (Ap rfl <| Ab) (Ab)) ?_
   refine Ah <| Ad <| Aq (Ab) (by first | rfl | exact decide_eq_true (by omega)) ?_
   refine Aw <| Ad <| Ag <| A4 ?_
   have hleS := hle0
   refine D6 (.inl rfl) (fun _ _ h => h) (.cons_cons _ <| List.nil_sublist _) [] (by kernel_rfl) fun ds => ?_
   refine Be 0 rfl (by kernel_rfl) (by kernel_rfl) (by kernel_rfl) (by kernel_rfl) rfl rfl (fun _ h => h.drop (.cons_cons _ <| List.nil_sublist _)) (fun _ _ _ h => h) (Af (Ay rfl <| As rfl hs4)) ?_
   refine Be 1 rfl (by kernel_rfl) (by kernel_rfl) (by kernel_rfl) (by kernel_rfl) rfl rfl (fun _ h => h.drop (.cons_cons _ <| List.nil_sublist _)) (fun _ _ _ h => h) (Bg B8 (Ay rfl <| Al rfl <| Ao rfl <| Ay rfl <| Ap rfl <| Ab) rfl rfl (Bl 0 rfl)) ?_
   refine Be 2 rfl (by kernel_rfl) (by kernel_rfl) (by kernel_rfl) (by kernel_rfl) rfl rfl (fun _ h => h.drop (.cons_cons _ <| List.nil_sublist _)) (fun _ _ _ h => h) (Af (Ay rfl <| Ap rfl <| Ao rfl <| Ap rfl <| Ab)) ?_
   refine Be 3 rfl (by kernel_rfl) (by kernel_rfl) (by kernel_rfl) (by kernel_rfl) rfl rfl (fun _ h => h.drop (.cons_cons _ <| List.nil_sublist _)) (fun _ _ _ h => h) (Af (Ay rfl <| Ap rfl <| Al rfl <| As rfl hs5)) ?_
   refine Be 4 rfl (by kernel_rfl) (by kernel_rfl) (by kernel_rfl) (by kernel_rfl) rfl rfl (fun _ h => h.drop (.cons_cons _ <| List.nil_sublist _)) (fun _ _ _ h => h) (Bh  Cx (Al rfl <| Ab) hqs.plain (Ab) rfl hlt) ?_
   refine Be 5 rfl (by kernel_rfl) (by kernel_rfl) (by kernel_rfl) (by kernel_rfl) rfl rfl (fun _ h => h.drop (.cons_cons _ <| List.nil_sublist _)) (fun _ _ _ h => h) (Ar Ef (Ab) (hqs.cell1 hlt rfl)) ?_
   refine Dh 6 rfl (by kernel_rfl) rfl (Ck bd_72 A0 (.cons (Ay rfl <| Ab) (.cons (Ab) .nil)) (refAll_ok hr hv hql.ints) fun v7 F8 hr9 hF10 => ⟨fun _ _ _ h => (h.drop (.cons_cons _ <| List.nil_sublist _)).weak hF10 hleS, ?_⟩)
   replace hpa := hpa.mono hF10
   replace hle0 := Heap.le_trans hle0 hF10
   replace hFG := Heap.le_trans hFG hF10
   have hal := hr9
   change Sl _ _ 2 Res.enc (allS s (castL qs[k].2)) at hal
   refine Dh 7 rfl (by kernel_rfl) rfl (Bz sl_132 zr_34 rfl (.cons (Ab) .nil) rfl rfl (by decide) (all_one hal.plain.one) fun b11 hb11 nb11 => ⟨fun _ _ => (fun _ h => (h.drop (.cons _ <| .cons_cons _ <| List.nil_sublist _)).weak hF10 hleS), ?_⟩)
   refine Dh 8 rfl (by kernel_rfl) rfl (Ct sl_132 el_34 (Ay rfl <| Ap rfl <| Al rfl <| Ab) ho (Ab) (C8 (s := 1) 0 rfl rfl (all_one hal.plain.one)) (by omega) (by omega) (.s <| .s <| .z) .last fun v12 R13 ho14 => ⟨fun _ _ => (fun _ h => (h.drop (.cons _ <| .cons_cons _ <| List.nil_sublist _)).weak hF10 hleS), ?_⟩)
   have ho2 := ho14.snoc (x := ((_, allS s (castL qs[k].2)) : Value × List Res)) rfl rfl
   refine Be 9 rfl (by kernel_rfl) (by kernel_rfl) (by kernel_rfl) (by kernel_rfl) rfl rfl (fun _ h => (h.drop (.cons _ <| .cons_cons _ <| List.nil_sublist _)).weak hF10 hleS) (fun _ _ _ h => h) (Ae (Ab)) ?_
   refine Di (by kernel_rfl) ?_ _
   refine Bf <| Ad <| Cd (fun _ _ h => h.drop (.cons _ <| .cons_cons _ <| .refl _)) ?_
   refine Ai fun ds => Aa rfl (Af (A9 rfl <| Ay rfl <| Ap rfl <| As rfl hs5)) ?_
   refine Aa rfl (Bp (Ab) Ac rfl (by omega) (by omega)) ?_
   refine Aa rfl (Ae (Ab)) ?_
   refine Ah <| Ad ⟨_, m - 1, Off.eq (C5 rfl <| Ej rfl <| Bd), by omega, ?_⟩
   refine ⟨_, hle0, hFG, k + 1, by omega, (Ab), _, _, ps ++ [(_, allS s (castL qs[k].2))], (Ap rfl <| Al rfl <| Ab), ho2, fun p hp => ?_, ?_, rfl⟩
   · rcases List.mem_append.1 hp with hp | hp
     · exact hpa p hp
     · simp at hp; subst hp; exact hal
   · rw [List.map_append, hps, List.take_succ_eq_append_getElem hlt, List.map_append]; rfl
  ·
   refine Ag <| Ag <| Ai fun ds => Aa rfl (Af (As rfl hs5)) ?_
   refine Aa rfl (Af (Al rfl <| Ao rfl <| Ap rfl <| Ab)) ?_
   refine Aa rfl (Bi Cx (Ab) hqs.plain) ?_
   refine Aa rfl (Bt (Ap rfl <| Ab) (Ab)) ?_
   refine Ah <| Ad <| Am (Ab) (by first | rfl | exact decide_eq_false (by omega)) ?_
   obtain rfl : k = qs.length := by omega
   refine Dm (σ := ⟨_, _⟩) (by rfl) ho (.s <| .z) .last fun F15 hF16 hz17 => ?_
   replace hpa := hpa.mono hF16
   have hsp := ho.sl (fun _ => rfl) hz17 (by omega)
   refine Bv ?_
   refine Bk <| Bk <| Bn <| Ad <| Ag <| Ai fun ds => Aa rfl (Af (Ay rfl <| As rfl hs4)) ?_
   refine Aa rfl (Ae (Ab)) ?_
   refine Ah <| Ad <| A5 <| Ax rfl (.tmp (Ab) .nil) ?_
   exact ⟨ps, hsp, hpa, by rw [hps, List.take_of_length_le (Nat.le_refl _), ← hqm, List.map_map]; rfl⟩
set_option maxRecDepth 100000 in
theorem refFit_ok {F : Heap} {vs vb vl vn vd : Value} {s : Sale} (hr : SaleR F vs vb vl vn vd s) (hv : ValidS s) {ve : Value} {l : List Ent} (he : Sl F ve 4 Ent.enc l) (hcat : catE s l = 0) {vw vb9 : Value} {but : List Nat} (hw : RLs F vw ((everyR s.bidders.length).map fun x => allS s (castL x))) (hb_ : Nats F vb9 but) : Ok Try.prog 80 [.agg #[vs, .int .i64 s.premium, .int .i64 s.fee, .int .i64 s.days, vb, vl, vn, vd], ve, vw, vb9].toArray F fun u F' => Lsts F' u (fitS s l but) := by
 obtain ⟨ws, hws, hwa, hwm⟩ := hw
 replace hwa : AllR _ ws := hwa
 refine Ok.intro Try.func80 rfl Try.ntmps80 rfl fun w0 => ?_
 have hL2 := hr.bidders.plain.lt
 have hnb := hv.nb
 refine Ag <| Ai fun ds => Bm rfl (B9 (Ak rfl) rfl fun b1 hb1 nb1 => ?_)
 refine Aa rfl (Ae Ac) ?_
 refine Ah <| Ad <| Ag <| Ai fun ds => Aa rfl (Bg B8 (Al rfl <| Ab) rfl rfl (Bl 0 rfl)) ?_
 refine Bm rfl (Ck bd_105 A0 (.cons (Ab) .nil) (refEvery_ok hr hv) fun v2 F3 hr4 hF5 => ?_)
 replace he := he.mono hF5
 replace hws := hws.mono hF5
 replace hwa := hwa.mono hF5
 replace hb_ := hb_.mono hF5
 have hle1 : F.le _ := hF5
 obtain ⟨qs, hqs, hqa, hqm⟩ := hr4
 replace hqa : AllN _ qs := hqa
 have hqb : qs.length ≤ 134217728 := by have h1 := everyTo_bound (n := s.bidders.length) (k := s.bidders.length + 1) hnb (by omega); rw [Fe, ← hqm, List.length_map] at h1; exact h1
 have hwq : ws.length = qs.length := by have h1 := congrArg List.length hwm; rw [List.length_map, List.length_map, ← hqm, List.length_map] at h1; exact h1
 refine Aa rfl (Ae (Ab)) ?_
 refine Ah <| Ad <| Ag <| Ai fun ds => Aa rfl (Ae Ac) ?_
 refine Ah <| Ad <| Ag <| Ag <| Ai fun ds => Aa rfl (Ae Ac) ?_
 refine Ah <| Ad <| A4 <| Bx [10, 11, 14, 15, 16, 17, 18, 19, 20, 21, 22, 23, 24, 25, 26, 27, 28, 29, 30, 31, 32, 33] (fun m e σ => ∃ k : Nat, m + k = qs.length ∧ e 11 = .int .i64 (k : Int) ∧ ∃ v10 R10 ps, e 10 = v10 ∧ Own 28 1 v10 ps.length (ps.flatMap slE) R10 ∧ AllN F3 ps ∧ ps.map (·.2) = (((everyR s.bidders.length).take k).filter (rightS s l but)) ∧ σ = ⟨F3, (b1, bx 27 [vs, .int .i64 s.premium, .int .i64 s.fee, .int .i64 s.days, vb, vl, vn, vd]) :: R10⟩) (qs.length) ?_ ?_
 · exact ⟨0, by omega, (Ab), _, _, [], (Al rfl <| Ab), own_nil, (fun p hp => nomatch hp), rfl, rfl⟩
 ·
  rintro m e _ ⟨k, hm, hs11, v10, R10, ps, hs10, ho, hpa, hps, rfl⟩; have hpl : ps.length ≤ 134217728 := by have h2 := congrArg List.length hps; have h3 := List.length_filter_le (rightS s l but) ((everyR s.bidders.length).take k); rw [List.length_map] at h2; rw [List.length_take] at h3; omega
  by_cases hlt : k < qs.length
  ·
   have hql : Nats _ _ _ := hqa _ (List.getElem_mem hlt)
   have hwl : k < ws.length := by rw [hwq]; exact hlt
   have hwr : Sl _ _ 2 Res.enc _ := hwa _ (List.getElem_mem hwl)
   have hwe : ws[k].2 = allS s (castL qs[k].2) := by have h1 := congrArg (fun z => z[k]?) hwm; simp only [List.getElem?_map, List.getElem?_eq_getElem hwl, ← hqm, List.getElem?_eq_getElem hlt] at h1; simpa using h1
   rw [hwe] at hwr
   have hek : (everyR s.bidders.length).take (k + 1) = (everyR s.bidders.length).take k ++ [qs[k].2] := by rw [List.take_succ_eq_append_getElem (by rw [← hqm]; simpa using hlt)]; simp [← hqm]
   refine Ag <| Ag <| Ai fun ds => Aa rfl (Af (As rfl hs11)) ?_
   refine Aa rfl (Af (Al rfl <| Ao rfl <| Ap rfl <| Ab)) ?_
   refine Aa rfl (Bi Cx (Ab) hqs.plain) ?_
   refine Aa rfl (Bt (Ap rfl <| Ab) (Ab)) ?_
   refine Ah <| Ad <| Aq (Ab) (by first | rfl | exact decide_eq_true (by omega)) ?_
   by_cases hrt : rightS s l but qs[k].2 = true
   ·
    refine Aw <| Ad <| Ag <| A4 <| Ag <| Ai fun ds => Aa rfl (Af (Ay rfl <| Ao rfl <| Ay rfl <| Ap rfl <| Al rfl <| Ak rfl)) ?_
    refine Aa rfl (Af (Ay rfl <| Al rfl <| Ao rfl <| Ay rfl <| Ap rfl <| Al rfl <| Ak rfl)) ?_
    refine Aa rfl (Af (Ay rfl <| Ap rfl <| As rfl hs11)) ?_
    refine Aa rfl (Bh  sl_132 (Al rfl <| Ab) hws.plain (Ab) rfl hwl) ?_
    refine Aa rfl (Ar one_34 (Ab) (hws.cell1 hwl rfl)) ?_
    refine Aa rfl (Af (A9 rfl <| Al rfl <| Ao rfl <| Ay rfl <| Ap rfl <| Al rfl <| Ak rfl)) ?_
    refine Bw rfl (Bc bd_106 A0 (.cons (Ay rfl <| Al rfl <| Ab) (.cons (Al rfl <| Ab) (.cons (Ab) .nil))) (refRight_ok he hcat hwr hb_) (fun _ _ h => h)) ?_
    refine Ah <| Ad <| Aq (Ab) hrt ?_
    refine Ai fun ds => Aa rfl (Af (A9 rfl <| Ap rfl <| Al rfl <| As rfl hs10)) ?_
    refine Aa rfl (Af (A9 rfl <| Ay rfl <| Ao rfl <| Ap rfl <| Ab)) ?_
    refine Aa rfl (Af (A9 rfl <| Ay rfl <| Al rfl <| As rfl hs11)) ?_
    refine Aa rfl (Bh  Cx (Al rfl <| Ab) hqs.plain (Ab) rfl hlt) ?_
    refine Aa rfl (Ar Ef (Ab) (hqs.cell1 hlt rfl)) ?_
    refine Bm rfl (Bz Cx zr_28 rfl (.cons (Ab) .nil) rfl rfl (by decide) (all_one hql.plain.one) fun b7 hb7 nb7 => ?_)
    refine Bm rfl (Ct Cx el_28 (Ay rfl <| Al rfl <| Ab) ho (Ab) (C8 (s := 1) 0 rfl rfl (all_one hql.plain.one)) (by omega) (by omega) (.s <| .s <| .z) .last fun v8 R9 ho10 => ?_)
    have ho2 := ho10.snoc (x := ((_, qs[k].2) : Value × List Nat)) rfl rfl
    refine Aa rfl (Ae (Ab)) ?_
    refine Ah <| Bf <| Ad <| Cd (fun _ _ h => h.drop (.cons _ <| .cons_cons _ <| .refl _)) ?_
    refine Ai fun ds => Aa rfl (Af (Ba rfl <| Ap rfl <| Al rfl <| As rfl hs11)) ?_
    refine Aa rfl (Bp (Ab) Ac rfl (by omega) (by omega)) ?_
    refine Aa rfl (Ae (Ab)) ?_
    refine Ah <| Ad ⟨_, m - 1, Off.eq (C5 rfl <| Et rfl <| Eb rfl <| Bd), by omega, ?_⟩
    refine ⟨k + 1, by omega, (Ab), _, _, ps ++ [(_, qs[k].2)], (Ap rfl <| Al rfl <| Ab), ho2, fun p hp => ?_, ?_, rfl⟩
    · rcases List.mem_append.1 hp with hp | hp
      · exact hpa p hp
      · simp at hp; subst hp; exact hql
    · rw [List.map_append, hps, hek, List.filter_append]; simp [hrt]
   ·
    replace hrt : rightS s l but qs[k].2 = false := by simpa using hrt
    refine Aw <| Ad <| Ag <| A4 <| Ag <| Ai fun ds => Aa rfl (Af (Ay rfl <| Ao rfl <| Ay rfl <| Ap rfl <| Al rfl <| Ak rfl)) ?_
    refine Aa rfl (Af (Ay rfl <| Al rfl <| Ao rfl <| Ay rfl <| Ap rfl <| Al rfl <| Ak rfl)) ?_
    refine Aa rfl (Af (Ay rfl <| Ap rfl <| As rfl hs11)) ?_
    refine Aa rfl (Bh  sl_132 (Al rfl <| Ab) hws.plain (Ab) rfl hwl) ?_
    refine Aa rfl (Ar one_34 (Ab) (hws.cell1 hwl rfl)) ?_
    refine Aa rfl (Af (A9 rfl <| Al rfl <| Ao rfl <| Ay rfl <| Ap rfl <| Al rfl <| Ak rfl)) ?_
    refine Bw rfl (Bc bd_106 A0 (.cons (Ay rfl <| Al rfl <| Ab) (.cons (Al rfl <| Ab) (.cons (Ab) .nil))) (refRight_ok he hcat hwr hb_) (fun _ _ h => h)) ?_
    refine Ah <| Ad <| Am (Ab) hrt ?_
    refine Aw <| Bf <| Ad <| Ai fun ds => Aa rfl (Af (A9 rfl <| Ap rfl <| Al rfl <| As rfl hs11)) ?_
    refine Aa rfl (Bp (Ab) Ac rfl (by omega) (by omega)) ?_
    refine Aa rfl (Ae (Ab)) ?_
    refine Ah <| Ad ⟨_, m - 1, Off.eq (D7 rfl <| Et rfl <| Eb rfl <| Bd), by omega, ?_⟩
    refine ⟨k + 1, by omega, (Ab), _, _, ps, (A9 rfl <| Ay rfl <| Ap rfl <| As rfl hs10), ho, hpa, ?_, rfl⟩
    rw [hps, hek, List.filter_append]; simp [hrt]
  ·
   refine Ag <| Ag <| Ai fun ds => Aa rfl (Af (As rfl hs11)) ?_
   refine Aa rfl (Af (Al rfl <| Ao rfl <| Ap rfl <| Ab)) ?_
   refine Aa rfl (Bi Cx (Ab) hqs.plain) ?_
   refine Aa rfl (Bt (Ap rfl <| Ab) (Ab)) ?_
   refine Ah <| Ad <| Am (Ab) (by first | rfl | exact decide_eq_false (by omega)) ?_
   obtain rfl : k = qs.length := by omega
   refine Dm (σ := ⟨_, _⟩) (by rfl) ho (.s <| .z) .last fun F11 hF12 hz13 => ?_
   replace hpa := hpa.mono hF12
   have hsp := ho.sl (fun _ => rfl) hz13 (by omega)
   refine Bv ?_
   refine Bk <| Bk <| Bn <| Ad <| Ag <| Ai fun ds => Aa rfl (Af (Ay rfl <| As rfl hs10)) ?_
   refine Aa rfl (Ae (Ab)) ?_
   refine Ah <| Ad <| A5 <| Ax rfl (.tmp (Ab) .nil) ?_
   exact ⟨ps, hsp, hpa, by rw [hps, List.take_of_length_le (by rw [← hqm]; simp)]; rfl⟩
end Go.Proofs.Ytaikojfonleccaa
namespace Go.Proofs.Ytaikojfonleccaa
open Go.RowKit
theorem bd_29 : Body Try.prog 29 := Bq (by kernel_rfl)
theorem bd_79 : Body Try.prog 79 := Bq (by kernel_rfl)
theorem bd_80 : Body Try.prog 80 := Bq (by kernel_rfl)
theorem bd_81 : Body Try.prog 81 := Bq (by kernel_rfl)
set_option maxRecDepth 100000 in
theorem refRings_ok {F : Heap} {vs vb vl vn vd : Value} {s : Sale} (hr : SaleR F vs vb vl vn vd s) {ve : Value} {l : List Ent} (he : Sl F ve 4 Ent.enc l) : Ok Try.prog 29 [.agg #[vs, .int .i64 s.premium, .int .i64 s.fee, .int .i64 s.days, vb, vl, vn, vd], ve].toArray F fun u F' => LstsR F' u (ringsE s l) := by
 refine Ok.intro Try.func29 rfl Try.ntmps29 rfl fun w0 => ?_
 have hle0 : F.le F := Heap.le_refl _
 by_cases hok : askedE s l = 0
 ·
  have hv := C7 (Eh hok).1
  have hcat := (Eh hok).2
  refine Ag <| Ai fun ds => Bm rfl (B9 (Ak rfl) rfl fun b1 hb1 nb1 => ?_)
  refine Aa rfl (Ae Ac) ?_
  refine Aa rfl (Ae Ac) ?_
  refine Ah <| Ad <| Ag <| Ai fun ds => Aa rfl (Bg B8 (Ap rfl <| Ab) rfl rfl (Bl 0 rfl)) ?_
  refine Aa rfl (Af (Ay rfl <| Ak rfl)) ?_
  refine Bw rfl (Bc bd_79 A0 (.cons (Al rfl <| Ab) (.cons (Ab) .nil)) (refAsked_ok hr he) (fun _ _ h => h)) ?_
  refine Aa rfl (Ae (Ab)) ?_
  refine Ah <| Ad <| Ag <| Ag <| Ai fun ds => Aa rfl (Af (Ab)) ?_
  refine Aa rfl (B6 (Ab) Ac) ?_
  refine Ah <| Ad <| Am (Ab) (decide_eq_false (fun h => h hok)) ?_
  refine Aw <| Ad <| Ag <| WC_cut [7, 14, 15, 16, 17, 18] (fun st σ => ∃ G v7 ps, F.le G ∧ st 7 = v7 ∧ Sl G v7 1 slE ps ∧ AllN G ps ∧ ps.map (·.2) = fitS s l [] ∧ σ = ⟨G, [(b1, bx 27 [vs, .int .i64 s.premium, .int .i64 s.fee, .int .i64 s.days, vb, vl, vn, vd])]⟩) ?_ ?_
  ·
   have hleS := hle0
   refine D6 (.inl rfl) (fun _ _ h => h) (.cons_cons _ <| .refl _) [4, 5] (by kernel_rfl) fun ds => ?_
   refine Be 0 rfl (by kernel_rfl) (by kernel_rfl) (by kernel_rfl) (by kernel_rfl) rfl rfl (fun _ h => h.drop (.cons_cons _ <| .refl _)) (fun _ _ _ h => h) (Bg B8 (A9 rfl <| Ab) rfl rfl (Bl 0 rfl)) ?_
   refine Be 1 rfl (by kernel_rfl) (by kernel_rfl) (by kernel_rfl) (by kernel_rfl) rfl rfl (fun _ h => h.drop (.cons_cons _ <| .refl _)) (fun _ _ _ h => h) (Af (A9 rfl <| Ap rfl <| Ak rfl)) ?_
   refine Be 2 rfl (by kernel_rfl) (by kernel_rfl) (by kernel_rfl) (by kernel_rfl) rfl rfl (fun _ h => h.drop (.cons_cons _ <| .refl _)) (fun _ _ _ h => h) (Bg B8 (A9 rfl <| Ap rfl <| Ab) rfl rfl (Bl 0 rfl)) ?_
   refine Dh 3 rfl (by kernel_rfl) rfl (Ck bd_81 A0 (.cons (Ab) .nil) (refResults_ok hr hv) fun v2 F3 hr4 hF5 => ⟨fun _ _ _ h => (h.drop (.cons_cons _ <| .refl _)).weak hF5 hleS, ?_⟩)
   replace hr := hr.mono hF5
   replace he := he.mono hF5
   replace hle0 := Heap.le_trans hle0 hF5
   have hrl := hr4
   refine Dh 4 rfl (by kernel_rfl) rfl (Ck bd_80 A0 (.cons (Ap rfl <| Al rfl <| Ab) (.cons (Ap rfl <| Ab) (.cons (Ab) (.cons Ac .nil)))) (refFit_ok hr hv he hcat hrl (Sl.nil : Nats _ _ [])) fun v6 F7 hr8 hF9 => ⟨(fun h => nomatch h), ?_⟩)
   replace hle0 := Heap.le_trans hle0 hF9
   obtain ⟨ps, hsp, hpa, hps⟩ := hr8
   refine Dh 5 rfl (by kernel_rfl) rfl (Br (Ae (Ab)).quiet ⟨(fun h => nomatch h), ?_⟩)
   refine Di (by kernel_rfl) ?_ _
   refine Ad ⟨_, Off.eq (Et rfl <| Eb rfl <| Dw), ?_⟩
   exact ⟨_, _, ps, hle0, (Ab), hsp, hpa, hps, rfl⟩
  rintro e9 _ ⟨G, v7, ps, hle0, hc7, hsp, hpa, hps, rfl⟩
  by_cases hf : fitS s l [] = []
  ·
   refine Ag <| Ag <| Ai fun ds => Aa rfl (Af (As rfl hc7)) ?_
   refine Aa rfl (Bi Cx (Ab) hsp.plain) ?_
   refine Aa rfl (B7 (Ab) Ac) ?_
   refine Ah <| Ad <| Aq (Ab) (decide_eq_true (by have h9 := congrArg List.length hps; rw [List.length_map, hf] at h9; simp at h9; rw [h9]; rfl)) ?_
   refine Ag <| Ai fun ds => Aa rfl (Ae Ac) ?_
   refine Aa rfl (Ae Ac) ?_
   refine Ah <| Ad <| A5 <| A3 ?_
   refine Ax rfl (.tmp (Al rfl <| Ab) (.tmp (Ab) .nil)) ?_
   rw [ringsE_none hok hf]
   exact ⟨_, rfl, [], Sl.nil, (fun p hp => nomatch hp), rfl⟩
  ·
   refine Ag <| Ag <| Ai fun ds => Aa rfl (Af (As rfl hc7)) ?_
   refine Aa rfl (Bi Cx (Ab) hsp.plain) ?_
   refine Aa rfl (B7 (Ab) Ac) ?_
   refine Ah <| Ad <| Am (Ab) (decide_eq_false (fun h => hf (by rw [← hps]; have h8 : ps = [] := List.eq_nil_of_length_eq_zero (by omega); rw [h8]; rfl))) ?_
   refine Aw <| Ad <| Ag <| Ai fun ds => Aa rfl (Af (Ap rfl <| Al rfl <| As rfl hc7)) ?_
   refine Aa rfl (Ae (Ab)) ?_
   refine Aa rfl (Ae Ac) ?_
   refine Ah <| Ad <| A5 <| Ax rfl (.tmp (Al rfl <| Ab) (.tmp (Ab) .nil)) ?_
   rw [ringsE_ok hok hf]
   exact ⟨_, rfl, ps, hsp, hpa, hps⟩
 ·
  refine Ag <| Ai fun ds => Bm rfl (B9 (Ak rfl) rfl fun b10 hb10 nb10 => ?_)
  refine Aa rfl (Ae Ac) ?_
  refine Aa rfl (Ae Ac) ?_
  refine Ah <| Ad <| Ag <| Ai fun ds => Aa rfl (Bg B8 (Ap rfl <| Ab) rfl rfl (Bl 0 rfl)) ?_
  refine Aa rfl (Af (Ay rfl <| Ak rfl)) ?_
  refine Bw rfl (Bc bd_79 A0 (.cons (Al rfl <| Ab) (.cons (Ab) .nil)) (refAsked_ok hr he) (fun _ _ h => h)) ?_
  refine Aa rfl (Ae (Ab)) ?_
  refine Ah <| Ad <| Ag <| Ag <| Ai fun ds => Aa rfl (Af (Ab)) ?_
  refine Aa rfl (B6 (Ab) Ac) ?_
  refine Ah <| Ad <| Aq (Ab) (decide_eq_true hok) ?_
  refine Ag <| Ai fun ds => Aa rfl (Af (Ap rfl <| Ab)) ?_
  refine Aa rfl (Ae Ac) ?_
  refine Aa rfl (Ae (Al rfl <| Ab)) ?_
  refine Ah <| Ad <| A5 <| A3 ?_
  refine Ax rfl (.tmp (Al rfl <| Ab) (.tmp (Ab) .nil)) ?_
  rw [ringsE_bad rfl hok]
  exact ⟨_, rfl, [], Sl.nil, (fun p hp => nomatch hp), rfl⟩
set_option maxRecDepth 100000 in
theorem refMembers_ok {F : Heap} {vs vb vl vn vd : Value} {s : Sale} (hr : SaleR F vs vb vl vn vd s) {ve : Value} {l : List Ent} (he : Sl F ve 4 Ent.enc l) : Ok Try.prog 32 [.agg #[vs, .int .i64 s.premium, .int .i64 s.fee, .int .i64 s.days, vb, vl, vn, vd], ve].toArray F fun u F' => MemR F' u (membersE s l) := by
 refine Ok.intro Try.func32 rfl Try.ntmps32 rfl fun w0 => ?_
 have hL2 := hr.bidders.plain.lt
 by_cases h0 : (ringsE s l).2 = 0
 ·
  refine Ag <| Ai fun ds => Bm rfl (B9 (Ak rfl) rfl fun b1 hb1 nb1 => ?_)
  refine Aa rfl (Ae Ac) ?_
  refine Aa rfl (Ae Ac) ?_
  refine Aa rfl (Ae Ac) ?_
  refine Ah <| Ad <| Ag <| Ai fun ds => Aa rfl (Bg B8 (Ap rfl <| Al rfl <| Ab) rfl rfl (Bl 0 rfl)) ?_
  refine Aa rfl (Af (Ay rfl <| Al rfl <| Ak rfl)) ?_
  refine Bm rfl (Ck bd_29 A0 (.cons (Al rfl <| Ab) (.cons (Ab) .nil)) (refRings_ok hr he) fun v2 F3 hr4 hF5 => ?_)
  replace hr := hr.mono hF5
  obtain ⟨vq, rfl, qs, hqs, hqa, hqm⟩ := hr4
  replace hqa : AllN _ qs := hqa
  refine Aa rfl (Af (Ab)) ?_
  refine Aa rfl (A2 (Ab) rfl) ?_
  refine Aa rfl (A2 (Al rfl <| Ab) rfl) ?_
  refine Aa rfl (Ae (Al rfl <| Ab)) ?_
  refine Aa rfl (Ae (Al rfl <| Ab)) ?_
  refine Ah <| Ad <| Ag <| Ag <| Ai fun ds => Aa rfl (Af (Ab)) ?_
  refine Aa rfl (B6 (Ab) Ac) ?_
  refine Ah <| Ad <| Am (Ab) (decide_eq_false (fun h => h h0)) ?_
  have hqpl := hqs.plain.lt
  have hnb := (C7 (Eh (ringsE_asked h0)).1).nb
  refine Aw <| Ad <| Ag <| Ai fun ds => Aa rfl (Ae Ac) ?_
  refine Aa rfl (Ae Ac) ?_
  refine Ah <| Ad <| Ag <| Ag <| Ai fun ds => Aa rfl (Ae Ac) ?_
  refine Ah <| Ad <| A4 <| Bx [9, 10, 11, 12, 13, 23, 24, 25, 26, 27, 28, 29, 30, 31, 32, 33, 34, 35, 36, 37, 38, 39, 40, 41, 42, 43, 44, 45, 46, 47, 48, 49, 50, 51, 52, 53, 54, 55, 56, 57] (fun m e σ => ∃ b : Nat, m + b = s.bidders.length ∧ e 11 = .int .i64 (b : Int) ∧ ∃ v4 v5 R4 R5, e 9 = v4 ∧ e 10 = v5 ∧ Own 3 1 v4 (selTo (mustB (ringsE s l).1) b).length ((selTo (mustB (ringsE s l).1) b).flatMap natE) R4 ∧ Own 3 1 v5 (selTo (mayB (ringsE s l).1) b).length ((selTo (mayB (ringsE s l).1) b).flatMap natE) R5 ∧ σ = ⟨F3, (b1, bx 27 [vs, .int .i64 s.premium, .int .i64 s.fee, .int .i64 s.days, vb, vl, vn, vd]) :: (R4 ++ R5)⟩) (s.bidders.length) ?_ ?_
  · exact ⟨0, by omega, (Ab), _, _, [], [], (Ap rfl <| Ab), (Al rfl <| Ab), Own.nil, Own.nil, rfl⟩
  ·
   rintro m e _ ⟨b, hm9, hs11, v4, v5, R4, R5, hs9, hs10, ho4, ho5, rfl⟩; have hl4 := selTo_length (p := mustB (ringsE s l).1) (k := b); have hl5 := selTo_length (p := mayB (ringsE s l).1) (k := b)
   by_cases hlt : b < s.bidders.length
   ·
    refine Ag <| Ag <| Ai fun ds => Aa rfl (Af (As rfl hs11)) ?_
    refine Aa rfl (Aj C4 (Al rfl <| Ao rfl <| Ba rfl <| Ab)) ?_
    refine Aa rfl (Ar Cv (Ab) (Cell.own 0 rfl rfl)) ?_
    refine Aa rfl (Bi Cs (Ab) hr.bidders.plain) ?_
    refine Aa rfl (Bt (Ap rfl <| Al rfl <| Ab) (Ab)) ?_
    refine Ah <| Ad <| Aq (Ab) (by first | rfl | exact decide_eq_true (by omega)) ?_
    refine Aw <| Ad <| Ag <| A4 <| Ag <| Ai fun ds => Aa rfl (Ae Ac) ?_
    refine Ah <| Ad <| Ag <| Ag <| Ai fun ds => Aa rfl (Ae Ac) ?_
    refine Ah <| Ad <| A4 <| Bx [12, 13, 30, 31, 32, 33, 34, 35, 36, 37, 38, 39, 40, 41, 42, 43] (fun m e σ => ∃ k : Nat, m + k = qs.length ∧ e 13 = .int .i64 (k : Int) ∧ e 12 = .int .i64 (manyTo (ringsE s l).1 b k) ∧ σ = ⟨F3, (b1, bx 27 [vs, .int .i64 s.premium, .int .i64 s.fee, .int .i64 s.days, vb, vl, vn, vd]) :: (R4 ++ R5)⟩) (qs.length) ?_ ?_
    · exact ⟨0, by omega, (Ab), (Al rfl <| Ab), rfl⟩
    ·
     rintro m2 e2 _ ⟨k, hm2, ht13, ht12, rfl⟩
     by_cases hlk : k < qs.length
     ·
      have hql := hqa _ (List.getElem_mem hlk)
      have hka : k < (ringsE s l).1.length := by rw [← hqm]; simpa using hlk
      have hqk : (ringsE s l).1[k] = qs[k].2 := by simp [← hqm]
      have hmb := manyTo_bound (all := (ringsE s l).1) (b := b) (k := k)
      have hqL0 : (ringsE s l).1.length = qs.length := by rw [← hqm, List.length_map]
      refine Ag <| Ag <| Ai fun ds => Aa rfl (Af (As rfl ht13)) ?_
      refine Aa rfl (Af (Al rfl <| Ao rfl <| Ay rfl <| Ap rfl <| Al rfl <| Ao rfl <| Ay rfl <| Ap rfl <| Ab)) ?_
      refine Aa rfl (Bi Cx (Ab) hqs.plain) ?_
      refine Aa rfl (Bt (Ap rfl <| Ab) (Ab)) ?_
      refine Ah <| Ad <| Aq (Ab) (by first | rfl | exact decide_eq_true (by omega)) ?_
      by_cases hm : b ∈ qs[k].2
      ·
       refine Aw <| Ad <| Ag <| A4 <| Ag <| Ai fun ds => Aa rfl (Af (Ay rfl <| Ao rfl <| Ay rfl <| Ap rfl <| Al rfl <| Ao rfl <| Ay rfl <| Ap rfl <| Ab)) ?_
       refine Aa rfl (Af (Ay rfl <| Al rfl <| As rfl ht13)) ?_
       refine Aa rfl (Bh  Cx (Al rfl <| Ab) hqs.plain (Ab) rfl hlk) ?_
       refine Aa rfl (Ar Ef (Ab) (hqs.cell1 hlk rfl)) ?_
       refine Aa rfl (Af (A9 rfl <| Ao rfl <| Ay rfl <| Ap rfl <| Al rfl <| As rfl hs11)) ?_
       refine Bw rfl (Bc bd_42 A0 (.cons (Al rfl <| Ab) (.cons (Ab) .nil)) (has_nat hql b) (fun _ _ h => h)) ?_
       refine Ah <| Ad <| Aq (Ab) (decide_eq_true hm) ?_
       refine Ai fun ds => Aa rfl (Af (A9 rfl <| Ap rfl <| As rfl ht12)) ?_
       refine Aa rfl (Bp (Ab) Ac rfl (by omega) (by omega)) ?_
       refine Aa rfl (Ae (Ab)) ?_
       refine Ah <| Bf <| Ad <| Ai fun ds => Aa rfl (Af (A9 rfl <| Ay rfl <| Al rfl <| As rfl ht13)) ?_
       refine Aa rfl (Bp (Ab) Ac rfl (by omega) (by omega)) ?_
       refine Aa rfl (Ae (Ab)) ?_
       refine Ah <| Ad ⟨_, m2 - 1, Off.eq (C5 rfl <| Bd), by omega, ?_⟩
       exact ⟨k + 1, by omega, (Ab), by rw [manyTo_succ hka, if_pos (by rw [hqk]; exact hm)]; exact (Ap rfl <| Al rfl <| Ab), rfl⟩
      ·
       refine Aw <| Ad <| Ag <| A4 <| Ag <| Ai fun ds => Aa rfl (Af (Ay rfl <| Ao rfl <| Ay rfl <| Ap rfl <| Al rfl <| Ao rfl <| Ay rfl <| Ap rfl <| Ab)) ?_
       refine Aa rfl (Af (Ay rfl <| Al rfl <| As rfl ht13)) ?_
       refine Aa rfl (Bh  Cx (Al rfl <| Ab) hqs.plain (Ab) rfl hlk) ?_
       refine Aa rfl (Ar Ef (Ab) (hqs.cell1 hlk rfl)) ?_
       refine Aa rfl (Af (A9 rfl <| Ao rfl <| Ay rfl <| Ap rfl <| Al rfl <| As rfl hs11)) ?_
       refine Bw rfl (Bc bd_42 A0 (.cons (Al rfl <| Ab) (.cons (Ab) .nil)) (has_nat hql b) (fun _ _ h => h)) ?_
       refine Ah <| Ad <| Am (Ab) (decide_eq_false hm) ?_
       refine Aw <| Bf <| Ad <| Ai fun ds => Aa rfl (Af (A9 rfl <| Ap rfl <| As rfl ht13)) ?_
       refine Aa rfl (Bp (Ab) Ac rfl (by omega) (by omega)) ?_
       refine Aa rfl (Ae (Ab)) ?_
       refine Ah <| Ad ⟨_, m2 - 1, Off.eq (D7 rfl <| Et rfl <| Ej rfl <| Bd), by omega, ?_⟩
       exact ⟨k + 1, by omega, (Ab), by rw [manyTo_succ hka, if_neg (by rw [hqk]; exact hm)]; exact (A9 rfl <| Ay rfl <| Al rfl <| As rfl ht12), rfl⟩
     ·
      refine Ag <| Ag <| Ai fun ds => Aa rfl (Af (As rfl ht13)) ?_
      refine Aa rfl (Af (Al rfl <| Ao rfl <| Ay rfl <| Ap rfl <| Al rfl <| Ao rfl <| Ay rfl <| Ap rfl <| Ab)) ?_
      refine Aa rfl (Bi Cx (Ab) hqs.plain) ?_
      refine Aa rfl (Bt (Ap rfl <| Ab) (Ab)) ?_
      refine Ah <| Ad <| Am (Ab) (by first | rfl | exact decide_eq_false (by omega)) ?_
      obtain rfl : k = qs.length := by omega
      have hqn : manyTo (ringsE s l).1 b qs.length = manyOf (ringsE s l).1 b := by unfold manyOf; rw [← hqm, List.length_map]
      have hqL : (qs.length : Int) = ((ringsE s l).1.length : Int) := by rw [← hqm, List.length_map]
      by_cases hmu : mustB (ringsE s l).1 b = true
      ·
       refine Bv ?_
       refine Bk <| Bk <| Bn <| Ad <| Ag <| Ag <| Ai fun ds => Aa rfl (Af (Ay rfl <| As rfl ht12)) ?_
       refine Aa rfl (Af (Ay rfl <| Al rfl <| Ao rfl <| Ay rfl <| Ap rfl <| Al rfl <| Ao rfl <| Ay rfl <| Ap rfl <| Ab)) ?_
       refine Aa rfl (Bi Cx (Ab) hqs.plain) ?_
       refine Aa rfl (B7 (Ap rfl <| Ab) (Ab)) ?_
       refine Ah <| Ad <| Aq (Ab) (by rw [hqn, hqL]; exact hmu) ?_
       by_cases hma : mayB (ringsE s l).1 b = true
       ·
        refine Ai fun ds => Aa rfl (Af (A9 rfl <| Ao rfl <| Ay rfl <| Ap rfl <| Al rfl <| As rfl hs9)) ?_
        refine Aa rfl (Af (A9 rfl <| Al rfl <| Ao rfl <| Ay rfl <| Ap rfl <| Al rfl <| As rfl hs11)) ?_
        refine Bm rfl (Bz Bs C6 rfl (.cons (Ab) .nil) rfl rfl (by decide) (by simp [Value.oneCell']) fun b8 hb8 nb8 => ?_)
        refine Bm rfl (Ct Bs el_3 (Ap rfl <| Ab) ho4 (Ab) (C8 (s := 1) 0 rfl rfl (by simp [Value.oneCell'])) (by omega) (by omega) (.s <| .s <| .z) .more fun v9 R10 ho11 => ?_)
        have ho4b := ho11.snoc (x := b) rfl rfl
        refine Aa rfl (Ae (Ab)) ?_
        refine Ah <| Ad <| Ag <| Ai fun ds => Aa rfl (Af (A9 rfl <| Ay rfl <| Al rfl <| As rfl ht12)) ?_
        refine Aa rfl (Cj (Ab) Ac) ?_
        refine Ah <| Ad <| Aq (Ab) (by rw [hqn]; exact hma) ?_
        refine Ai fun ds => Aa rfl (Af (A9 rfl <| Ay rfl <| Ap rfl <| Al rfl <| Ao rfl <| Ay rfl <| Ap rfl <| Al rfl <| As rfl hs10)) ?_
        refine Aa rfl (Af (Ba rfl <| Ao rfl <| Ay rfl <| Ap rfl <| Al rfl <| As rfl hs11)) ?_
        refine Bm rfl (Bz Bs C6 rfl (.cons (Ab) .nil) rfl rfl (by decide) (by simp [Value.oneCell']) fun b12 hb12 nb12 => ?_)
        refine Bm rfl (Ct Bs el_3 (Ap rfl <| Ab) ho5 (Ab) (C8 (s := 1) 0 rfl rfl (by simp [Value.oneCell'])) (by omega) (by omega) (.s <| .s <| .s <| .k <| .z) .last fun v13 R14 ho15 => ?_)
        have ho5b := ho15.snoc (x := b) rfl rfl
        refine Aa rfl (Ae (Ab)) ?_
        refine Ah <| Bf <| Ad <| Cd (fun _ _ h => h.drop (.cons _ <| .cons _ <| .cons_cons _ <| .refl _)) ?_
        refine Ai fun ds => Aa rfl (Af (Ba rfl <| Ay rfl <| Ao rfl <| Ay rfl <| Ap rfl <| Al rfl <| As rfl hs11)) ?_
        refine Aa rfl (Bp (Ab) Ac rfl (by omega) (by omega)) ?_
        refine Aa rfl (Ae (Ab)) ?_
        refine Ah <| Ad ⟨_, m - 1, Off.eq (C5 rfl <| Et rfl <| Eb rfl <| Ej rfl <| off_in rfl <| Et rfl <| Eb rfl <| Ej rfl <| Bd), by omega, ?_⟩
        exact ⟨b + 1, by omega, (Ab), _, _, _, _, (A9 rfl <| Ap rfl <| Ab), (Ap rfl <| Al rfl <| Ab), by rw [C2, if_pos hmu]; exact ho4b, by rw [C2, if_pos hma]; exact ho5b, rfl⟩
       ·
        replace hma : mayB (ringsE s l).1 b = false := by simpa using hma
        refine Ai fun ds => Aa rfl (Af (A9 rfl <| Ao rfl <| Ay rfl <| Ap rfl <| Al rfl <| As rfl hs9)) ?_
        refine Aa rfl (Af (A9 rfl <| Al rfl <| Ao rfl <| Ay rfl <| Ap rfl <| Al rfl <| As rfl hs11)) ?_
        refine Bm rfl (Bz Bs C6 rfl (.cons (Ab) .nil) rfl rfl (by decide) (by simp [Value.oneCell']) fun b16 hb16 nb16 => ?_)
        refine Bm rfl (Ct Bs el_3 (Ap rfl <| Ab) ho4 (Ab) (C8 (s := 1) 0 rfl rfl (by simp [Value.oneCell'])) (by omega) (by omega) (.s <| .s <| .z) .more fun v17 R18 ho19 => ?_)
        have ho4b := ho19.snoc (x := b) rfl rfl
        refine Aa rfl (Ae (Ab)) ?_
        refine Ah <| Ad <| Ag <| Ai fun ds => Aa rfl (Af (A9 rfl <| Ay rfl <| Al rfl <| As rfl ht12)) ?_
        refine Aa rfl (Cj (Ab) Ac) ?_
        refine Ah <| Ad <| Am (Ab) (by rw [hqn]; exact hma) ?_
        refine Aw <| Bf <| Ad <| Cd (fun _ _ h => h.drop (.cons _ <| .cons_cons _ <| .refl _)) ?_
        refine Ai fun ds => Aa rfl (Af (A9 rfl <| Ay rfl <| Ap rfl <| Al rfl <| Ao rfl <| Ay rfl <| Ap rfl <| Al rfl <| As rfl hs11)) ?_
        refine Aa rfl (Bp (Ab) Ac rfl (by omega) (by omega)) ?_
        refine Aa rfl (Ae (Ab)) ?_
        refine Ah <| Ad ⟨_, m - 1, Off.eq (C5 rfl <| Eb rfl <| off_in rfl <| Et rfl <| Eb rfl <| Ej rfl <| Bd), by omega, ?_⟩
        exact ⟨b + 1, by omega, (Ab), _, _, _, _, (Ay rfl <| Al rfl <| Ab), (Ba rfl <| Ap rfl <| Ao rfl <| Ay rfl <| Ap rfl <| Al rfl <| As rfl hs10), by rw [C2, if_pos hmu]; exact ho4b, by rw [C2, if_neg (by rw [hma]; decide)]; exact ho5, rfl⟩
      ·
       replace hmu : mustB (ringsE s l).1 b = false := by simpa using hmu
       refine Bv ?_
       refine Bk <| Bk <| Bn <| Ad <| Ag <| Ag <| Ai fun ds => Aa rfl (Af (Ay rfl <| As rfl ht12)) ?_
       refine Aa rfl (Af (Ay rfl <| Al rfl <| Ao rfl <| Ay rfl <| Ap rfl <| Al rfl <| Ao rfl <| Ay rfl <| Ap rfl <| Ab)) ?_
       refine Aa rfl (Bi Cx (Ab) hqs.plain) ?_
       refine Aa rfl (B7 (Ap rfl <| Ab) (Ab)) ?_
       refine Ah <| Ad <| Am (Ab) (by rw [hqn, hqL]; exact hmu) ?_
       by_cases hma : mayB (ringsE s l).1 b = true
       ·
        refine Aw <| Ad <| Ag <| Ai fun ds => Aa rfl (Af (A9 rfl <| As rfl ht12)) ?_
        refine Aa rfl (Cj (Ab) Ac) ?_
        refine Ah <| Ad <| Aq (Ab) (by rw [hqn]; exact hma) ?_
        refine Ai fun ds => Aa rfl (Af (A9 rfl <| Ap rfl <| Ao rfl <| Ay rfl <| Ap rfl <| Al rfl <| As rfl hs10)) ?_
        refine Aa rfl (Af (A9 rfl <| Ap rfl <| Al rfl <| Ao rfl <| Ay rfl <| Ap rfl <| Al rfl <| As rfl hs11)) ?_
        refine Bm rfl (Bz Bs C6 rfl (.cons (Ab) .nil) rfl rfl (by decide) (by simp [Value.oneCell']) fun b20 hb20 nb20 => ?_)
        refine Bm rfl (Ct Bs el_3 (Ap rfl <| Ab) ho5 (Ab) (C8 (s := 1) 0 rfl rfl (by simp [Value.oneCell'])) (by omega) (by omega) (.s <| .s <| .k <| .z) .last fun v21 R22 ho23 => ?_)
        have ho5b := ho23.snoc (x := b) rfl rfl
        refine Aa rfl (Ae (Ab)) ?_
        refine Ah <| Bf <| Ad <| Cd (fun _ _ h => h.drop (.cons _ <| .cons_cons _ <| .refl _)) ?_
        refine Ai fun ds => Aa rfl (Af (A9 rfl <| Ay rfl <| Ap rfl <| Al rfl <| Ao rfl <| Ay rfl <| Ap rfl <| Al rfl <| As rfl hs11)) ?_
        refine Aa rfl (Bp (Ab) Ac rfl (by omega) (by omega)) ?_
        refine Aa rfl (Ae (Ab)) ?_
        refine Ah <| Ad ⟨_, m - 1, Off.eq (C5 rfl <| Eb rfl <| off_in rfl <| Et rfl <| Eb rfl <| Ej rfl <| Bd), by omega, ?_⟩
        exact ⟨b + 1, by omega, (Ab), _, _, _, _, (Ba rfl <| Ap rfl <| Ao rfl <| Ay rfl <| Ap rfl <| Al rfl <| As rfl hs9), (Ap rfl <| Al rfl <| Ab), by rw [C2, if_neg (by rw [hmu]; decide)]; exact ho4, by rw [C2, if_pos hma]; exact ho5b, rfl⟩
       ·
        replace hma : mayB (ringsE s l).1 b = false := by simpa using hma
        refine Aw <| Ad <| Ag <| Ai fun ds => Aa rfl (Af (A9 rfl <| As rfl ht12)) ?_
        refine Aa rfl (Cj (Ab) Ac) ?_
        refine Ah <| Ad <| Am (Ab) (by rw [hqn]; exact hma) ?_
        refine Aw <| Bf <| Ad <| Ai fun ds => Aa rfl (Af (A9 rfl <| Ap rfl <| Ao rfl <| Ay rfl <| Ap rfl <| Al rfl <| As rfl hs11)) ?_
        refine Aa rfl (Bp (Ab) Ac rfl (by omega) (by omega)) ?_
        refine Aa rfl (Ae (Ab)) ?_
        refine Ah <| Ad ⟨_, m - 1, Off.eq (D7 rfl <| Et rfl <| Ej rfl <| off_in rfl <| Et rfl <| Eb rfl <| Ej rfl <| Bd), by omega, ?_⟩
        exact ⟨b + 1, by omega, (Ab), _, _, _, _, (A9 rfl <| Ay rfl <| Al rfl <| Ao rfl <| Ay rfl <| Ap rfl <| Al rfl <| As rfl hs9), (A9 rfl <| Ay rfl <| Al rfl <| Ao rfl <| Ay rfl <| Ap rfl <| Al rfl <| As rfl hs10), by rw [C2, if_neg (by rw [hmu]; decide)]; exact ho4, by rw [C2, if_neg (by rw [hma]; decide)]; exact ho5, rfl⟩
   ·
    refine Ag <| Ag <| Ai fun ds => Aa rfl (Af (As rfl hs11)) ?_
    refine Aa rfl (Aj C4 (Al rfl <| Ao rfl <| Ba rfl <| Ab)) ?_
    refine Aa rfl (Ar Cv (Ab) (Cell.own 0 rfl rfl)) ?_
    refine Aa rfl (Bi Cs (Ab) hr.bidders.plain) ?_
    refine Aa rfl (Bt (Ap rfl <| Al rfl <| Ab) (Ab)) ?_
    refine Ah <| Ad <| Am (Ab) (by first | rfl | exact decide_eq_false (by omega)) ?_
    obtain rfl : b = s.bidders.length := by omega
    refine Dm (σ := ⟨_, _⟩) (by rfl) ho4 (.s <| .z) .more fun F24 hF25 hz26 => ?_
    have hn4 := ho4.sl (fun _ => rfl) hz26 (by omega)
    refine Dm (σ := ⟨_, _⟩) (by rfl) ho5 (.s <| .z) .last fun F27 hF28 hz29 => ?_
    replace hn4 := hn4.mono hF28
    have hn5 := ho5.sl (fun _ => rfl) hz29 (by omega)
    refine Bv ?_
    refine Bk <| Bk <| Bn <| Ad <| Ag <| Ai fun ds => Aa rfl (Af (Ay rfl <| Al rfl <| As rfl hs9)) ?_
    refine Aa rfl (Af (Ay rfl <| Ap rfl <| As rfl hs10)) ?_
    refine Aa rfl (Ae (Al rfl <| Ab)) ?_
    refine Aa rfl (Ae (Al rfl <| Ab)) ?_
    refine Aa rfl (Ae Ac) ?_
    refine Ah <| Ad <| A5 <| Ax rfl (.tmp (Ap rfl <| Ab) (.tmp (Al rfl <| Ab) (.tmp (Ab) .nil))) ?_
    rw [membersE_ok h0]
    exact ⟨_, _, rfl, hn4, hn5⟩
 ·
  refine Ag <| Ai fun ds => Bm rfl (B9 (Ak rfl) rfl fun b30 hb30 nb30 => ?_)
  refine Aa rfl (Ae Ac) ?_
  refine Aa rfl (Ae Ac) ?_
  refine Aa rfl (Ae Ac) ?_
  refine Ah <| Ad <| Ag <| Ai fun ds => Aa rfl (Bg B8 (Ap rfl <| Al rfl <| Ab) rfl rfl (Bl 0 rfl)) ?_
  refine Aa rfl (Af (Ay rfl <| Al rfl <| Ak rfl)) ?_
  refine Bm rfl (Ck bd_29 A0 (.cons (Al rfl <| Ab) (.cons (Ab) .nil)) (refRings_ok hr he) fun v31 F32 hr33 hF34 => ?_)
  obtain ⟨vq, rfl, qs, hqs, hqa, hqm⟩ := hr33
  replace hqa : AllN _ qs := hqa
  refine Aa rfl (Af (Ab)) ?_
  refine Aa rfl (A2 (Ab) rfl) ?_
  refine Aa rfl (A2 (Al rfl <| Ab) rfl) ?_
  refine Aa rfl (Ae (Al rfl <| Ab)) ?_
  refine Aa rfl (Ae (Al rfl <| Ab)) ?_
  refine Ah <| Ad <| Ag <| Ag <| Ai fun ds => Aa rfl (Af (Ab)) ?_
  refine Aa rfl (B6 (Ab) Ac) ?_
  refine Ah <| Ad <| Aq (Ab) (decide_eq_true h0) ?_
  refine Ag <| Ai fun ds => Aa rfl (Af (Ap rfl <| Ab)) ?_
  refine Aa rfl (Ae Ac) ?_
  refine Aa rfl (Ae Ac) ?_
  refine Aa rfl (Ae (Ap rfl <| Ab)) ?_
  refine Ah <| Ad <| A5 <| A3 ?_
  refine Ax rfl (.tmp (Ap rfl <| Ab) (.tmp (Al rfl <| Ab) (.tmp (Ab) .nil))) ?_
  rw [membersE_bad h0]
  exact ⟨_, _, rfl, Sl.nil, Sl.nil⟩
set_option maxRecDepth 100000 in
theorem refWrong_ok {F : Heap} {vs vb vl vn vd : Value} {s : Sale} (hr : SaleR F vs vb vl vn vd s) {ve : Value} {l : List Ent} (he : Sl F ve 4 Ent.enc l) : Ok Try.prog 34 [.agg #[vs, .int .i64 s.premium, .int .i64 s.fee, .int .i64 s.days, vb, vl, vn, vd], ve].toArray F fun u F' => NatsR F' u (wrongE s l) := by
 refine Ok.intro Try.func34 rfl Try.ntmps34 rfl fun w0 => ?_
 have hle0 : F.le F := Heap.le_refl _
 have hel := he.plain.lt
 by_cases hok : askedE s l = 0
 ·
  have hv := C7 (Eh hok).1
  have hcat := (Eh hok).2
  have hl6 := ent_len hv hcat
  refine Ag <| Ai fun ds => Bm rfl (B9 (Ak rfl) rfl fun b1 hb1 nb1 => ?_)
  refine Aa rfl (Ae Ac) ?_
  refine Aa rfl (Ae Ac) ?_
  refine Ah <| Ad <| Ag <| Ai fun ds => Aa rfl (Bg B8 (Ap rfl <| Ab) rfl rfl (Bl 0 rfl)) ?_
  refine Aa rfl (Af (Ay rfl <| Ak rfl)) ?_
  refine Bw rfl (Bc bd_79 A0 (.cons (Al rfl <| Ab) (.cons (Ab) .nil)) (refAsked_ok hr he) (fun _ _ h => h)) ?_
  refine Aa rfl (Ae (Ab)) ?_
  refine Ah <| Ad <| Ag <| Ag <| Ai fun ds => Aa rfl (Af (Ab)) ?_
  refine Aa rfl (B6 (Ab) Ac) ?_
  refine Ah <| Ad <| Am (Ab) (decide_eq_false (fun h => h hok)) ?_
  refine Aw <| Ad <| Ag <| Ai fun ds => Aa rfl (Bg B8 (A9 rfl <| Ab) rfl rfl (Bl 0 rfl)) ?_
  refine Bm rfl (Ck bd_81 A0 (.cons (Ab) .nil) (refResults_ok hr hv) fun v2 F3 hr4 hF5 => ?_)
  replace hr := hr.mono hF5
  replace he := he.mono hF5
  replace hle0 := Heap.le_trans hle0 hF5
  have hrl := hr4
  refine Aa rfl (Ae (Ab)) ?_
  refine Ah <| Ad <| Ag <| Ag <| Ai fun ds => Aa rfl (Ae Ac) ?_
  refine Ah <| Ad <| A4 <| Bx [4, 5, 8, 9, 10, 19, 20, 21, 22, 23, 24, 25, 26, 27, 28, 29, 30, 31, 32, 33, 34, 35, 36, 37, 38, 39, 40, 41, 42, 43, 44, 45, 46, 47, 48] (fun m e σ => ∃ G, F.le G ∧ F3.le G ∧ ∃ many : Nat, m + many = l.length ∧ e 8 = .int .i64 (many : Int) ∧ (∀ p ∈ candsTo l.length many, fitS s l p = []) ∧ σ = ⟨G, [(b1, bx 27 [vs, .int .i64 s.premium, .int .i64 s.fee, .int .i64 s.days, vb, vl, vn, vd])]⟩) (l.length) ?_ ?_
  · exact ⟨_, hle0, Heap.le_refl _, 0, by omega, (Ab), (fun p hp => by simp [candsTo] at hp), rfl⟩
  ·
   rintro m e _ ⟨G, hle0, hFG0, many, hm9, hs8, hno1, rfl⟩; replace hr := hr.mono hFG0; replace he := he.mono hFG0; replace hrl := hrl.mono hFG0
   by_cases hm : many < l.length
   ·
    refine Ag <| Ag <| Ai fun ds => Aa rfl (Af (As rfl hs8)) ?_
    refine Aa rfl (Af (Al rfl <| Ao rfl <| A9 rfl <| Ay rfl <| Al rfl <| Ak rfl)) ?_
    refine Aa rfl (Bi Dn (Ab) he.plain) ?_
    refine Aa rfl (Bt (Ap rfl <| Ab) (Ab)) ?_
    refine Ah <| Ad <| Aq (Ab) (by first | rfl | exact decide_eq_true (by omega)) ?_
    refine Aw <| Ad <| Ag <| A4 <| Ag <| Ai fun ds => Aa rfl (Af (Ay rfl <| Ao rfl <| A9 rfl <| Ay rfl <| Al rfl <| Ak rfl)) ?_
    refine Aa rfl (Bi Dn (Ab) he.plain) ?_
    refine Aa rfl (Af (Ay rfl <| Ap rfl <| As rfl hs8)) ?_
    refine Bm rfl (Ck bd_87 A0 (.cons Ac (.cons (Al rfl <| Ab) (.cons (Ab) .nil))) (lists_ok (hi := l.length) (by omega) many (lo := 0) (by omega) (by omega)) fun v7 F8 hr9 hF10 => ?_)
    replace hr := hr.mono hF10
    replace he := he.mono hF10
    replace hrl := hrl.mono hF10
    replace hle0 := Heap.le_trans hle0 hF10
    replace hFG0 := Heap.le_trans hFG0 hF10
    obtain ⟨ls, hls, hlsa, hlsm⟩ := hr9
    replace hlsa : AllN _ ls := hlsa
    refine Aa rfl (Ae (Ab)) ?_
    refine Ah <| Ad <| Ag <| Ai fun ds => Aa rfl (Ae Ac) ?_
    refine Ah <| Ad <| A4 <| Bx [4, 5, 10, 29, 30, 31, 32, 33, 34, 35, 36, 37, 38, 39, 40, 41, 42, 43, 44, 45, 46, 47, 48] (fun m e σ => ∃ G, F.le G ∧ F8.le G ∧ ∃ i : Nat, m + i = ls.length ∧ e 10 = .int .i64 (i : Int) ∧ (∀ p ∈ (listsR many 0 l.length).take i, fitS s l p = []) ∧ σ = ⟨G, [(b1, bx 27 [vs, .int .i64 s.premium, .int .i64 s.fee, .int .i64 s.days, vb, vl, vn, vd])]⟩) (ls.length) ?_ ?_
    · exact ⟨_, hle0, Heap.le_refl _, 0, by omega, (Ab), by simp, rfl⟩
    ·
     rintro m2 e2 _ ⟨G, hle0, hFG, i, hm2, ht10, hno2, rfl⟩; replace hr := hr.mono hFG; replace he := he.mono hFG; replace hrl := hrl.mono hFG; replace hls := hls.mono hFG; replace hlsa := hlsa.mono hFG; replace hFG0 := Heap.le_trans hFG0 hFG
     by_cases hlk : i < ls.length
     ·
      have hlpl := hls.plain.lt
      have hql : Nats _ _ _ := hlsa _ (List.getElem_mem hlk)
      have hli : i < (listsR many 0 l.length).length := by rw [← hlsm]; simpa using hlk
      have hle9 : (listsR many 0 l.length)[i] = ls[i].2 := by simp [← hlsm]
      refine Ag <| Ag <| Ai fun ds => Aa rfl (Af (As rfl ht10)) ?_
      refine Aa rfl (Af (Al rfl <| Ao rfl <| Al rfl <| Ab)) ?_
      refine Aa rfl (Bi Cx (Ab) hls.plain) ?_
      refine Aa rfl (Bt (Ap rfl <| Ab) (Ab)) ?_
      refine Ah <| Ad <| Aq (Ab) (by first | rfl | exact decide_eq_true (by omega)) ?_
      refine Aw <| Ad <| Ag <| A4 <| Ag ?_
      have hleS := hle0
      refine D6 (.inl rfl) (fun _ _ h => h) (.cons_cons _ <| .refl _) [7, 8, 9] (by kernel_rfl) fun ds => ?_
      refine Be 0 rfl (by kernel_rfl) (by kernel_rfl) (by kernel_rfl) (by kernel_rfl) rfl rfl (fun _ h => h.drop (.cons_cons _ <| .refl _)) (fun _ _ _ h => h) (Bg B8 (Ay rfl <| Ao rfl <| A9 rfl <| Ap rfl <| Ao rfl <| A9 rfl <| Ay rfl <| Ab) rfl rfl (Bl 0 rfl)) ?_
      refine Be 1 rfl (by kernel_rfl) (by kernel_rfl) (by kernel_rfl) (by kernel_rfl) rfl rfl (fun _ h => h.drop (.cons_cons _ <| .refl _)) (fun _ _ _ h => h) (Af (Ay rfl <| Al rfl <| Ao rfl <| A9 rfl <| Ap rfl <| Ao rfl <| A9 rfl <| Ay rfl <| Al rfl <| Ak rfl)) ?_
      refine Be 2 rfl (by kernel_rfl) (by kernel_rfl) (by kernel_rfl) (by kernel_rfl) rfl rfl (fun _ h => h.drop (.cons_cons _ <| .refl _)) (fun _ _ _ h => h) (Af (Ay rfl <| Ap rfl <| Ao rfl <| A9 rfl <| Ap rfl <| Ao rfl <| Al rfl <| Ab)) ?_
      refine Be 3 rfl (by kernel_rfl) (by kernel_rfl) (by kernel_rfl) (by kernel_rfl) rfl rfl (fun _ h => h.drop (.cons_cons _ <| .refl _)) (fun _ _ _ h => h) (Af (Ay rfl <| Ap rfl <| Al rfl <| Ao rfl <| Al rfl <| Ab)) ?_
      refine Be 4 rfl (by kernel_rfl) (by kernel_rfl) (by kernel_rfl) (by kernel_rfl) rfl rfl (fun _ h => h.drop (.cons_cons _ <| .refl _)) (fun _ _ _ h => h) (Af (A9 rfl <| As rfl ht10)) ?_
      refine Be 5 rfl (by kernel_rfl) (by kernel_rfl) (by kernel_rfl) (by kernel_rfl) rfl rfl (fun _ h => h.drop (.cons_cons _ <| .refl _)) (fun _ _ _ h => h) (Bh  Cx (Al rfl <| Ab) hls.plain (Ab) rfl hlk) ?_
      refine Be 6 rfl (by kernel_rfl) (by kernel_rfl) (by kernel_rfl) (by kernel_rfl) rfl rfl (fun _ h => h.drop (.cons_cons _ <| .refl _)) (fun _ _ _ h => h) (Ar Ef (Ab) (hls.cell1 hlk rfl)) ?_
      refine Dh 7 rfl (by kernel_rfl) rfl (Ck bd_80 A0 (.cons (Ay rfl <| Ap rfl <| Ab) (.cons (Ay rfl <| Al rfl <| Ab) (.cons (Ay rfl <| Ab) (.cons (Ab) .nil)))) (refFit_ok hr hv he hcat hrl hql) fun v12 F13 hr14 hF15 => ⟨(fun h => nomatch h), ?_⟩)
      replace hls := hls.mono hF15
      replace hle0 := Heap.le_trans hle0 hF15
      replace hFG := Heap.le_trans hFG hF15
      replace hql := hql.mono hF15
      obtain ⟨ps, hsp, hpa, hps⟩ := hr14
      refine Dh 8 rfl (by kernel_rfl) rfl (Br (Bi Cx (Ab) hsp.plain).quiet ⟨(fun h => nomatch h), ?_⟩)
      refine Dh 9 rfl (by kernel_rfl) rfl (Br (Cj (Ab) Ac).quiet ⟨(fun h => nomatch h), ?_⟩)
      refine Di (by kernel_rfl) ?_ _
      refine Ad ?_
      by_cases hfz : fitS s l ls[i].2 = []
      ·
       refine Am (Ab) (decide_eq_false (by have h9 := congrArg List.length hps; rw [List.length_map, hfz] at h9; simp at h9; rw [h9]; simp)) ?_
       refine Aw <| Bf <| Ad <| Ai fun ds => Aa rfl (Af (A9 rfl <| Ay rfl <| Ap rfl <| As rfl ht10)) ?_
       refine Aa rfl (Bp (Ab) Ac rfl (by omega) (by omega)) ?_
       refine Aa rfl (Ae (Ab)) ?_
       refine Ah <| Ad ⟨_, m2 - 1, Off.eq (C5 rfl <| Ej rfl <| Bd), by omega, ?_⟩
       refine ⟨_, hle0, hFG, i + 1, by omega, (Ab), ?_, rfl⟩
       intro p hp; rw [List.take_succ_eq_append_getElem hli] at hp; rcases List.mem_append.1 hp with hp | hp
       · exact hno2 p hp
       · simp only [List.mem_singleton] at hp; subst hp; rw [hle9]; exact hfz
      ·
       refine Aq (Ab) (decide_eq_true (by have h9 := congrArg List.length hps; rw [List.length_map] at h9; have h8 := List.length_pos_iff.2 hfz; omega)) ?_
       refine Ag <| Ai fun ds => Aa rfl (Af (A9 rfl <| Ay rfl <| Ap rfl <| Ao rfl <| Al rfl <| Ab)) ?_
       refine Aa rfl (Af (A9 rfl <| Ay rfl <| Ap rfl <| Al rfl <| As rfl ht10)) ?_
       refine Aa rfl (Bh  Cx (Al rfl <| Ab) hls.plain (Ab) rfl hlk) ?_
       refine Aa rfl (Ar Ef (Ab) (hls.cell1 hlk rfl)) ?_
       refine Aa rfl (Ae (Ab)) ?_
       refine Aa rfl (Ae Ac) ?_
       refine Ah <| Ad <| A5 <| Bb (A3 (A3 (Bb (Bb (A3 (A3 (Bb (A3 ?_))))))))
       refine Ax rfl (.tmp (Al rfl <| Ab) (.tmp (Ab) .nil)) ?_
       rw [wrongE_ok hok, wrong_eq, wrongR_found hm hli hno1 hno2 (by rw [hle9]; exact hfz), hle9]
       exact ⟨_, rfl, hql⟩
     ·
      refine Ag <| Ag <| Ai fun ds => Aa rfl (Af (As rfl ht10)) ?_
      refine Aa rfl (Af (Al rfl <| Ao rfl <| Al rfl <| Ab)) ?_
      refine Aa rfl (Bi Cx (Ab) hls.plain) ?_
      refine Aa rfl (Bt (Ap rfl <| Ab) (Ab)) ?_
      refine Ah <| Ad <| Am (Ab) (by first | rfl | exact decide_eq_false (by omega)) ?_
      obtain rfl : i = ls.length := by omega
      refine Bv ?_
      refine Bk <| Bk <| Bn <| Bf <| Ad <| Ai fun ds => Aa rfl (Af (Ay rfl <| Ao rfl <| A9 rfl <| Ap rfl <| As rfl hs8)) ?_
      refine Aa rfl (Bp (Ab) Ac rfl (by omega) (by omega)) ?_
      refine Aa rfl (Ae (Ab)) ?_
      refine Ah <| Ad ⟨_, m - 1, Off.eq (Et rfl <| Eb rfl <| Ej rfl <| off_in rfl <| D7 rfl <| Eb rfl <| Bd), by omega, ?_⟩
      refine ⟨_, hle0, hFG0, many + 1, by omega, (Ab), ?_, rfl⟩
      intro p hp; rw [candsTo_succ] at hp; rcases List.mem_append.1 hp with hp | hp
      · exact hno1 p hp
      · exact hno2 p (by rw [List.take_of_length_le (by rw [← hlsm, List.length_map]; omega)]; exact hp)
   ·
    refine Ag <| Ag <| Ai fun ds => Aa rfl (Af (As rfl hs8)) ?_
    refine Aa rfl (Af (Al rfl <| Ao rfl <| A9 rfl <| Ay rfl <| Al rfl <| Ak rfl)) ?_
    refine Aa rfl (Bi Dn (Ab) he.plain) ?_
    refine Aa rfl (Bt (Ap rfl <| Ab) (Ab)) ?_
    refine Ah <| Ad <| Am (Ab) (by first | rfl | exact decide_eq_false (by omega)) ?_
    have hmn : many = l.length := by omega
    rw [hmn] at hno1
    refine Bv ?_
    refine Bk <| Bk <| Bn <| Ad <| Ag <| Ai fun ds => Aa rfl (Af (Ay rfl <| Ao rfl <| A9 rfl <| Ay rfl <| Al rfl <| Ak rfl)) ?_
    refine Aa rfl (Bi Dn (Ab) he.plain) ?_
    refine Aa rfl (Af (Ay rfl <| Ap rfl <| Ao rfl <| A9 rfl <| Ay rfl <| Al rfl <| Ak rfl)) ?_
    refine Aa rfl (Bi Dn (Ab) he.plain) ?_
    refine Bm rfl (Ck bd_87 A0 (.cons Ac (.cons (Ap rfl <| Ab) (.cons (Ab) .nil))) (lists_ok (hi := l.length) (by omega) l.length (lo := 0) (by omega) (by omega)) fun v16 F17 hr18 hF19 => ?_)
    obtain ⟨ls, hls, hlsa, hlsm⟩ := hr18
    replace hlsa : AllN _ ls := hlsa
    have hl0 : 0 < ls.length := by have h1 := congrArg List.length hlsm; rw [List.length_map, lists_full] at h1; rw [h1]; simp
    refine Aa rfl (Bh (k := 0) Cx (Ab) hls.plain Ac rfl hl0) ?_
    refine Aa rfl (Ar Ef (Ab) (hls.cell1 hl0 rfl)) ?_
    refine Aa rfl (Ae (Ab)) ?_
    refine Aa rfl (Ae Ac) ?_
    refine Ah <| Ad <| A5 <| Ax rfl (.tmp (Al rfl <| Ab) (.tmp (Ab) .nil)) ?_
    rw [wrongE_ok hok, wrong_eq, wrongR_none hno1]
    exact ⟨_, rfl, by rw [lists_full] at hlsm; have := hlsa _ (List.getElem_mem hl0); rw [show ls[0].2 = List.range l.length by have h1 := congrArg (fun z => z[0]?) hlsm; simp only [List.getElem?_map, List.getElem?_eq_getElem hl0] at h1; simpa using h1] at this; exact this⟩
 ·
  refine Ag <| Ai fun ds => Bm rfl (B9 (Ak rfl) rfl fun b20 hb20 nb20 => ?_)
  refine Aa rfl (Ae Ac) ?_
  refine Aa rfl (Ae Ac) ?_
  refine Ah <| Ad <| Ag <| Ai fun ds => Aa rfl (Bg B8 (Ap rfl <| Ab) rfl rfl (Bl 0 rfl)) ?_
  refine Aa rfl (Af (Ay rfl <| Ak rfl)) ?_
  refine Bw rfl (Bc bd_79 A0 (.cons (Al rfl <| Ab) (.cons (Ab) .nil)) (refAsked_ok hr he) (fun _ _ h => h)) ?_
  refine Aa rfl (Ae (Ab)) ?_
  refine Ah <| Ad <| Ag <| Ag <| Ai fun ds => Aa rfl (Af (Ab)) ?_
  refine Aa rfl (B6 (Ab) Ac) ?_
  refine Ah <| Ad <| Aq (Ab) (decide_eq_true hok) ?_
  refine Ag <| Ai fun ds => Aa rfl (Af (Ap rfl <| Ab)) ?_
  refine Aa rfl (Ae Ac) ?_
  refine Aa rfl (Ae (Al rfl <| Ab)) ?_
  refine Ah <| Ad <| A5 <| A3 ?_
  refine Ax rfl (.tmp (Al rfl <| Ab) (.tmp (Ab) .nil)) ?_
  rw [wrongE_bad rfl hok]
  exact ⟨_, rfl, Sl.nil⟩
end Go.Proofs.Ytaikojfonleccaa
namespace Go.Proofs.Ytaikojfonleccaa
open Go.RowKit
def stA : Stp := ⟨0, 5⟩
def stB : Stp := ⟨50, 10⟩
def ltA : Lot := ⟨⟨#[98, 105, 98, 108, 101]⟩, 0, 20, true⟩
def ltB : Lot := ⟨⟨#[97, 116, 108, 97, 115]⟩, 0, 48, false⟩
def ltC : Lot := ⟨⟨#[102, 97, 110]⟩, 0, 30, false⟩
def names4 : List ByteArray := [⟨#[97, 110, 110]⟩, ⟨#[98, 101, 110]⟩, ⟨#[99, 105, 100]⟩, ⟨#[100, 111, 116]⟩]
def names1 : List ByteArray := [⟨#[100, 117, 107, 101]⟩]
def bids6 : List Bid := [⟨0, 0, 62⟩, ⟨1, 0, 41⟩, ⟨2, 0, 55⟩, ⟨1, 1, 90⟩, ⟨3, 1, 70⟩, ⟨3, 2, 25⟩]
def saleX : Sale := ⟨[stA, stB], 100, 150, 14, names4, names1, [ltA, ltB, ltC], bids6⟩
def resX (p : Int) : List Res := [⟨0, p⟩, ⟨1, 73⟩, ⟨-1, 0⟩]
def back1 (d : Int) : List Back := [⟨0, d⟩]
def entX (l p : Int) : Ent := ⟨l, true, p, p⟩
def ent1 (l lo hi : Int) : Ent := ⟨l, true, lo, hi⟩
theorem ev_n1 : nextE saleX 50 = (60, 0) := by kernel_rfl
theorem ev_s1 : sellE saleX [] = (resX 60, 0) := by kernel_rfl
theorem ev_s2 : sellE saleX [0, 1, 2] = (resX 20, 0) := by kernel_rfl
theorem ev_a1 : accE saleX [1, 3] (back1 14) = ([0, 53, 0, 0], [41], 12, 0) := by kernel_rfl
theorem ev_a2 : accE saleX [1, 3] (back1 15) = ([], [], 0, 7) := by kernel_rfl
theorem ev_h1 : shareE saleX [0, 1, 2] = ([14, 13, 13], 0) := by kernel_rfl
theorem ev_r1 : ringsE saleX [entX 0 60, entX 1 48] = ([[1, 3], [0, 1, 3], [1, 2, 3]], 0) := by kernel_rfl
theorem ev_r2 : ringsE saleX [entX 2 30] = ([], 8) := by kernel_rfl
theorem ev_m1 : membersE saleX [ent1 0 20 50] = ([0, 2], [0, 1, 2, 3], 0) := by kernel_rfl
theorem ev_w1 : wrongE saleX [entX 0 45, entX 1 48, entX 2 30] = ([0, 2], 0) := by kernel_rfl
end Go.Proofs.Ytaikojfonleccaa
namespace Go.Proofs.Ytaikojfonleccaa
open Go.RowKit
theorem zr_27 : ZeroT Try.prog 27 (.agg #[.slice none 0 0, .int .i64 0, .int .i64 0, .int .i64 0, .slice none 0 0, .slice none 0 0, .slice none 0 0, .slice none 0 0]) := Db (by kernel_rfl)
theorem bd_25 : Body Try.prog 25 := Bq (by kernel_rfl)
theorem bd_88 : Body Try.prog 88 := Bq (by kernel_rfl)
theorem bd_89 : Body Try.prog 89 := Bq (by kernel_rfl)
theorem bt_27 : BuildT Try.prog 27 [.slice none 0 0, .int .i64 0, .int .i64 0, .int .i64 0, .slice none 0 0, .slice none 0 0, .slice none 0 0, .slice none 0 0] [(0, 1), (1, 1), (2, 1), (3, 1), (4, 1), (5, 1), (6, 1), (7, 1)] := E2 zr_27 (by kernel_rfl) (by decide)
theorem bt_60 : BuildT Try.prog 60 [.int .i64 0, .bool false, .int .i64 0, .int .i64 0] [(0, 1), (1, 1), (2, 2)] := E2 zr_60 (by kernel_rfl) (by decide)
theorem bt_69 : BuildT Try.prog 69 [.string ⟨#[]⟩, .int .i64 0, .int .i64 0, .bool false] [(0, 1), (1, 1), (2, 1), (3, 1)] := E2 zr_69 (by kernel_rfl) (by decide)
theorem bt_72 : BuildT Try.prog 72 [.int .i64 0, .int .i64 0, .int .i64 0] [(0, 1), (1, 1), (2, 1)] := E2 zr_72 (by kernel_rfl) (by decide)
theorem bt_98 : BuildT Try.prog 98 [.int .i64 0, .int .i64 0] [(0, 1), (1, 1)] := E2 zr_98 (by kernel_rfl) (by decide)
theorem sz_27 : SizeT Try.prog 27 8 := Dt (by kernel_rfl)
theorem sz_58 : SizeT Try.prog 58 2 := Dt (by kernel_rfl)
set_option maxRecDepth 100000 in
theorem span_ok {F : Heap} (a b : Int) : Ok Try.prog 89 [.int .i64 a, .int .i64 b].toArray F fun r _ => r = .agg #[.int .i64 a, .int .i64 b] := by
 refine Ok.intro Try.func89 rfl Try.ntmps89 rfl fun w0 => ?_
 refine Ag <| Ai fun ds => Bm rfl (B5 zr_58 rfl fun b1 hb1 nb1 => ?_)
 refine Ah <| Ad <| Ag <| Ai fun ds => Aa rfl (Af (Al rfl <| Ak rfl)) ?_
 refine Aa rfl (Af (Ap rfl <| Ak rfl)) ?_
 refine Aa rfl (C9 bt_58 (.cons (Al rfl <| Ab) rfl (.cons (Ab) rfl .nil)) (.cons rfl rfl (Nat.le_of_ble_eq_true rfl) (.cons (.here) .nil) (.cons rfl rfl (Nat.le_of_ble_eq_true rfl) (.cons (.next <| .here) .nil) .nil))) ?_
 refine Cm (B4 sz_58 (Ap rfl <| Al rfl <| Ab) (Ab) (i := 0) rfl rfl rfl rfl (by simp [Value.oneCell']) (.here) ?_)
 refine Ah <| Ad <| A5 <| Ax rfl (.agg Fm (Ap rfl <| Al rfl <| Ab) rfl rfl (Bl 0 rfl) .nil) ?_
 rfl
set_option maxRecDepth 100000 in
theorem bid_ok {F : Heap} (a b c : Int) : Ok Try.prog 88 [.int .i64 a, .int .i64 b, .int .i64 c].toArray F fun r _ => r = .agg #[.int .i64 a, .int .i64 b, .int .i64 c] := by
 refine Ok.intro Try.func88 rfl Try.ntmps88 rfl fun w0 => ?_
 refine Ag <| Ai fun ds => Bm rfl (B5 zr_72 rfl fun b1 hb1 nb1 => ?_)
 refine Ah <| Ad <| Ag <| Ai fun ds => Aa rfl (Af (Al rfl <| Ak rfl)) ?_
 refine Aa rfl (Af (Ap rfl <| Ak rfl)) ?_
 refine Aa rfl (Af (Ap rfl <| Al rfl <| Ak rfl)) ?_
 refine Aa rfl (C9 bt_72 (.cons (Ap rfl <| Ab) rfl (.cons (Al rfl <| Ab) rfl (.cons (Ab) rfl .nil))) (.cons rfl rfl (Nat.le_of_ble_eq_true rfl) (.cons (.here) .nil) (.cons rfl rfl (Nat.le_of_ble_eq_true rfl) (.cons (.next <| .here) .nil) (.cons rfl rfl (Nat.le_of_ble_eq_true rfl) (.cons (.next <| .next <| .here) .nil) .nil)))) ?_
 refine Cm (B4 sz_72 (Ay rfl <| Ab) (Ab) (i := 0) rfl rfl rfl rfl (by simp [Value.oneCell']) (.here) ?_)
 refine Ah <| Ad <| A5 <| Ax rfl (.agg agg_72 (Ay rfl <| Ab) rfl rfl (Bl 0 rfl) .nil) ?_
 rfl
set_option maxRecDepth 100000 in
theorem result_ok {F : Heap} (a b : Int) : Ok Try.prog 37 [.int .i64 a, .int .i64 b].toArray F fun r _ => r = .agg #[.int .i64 a, .int .i64 b] := by
 refine Ok.intro Try.func37 rfl Try.ntmps37 rfl fun w0 => ?_
 refine Ag <| Ai fun ds => Bm rfl (B5 zr_63 rfl fun b1 hb1 nb1 => ?_)
 refine Ah <| Ad <| Ag <| Ai fun ds => Aa rfl (Af (Al rfl <| Ak rfl)) ?_
 refine Aa rfl (Af (Ap rfl <| Ak rfl)) ?_
 refine Aa rfl (C9 bt_63 (.cons (Al rfl <| Ab) rfl (.cons (Ab) rfl .nil)) (.cons rfl rfl (Nat.le_of_ble_eq_true rfl) (.cons (.here) .nil) (.cons rfl rfl (Nat.le_of_ble_eq_true rfl) (.cons (.next <| .here) .nil) .nil))) ?_
 refine Cm (B4 sz_63 (Ap rfl <| Al rfl <| Ab) (Ab) (i := 0) rfl rfl rfl rfl (by simp [Value.oneCell']) (.here) ?_)
 refine Ah <| Ad <| A5 <| Ax rfl (.agg En (Ap rfl <| Al rfl <| Ab) rfl rfl (Bl 0 rfl) .nil) ?_
 rfl
set_option maxRecDepth 100000 in
theorem entry_ok {F : Heap} (a b c : Int) : Ok Try.prog 36 [.int .i64 a, .int .i64 b, .int .i64 c].toArray F fun r _ => r = .agg #[.int .i64 a, .bool true, .int .i64 b, .int .i64 c] := by
 refine Ok.intro Try.func36 rfl Try.ntmps36 rfl fun w0 => ?_
 refine Ag <| Ai fun ds => Bm rfl (B5 zr_60 rfl fun b1 hb1 nb1 => ?_)
 refine Ah <| Ad <| Ag <| Ai fun ds => Aa rfl (Af (Al rfl <| Ak rfl)) ?_
 refine Aa rfl (Af (Ap rfl <| Ak rfl)) ?_
 refine Aa rfl (Af (Ap rfl <| Al rfl <| Ak rfl)) ?_
 refine Bw rfl (Bc bd_89 A0 (.cons (Al rfl <| Ab) (.cons (Ab) .nil)) (span_ok _ _) (fun _ _ h => h)) ?_
 refine Aa rfl (C9 bt_60 (.cons (Ap rfl <| Al rfl <| Ab) rfl (.cons Ac rfl (.cons (Ab) rfl .nil))) (.cons rfl rfl (Nat.le_of_ble_eq_true rfl) (.cons (.here) .nil) (.cons rfl rfl (Nat.le_of_ble_eq_true rfl) (.cons (.next <| .here) .nil) (.cons rfl rfl (Nat.le_of_ble_eq_true rfl) (.cons (.next <| .next <| .here) (.cons (.next <| .next <| .next <| .here) .nil)) .nil)))) ?_
 refine Cm (B4 sz_60 (Ay rfl <| Al rfl <| Ab) (Ab) (i := 0) rfl rfl rfl rfl (by simp [Value.oneCell']) (.here) ?_)
 refine Ah <| Ad <| A5 <| Ax rfl (.agg Fa (Ay rfl <| Al rfl <| Ab) rfl rfl (Bl 0 rfl) .nil) ?_
 rfl
theorem steps_box2 {F : Heap} {b T : Nat} (h : F b = some (bx T [.int .i64 0, .int .i64 5, .int .i64 50, .int .i64 10])) : Sl F (.slice (some ⟨b, 0, none⟩) 2 2) 2 Stp.enc ([stA, stB] : List Stp) :=
 D8 (xs := ([stA, stB] : List Stp)) h rfl rfl (fun _ => rfl) (by decide)
theorem strs_box4 {F : Heap} {b T : Nat} (h : F b = some (bx T [.string ⟨#[97, 110, 110]⟩, .string ⟨#[98, 101, 110]⟩, .string ⟨#[99, 105, 100]⟩, .string ⟨#[100, 111, 116]⟩])) : Sl F (.slice (some ⟨b, 0, none⟩) 4 4) 1 strE (names4 : List ByteArray) :=
 D8 (xs := (names4 : List ByteArray)) h rfl rfl (fun _ => rfl) (by decide)
theorem strs_box1 {F : Heap} {b T : Nat} (h : F b = some (bx T [.string ⟨#[100, 117, 107, 101]⟩])) : Sl F (.slice (some ⟨b, 0, none⟩) 1 1) 1 strE (names1 : List ByteArray) :=
 D8 (xs := (names1 : List ByteArray)) h rfl rfl (fun _ => rfl) (by decide)
theorem lots_box3 {F : Heap} {b T : Nat} (h : F b = some (bx T [.string ⟨#[98, 105, 98, 108, 101]⟩, .int .i64 0, .int .i64 20, .bool true, .string ⟨#[97, 116, 108, 97, 115]⟩, .int .i64 0, .int .i64 48, .bool false, .string ⟨#[102, 97, 110]⟩, .int .i64 0, .int .i64 30, .bool false])) : Sl F (.slice (some ⟨b, 0, none⟩) 3 3) 4 Lot.enc ([ltA, ltB, ltC] : List Lot) :=
 D8 (xs := ([ltA, ltB, ltC] : List Lot)) h rfl rfl (fun _ => rfl) (by decide)
theorem bids_box6 {F : Heap} {b T : Nat} (h : F b = some (bx T [.int .i64 0, .int .i64 0, .int .i64 62, .int .i64 1, .int .i64 0, .int .i64 41, .int .i64 2, .int .i64 0, .int .i64 55, .int .i64 1, .int .i64 1, .int .i64 90, .int .i64 3, .int .i64 1, .int .i64 70, .int .i64 3, .int .i64 2, .int .i64 25])) : Sl F (.slice (some ⟨b, 0, none⟩) 6 6) 3 Bid.enc (bids6 : List Bid) :=
 D8 (xs := (bids6 : List Bid)) h rfl rfl (fun _ => rfl) (by decide)
set_option maxRecDepth 100000 in
theorem sale_ok {F : Heap} : Ok Try.prog 35 [].toArray F fun u F' => ∃ vs vb vl vn vd, u = .agg #[vs, .int .i64 100, .int .i64 150, .int .i64 14, vb, vl, vn, vd] ∧ SaleR F' vs vb vl vn vd saleX := by
 refine Ok.intro Try.func35 rfl Try.ntmps35 rfl fun w0 => ?_
 refine Ag <| Ai fun ds => Bm rfl (B5 zr_27 rfl fun b1 hb1 nb1 => ?_)
 refine Ah <| Ad <| Ag <| Ai fun ds => Aa rfl (C9 bt_98 (.cons Ac rfl (.cons Ac rfl .nil)) (.cons rfl rfl (Nat.le_of_ble_eq_true rfl) (.cons (.here) .nil) (.cons rfl rfl (Nat.le_of_ble_eq_true rfl) (.cons (.next <| .here) .nil) .nil))) ?_
 refine Aa rfl (C9 bt_98 (.cons Ac rfl (.cons Ac rfl .nil)) (.cons rfl rfl (Nat.le_of_ble_eq_true rfl) (.cons (.here) .nil) (.cons rfl rfl (Nat.le_of_ble_eq_true rfl) (.cons (.next <| .here) .nil) .nil))) ?_
 refine Bm rfl (Dr (offs := [(0, 2), (2, 2)]) (zl := [.int .i64 0, .int .i64 0, .int .i64 0, .int .i64 0]) Ds zr_98 rfl (.cons (Al rfl <| Ab) rfl (.cons (Ab) rfl .nil)) (by intro i p h; rcases i with _ | _ | i <;> simp at h <;> subst h <;> rfl) (.cons rfl rfl (Nat.le_of_ble_eq_true rfl) (.cons (.here) (.cons (.next <| .here) .nil)) (.cons rfl rfl (Nat.le_of_ble_eq_true rfl) (.cons (.next <| .next <| .here) (.cons (.next <| .next <| .next <| .here) .nil)) .nil)) (by decide) (by decide) fun b2 hb2 nb2 => ?_)
 refine Bu (i := 0) rfl hb2 .here fun F3 hF4 hz5 => ?_
 have hsl6 := steps_box2 hz5
 refine Bm rfl (Bz Cs zr_9 rfl (.cons Ac (.cons Ac (.cons Ac (.cons Ac .nil)))) rfl rfl (by decide) (by simp [Value.oneCell']) fun b7 hb7 nb7 => ?_)
 refine Bu (i := 0) rfl hb7 .here fun F8 hF9 hz10 => ?_
 replace hsl6 := hsl6.mono hF9
 have hsl11 := strs_box4 hz10
 refine Bm rfl (Bz Cs zr_9 rfl (.cons Ac .nil) rfl rfl (by decide) (by simp [Value.oneCell']) fun b12 hb12 nb12 => ?_)
 refine Bu (i := 0) rfl hb12 .here fun F13 hF14 hz15 => ?_
 replace hsl6 := hsl6.mono hF14
 replace hsl11 := hsl11.mono hF14
 have hsl16 := strs_box1 hz15
 refine Aa rfl (C9 bt_69 (.cons Ac rfl (.cons Ac rfl (.cons Ac rfl .nil))) (.cons rfl rfl (Nat.le_of_ble_eq_true rfl) (.cons (.here) .nil) (.cons rfl rfl (Nat.le_of_ble_eq_true rfl) (.cons (.next <| .next <| .here) .nil) (.cons rfl rfl (Nat.le_of_ble_eq_true rfl) (.cons (.next <| .next <| .next <| .here) .nil) .nil)))) ?_
 refine Aa rfl (C9 bt_69 (.cons Ac rfl (.cons Ac rfl .nil)) (.cons rfl rfl (Nat.le_of_ble_eq_true rfl) (.cons (.here) .nil) (.cons rfl rfl (Nat.le_of_ble_eq_true rfl) (.cons (.next <| .next <| .here) .nil) .nil))) ?_
 refine Aa rfl (C9 bt_69 (.cons Ac rfl (.cons Ac rfl .nil)) (.cons rfl rfl (Nat.le_of_ble_eq_true rfl) (.cons (.here) .nil) (.cons rfl rfl (Nat.le_of_ble_eq_true rfl) (.cons (.next <| .next <| .here) .nil) .nil))) ?_
 refine Bm rfl (Dr (offs := [(0, 4), (4, 4), (8, 4)]) (zl := [.string ⟨#[]⟩, .int .i64 0, .int .i64 0, .bool false, .string ⟨#[]⟩, .int .i64 0, .int .i64 0, .bool false, .string ⟨#[]⟩, .int .i64 0, .int .i64 0, .bool false]) Dc zr_69 rfl (.cons (Ap rfl <| Ab) rfl (.cons (Al rfl <| Ab) rfl (.cons (Ab) rfl .nil))) (by intro i p h; rcases i with _ | _ | _ | i <;> simp at h <;> subst h <;> rfl) (.cons rfl rfl (Nat.le_of_ble_eq_true rfl) (.cons (.here) (.cons (.next <| .here) (.cons (.next <| .next <| .here) (.cons (.next <| .next <| .next <| .here) .nil)))) (.cons rfl rfl (Nat.le_of_ble_eq_true rfl) (.cons (.next <| .next <| .next <| .next <| .here) (.cons (.next <| .next <| .next <| .next <| .next <| .here) (.cons (.next <| .next <| .next <| .next <| .next <| .next <| .here) (.cons (.next <| .next <| .next <| .next <| .next <| .next <| .next <| .here) .nil)))) (.cons rfl rfl (Nat.le_of_ble_eq_true rfl) (.cons (.next <| .next <| .next <| .next <| .next <| .next <| .next <| .next <| .here) (.cons (.next <| .next <| .next <| .next <| .next <| .next <| .next <| .next <| .next <| .here) (.cons (.next <| .next <| .next <| .next <| .next <| .next <| .next <| .next <| .next <| .next <| .here) (.cons (.next <| .next <| .next <| .next <| .next <| .next <| .next <| .next <| .next <| .next <| .next <| .here) .nil)))) .nil))) (by decide) (by decide) fun b17 hb17 nb17 => ?_)
 refine Bu (i := 0) rfl hb17 .here fun F18 hF19 hz20 => ?_
 replace hsl6 := hsl6.mono hF19
 replace hsl11 := hsl11.mono hF19
 replace hsl16 := hsl16.mono hF19
 have hsl21 := lots_box3 hz20
 refine Bw rfl (Bc bd_88 A0 (.cons Ac (.cons Ac (.cons Ac .nil))) (bid_ok _ _ _) (fun _ _ h => h)) ?_
 refine Bw rfl (Bc bd_88 A0 (.cons Ac (.cons Ac (.cons Ac .nil))) (bid_ok _ _ _) (fun _ _ h => h)) ?_
 refine Bw rfl (Bc bd_88 A0 (.cons Ac (.cons Ac (.cons Ac .nil))) (bid_ok _ _ _) (fun _ _ h => h)) ?_
 refine Bw rfl (Bc bd_88 A0 (.cons Ac (.cons Ac (.cons Ac .nil))) (bid_ok _ _ _) (fun _ _ h => h)) ?_
 refine Bw rfl (Bc bd_88 A0 (.cons Ac (.cons Ac (.cons Ac .nil))) (bid_ok _ _ _) (fun _ _ h => h)) ?_
 refine Bw rfl (Bc bd_88 A0 (.cons Ac (.cons Ac (.cons Ac .nil))) (bid_ok _ _ _) (fun _ _ h => h)) ?_
 refine Bm rfl (Dr (offs := [(0, 3), (3, 3), (6, 3), (9, 3), (12, 3), (15, 3)]) (zl := [.int .i64 0, .int .i64 0, .int .i64 0, .int .i64 0, .int .i64 0, .int .i64 0, .int .i64 0, .int .i64 0, .int .i64 0, .int .i64 0, .int .i64 0, .int .i64 0, .int .i64 0, .int .i64 0, .int .i64 0, .int .i64 0, .int .i64 0, .int .i64 0]) Dj zr_72 rfl (.cons (Ay rfl <| Al rfl <| Ab) rfl (.cons (Ay rfl <| Ab) rfl (.cons (Ap rfl <| Al rfl <| Ab) rfl (.cons (Ap rfl <| Ab) rfl (.cons (Al rfl <| Ab) rfl (.cons (Ab) rfl .nil)))))) (by intro i p h; rcases i with _ | _ | _ | _ | _ | _ | i <;> simp at h <;> subst h <;> rfl) (.cons rfl rfl (Nat.le_of_ble_eq_true rfl) (.cons (.here) (.cons (.next <| .here) (.cons (.next <| .next <| .here) .nil))) (.cons rfl rfl (Nat.le_of_ble_eq_true rfl) (.cons (.next <| .next <| .next <| .here) (.cons (.next <| .next <| .next <| .next <| .here) (.cons (.next <| .next <| .next <| .next <| .next <| .here) .nil))) (.cons rfl rfl (Nat.le_of_ble_eq_true rfl) (.cons (.next <| .next <| .next <| .next <| .next <| .next <| .here) (.cons (.next <| .next <| .next <| .next <| .next <| .next <| .next <| .here) (.cons (.next <| .next <| .next <| .next <| .next <| .next <| .next <| .next <| .here) .nil))) (.cons rfl rfl (Nat.le_of_ble_eq_true rfl) (.cons (.next <| .next <| .next <| .next <| .next <| .next <| .next <| .next <| .next <| .here) (.cons (.next <| .next <| .next <| .next <| .next <| .next <| .next <| .next <| .next <| .next <| .here) (.cons (.next <| .next <| .next <| .next <| .next <| .next <| .next <| .next <| .next <| .next <| .next <| .here) .nil))) (.cons rfl rfl (Nat.le_of_ble_eq_true rfl) (.cons (.next <| .next <| .next <| .next <| .next <| .next <| .next <| .next <| .next <| .next <| .next <| .next <| .here) (.cons (.next <| .next <| .next <| .next <| .next <| .next <| .next <| .next <| .next <| .next <| .next <| .next <| .next <| .here) (.cons (.next <| .next <| .next <| .next <| .next <| .next <| .next <| .next <| .next <| .next <| .next <| .next <| .next <| .next <| .here) .nil))) (.cons rfl rfl (Nat.le_of_ble_eq_true rfl) (.cons (.next <| .next <| .next <| .next <| .next <| .next <| .next <| .next <| .next <| .next <| .next <| .next <| .next <| .next <| .next <| .here) (.cons (.next <| .next <| .next <| .next <| .next <| .next <| .next <| .next <| .next <| .next <| .next <| .next <| .next <| .next <| .next <| .next <| .here) (.cons (.next <| .next <| .next <| .next <| .next <| .next <| .next <| .next <| .next <| .next <| .next <| .next <| .next <| .next <| .next <| .next <| .next <| .here) .nil))) .nil)))))) (by decide) (by decide) fun b22 hb22 nb22 => ?_)
 refine Bu (i := 0) rfl hb22 .here fun F23 hF24 hz25 => ?_
 replace hsl6 := hsl6.mono hF24
 replace hsl11 := hsl11.mono hF24
 replace hsl16 := hsl16.mono hF24
 replace hsl21 := hsl21.mono hF24
 have hsl26 := bids_box6 hz25
 refine Aa rfl (C9 bt_27 (.cons (A9 rfl <| Ay rfl <| Al rfl <| Ab) rfl (.cons Ac rfl (.cons Ac rfl (.cons Ac rfl (.cons (A9 rfl <| Ay rfl <| Ab) rfl (.cons (A9 rfl <| Ap rfl <| Al rfl <| Ab) rfl (.cons (Ay rfl <| Ap rfl <| Al rfl <| Ab) rfl (.cons (Ab) rfl .nil)))))))) (.cons rfl rfl (Nat.le_of_ble_eq_true rfl) (.cons (.here) .nil) (.cons rfl rfl (Nat.le_of_ble_eq_true rfl) (.cons (.next <| .here) .nil) (.cons rfl rfl (Nat.le_of_ble_eq_true rfl) (.cons (.next <| .next <| .here) .nil) (.cons rfl rfl (Nat.le_of_ble_eq_true rfl) (.cons (.next <| .next <| .next <| .here) .nil) (.cons rfl rfl (Nat.le_of_ble_eq_true rfl) (.cons (.next <| .next <| .next <| .next <| .here) .nil) (.cons rfl rfl (Nat.le_of_ble_eq_true rfl) (.cons (.next <| .next <| .next <| .next <| .next <| .here) .nil) (.cons rfl rfl (Nat.le_of_ble_eq_true rfl) (.cons (.next <| .next <| .next <| .next <| .next <| .next <| .here) .nil) (.cons rfl rfl (Nat.le_of_ble_eq_true rfl) (.cons (.next <| .next <| .next <| .next <| .next <| .next <| .next <| .here) .nil) .nil))))))))) ?_
 refine Cm (B4 sz_27 (Ba rfl <| Al rfl <| Ab) (Ab) (i := 0) rfl rfl rfl rfl (by simp [Value.oneCell']) (.here) ?_)
 refine Ah <| Ad <| A5 <| Ax rfl (.agg B8 (Ba rfl <| Al rfl <| Ab) rfl rfl (Bl 0 rfl) .nil) ?_
 exact ⟨_, _, _, _, _, rfl, ⟨hsl6, hsl11, hsl16, hsl21, hsl26⟩⟩
theorem nats_eq {xs ys : List Nat} : decide (xs.map (fun (n : Nat) => (n : Int)) = ys.map (fun (n : Nat) => (n : Int))) = decide (xs = ys) := by
 congr 1
 rw [eq_iff_iff]
 refine ⟨fun h => ?_, fun h => by rw [h]⟩
 have := congrArg (List.map Int.toNat) h
 rwa [idx_map, idx_map] at this
theorem Ei {F : Heap} {v u : Value} {xs ys : List Nat} (hx : Nats F v xs) (hy : Nats F u ys) : Ok Try.prog 25 [v, u].toArray F fun r _ => r = .bool (decide (xs = ys)) :=
 (refInts_ok hx.ints hy.ints).mono fun r _ _ h => by rw [h, nats_eq]
theorem snd_take {ps qs : List (Value × List Nat)} {k : Nat} (h1 : k < ps.length) (h2 : k < qs.length) (ht : (ps.map (·.2)).take k = (qs.map (·.2)).take k) (he : ps[k].2 = qs[k].2) : (ps.map (·.2)).take (k + 1) = (qs.map (·.2)).take (k + 1) := by
 rw [List.take_succ_eq_append_getElem (by simpa using h1), List.take_succ_eq_append_getElem (by simpa using h2), ht]; simp [he]
theorem snd_ne {ps qs : List (Value × List Nat)} {k : Nat} (h1 : k < ps.length) (h2 : k < qs.length) (he : ps[k].2 ≠ qs[k].2) : ps.map (·.2) ≠ qs.map (·.2) := fun h => by
 apply he
 have := congrArg (fun z => z[k]?) h
 simpa [List.getElem?_eq_getElem h1, List.getElem?_eq_getElem h2] using this
set_option maxRecDepth 100000 in
theorem alike_ok {F : Heap} {v u : Value} {xs ys : List (List Nat)} (hx : Lsts F v xs) (hy : Lsts F u ys) : Ok Try.prog 30 [v, u].toArray F fun r _ => r = .bool (decide (xs = ys)) := by
 obtain ⟨ps, hxs, hpa, hpm⟩ := hx
 replace hpa : AllN _ ps := hpa
 obtain ⟨qs, hys, hqa, hqm⟩ := hy
 replace hqa : AllN _ qs := hqa
 refine Ok.intro Try.func30 rfl Try.ntmps30 rfl fun w0 => ?_
 have hlen := hxs.plain.lt
 have hlen2 := hys.plain.lt
 by_cases hll : ps.length = qs.length
 ·
  refine Ag <| Ai fun ds => Aa rfl (Ae Ac) ?_
  refine Ah <| Ad <| Ag <| Ag <| Ai fun ds => Aa rfl (Af (Al rfl <| Ak rfl)) ?_
  refine Aa rfl (Bi Cx (Ab) hxs.plain) ?_
  refine Aa rfl (Af (Ap rfl <| Al rfl <| Ak rfl)) ?_
  refine Aa rfl (Bi Cx (Ab) hys.plain) ?_
  refine Aa rfl (B6 (Ap rfl <| Ab) (Ab)) ?_
  refine Ah <| Ad <| Am (Ab) (decide_eq_false (by omega)) ?_
  refine Aw <| Ad <| Ag <| Ag <| Ai fun ds => Aa rfl (Ae Ac) ?_
  refine Ah <| Ad <| A4 <| Bx [4, 5, 11, 12, 13, 14, 15, 16, 17, 18, 19, 20, 21, 22, 23, 24, 25, 26] (fun m e σ => ∃ k : Nat, m + k = ps.length ∧ e 5 = .int .i64 (k : Int) ∧ σ = ⟨F, []⟩ ∧ (ps.map (·.2)).take k = (qs.map (·.2)).take k) (ps.length) ?_ ?_
  · exact ⟨0, by omega, (Ab), rfl, rfl⟩
  ·
   rintro m e _ ⟨k, hm, hs5, rfl, htk⟩
   by_cases hlt : k < ps.length
   ·
    have hlt2 : k < qs.length := by omega
    have hxl : Nats _ _ _ := hpa _ (List.getElem_mem hlt)
    have hyl : Nats _ _ _ := hqa _ (List.getElem_mem hlt2)
    refine Ag <| Ag <| Ai fun ds => Aa rfl (Af (As rfl hs5)) ?_
    refine Aa rfl (Af (Al rfl <| Ao rfl <| Ay rfl <| Ap rfl <| Al rfl <| Ak rfl)) ?_
    refine Aa rfl (Bi Cx (Ab) hxs.plain) ?_
    refine Aa rfl (Bt (Ap rfl <| Ab) (Ab)) ?_
    refine Ah <| Ad <| Aq (Ab) (by first | rfl | exact decide_eq_true (by omega)) ?_
    by_cases hne : ps[k].2 = qs[k].2
    ·
     refine Aw <| Ad <| Ag <| A4 <| Ag <| Cf (.inl rfl) (fun _ _ h => h) (by kernel_rfl) (by kernel_rfl) fun ds => ?_
     refine Az rfl (Af (Ay rfl <| Ao rfl <| Ay rfl <| Ap rfl <| Al rfl <| Ak rfl)) ?_
     refine Az rfl (Af (Ay rfl <| Al rfl <| As rfl hs5)) ?_
     refine Az rfl (Bh  Cx (Al rfl <| Ab) hxs.plain (Ab) rfl hlt) ?_
     refine Az rfl (Ar Ef (Ab) (hxs.cell1 hlt rfl)) ?_
     refine Az rfl (Af (A9 rfl <| Ao rfl <| Ay rfl <| Ap rfl <| Al rfl <| Ak rfl)) ?_
     refine Az rfl (Af (A9 rfl <| Al rfl <| As rfl hs5)) ?_
     refine Az rfl (Bh  Cx (Al rfl <| Ab) hys.plain (Ab) rfl hlt2) ?_
     refine Az rfl (Ar Ef (Ab) (hys.cell1 hlt2 rfl)) ?_
     refine WQ_c rfl (Bc bd_25 A0 (.cons (Ay rfl <| Ab) (.cons (Ab) .nil)) (Ei hxl hyl) (fun _ _ h => h)) ?_
     refine Az rfl (Cu (Ab)) ?_
     refine Cb ?_
     refine Ad <| Am (Ab) (by simp [hne]) ?_
     refine Aw <| Bf <| Ad <| Ai fun ds => Aa rfl (Af (A9 rfl <| Ay rfl <| Ap rfl <| As rfl hs5)) ?_
     refine Aa rfl (Bp (Ab) Ac rfl (by omega) (by omega)) ?_
     refine Aa rfl (Ae (Ab)) ?_
     refine Ah <| Ad ⟨_, m - 1, Off.eq (C5 rfl <| Ej rfl <| Bd), by omega, ?_⟩
     exact ⟨k + 1, by omega, (Ab), rfl, snd_take hlt hlt2 htk hne⟩
    ·
     refine Aw <| Ad <| Ag <| A4 <| Ag <| Cf (.inl rfl) (fun _ _ h => h) (by kernel_rfl) (by kernel_rfl) fun ds => ?_
     refine Az rfl (Af (Ay rfl <| Ao rfl <| Ay rfl <| Ap rfl <| Al rfl <| Ak rfl)) ?_
     refine Az rfl (Af (Ay rfl <| Al rfl <| As rfl hs5)) ?_
     refine Az rfl (Bh  Cx (Al rfl <| Ab) hxs.plain (Ab) rfl hlt) ?_
     refine Az rfl (Ar Ef (Ab) (hxs.cell1 hlt rfl)) ?_
     refine Az rfl (Af (A9 rfl <| Ao rfl <| Ay rfl <| Ap rfl <| Al rfl <| Ak rfl)) ?_
     refine Az rfl (Af (A9 rfl <| Al rfl <| As rfl hs5)) ?_
     refine Az rfl (Bh  Cx (Al rfl <| Ab) hys.plain (Ab) rfl hlt2) ?_
     refine Az rfl (Ar Ef (Ab) (hys.cell1 hlt2 rfl)) ?_
     refine WQ_c rfl (Bc bd_25 A0 (.cons (Ay rfl <| Ab) (.cons (Ab) .nil)) (Ei hxl hyl) (fun _ _ h => h)) ?_
     refine Az rfl (Cu (Ab)) ?_
     refine Cb ?_
     refine Ad <| Aq (Ab) (by simp [hne]) ?_
     refine Ag <| Ai fun ds => Aa rfl (Ae Ac) ?_
     refine Ah <| Ad <| A5 <| Bb (A3 (A3 (Bb (A3 ?_))))
     refine Ax rfl (.tmp (Ab) .nil) ?_
     show _ = _
     rw [← hpm, ← hqm, decide_eq_false (snd_ne hlt hlt2 hne)]; rfl
   ·
    refine Ag <| Ag <| Ai fun ds => Aa rfl (Af (As rfl hs5)) ?_
    refine Aa rfl (Af (Al rfl <| Ao rfl <| Ay rfl <| Ap rfl <| Al rfl <| Ak rfl)) ?_
    refine Aa rfl (Bi Cx (Ab) hxs.plain) ?_
    refine Aa rfl (Bt (Ap rfl <| Ab) (Ab)) ?_
    refine Ah <| Ad <| Am (Ab) (by first | rfl | exact decide_eq_false (by omega)) ?_
    obtain rfl : k = ps.length := by omega
    refine Bv ?_
    refine Bk <| Bk <| Bn <| Ad <| Ag <| Ai fun ds => Aa rfl (Ae Ac) ?_
    refine Ah <| Ad <| A5 <| Ax rfl (.tmp (Ab) .nil) ?_
    show _ = _
    have h9 : ps.map (·.2) = qs.map (·.2) := by rw [List.take_of_length_le (by simp), List.take_of_length_le (by simp [hll])] at htk; exact htk
    rw [← hpm, ← hqm, decide_eq_true h9]; rfl
 ·
  refine Ag <| Ai fun ds => Aa rfl (Ae Ac) ?_
  refine Ah <| Ad <| Ag <| Ag <| Ai fun ds => Aa rfl (Af (Al rfl <| Ak rfl)) ?_
  refine Aa rfl (Bi Cx (Ab) hxs.plain) ?_
  refine Aa rfl (Af (Ap rfl <| Al rfl <| Ak rfl)) ?_
  refine Aa rfl (Bi Cx (Ab) hys.plain) ?_
  refine Aa rfl (B6 (Ap rfl <| Ab) (Ab)) ?_
  refine Ah <| Ad <| Aq (Ab) (decide_eq_true (by omega)) ?_
  refine Ag <| Ai fun ds => Aa rfl (Ae Ac) ?_
  refine Ah <| Ad <| A5 <| A3 ?_
  refine Ax rfl (.tmp (Ab) .nil) ?_
  show _ = _
  rw [decide_eq_false (fun h : xs = ys => hll (by rw [← hpm, ← hqm] at h; simpa using congrArg List.length h))]; rfl
end Go.Proofs.Ytaikojfonleccaa
