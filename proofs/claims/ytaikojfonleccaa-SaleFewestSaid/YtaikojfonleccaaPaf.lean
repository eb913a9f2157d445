/-
  A part of a proof: SaleFewest returns true of any sale, catalogue, ring by bits, what is told of it and entries by bits, and leaves what it is handed as it was. No conditions.
-/
import Derived.Test.YtaikojfonleccaaPae
import Derived.KernelRfl
namespace Go.Proofs.Ytaikojfonleccaa
open Go.RowKit
theorem zr_123 : ZeroT Try.prog 123 (.nilFunc) := Dl (by kernel_rfl)
theorem zr_48 : ZeroT Try.prog 48 (.slice none 0 0) := Dl (by kernel_rfl)
theorem bd_108 : Body Try.prog 108 := Bt (by kernel_rfl)
theorem bd_83 : Body Try.prog 83 := Bt (by kernel_rfl)
theorem bd_84 : Body Try.prog 84 := Bt (by kernel_rfl)
theorem one_123 : OneT Try.prog 123 := Ds (by kernel_rfl)
theorem one_48 : OneT Try.prog 48 := Ds (by kernel_rfl)
theorem sz_123 : SizeT Try.prog 123 1 := Dw (by kernel_rfl)
theorem sz_48 : SizeT Try.prog 48 1 := Dw (by kernel_rfl)
set_option maxRecDepth 100000 in
theorem fit_ok {F : Heap} {b kb : Nat} {vs vb vl vn vd : Value} {s : Sale} (hX : AucX 156 F b vs vb vl vn vd kb s) (hv : ValidS s) {ve : Value} {l : List Ent} (he : Sl F ve 4 Ent.enc l) (hcat : catE s l = 0) {es : List (Value × Value)} (hK : KnownC Try.prog 3 F es s) : OkM Try.prog 78 [.pointer (some ⟨b, 0, none⟩), ve].toArray F [(kb, mapO es)] fun u F' H' => ∃ es', H' = [(kb, mapO es')] ∧ KnownC Try.prog 3 F' es' s ∧ Lsts F' u (fitS s l []) := by
 refine OkM.intro Try.func78 rfl Try.ntmps78 rfl fun w0 => ?_
 have hnb := hv.nb
 have hF0 : F.le F := Heap.le_refl _
 have hL2 := hX.sale.lots.plain.lt
 have hel := he.plain.lt
 refine Ag <| Ai fun ds => Bn rfl (Cf (Ak rfl) (D3 he.plain.one) fun b1 hb1 nb1 => ?_)
 refine Bn rfl (B6 zr_48 rfl fun b2 hb2 nb2 => ?_)
 refine Ah <| Ad <| WC_scope ?_
 refine Ag <| Ai fun ds => Aa rfl (Af (Ao rfl <| Ak rfl)) ?_
 refine Aa rfl (q_makeFunc2 (.cons (Ab) .nil) .nil) ?_
 refine Bn rfl (B6 zr_123 rfl fun b3 hb3 nb3 => ?_)
 refine Cl (Dq sz_123 (Ab) (Al rfl <| Ab) (i := 0) rfl (.here) rfl (.here) ?_)
 refine Ah <| Ad <| Ag <| WC_label ?_
 refine Ad <| Ag <| Ag <| Cz (i := 2) rfl hb1 (.next <| .next <| .here) fun F4 hF5 hz3 => ?_
 replace hX := hX.mono hF5
 replace hK := hK.mono hF5
 replace he := he.mono hF5
 refine Cz (i := 0) rfl hb3 (.here) fun F6 hF7 hz5 => ?_
 replace hX := hX.mono hF7
 replace hK := hK.mono hF7
 replace he := he.mono hF7
 replace hz3 := hF7 _ _ hz3
 refine Ai fun ds => Aa rfl (Af (Az rfl <| Al rfl <| Ak rfl)) ?_
 refine Bn rfl (Cp bd_83 A2 (.cons (Ab) .nil) (rings_ok hX hv) fun v8 F9 hr10 hF11 => ?_)
 replace hX := hX.mono hF11
 replace hK := hK.mono hF11
 replace he := he.mono hF11
 replace hz3 := hF11 _ _ hz3
 replace hz5 := hF11 _ _ hz5
 obtain ⟨dz, rfl, hzd⟩ := hr10
 refine Ah <| Ad <| A4 <| WC_rangeG rfl (Ab) (bd_108) (rings1_iter hX hv hzd) (Heap.le_refl _) (fun pre G H => ∃ es2 v4 R4 ps, KnownC Try.prog 3 G es2 s ∧ Own 28 1 v4 ps.length (ps.flatMap slE) R4 ∧ AllN G ps ∧ ps.map (·.2) = (pre.filter (rightS s l [])) ∧ H = (b2, bx 48 [v4]) :: (kb, mapO es2) :: R4) (fun _ _ _ => False) (fun _ _ _ _ hF h => by obtain ⟨a1, a2, a3, a4, a5, a6, a7, a8, a9⟩ := h; exact ⟨a1, a2, a3, a4, a5.mono hF, a6, a7.mono hF, a8, a9⟩) (fun _ _ _ _ _ h => h) ⟨es, _, [], [], hK, own_nil, (fun p hp => nomatch hp), rfl, rfl⟩ (fun L D fn tm pre x rest G H1 vs hxs hle hJ hA => ?_) (fun _ _ _ _ h => h.elim) (fun F2 H1 hF2 hJ => ?_)
 ·
  replace hX := hX.mono hle
  replace he := he.mono hle
  replace hz3 := hle _ _ hz3
  replace hz5 := hle _ _ hz5
  obtain ⟨es2, v4, R4, ps, hK2, ho, hpa, hps, rfl⟩ := hJ
  obtain ⟨v9, set, rfl, hv9, hset, hsof⟩ := hA
  have hxm : x ∈ everyR s.bidders.length := by rw [hxs]; simp
  have hxl := (everyR_mem hxm).2.2
  have hpl : ps.length ≤ 134217728 := by have h9 := congrArg List.length hps; rw [List.length_map] at h9; have h8 := List.length_filter_le (rightS s l []) pre; have h7 := everyTo_bound (n := s.bidders.length) (k := s.bidders.length + 1) (by omega) (by omega); rw [everyTo_end, hxs, List.length_append] at h7; omega
  refine ⟨rfl, rfl, fun w1 => ?_⟩
  refine WC_eq (e' := (upd (upd _ 16 v9) 17 (.int .i64 (set : Int)))) rfl rfl ?_
  refine Ag <| Ci (.inr (by kernel_rfl)) (fun _ _ h => h) fun ds => ?_
  refine Aa rfl (Ae (Al rfl <| Ab)) ?_
  refine Ah <| Ad <| Ci (.inr (by kernel_rfl)) (fun _ _ h => h) fun ds => ?_
  refine Aa rfl (Ae (Al rfl <| Ab)) ?_
  refine Ah <| Ad ⟨_, rfl, ?_⟩
  refine A4 <| Ag <| Ci (.inr (by kernel_rfl)) (fun _ _ h => h) fun ds => ?_
  refine Aa rfl (Aq one_123 (Az rfl <| Ao rfl <| Ab) (CellF.own hz5 rfl).cell) ?_
  refine Aa rfl (Af (Al rfl <| Ab)) ?_
  refine WL_orderB (.one (.next <| .next <| .next <| .here) <| .one (.here) <| .one (.here) <| .one (.here) <| .lastb (.last)) ?_
  refine Bn rfl (x_callMF bd_70 (Al rfl <| Ab) (.cons (Ab) .nil) rfl (sell_ok hX hv hK2 (set := set) hset) fun v16 F17 H20 hr18 hF19 => ?_)
  replace he := he.mono hF19
  replace hle := hle.mono hF19
  replace hv9 := hv9.mono hF19
  replace hpa := hpa.mono hF19
  replace hz3 := hF19 _ _ hz3
  obtain ⟨es3, rfl, hK3, hal⟩ := hr18
  rw [sellL_eq hv (fun b _ => hsof b)] at hal
  refine Aa rfl (Ae (Ab)) ?_
  refine Ah <| Ad <| Ag <| Ag <| WC_name (i := 1) rfl (fun _ => .next <| .here) fun oL hoL => ?_
  refine Ci (.inr (by kernel_rfl)) (fun _ _ h => h) fun ds => ?_
  refine Aa rfl (Aq one_47 (Ba rfl <| Az rfl <| Ao rfl <| Ab) (CellF.own hz3 rfl).cell) ?_
  refine Aa rfl (Bg Cv (Ab) he.plain) ?_
  refine Aa rfl (Af Ac) ?_
  refine Ah <| Ad <| A4 <| Bz [10, 23, 24, 25, 26, 27, 28, 29, 30, 31, 32, 33, 34, 35] (fun m e σ => ∃ k : Nat, m + k = l.length ∧ e 23 = .int .i64 (k : Int) ∧ σ = ⟨F17, (kb, mapO es3) :: (L, oL) :: (D, openO) :: (b2, bx 48 [v4]) :: R4⟩ ∧ ∀ j (hj : j < l.length), j < k → rightE l[j] (entRes s l[j] x) = true) (l.length) ?_ ?_
  · exact ⟨0, by omega, (Ab), rfl, fun j hj h => absurd h (by omega)⟩
  ·
   rintro m e _ ⟨k, hm, hs23, rfl, hno⟩
   by_cases hlt : k < l.length
   ·
    obtain ⟨n, hn, hnl⟩ := ent_lot hcat hlt
    have hn2 : n < (allS s (castL x)).length := by rw [Eq]; exact hnl
    have hres : (allS s (castL x))[n] = entRes s l[k] x := by rw [Fr]; unfold entRes; rw [hn]; rfl
    refine Ag <| Ci (.inr (by kernel_rfl)) (fun _ _ h => h) fun ds => ?_
    refine Aa rfl (Bs (As rfl hs23) (Ap rfl <| Al rfl <| Ab)) ?_
    refine Ah <| Ad <| Ag <| Ar (Ab) (by first | rfl | exact decide_eq_true (by omega)) ?_
    by_cases hrt : rightE l[k] (entRes s l[k] x) = true
    ·
     refine Aw <| Ad <| Ag <| A4 <| Ag <| Ci (.inr (by kernel_rfl)) (fun _ _ h => h) fun ds => ?_
     refine Aa rfl (Bj  Cv (Al rfl <| Ap rfl <| Ao rfl <| Ab) he.plain (Al rfl <| As rfl hs23) rfl hlt) ?_
     refine Aa rfl (Bh Eg (Ab) rfl rfl (he.whole hlt)) ?_
     refine Bn rfl (B6 E7 rfl fun b23 hb23 nb23 => ?_)
     refine Cl (B5 sz_60 (Ab) (Al rfl <| Ab) (i := 0) rfl rfl rfl rfl Ent.enc_one (.here) ?_)
     refine Ah <| Ad <| Ag <| Cb (.inr (by kernel_rfl)) (fun _ _ h => h) (by kernel_rfl) (by kernel_rfl) fun ds => ?_
     refine A0 rfl (Bh Eg (Ab) rfl rfl (Bk 0 rfl)) ?_
     refine A0 rfl (Af (Az rfl <| Al rfl <| Ap rfl <| Ao rfl <| Al rfl <| Ab)) ?_
     refine A0 rfl (Aj Fc (Ao rfl <| Ab)) ?_
     refine A0 rfl (Aq Bi (Ab) (Cell.own 0 rfl rfl)) ?_
     refine A0 rfl (Bj (k := n) Dc (Ao rfl <| Ab) hal.plain (Ab) hn hn2) ?_
     refine A0 rfl (Bh Ez (Ab) rfl rfl (hal.whole hn2)) ?_
     refine WQ_c rfl (Bc bd_84 A2 (.cons (Az rfl <| Al rfl <| Ab) (.cons (Ab) .nil)) (right_ok _ _) (fun _ _ h => h)) ?_
     refine A0 rfl (Ct (Ab)) ?_
     refine B9 ?_
     refine Ad <| Am (Ab) (by rw [hres, hrt]; rfl) ?_
     refine Aw <| Bf <| Ad <| Cc (fun _ _ h => h.drop (.cons _ <| .cons_cons _ <| .cons_cons _ <| .cons_cons _ <| .cons_cons _ <| .refl _)) ?_
     refine Ci (.inr (by kernel_rfl)) (fun _ _ h => h) fun ds => ?_
     refine Aa rfl (Bp (Ba rfl <| Az rfl <| As rfl hs23) Ac rfl (by omega) (by omega)) ?_
     refine Aa rfl (Af (Ab)) ?_
     refine Ah <| Ad ⟨_, m - 1, Off.eq (Ed rfl <| E0 rfl <| Eo rfl <| Be), by omega, ?_⟩
     refine ⟨k + 1, by omega, (Ab), rfl, fun j hj hjk => ?_⟩
     rcases Nat.lt_succ_iff_lt_or_eq.1 hjk with hjk | rfl
     · exact hno j hj hjk
     · exact hrt
    ·
     replace hrt : rightE l[k] (entRes s l[k] x) = false := by simpa using hrt
     refine Aw <| Ad <| Ag <| A4 <| Ag <| Ci (.inr (by kernel_rfl)) (fun _ _ h => h) fun ds => ?_
     refine Aa rfl (Bj  Cv (Al rfl <| Ap rfl <| Ao rfl <| Ab) he.plain (Al rfl <| As rfl hs23) rfl hlt) ?_
     refine Aa rfl (Bh Eg (Ab) rfl rfl (he.whole hlt)) ?_
     refine Bn rfl (B6 E7 rfl fun b24 hb24 nb24 => ?_)
     refine Cl (B5 sz_60 (Ab) (Al rfl <| Ab) (i := 0) rfl rfl rfl rfl Ent.enc_one (.here) ?_)
     refine Ah <| Ad <| Ag <| Cb (.inr (by kernel_rfl)) (fun _ _ h => h) (by kernel_rfl) (by kernel_rfl) fun ds => ?_
     refine A0 rfl (Bh Eg (Ab) rfl rfl (Bk 0 rfl)) ?_
     refine A0 rfl (Af (Az rfl <| Al rfl <| Ap rfl <| Ao rfl <| Al rfl <| Ab)) ?_
     refine A0 rfl (Aj Fc (Ao rfl <| Ab)) ?_
     refine A0 rfl (Aq Bi (Ab) (Cell.own 0 rfl rfl)) ?_
     refine A0 rfl (Bj (k := n) Dc (Ao rfl <| Ab) hal.plain (Ab) hn hn2) ?_
     refine A0 rfl (Bh Ez (Ab) rfl rfl (hal.whole hn2)) ?_
     refine WQ_c rfl (Bc bd_84 A2 (.cons (Az rfl <| Al rfl <| Ab) (.cons (Ab) .nil)) (right_ok _ _) (fun _ _ h => h)) ?_
     refine A0 rfl (Ct (Ab)) ?_
     refine B9 ?_
     refine Ad <| Ar (Ab) (by rw [hres, hrt]; rfl) ?_
     subst hoL
     refine Bv ?_
     refine exit_past rfl (Bm (Bm (exit_past rfl (Bm (Bo ?_)))))
     refine round_nG (.one (.next <| .next <| .here) <| .one (.next <| .next <| .here) <| .one (.next <| .next <| .here) <| .one (.next <| .here) <| .lastb (.next <| .last)) ?_
     refine .inl ⟨rfl, _, rfl, hle, ?_⟩
     have hr0 : rightS s l [] x = false := rightS_false hlt List.not_mem_nil hrt
     have e1 : ((pre ++ [x]).filter (rightS s l [])) = pre.filter (rightS s l []) := by rw [List.filter_append]; simp [hr0]
     exact ⟨_, _, _, _, hK3, ho, hpa, by rw [e1]; exact hps, rfl⟩
   ·
    refine Ag <| Ci (.inr (by kernel_rfl)) (fun _ _ h => h) fun ds => ?_
    refine Aa rfl (Bs (As rfl hs23) (Ap rfl <| Al rfl <| Ab)) ?_
    refine Ah <| Ad <| Ag <| Am (Ab) (by first | rfl | exact decide_eq_false (by omega)) ?_
    have hr1 : rightS s l [] x = true := rightS_true fun j hj => .inr (hno j hj (by omega))
    refine Bv ?_
    refine Bm <| Bm <| Bo <| Ad <| Ag <| Ci (.inr (by kernel_rfl)) (fun _ _ h => h) fun ds => ?_
    refine Aa rfl (Af (Al rfl <| Ap rfl <| Ba rfl <| Ab)) ?_
    refine Aa rfl (Bg Bq (Ab) hv9.plain) ?_
    refine Bn rfl (x_make (k := x.length) Bq el_3 rfl rfl (Ab) (Ab) rfl (by omega) (by omega) fun b25 hb25 nb25 => ?_)
    refine Aa rfl (Ae (Ab)) ?_
    refine Ah <| Ad <| Ag <| Ci (.inr (by kernel_rfl)) (fun _ _ h => h) fun ds => ?_
    refine Aa rfl (Af (Ab)) ?_
    refine Aa rfl (Af (Az rfl <| Ao rfl <| Ap rfl <| Ba rfl <| Ab)) ?_
    refine Bn rfl (x_copy (s := 1) rfl Bq (Al rfl <| Ab) (Ab) (i := 0) rfl (by simp) (hv9.src (fun _ => rfl) natE_one) (.here) ?_)
    refine Ah <| Ad <| Cz (i := 0) rfl hb25 (.here) fun F26 hF27 hz38 => ?_
    replace hle := hle.mono hF27
    replace hpa := hpa.mono hF27
    replace hK3 := hK3.mono hF27
    have hn38 := nats_box (l := x) hz38 rfl (by omega)
    subst hoL
    refine Ci (.inr (by kernel_rfl)) (fun _ _ h => h) fun ds => ?_
    refine Aa rfl (Aq one_48 (Ba rfl <| Ap rfl <| A8 rfl <| Ab) (Cell.own 3 rfl rfl)) ?_
    refine Aa rfl (Af (Az rfl <| Ab)) ?_
    refine Bn rfl (B0 Fg zr_28 rfl (.cons (Ab) .nil) rfl rfl (by decide) (by simp [Value.oneCell']) fun b28 hb28 nb28 => ?_)
    refine Bn rfl (Cw Fg el_28 (Ao rfl <| Ab) ho (Ab) (C6 (s := 1) 0 rfl rfl (by simp [Value.oneCell'])) (by omega) (by omega) (.s <| .s <| .s <| .s <| .s <| .z) .last fun v29 R30 ho31 => ?_)
    have ho2 := ho31.snoc (x := ((_, x) : Value × List Nat)) rfl rfl
    refine Cl (Dq sz_48 (Ba rfl <| Az rfl <| Ap rfl <| A8 rfl <| Ab) (Ab) (i := 4) rfl (.here) (Own.one ho2) (.next <| .next <| .next <| .next <| .here) ?_)
    refine Ah <| Bf ?_
    refine round_nG (.one (.next <| .next <| .here) <| .one (.next <| .next <| .here) <| .one (.next <| .next <| .here) <| .one (.next <| .here) <| .lastb (.next <| .last)) ?_
    refine .inl ⟨rfl, _, rfl, hle, ?_⟩
    have e1 : ((pre ++ [x]).filter (rightS s l [])) = pre.filter (rightS s l []) ++ [x] := by rw [List.filter_append]; simp [hr1]
    refine ⟨_, _, _, ps ++ [(_, x)], hK3, ho2, fun p hp => ?_, by rw [e1, List.map_append, hps]; rfl, rfl⟩
    rcases List.mem_append.1 hp with hp | hp
    · exact hpa p hp
    · simp at hp; subst hp; exact hn38
 obtain ⟨es2, v4, R4, ps, hK2, ho, hpa, hps, rfl⟩ := hJ
 refine Bf <| Ad <| WC_freezeRM (σ := ⟨_, _⟩) (by intro m hm; exact .tail _ hm) ho (.s <| .s <| .z) .last fun F32 hF33 hz34 => ?_
 replace hK2 := hK2.mono hF33
 replace hpa := hpa.mono hF33
 have hsp := ho.sl (fun _ => rfl) hz34 (by have h9 := congrArg List.length hps; rw [List.length_map] at h9; have h8 := List.length_filter_le (rightS s l []) (everyR s.bidders.length); have h7 := everyTo_bound (n := s.bidders.length) (k := s.bidders.length + 1) (by omega) (by omega); rw [everyTo_end] at h7; omega)
 refine Ag <| Ai fun ds => Aa rfl (Aq one_48 (Az rfl <| Al rfl <| Ab) (Cell.own 0 rfl rfl)) ?_
 refine Cl (Dq sz_48 (Az rfl <| Ao rfl <| Ab) (Ab) (i := 0) rfl (.here) hsp.plain.one (.here) ?_)
 refine Ah <| Ad <| A9 <| scope_r ?_
 refine post_retM rfl (.one one_48 (Az rfl <| Ao rfl <| Ab) (Cell.own 0 rfl rfl) .nil) (.cons (.next <| .here) <| .nil) rfl ?_
 exact ⟨es2, rfl, hK2, ⟨ps, hsp, hpa, hps⟩⟩
end Go.Proofs.Ytaikojfonleccaa
namespace Go.Proofs.Ytaikojfonleccaa
theorem cmpL_refl : ∀ a : List Nat, cmpL a a = 0
 | [] => rfl
 | a :: as1 => by rw [cmpL_same]; exact cmpL_refl as1
theorem cmpL_neg : ∀ a b : List Nat, cmpL b a = - cmpL a b
 | [], [] => rfl
 | [], _ :: _ => rfl
 | _ :: _, [] => rfl
 | x :: xs, y :: ys => by
   unfold cmpL
   by_cases h1 : x < y
   · rw [if_neg (by omega), if_pos h1, if_pos h1]; rfl
   · by_cases h2 : y < x
     · rw [if_pos h2, if_neg h1, if_pos h2]
     · rw [if_neg h2, if_neg h1, if_neg h1, if_neg h2]; exact cmpL_neg xs ys
theorem cmpL_trans : ∀ {a b c : List Nat}, cmpL a b ≤ 0 → cmpL b c ≤ 0 → cmpL a c ≤ 0
 | [], _, c, _, _ => by cases c <;> simp [cmpL]
 | _ :: _, [], _, h, _ => by simp [cmpL] at h
 | _ :: _, _ :: _, [], _, h => by simp [cmpL] at h
 | x :: xs, y :: ys, z :: zs, h1, h2 => by
   unfold cmpL at h1 h2 ⊢
   by_cases a1 : x < y
   · by_cases a2 : y < z
     · rw [if_pos (by omega)]; omega
     · rw [if_neg a2] at h2
       by_cases a3 : z < y
       · rw [if_pos a3] at h2; omega
       · rw [if_pos (by omega)]; omega
   · rw [if_neg a1] at h1
     by_cases a2 : y < x
     · rw [if_pos a2] at h1; omega
     · rw [if_neg a2] at h1
       obtain rfl : x = y := by omega
       by_cases a3 : x < z
       · rw [if_pos a3]; omega
       · rw [if_neg a3] at h2 ⊢
         by_cases a4 : z < x
         · rw [if_pos a4] at h2; omega
         · rw [if_neg a4] at h2 ⊢
           exact cmpL_trans h1 h2
theorem cmpL_total {a b : List Nat} (h : ¬ cmpL a b < 0) : cmpL b a ≤ 0 := by rw [cmpL_neg]; omega
def Asc (l : List Nat) : Prop := l.Pairwise (· < ·)
/-- All that go on from 'b' with requests from 'k', of which the first one is before 'm'. -/
def Deep (r : Room) (b : List Nat) (k m : Nat) (y : List Nat) : Prop := ∃ e, y = b ++ e ∧ Asc e ∧ (∀ i ∈ e, k ≤ i ∧ i < r.reqs.length) ∧ (e = [] ∨ canB r y = true) ∧ ∀ i ∈ e.head?, i < m
end Go.Proofs.Ytaikojfonleccaa
namespace Go.Proofs.Ytaikojfonleccaa
def Before (p p' : List Nat) : Prop := p.length < p'.length ∨ (p.length = p'.length ∧ cmpL p p' ≤ 0)
theorem mem_lists {hi : Nat} : ∀ {m lo : Nat} {p : List Nat}, p ∈ listsR m lo hi ↔ Asc p ∧ (∀ i ∈ p, lo ≤ i ∧ i < hi) ∧ p.length = m
 | 0, lo, p => by
   simp only [listsR, List.mem_singleton]
   constructor
   · rintro rfl; exact ⟨.nil, by simp, rfl⟩
   · rintro ⟨-, -, h⟩; exact List.eq_nil_of_length_eq_zero h
 | m + 1, lo, p => by
   simp only [listsR, List.mem_flatMap, List.mem_map, List.mem_range'_1]
   constructor
   · rintro ⟨i, hi1, s, hs, rfl⟩
     obtain ⟨h1, h2, h3⟩ := mem_lists.1 hs
     refine ⟨List.pairwise_cons.2 ⟨fun j hj => (h2 j hj).1, h1⟩, fun j hj => ?_, by simp [h3]⟩
     rcases List.mem_cons.1 hj with rfl | hj
     · omega
     · have := h2 j hj; omega
   · rintro ⟨h1, h2, h3⟩
     cases p with
     | nil => simp at h3
     | cons i s =>
       have h4 := List.pairwise_cons.1 h1
       have h5 := h2 i (by simp)
       have h6 : Asc s := h4.2
       have key : ∀ (s : List Nat) (lo : Nat), Asc s → (∀ j ∈ s, lo ≤ j ∧ j < hi) → lo + s.length ≤ hi ∨ s = [] := by
         intro s
         induction s with
         | nil => intro _ _ _; exact .inr rfl
         | cons a s ih =>
           intro lo ha hb
           have h7 := List.pairwise_cons.1 ha
           have h8 := hb a (by simp)
           left
           rcases ih (a + 1) h7.2 (fun j hj => ⟨h7.1 j hj, (hb j (List.mem_cons_of_mem _ hj)).2⟩) with h | h
           · simp only [List.length_cons]; omega
           · subst h; simp; omega
       have h7 : i + 1 + s.length ≤ hi := by
         rcases key s (i + 1) h6 (fun j hj => ⟨h4.1 j hj, (h2 j (List.mem_cons_of_mem _ hj)).2⟩) with h | h
         · exact h
         · subst h; simp; omega
       simp only [List.length_cons] at h3
       exact ⟨i, by omega, s, mem_lists.2 ⟨h6, fun j hj => ⟨h4.1 j hj, (h2 j (List.mem_cons_of_mem _ hj)).2⟩, by omega⟩, rfl⟩
end Go.Proofs.Ytaikojfonleccaa
namespace Go.Proofs.Ytaikojfonleccaa
open Go
def ent (l : List Ent) (i : Nat) : Ent := l[i]?.getD ⟨0, false, 0, 0⟩
theorem ent_at {l : List Ent} {i : Nat} (h : i < l.length) : l[i] = ent l i := by simp [ent, h]
def badB (s : Sale) (l : List Ent) (ring : List Nat) (i : Nat) : Bool := !(rightE (ent l i) (entRes s (ent l i) ring))
def badL (s : Sale) (l : List Ent) (ring : List Nat) : List Nat := selTo (badB s l ring) l.length
def badMask (s : Sale) (l : List Ent) (ring : List Nat) : Nat → Nat
 | 0 => 0
 | k + 1 => if badB s l ring k = true then badMask s l ring k ||| 2 ^ k else badMask s l ring k
theorem badMask_bit {s : Sale} {l : List Ent} {ring : List Nat} : ∀ (k t : Nat), (badMask s l ring k).testBit t = (decide (t < k) && badB s l ring t)
 | 0, t => by simp [badMask]
 | k + 1, t => by
   unfold badMask
   by_cases h : badB s l ring k = true
   · rw [if_pos h, Nat.testBit_or, Nat.testBit_two_pow, badMask_bit k t]
     by_cases hk : k = t
     · subst hk; simp [h]
     · have : decide (t < k + 1) = decide (t < k) := by congr 1; rw [eq_iff_iff]; omega
       simp [hk, this]
   · rw [if_neg h, badMask_bit k t]
     by_cases hk : k = t
     · subst hk; simp [h]
     · have : decide (t < k + 1) = decide (t < k) := by congr 1; rw [eq_iff_iff]; omega
       rw [this]
theorem badMask_lt {s : Sale} {l : List Ent} {ring : List Nat} : ∀ {k : Nat}, k ≤ 6 → badMask s l ring k < 64
 | 0, _ => by simp [badMask]
 | k + 1, h => by
   unfold badMask
   have ih := badMask_lt (s := s) (l := l) (ring := ring) (k := k) (by omega)
   split
   · exact mask_lt ih (by omega)
   · exact ih
theorem bits_bad {s : Sale} {l : List Ent} {ring : List Nat} (hl : l.length ≤ 6) : bitsL (badMask s l ring l.length) = badL s l ring := by
 unfold bitsL badL selTo
 rw [List.range_eq_range', show 8 = l.length + (8 - l.length) by omega, ← List.range'_append_1, List.filter_append, ← List.range_eq_range']
 have h1 : (List.range' (0 + l.length) (8 - l.length)).filter (fun i => (badMask s l ring l.length).testBit i) = [] := by
   rw [List.filter_eq_nil_iff]
   intro i hi
   have := (List.mem_range'_1.1 hi).1
   rw [badMask_bit]; simp; omega
 rw [h1, List.append_nil]
 apply List.filter_congr
 intro i hi
 have hi : i < l.length := by simpa using hi
 rw [badMask_bit]; simp [hi]
theorem badL_asc {s : Sale} {l : List Ent} {ring : List Nat} : Asc (badL s l ring) := List.Pairwise.sublist List.filter_sublist List.pairwise_lt_range
theorem badL_lt {s : Sale} {l : List Ent} {ring : List Nat} : ∀ i ∈ badL s l ring, i < l.length := fun i hi => by simpa using (List.mem_filter.1 hi).1
theorem badL_mem {s : Sale} {l : List Ent} {ring : List Nat} {i : Nat} : i ∈ badL s l ring ↔ i < l.length ∧ badB s l ring i = true := by
 unfold badL selTo; rw [List.mem_filter]; simp
theorem rightS_iff {s : Sale} {l : List Ent} {but ring : List Nat} : rightS s l but ring = true ↔ ∀ i ∈ badL s l ring, i ∈ but := by
 unfold rightS
 rw [List.all_eq_true]
 constructor
 · intro h i hi
   obtain ⟨h1, h2⟩ := badL_mem.1 hi
   have := h i (by simpa using h1)
   unfold badB ent at h2
   simp only [Bool.not_eq_true'] at h2
   rw [h2] at this
   simpa using this
 · intro h i hi
   have hi : i < l.length := by simpa using hi
   by_cases hb : badB s l ring i = true
   · simp [h i (badL_mem.2 ⟨hi, hb⟩)]
   · unfold badB ent at hb
     simp only [Bool.not_eq_true', Bool.not_eq_false] at hb
     rw [hb]; simp
/-- By rings: the fewest that are wrong with one. -/
def wrongStep (s : Sale) (l : List Ent) (w : Option (List Nat)) (x : List Nat) : Option (List Nat) := match w with
 | none => some (badL s l x)
 | some m => if (badL s l x).length < m.length ∨ (badL s l x).length = m.length ∧ cmpL (badL s l x) m < 0 then some (badL s l x) else some m
def wrongTo (s : Sale) (l : List Ent) (xs : List (List Nat)) : Option (List Nat) := xs.foldl (wrongStep s l) none
theorem E1 {s : Sale} {l : List Ent} {xs : List (List Nat)} {x : List Nat} : wrongTo s l (xs ++ [x]) = wrongStep s l (wrongTo s l xs) x := by unfold wrongTo; rw [List.foldl_append]; rfl
theorem wrongStep_new {s : Sale} {l : List Ent} {x m : List Nat} (h : (badL s l x).length < m.length ∨ (badL s l x).length = m.length ∧ cmpL (badL s l x) m < 0) : wrongStep s l (some m) x = some (badL s l x) := if_pos h
theorem wrongStep_old {s : Sale} {l : List Ent} {x m : List Nat} (h : ¬ ((badL s l x).length < m.length ∨ (badL s l x).length = m.length ∧ cmpL (badL s l x) m < 0)) : wrongStep s l (some m) x = some m := if_neg h
def wrongP (s : Sale) (l : List Ent) : List Nat := (wrongTo s l (everyR s.bidders.length)).getD []
theorem wrongTo_spec {s : Sale} {l : List Ent} : ∀ (n : Nat) (xs : List (List Nat)), xs.length = n → (xs = [] ∧ wrongTo s l xs = none) ∨ ∃ x ∈ xs, wrongTo s l xs = some (badL s l x) ∧ ∀ y ∈ xs, Before (badL s l x) (badL s l y)
 | 0, xs, h => by
   have : xs = [] := List.eq_nil_of_length_eq_zero h
   subst this; exact .inl ⟨rfl, rfl⟩
 | n + 1, xs, h => by
   right
   obtain ⟨ys, z, rfl⟩ : ∃ ys z, xs = ys ++ [z] := ⟨xs.dropLast, xs.getLast (by intro e; subst e; simp at h), (List.dropLast_concat_getLast _).symm⟩
   have hn : ys.length = n := by simpa using h
   rw [E1]
   have hself : Before (badL s l z) (badL s l z) := .inr ⟨rfl, by rw [cmpL_refl]; omega⟩
   rcases wrongTo_spec n ys hn with ⟨rfl, h1⟩ | ⟨x, hx, h1, h2⟩
   · rw [h1]
     exact ⟨z, by simp, rfl, fun y hy => by simp at hy; subst hy; exact hself⟩
   · rw [h1]
     by_cases hc : (badL s l z).length < (badL s l x).length ∨ (badL s l z).length = (badL s l x).length ∧ cmpL (badL s l z) (badL s l x) < 0
     · rw [wrongStep_new hc]
       refine ⟨z, by simp, rfl, fun y hy => ?_⟩
       rcases List.mem_append.1 hy with hy | hy
       · have := h2 y hy
         unfold Before at this ⊢
         rcases this with h3 | ⟨h3, h4⟩
         · left; omega
         · rcases hc with hc | ⟨hc1, hc2⟩
           · left; omega
           · right; exact ⟨by omega, cmpL_trans (by omega) h4⟩
       · simp at hy; subst hy; exact hself
     · rw [wrongStep_old hc]
       refine ⟨x, by simp [hx], rfl, fun y hy => ?_⟩
       rcases List.mem_append.1 hy with hy | hy
       · exact h2 y hy
       · simp at hy; subst hy
         unfold Before
         by_cases h3 : (badL s l x).length = (badL s l y).length
         · right; exact ⟨h3, cmpL_total fun h4 => hc (.inr ⟨h3.symm, h4⟩)⟩
         · left; omega
theorem nodup_len : ∀ {a b : List Nat}, a.Nodup → (∀ i ∈ a, i ∈ b) → a.length ≤ b.length
 | [], _, _, _ => Nat.zero_le _
 | x :: a, b, hn, h => by
   rw [List.nodup_cons] at hn
   have hx := h x (by simp)
   have h1 := nodup_len (b := b.erase x) hn.2 fun i hi => (List.mem_erase_of_ne (fun e => hn.1 (by rw [← e]; exact hi))).2 (h i (List.mem_cons_of_mem _ hi))
   have h2 := List.length_erase_of_mem hx
   have h3 := List.length_pos_of_mem hx
   rw [List.length_cons]; omega
theorem asc_nodup {a : List Nat} (h : Asc a) : a.Nodup := h.imp Nat.ne_of_lt
theorem sub_len {a b : List Nat} (ha : Asc a) (h : ∀ i ∈ a, i ∈ b) : a.length ≤ b.length := nodup_len (asc_nodup ha) h
theorem wrong_best {s : Sale} {l : List Ent} : ∃ x ∈ everyR s.bidders.length, wrongP s l = badL s l x ∧ ∀ y ∈ everyR s.bidders.length, Before (badL s l x) (badL s l y) := by
 rcases wrongTo_spec (s := s) (l := l) _ (everyR s.bidders.length) rfl with ⟨h, -⟩ | ⟨x, h1, h2, h3⟩
 · exact absurd h (by simp [everyR])
 · exact ⟨x, h1, by unfold wrongP; rw [h2]; rfl, h3⟩
def wrongE (s : Sale) (l : List Ent) : List Nat × Int := if askedE s l ≠ 0 then ([], askedE s l) else (wrongP s l, 0)
theorem wrongE_bad {s : Sale} {l : List Ent} {e : Int} (h : askedE s l = e) (he : e ≠ 0) : wrongE s l = ([], e) := by subst h; exact if_pos he
theorem wrongE_ok {s : Sale} {l : List Ent} (h : askedE s l = 0) : wrongE s l = (wrongP s l, 0) := if_neg (fun k => k h)
def NatsR (F : Heap) (u : Value) (p : List Nat × Int) : Prop := ∃ v, u = .tuple #[v, .int .i64 p.2] ∧ Nats F v p.1
theorem NatsR.mono {F F' : Heap} {u : Value} {p : List Nat × Int} (h : NatsR F u p) (hF : F.le F') : NatsR F' u p := by obtain ⟨v, h1, h2⟩ := h; exact ⟨v, h1, h2.mono hF⟩
end Go.Proofs.Ytaikojfonleccaa
namespace Go.Proofs.Ytaikojfonleccaa
open Go.RowKit
theorem bd_28 : Body Try.prog 28 := Bt (by kernel_rfl)
theorem bd_77 : Body Try.prog 77 := Bt (by kernel_rfl)
theorem bd_78 : Body Try.prog 78 := Bt (by kernel_rfl)
theorem bd_82 : Body Try.prog 82 := Bt (by kernel_rfl)
theorem ringsE_asked {s : Sale} {l : List Ent} (h : (ringsE s l).2 = 0) : askedE s l = 0 := by
 by_cases h0 : askedE s l = 0
 · exact h0
 · rw [ringsE_bad rfl h0] at h; exact h
set_option maxRecDepth 100000 in
theorem E2 {F : Heap} {vs vb vl vn vd : Value} {s : Sale} (hr : SaleR F vs vb vl vn vd s) {ve : Value} {l : List Ent} (he : Sl F ve 4 Ent.enc l) : Ok Try.prog 28 [.agg #[vs, .int .i64 s.premium, .int .i64 s.fee, .int .i64 s.days, vb, vl, vn, vd], ve].toArray F fun u F' => LstsR F' u (ringsE s l) := by
 refine Ok.intro Try.func28 rfl Try.ntmps28 rfl fun w0 => ?_
 by_cases hok : askedE s l = 0
 ·
  have hv := Di (askedE_ok hok).1
  have hcat := (askedE_ok hok).2
  refine Ag <| Ai fun ds => Bn rfl (Cf (Ak rfl) rfl fun b1 hb1 nb1 => ?_)
  refine Aa rfl (Ae Ac) ?_
  refine Aa rfl (Ae Ac) ?_
  refine Ah <| Ad <| Ag <| Ai fun ds => Aa rfl (Bh Ca (Ao rfl <| Ab) rfl rfl (Bk 0 rfl)) ?_
  refine Aa rfl (Af (Az rfl <| Ak rfl)) ?_
  refine Bn rfl (x_callN bd_77 A2 (.cons (Al rfl <| Ab) (.cons (Ab) .nil)) (catalogue_ok hr he hok) fun v2 F3 R6 hr4 hF5 => ?_)
  replace he := he.mono hF5
  obtain ⟨ba, kb, rfl, hX, rfl⟩ := hr4
  refine Aa rfl (Af (Ab)) ?_
  refine Aa rfl (A5 (Ab) rfl) ?_
  refine Aa rfl (A5 (Al rfl <| Ab) rfl) ?_
  refine Aa rfl (Ae (Al rfl <| Ab)) ?_
  refine Aa rfl (Ae (Al rfl <| Ab)) ?_
  refine Ah <| Ad <| Ag <| Ag <| Ai fun ds => Aa rfl (Af (Ab)) ?_
  refine Aa rfl (B7 (Ab) Ac) ?_
  refine Ah <| Ad <| Am (Ab) (by decide) ?_
  by_cases hf : fitS s l [] = []
  ·
   refine Aw <| Ad <| Ag <| Ai fun ds => Aa rfl (Af (Ao rfl <| Al rfl <| Ab)) ?_
   refine Aa rfl (Af (Ba rfl <| Az rfl <| Ao rfl <| Ak rfl)) ?_
   refine WL_order (.cons (.next <| .here) <| .cons (.here) <| .nil) ?_
   refine Bn rfl (x_callM bd_78 A2 (.cons (Al rfl <| Ab) (.cons (Ab) .nil)) rfl (fit_ok hX hv he hcat KnownC.nil) fun v11 F12 H15 hr13 hF14 => ?_)
   obtain ⟨es2, rfl, hK2, ps, hsp, hpa, hps⟩ := hr13
   refine Aa rfl (Ae (Ab)) ?_
   refine Ah <| Ad <| Ag <| Ag <| Ai fun ds => Aa rfl (Af (Ab)) ?_
   refine Aa rfl (Bg Fg (Ab) hsp.plain) ?_
   refine Aa rfl (B1 (Ab) Ac) ?_
   refine Ah <| Ad <| Ar (Ab) (decide_eq_true (by have h9 := congrArg List.length hps; rw [List.length_map, hf] at h9; simp at h9; rw [h9]; rfl)) ?_
   refine Ag <| Ai fun ds => Aa rfl (Ae Ac) ?_
   refine Aa rfl (Ae Ac) ?_
   refine Ah <| Ad <| A9 <| A6 ?_
   refine Ay rfl (.tmp (Al rfl <| Ab) (.tmp (Ab) .nil)) ?_
   rw [ringsE_none hok hf]
   exact ⟨_, rfl, [], Sl.nil, (fun p hp => nomatch hp), rfl⟩
  ·
   refine Aw <| Ad <| Ag <| Ai fun ds => Aa rfl (Af (Ao rfl <| Al rfl <| Ab)) ?_
   refine Aa rfl (Af (Ba rfl <| Az rfl <| Ao rfl <| Ak rfl)) ?_
   refine WL_order (.cons (.next <| .here) <| .cons (.here) <| .nil) ?_
   refine Bn rfl (x_callM bd_78 A2 (.cons (Al rfl <| Ab) (.cons (Ab) .nil)) rfl (fit_ok hX hv he hcat KnownC.nil) fun v20 F21 H24 hr22 hF23 => ?_)
   obtain ⟨es2, rfl, hK2, ps, hsp, hpa, hps⟩ := hr22
   refine Aa rfl (Ae (Ab)) ?_
   refine Ah <| Ad <| Ag <| Ag <| Ai fun ds => Aa rfl (Af (Ab)) ?_
   refine Aa rfl (Bg Fg (Ab) hsp.plain) ?_
   refine Aa rfl (B1 (Ab) Ac) ?_
   refine Ah <| Ad <| Am (Ab) (decide_eq_false (fun h => hf (by rw [← hps]; have h8 : ps = [] := List.eq_nil_of_length_eq_zero (by omega); rw [h8]; rfl))) ?_
   refine Aw <| Ad <| Ag <| Ai fun ds => Aa rfl (Af (Ao rfl <| Al rfl <| Ab)) ?_
   refine Aa rfl (Ae (Ab)) ?_
   refine Aa rfl (Ae Ac) ?_
   refine Ah <| Ad <| A9 <| Ay rfl (.tmp (Al rfl <| Ab) (.tmp (Ab) .nil)) ?_
   rw [ringsE_ok hok hf]
   exact ⟨_, rfl, ps, hsp, hpa, hps⟩
 ·
  refine Ag <| Ai fun ds => Bn rfl (Cf (Ak rfl) rfl fun b25 hb25 nb25 => ?_)
  refine Aa rfl (Ae Ac) ?_
  refine Aa rfl (Ae Ac) ?_
  refine Ah <| Ad <| Ag <| Ai fun ds => Aa rfl (Bh Ca (Ao rfl <| Ab) rfl rfl (Bk 0 rfl)) ?_
  refine Aa rfl (Af (Az rfl <| Ak rfl)) ?_
  refine Bn rfl (Cp bd_77 A2 (.cons (Al rfl <| Ab) (.cons (Ab) .nil)) (catalogue_bad hr he hok) fun v26 F27 hr28 hF29 => ?_)
  obtain ⟨va, hva1, rfl⟩ := hr28
  refine Aa rfl (Af (Ab)) ?_
  refine Aa rfl (A5 (Ab) rfl) ?_
  refine Aa rfl (A5 (Al rfl <| Ab) rfl) ?_
  refine Aa rfl (Ae (Al rfl <| Ab)) ?_
  refine Aa rfl (Ae (Al rfl <| Ab)) ?_
  refine Ah <| Ad <| Ag <| Ag <| Ai fun ds => Aa rfl (Af (Ab)) ?_
  refine Aa rfl (B7 (Ab) Ac) ?_
  refine Ah <| Ad <| Ar (Ab) (decide_eq_true hok) ?_
  refine Ag <| Ai fun ds => Aa rfl (Af (Ao rfl <| Ab)) ?_
  refine Aa rfl (Ae Ac) ?_
  refine Aa rfl (Ae (Al rfl <| Ab)) ?_
  refine Ah <| Ad <| A9 <| A6 ?_
  refine Ay rfl (.tmp (Al rfl <| Ab) (.tmp (Ab) .nil)) ?_
  rw [ringsE_bad rfl hok]
  exact ⟨_, rfl, [], Sl.nil, (fun p hp => nomatch hp), rfl⟩
set_option maxRecDepth 100000 in
theorem members_ok {F : Heap} {vs vb vl vn vd : Value} {s : Sale} (hr : SaleR F vs vb vl vn vd s) {ve : Value} {l : List Ent} (he : Sl F ve 4 Ent.enc l) : Ok Try.prog 31 [.agg #[vs, .int .i64 s.premium, .int .i64 s.fee, .int .i64 s.days, vb, vl, vn, vd], ve].toArray F fun u F' => MemR F' u (membersE s l) := by
 refine Ok.intro Try.func31 rfl Try.ntmps31 rfl fun w0 => ?_
 have hL2 := hr.bidders.plain.lt
 by_cases h0 : (ringsE s l).2 = 0
 ·
  refine Ag <| Ai fun ds => Bn rfl (Cf (Ak rfl) rfl fun b1 hb1 nb1 => ?_)
  refine Aa rfl (Ae Ac) ?_
  refine Aa rfl (Ae Ac) ?_
  refine Aa rfl (Ae Ac) ?_
  refine Ah <| Ad <| Ag <| Ai fun ds => Aa rfl (Bh Ca (Ao rfl <| Al rfl <| Ab) rfl rfl (Bk 0 rfl)) ?_
  refine Aa rfl (Af (Az rfl <| Al rfl <| Ak rfl)) ?_
  refine Bn rfl (Cp bd_28 A2 (.cons (Al rfl <| Ab) (.cons (Ab) .nil)) (E2 hr he) fun v2 F3 hr4 hF5 => ?_)
  replace hr := hr.mono hF5
  obtain ⟨vq, rfl, qs, hqs, hqa, hqm⟩ := hr4
  replace hqa : AllN _ qs := hqa
  refine Aa rfl (Af (Ab)) ?_
  refine Aa rfl (A5 (Ab) rfl) ?_
  refine Aa rfl (A5 (Al rfl <| Ab) rfl) ?_
  refine Aa rfl (Ae (Al rfl <| Ab)) ?_
  refine Aa rfl (Ae (Al rfl <| Ab)) ?_
  refine Ah <| Ad <| Ag <| Ag <| Ai fun ds => Aa rfl (Af (Ab)) ?_
  refine Aa rfl (B7 (Ab) Ac) ?_
  refine Ah <| Ad <| Am (Ab) (decide_eq_false (fun h => h h0)) ?_
  have hqpl := hqs.plain.lt
  have hnb := (Di (askedE_ok (ringsE_asked h0)).1).nb
  refine Aw <| Ad <| Ag <| Ag <| Ai fun ds => Aa rfl (Aj Dg (Ba rfl <| Az rfl <| Al rfl <| Ab)) ?_
  refine Aa rfl (Aq C1 (Ab) (Cell.own 0 rfl rfl)) ?_
  refine Aa rfl (Bg Cx (Ab) hr.bidders.plain) ?_
  refine Aa rfl (Af Ac) ?_
  refine Ah <| Ad <| A4 <| Bz [4, 5, 8, 9, 11, 24, 25, 26, 27, 28, 29, 30, 31, 32, 33, 34, 35, 36, 37, 38, 39, 40, 41, 42, 43, 44, 45, 46, 47, 48, 49, 50, 51, 52, 53] (fun m e σ => ∃ b : Nat, m + b = s.bidders.length ∧ e 24 = .int .i64 (b : Int) ∧ ∃ v4 v5 R4 R5, e 4 = v4 ∧ e 5 = v5 ∧ Own 3 1 v4 (selTo (mustB (ringsE s l).1) b).length ((selTo (mustB (ringsE s l).1) b).flatMap natE) R4 ∧ Own 3 1 v5 (selTo (mayB (ringsE s l).1) b).length ((selTo (mayB (ringsE s l).1) b).flatMap natE) R5 ∧ σ = ⟨F3, (b1, bx 27 [vs, .int .i64 s.premium, .int .i64 s.fee, .int .i64 s.days, vb, vl, vn, vd]) :: (R4 ++ R5)⟩) (s.bidders.length) ?_ ?_
  · exact ⟨0, by omega, (Ab), _, _, [], [], (A8 rfl <| Ab), (Ba rfl <| Az rfl <| Ao rfl <| Al rfl <| Ab), Own.nil, Own.nil, rfl⟩
  ·
   rintro m e _ ⟨b, hm9, hs24, v4, v5, R4, R5, hs4, hs5, ho4, ho5, rfl⟩; have hl4 := Ek (p := mustB (ringsE s l).1) (k := b); have hl5 := Ek (p := mayB (ringsE s l).1) (k := b)
   by_cases hlt : b < s.bidders.length
   ·
    refine Ag <| Ai fun ds => Aa rfl (Bs (As rfl hs24) (Ap rfl <| Al rfl <| Ab)) ?_
    refine Ah <| Ad <| Ag <| Ar (Ab) (by first | rfl | exact decide_eq_true (by omega)) ?_
    refine Aw <| Ad <| Ag <| A4 <| Ag <| Ai fun ds => Aa rfl (Af (Al rfl <| As rfl hs24)) ?_
    refine Aa rfl (Ae (Ab)) ?_
    refine Ah <| Ad <| Ag <| Ai fun ds => Aa rfl (Ae Ac) ?_
    refine Ah <| Ad <| Ag <| Ag <| Ai fun ds => Aa rfl (Af (Az rfl <| Ap rfl <| Az rfl <| Ao rfl <| Al rfl <| Ab)) ?_
    refine Aa rfl (Bg Fg (Ab) hqs.plain) ?_
    refine Aa rfl (Af Ac) ?_
    refine Ah <| Ad <| A4 <| Bz [9, 11, 29, 30, 31, 32, 33, 34, 35, 36, 37, 38] (fun m e σ => ∃ k : Nat, m + k = qs.length ∧ e 29 = .int .i64 (k : Int) ∧ e 9 = .int .i64 (manyTo (ringsE s l).1 b k) ∧ σ = ⟨F3, (b1, bx 27 [vs, .int .i64 s.premium, .int .i64 s.fee, .int .i64 s.days, vb, vl, vn, vd]) :: (R4 ++ R5)⟩) (qs.length) ?_ ?_
    · exact ⟨0, by omega, (Ab), (Ao rfl <| Al rfl <| Ab), rfl⟩
    ·
     rintro m2 e2 _ ⟨k, hm2, ht29, ht9, rfl⟩
     by_cases hlk : k < qs.length
     ·
      have hql := hqa _ (List.getElem_mem hlk)
      have hka : k < (ringsE s l).1.length := by rw [← hqm]; simpa using hlk
      have hqk : (ringsE s l).1[k] = qs[k].2 := by simp [← hqm]
      have hmb := manyTo_bound (all := (ringsE s l).1) (b := b) (k := k)
      have hqL0 : (ringsE s l).1.length = qs.length := by rw [← hqm, List.length_map]
      refine Ag <| Ai fun ds => Aa rfl (Bs (As rfl ht29) (Ap rfl <| Al rfl <| Ab)) ?_
      refine Ah <| Ad <| Ag <| Ar (Ab) (by first | rfl | exact decide_eq_true (by omega)) ?_
      by_cases hm : b ∈ qs[k].2
      ·
       refine Aw <| Ad <| Ag <| A4 <| Ag <| Ai fun ds => Aa rfl (Bj  Fg (Al rfl <| Ap rfl <| Ao rfl <| Ab) hqs.plain (Al rfl <| As rfl ht29) rfl hlk) ?_
       refine Aa rfl (Aq one_28 (Ab) (hqs.cell1 hlk rfl)) ?_
       refine Aa rfl (Ae (Ab)) ?_
       refine Ah <| Ad <| Ag <| Ai fun ds => Aa rfl (Af (Ab)) ?_
       refine Aa rfl (Af (Az rfl <| Al rfl <| Ap rfl <| Az rfl <| Ab)) ?_
       refine Bw rfl (Bc bd_82 A2 (.cons (Al rfl <| Ab) (.cons (Ab) .nil)) (contains_nat hql b) (fun _ _ h => h)) ?_
       refine Ah <| Ad <| Ar (Ab) (decide_eq_true hm) ?_
       refine Ai fun ds => Aa rfl (Af (Az rfl <| Ao rfl <| Al rfl <| As rfl ht9)) ?_
       refine Aa rfl (Bp (Ab) Ac rfl (by omega) (by omega)) ?_
       refine Aa rfl (Ae (Ab)) ?_
       refine Ah <| Bf <| Ad <| Ai fun ds => Aa rfl (Bp (Ba rfl <| Ao rfl <| As rfl ht29) Ac rfl (by omega) (by omega)) ?_
       refine Aa rfl (Af (Ab)) ?_
       refine Ah <| Ad ⟨_, m2 - 1, Off.eq (Ed rfl <| E0 rfl <| Be), by omega, ?_⟩
       exact ⟨k + 1, by omega, (Ab), by rw [manyTo_succ hka, if_pos (by rw [hqk]; exact hm)]; exact (Ao rfl <| Ab), rfl⟩
      ·
       refine Aw <| Ad <| Ag <| A4 <| Ag <| Ai fun ds => Aa rfl (Bj  Fg (Al rfl <| Ap rfl <| Ao rfl <| Ab) hqs.plain (Al rfl <| As rfl ht29) rfl hlk) ?_
       refine Aa rfl (Aq one_28 (Ab) (hqs.cell1 hlk rfl)) ?_
       refine Aa rfl (Ae (Ab)) ?_
       refine Ah <| Ad <| Ag <| Ai fun ds => Aa rfl (Af (Ab)) ?_
       refine Aa rfl (Af (Az rfl <| Al rfl <| Ap rfl <| Az rfl <| Ab)) ?_
       refine Bw rfl (Bc bd_82 A2 (.cons (Al rfl <| Ab) (.cons (Ab) .nil)) (contains_nat hql b) (fun _ _ h => h)) ?_
       refine Ah <| Ad <| Am (Ab) (decide_eq_false hm) ?_
       refine Aw <| Bf <| Ad <| Ai fun ds => Aa rfl (Bp (Az rfl <| Ao rfl <| Al rfl <| As rfl ht29) Ac rfl (by omega) (by omega)) ?_
       refine Aa rfl (Af (Ab)) ?_
       refine Ah <| Ad ⟨_, m2 - 1, Off.eq (Ed rfl <| El rfl <| Be), by omega, ?_⟩
       exact ⟨k + 1, by omega, (Ab), by rw [manyTo_succ hka, if_neg (by rw [hqk]; exact hm)]; exact (Ba rfl <| Al rfl <| As rfl ht9), rfl⟩
     ·
      refine Ag <| Ai fun ds => Aa rfl (Bs (As rfl ht29) (Ap rfl <| Al rfl <| Ab)) ?_
      refine Ah <| Ad <| Ag <| Am (Ab) (by first | rfl | exact decide_eq_false (by omega)) ?_
      obtain rfl : k = qs.length := by omega
      have hqn : manyTo (ringsE s l).1 b qs.length = manyOf (ringsE s l).1 b := by unfold manyOf; rw [← hqm, List.length_map]
      have hqL : (qs.length : Int) = ((ringsE s l).1.length : Int) := by rw [← hqm, List.length_map]
      by_cases hmu : mustB (ringsE s l).1 b = true
      ·
       refine Bv ?_
       refine Bm <| Bm <| Bo <| Ad <| Ag <| Ag <| Ai fun ds => Aa rfl (Af (Al rfl <| As rfl ht9)) ?_
       refine Aa rfl (Af (Ao rfl <| Ap rfl <| Az rfl <| Ao rfl <| Al rfl <| Ap rfl <| Az rfl <| Ao rfl <| Al rfl <| Ab)) ?_
       refine Aa rfl (Bg Fg (Ab) hqs.plain) ?_
       refine Aa rfl (B1 (Ao rfl <| Ab) (Ab)) ?_
       refine Ah <| Ad <| Ar (Ab) (by rw [hqn, hqL]; exact hmu) ?_
       by_cases hma : mayB (ringsE s l).1 b = true
       ·
        refine Ai fun ds => Aa rfl (Af (Az rfl <| Al rfl <| Ap rfl <| Az rfl <| Ao rfl <| Al rfl <| As rfl hs4)) ?_
        refine Aa rfl (Af (Az rfl <| Ao rfl <| Ap rfl <| Az rfl <| Ab)) ?_
        refine Bn rfl (B0 Bq C8 rfl (.cons (Ab) .nil) rfl rfl (by decide) (by simp [Value.oneCell']) fun b8 hb8 nb8 => ?_)
        refine Bn rfl (Cw Bq el_3 (Ao rfl <| Ab) ho4 (Ab) (C6 (s := 1) 0 rfl rfl (by simp [Value.oneCell'])) (by omega) (by omega) (.s <| .s <| .z) .more fun v9 R10 ho11 => ?_)
        have ho4b := ho11.snoc (x := b) rfl rfl
        refine Aa rfl (Ae (Ab)) ?_
        refine Ah <| Ad <| Ag <| Ai fun ds => Aa rfl (Af (Ba rfl <| Ao rfl <| As rfl ht9)) ?_
        refine Aa rfl (Ck (Ab) Ac) ?_
        refine Ah <| Ad <| Ar (Ab) (by rw [hqn]; exact hma) ?_
        refine Ai fun ds => Aa rfl (Af (Ba rfl <| Az rfl <| Ap rfl <| Az rfl <| Ao rfl <| Al rfl <| As rfl hs5)) ?_
        refine Aa rfl (Af (Ba rfl <| Az rfl <| Al rfl <| Ap rfl <| Az rfl <| Ab)) ?_
        refine Bn rfl (B0 Bq C8 rfl (.cons (Ab) .nil) rfl rfl (by decide) (by simp [Value.oneCell']) fun b12 hb12 nb12 => ?_)
        refine Bn rfl (Cw Bq el_3 (Ao rfl <| Ab) ho5 (Ab) (C6 (s := 1) 0 rfl rfl (by simp [Value.oneCell'])) (by omega) (by omega) (.s <| .s <| .s <| .k <| .z) .last fun v13 R14 ho15 => ?_)
        have ho5b := ho15.snoc (x := b) rfl rfl
        refine Aa rfl (Ae (Ab)) ?_
        refine Ah <| Bf <| Ad <| Cc (fun _ _ h => h.drop (.cons _ <| .cons _ <| .cons_cons _ <| .refl _)) ?_
        refine Ai fun ds => Aa rfl (Bp (A8 rfl <| Al rfl <| Ap rfl <| Az rfl <| Ao rfl <| Al rfl <| As rfl hs24) Ac rfl (by omega) (by omega)) ?_
        refine Aa rfl (Af (Ab)) ?_
        refine Ah <| Ad ⟨_, m - 1, Off.eq (C3 rfl <| Eo rfl <| El rfl <| off_in rfl <| E0 rfl <| Eo rfl <| El rfl <| Be), by omega, ?_⟩
        exact ⟨b + 1, by omega, (Ab), _, _, _, _, (Ba rfl <| Al rfl <| Ab), (Ao rfl <| Ab), by rw [Cq, if_pos hmu]; exact ho4b, by rw [Cq, if_pos hma]; exact ho5b, rfl⟩
       ·
        replace hma : mayB (ringsE s l).1 b = false := by simpa using hma
        refine Ai fun ds => Aa rfl (Af (Az rfl <| Al rfl <| Ap rfl <| Az rfl <| Ao rfl <| Al rfl <| As rfl hs4)) ?_
        refine Aa rfl (Af (Az rfl <| Ao rfl <| Ap rfl <| Az rfl <| Ab)) ?_
        refine Bn rfl (B0 Bq C8 rfl (.cons (Ab) .nil) rfl rfl (by decide) (by simp [Value.oneCell']) fun b16 hb16 nb16 => ?_)
        refine Bn rfl (Cw Bq el_3 (Ao rfl <| Ab) ho4 (Ab) (C6 (s := 1) 0 rfl rfl (by simp [Value.oneCell'])) (by omega) (by omega) (.s <| .s <| .z) .more fun v17 R18 ho19 => ?_)
        have ho4b := ho19.snoc (x := b) rfl rfl
        refine Aa rfl (Ae (Ab)) ?_
        refine Ah <| Ad <| Ag <| Ai fun ds => Aa rfl (Af (Ba rfl <| Ao rfl <| As rfl ht9)) ?_
        refine Aa rfl (Ck (Ab) Ac) ?_
        refine Ah <| Ad <| Am (Ab) (by rw [hqn]; exact hma) ?_
        refine Aw <| Bf <| Ad <| Cc (fun _ _ h => h.drop (.cons _ <| .cons_cons _ <| .refl _)) ?_
        refine Ai fun ds => Aa rfl (Bp (Ba rfl <| Az rfl <| Ap rfl <| Az rfl <| Ao rfl <| Al rfl <| As rfl hs24) Ac rfl (by omega) (by omega)) ?_
        refine Aa rfl (Af (Ab)) ?_
        refine Ah <| Ad ⟨_, m - 1, Off.eq (Ed rfl <| E0 rfl <| Eo rfl <| off_in rfl <| E0 rfl <| Eo rfl <| El rfl <| Be), by omega, ?_⟩
        exact ⟨b + 1, by omega, (Ab), _, _, _, _, (Az rfl <| Ab), (Ba rfl <| Az rfl <| Ao rfl <| Ap rfl <| Az rfl <| Ao rfl <| Al rfl <| As rfl hs5), by rw [Cq, if_pos hmu]; exact ho4b, by rw [Cq, if_neg (by rw [hma]; decide)]; exact ho5, rfl⟩
      ·
       replace hmu : mustB (ringsE s l).1 b = false := by simpa using hmu
       refine Bv ?_
       refine Bm <| Bm <| Bo <| Ad <| Ag <| Ag <| Ai fun ds => Aa rfl (Af (Al rfl <| As rfl ht9)) ?_
       refine Aa rfl (Af (Ao rfl <| Ap rfl <| Az rfl <| Ao rfl <| Al rfl <| Ap rfl <| Az rfl <| Ao rfl <| Al rfl <| Ab)) ?_
       refine Aa rfl (Bg Fg (Ab) hqs.plain) ?_
       refine Aa rfl (B1 (Ao rfl <| Ab) (Ab)) ?_
       refine Ah <| Ad <| Am (Ab) (by rw [hqn, hqL]; exact hmu) ?_
       by_cases hma : mayB (ringsE s l).1 b = true
       ·
        refine Aw <| Ad <| Ag <| Ai fun ds => Aa rfl (Af (Az rfl <| Al rfl <| As rfl ht9)) ?_
        refine Aa rfl (Ck (Ab) Ac) ?_
        refine Ah <| Ad <| Ar (Ab) (by rw [hqn]; exact hma) ?_
        refine Ai fun ds => Aa rfl (Af (Az rfl <| Ao rfl <| Al rfl <| Ap rfl <| Az rfl <| Ao rfl <| Al rfl <| As rfl hs5)) ?_
        refine Aa rfl (Af (Ba rfl <| Ap rfl <| Az rfl <| Ab)) ?_
        refine Bn rfl (B0 Bq C8 rfl (.cons (Ab) .nil) rfl rfl (by decide) (by simp [Value.oneCell']) fun b20 hb20 nb20 => ?_)
        refine Bn rfl (Cw Bq el_3 (Ao rfl <| Ab) ho5 (Ab) (C6 (s := 1) 0 rfl rfl (by simp [Value.oneCell'])) (by omega) (by omega) (.s <| .s <| .k <| .z) .last fun v21 R22 ho23 => ?_)
        have ho5b := ho23.snoc (x := b) rfl rfl
        refine Aa rfl (Ae (Ab)) ?_
        refine Ah <| Bf <| Ad <| Cc (fun _ _ h => h.drop (.cons _ <| .cons_cons _ <| .refl _)) ?_
        refine Ai fun ds => Aa rfl (Bp (Ba rfl <| Az rfl <| Ap rfl <| Az rfl <| Ao rfl <| Al rfl <| As rfl hs24) Ac rfl (by omega) (by omega)) ?_
        refine Aa rfl (Af (Ab)) ?_
        refine Ah <| Ad ⟨_, m - 1, Off.eq (Ed rfl <| E0 rfl <| Eo rfl <| off_in rfl <| E0 rfl <| Eo rfl <| El rfl <| Be), by omega, ?_⟩
        exact ⟨b + 1, by omega, (Ab), _, _, _, _, (Ba rfl <| Az rfl <| Ao rfl <| Ap rfl <| Az rfl <| Ao rfl <| Al rfl <| As rfl hs4), (Ao rfl <| Ab), by rw [Cq, if_neg (by rw [hmu]; decide)]; exact ho4, by rw [Cq, if_pos hma]; exact ho5b, rfl⟩
       ·
        replace hma : mayB (ringsE s l).1 b = false := by simpa using hma
        refine Aw <| Ad <| Ag <| Ai fun ds => Aa rfl (Af (Az rfl <| Al rfl <| As rfl ht9)) ?_
        refine Aa rfl (Ck (Ab) Ac) ?_
        refine Ah <| Ad <| Am (Ab) (by rw [hqn]; exact hma) ?_
        refine Aw <| Bf <| Ad <| Ai fun ds => Aa rfl (Bp (Az rfl <| Ao rfl <| Al rfl <| Ap rfl <| Az rfl <| Ao rfl <| Al rfl <| As rfl hs24) Ac rfl (by omega) (by omega)) ?_
        refine Aa rfl (Af (Ab)) ?_
        refine Ah <| Ad ⟨_, m - 1, Off.eq (Ed rfl <| El rfl <| off_in rfl <| E0 rfl <| Eo rfl <| El rfl <| Be), by omega, ?_⟩
        exact ⟨b + 1, by omega, (Ab), _, _, _, _, (Ba rfl <| Al rfl <| Ap rfl <| Az rfl <| Ao rfl <| Al rfl <| As rfl hs4), (Ba rfl <| Al rfl <| Ap rfl <| Az rfl <| Ao rfl <| Al rfl <| As rfl hs5), by rw [Cq, if_neg (by rw [hmu]; decide)]; exact ho4, by rw [Cq, if_neg (by rw [hma]; decide)]; exact ho5, rfl⟩
   ·
    refine Ag <| Ai fun ds => Aa rfl (Bs (As rfl hs24) (Ap rfl <| Al rfl <| Ab)) ?_
    refine Ah <| Ad <| Ag <| Am (Ab) (by first | rfl | exact decide_eq_false (by omega)) ?_
    obtain rfl : b = s.bidders.length := by omega
    refine Ec (σ := ⟨_, _⟩) (by rfl) ho4 (.s <| .z) .more fun F24 hF25 hz26 => ?_
    have hn4 := ho4.sl (fun _ => rfl) hz26 (by omega)
    refine Ec (σ := ⟨_, _⟩) (by rfl) ho5 (.s <| .z) .last fun F27 hF28 hz29 => ?_
    replace hn4 := hn4.mono hF28
    have hn5 := ho5.sl (fun _ => rfl) hz29 (by omega)
    refine Bv ?_
    refine Bm <| Bm <| Bo <| Ad <| Ag <| Ai fun ds => Aa rfl (Af (Al rfl <| As rfl hs4)) ?_
    refine Aa rfl (Af (Ao rfl <| As rfl hs5)) ?_
    refine Aa rfl (Ae (Al rfl <| Ab)) ?_
    refine Aa rfl (Ae (Al rfl <| Ab)) ?_
    refine Aa rfl (Ae Ac) ?_
    refine Ah <| Ad <| A9 <| Ay rfl (.tmp (Ao rfl <| Ab) (.tmp (Al rfl <| Ab) (.tmp (Ab) .nil))) ?_
    rw [membersE_ok h0]
    exact ⟨_, _, rfl, hn4, hn5⟩
 ·
  refine Ag <| Ai fun ds => Bn rfl (Cf (Ak rfl) rfl fun b30 hb30 nb30 => ?_)
  refine Aa rfl (Ae Ac) ?_
  refine Aa rfl (Ae Ac) ?_
  refine Aa rfl (Ae Ac) ?_
  refine Ah <| Ad <| Ag <| Ai fun ds => Aa rfl (Bh Ca (Ao rfl <| Al rfl <| Ab) rfl rfl (Bk 0 rfl)) ?_
  refine Aa rfl (Af (Az rfl <| Al rfl <| Ak rfl)) ?_
  refine Bn rfl (Cp bd_28 A2 (.cons (Al rfl <| Ab) (.cons (Ab) .nil)) (E2 hr he) fun v31 F32 hr33 hF34 => ?_)
  obtain ⟨vq, rfl, qs, hqs, hqa, hqm⟩ := hr33
  replace hqa : AllN _ qs := hqa
  refine Aa rfl (Af (Ab)) ?_
  refine Aa rfl (A5 (Ab) rfl) ?_
  refine Aa rfl (A5 (Al rfl <| Ab) rfl) ?_
  refine Aa rfl (Ae (Al rfl <| Ab)) ?_
  refine Aa rfl (Ae (Al rfl <| Ab)) ?_
  refine Ah <| Ad <| Ag <| Ag <| Ai fun ds => Aa rfl (Af (Ab)) ?_
  refine Aa rfl (B7 (Ab) Ac) ?_
  refine Ah <| Ad <| Ar (Ab) (decide_eq_true h0) ?_
  refine Ag <| Ai fun ds => Aa rfl (Af (Ao rfl <| Ab)) ?_
  refine Aa rfl (Ae Ac) ?_
  refine Aa rfl (Ae Ac) ?_
  refine Aa rfl (Ae (Ao rfl <| Ab)) ?_
  refine Ah <| Ad <| A9 <| A6 ?_
  refine Ay rfl (.tmp (Ao rfl <| Ab) (.tmp (Al rfl <| Ab) (.tmp (Ab) .nil))) ?_
  rw [membersE_bad h0]
  exact ⟨_, _, rfl, Sl.nil, Sl.nil⟩
end Go.Proofs.Ytaikojfonleccaa
namespace Go.Proofs.Ytaikojfonleccaa
open Go.RowKit
theorem zr_116 : ZeroT Try.prog 116 (.pointer none) := Dl (by kernel_rfl)
theorem zr_4 : ZeroT Try.prog 4 (.bool false) := Dl (by kernel_rfl)
theorem bd_85 : Body Try.prog 85 := Bt (by kernel_rfl)
theorem bd_86 : Body Try.prog 86 := Bt (by kernel_rfl)
theorem sz_116 : SizeT Try.prog 116 1 := Dw (by kernel_rfl)
theorem sz_28 : SizeT Try.prog 28 1 := Dw (by kernel_rfl)
theorem sz_4 : SizeT Try.prog 4 1 := Dw (by kernel_rfl)
def WrongC (G : Heap) (o : Option (List Nat)) (vw : Value) (fo : Bool) : Prop := o = none ∧ fo = false ∧ vw = .slice none 0 0 ∨ ∃ mm, o = some mm ∧ fo = true ∧ Nats G vw mm ∧ mm.length ≤ 8
theorem WrongC.mono {F F' : Heap} {o : Option (List Nat)} {vw : Value} {fo : Bool} (h : WrongC F o vw fo) (hF : F.le F') : WrongC F' o vw fo := by
 rcases h with h | ⟨mm, h1, h2, h3, h4⟩
 · exact .inl h
 · exact .inr ⟨mm, h1, h2, h3.mono hF, h4⟩
theorem WrongC.all {F : Heap} {s : Sale} {l : List Ent} {vw : Value} {fo : Bool} (h : WrongC F (wrongTo s l (everyR s.bidders.length)) vw fo) : Nats F vw (wrongP s l) := by
 rcases h with ⟨h1, -⟩ | ⟨mm, h1, -, h2, -⟩
 · rcases wrongTo_spec (s := s) (l := l) _ (everyR s.bidders.length) rfl with ⟨h, -⟩ | ⟨x, -, h, -⟩
   · exact absurd h (by simp [everyR])
   · rw [h] at h1; cases h1
 · unfold wrongP; rw [h1]; exact h2
set_option maxRecDepth 100000 in
theorem wrong_ok {F : Heap} {vs vb vl vn vd : Value} {s : Sale} (hr : SaleR F vs vb vl vn vd s) {ve : Value} {l : List Ent} (he : Sl F ve 4 Ent.enc l) : Ok Try.prog 33 [.agg #[vs, .int .i64 s.premium, .int .i64 s.fee, .int .i64 s.days, vb, vl, vn, vd], ve].toArray F fun u F' => NatsR F' u (wrongE s l) := by
 refine Ok.intro Try.func33 rfl Try.ntmps33 rfl fun w0 => ?_
 have hel := he.plain.lt
 by_cases hok : askedE s l = 0
 ·
  have hv := Di (askedE_ok hok).1
  have hcat := (askedE_ok hok).2
  have hnb := hv.nb
  have hl6 := ent_len hv hcat
  refine Ag <| Ai fun ds => Bn rfl (Cf (Ak rfl) rfl fun b1 hb1 nb1 => ?_)
  refine Bn rfl (Cf (Al rfl <| Ak rfl) (D3 he.plain.one) fun b2 hb2 nb2 => ?_)
  refine Bn rfl (B6 zr_28 rfl fun b3 hb3 nb3 => ?_)
  refine Aa rfl (Ae Ac) ?_
  refine Ah <| Ad <| Ag <| Ai fun ds => Aa rfl (Bh Ca (Ao rfl <| Al rfl <| Ab) rfl rfl (Bk 2 rfl)) ?_
  refine Aa rfl (Aq one_47 (Ao rfl <| Al rfl <| Ab) (Cell.own 1 rfl rfl)) ?_
  refine Bn rfl (x_callN bd_77 A2 (.cons (Al rfl <| Ab) (.cons (Ab) .nil)) (catalogue_ok hr he hok) fun v4 F5 R8 hr6 hF7 => ?_)
  replace he := he.mono hF7
  obtain ⟨ba, kb, rfl, hX, rfl⟩ := hr6
  refine Aa rfl (Af (Ab)) ?_
  refine Aa rfl (A5 (Ab) rfl) ?_
  refine Aa rfl (A5 (Al rfl <| Ab) rfl) ?_
  refine Bn rfl (B6 zr_116 rfl fun b9 hb9 nb9 => ?_)
  refine Cl (Dq sz_116 (Ab) (Ao rfl <| Ab) (i := 0) rfl (.here) (by first | rfl | exact hva1) (.here) ?_)
  refine Aa rfl (Ae (Al rfl <| Ab)) ?_
  refine Ah <| Ad <| Ag <| Ag <| Ai fun ds => Aa rfl (Af (Ab)) ?_
  refine Aa rfl (B7 (Ab) Ac) ?_
  refine Ah <| Ad <| Am (Ab) (by decide) ?_
  refine Aw <| Ad <| Ag <| Ai fun ds => Bn rfl (B6 zr_4 rfl fun b10 hb10 nb10 => ?_)
  refine Cl (Dq sz_4 (Ab) Ac (i := 0) rfl (.here) rfl (.here) ?_)
  refine Ah <| Ad <| Ag <| Ag <| Cz (i := 3) rfl hb2 (.next <| .next <| .next <| .here) fun F11 hF12 hz3 => ?_
  replace he := he.mono hF12
  replace hX := hX.mono hF12
  refine Cz (i := 1) rfl hb9 (.next <| .here) fun F13 hF14 hz6 => ?_
  replace he := he.mono hF14
  replace hX := hX.mono hF14
  replace hz3 := hF14 _ _ hz3
  refine WC_pick (.cons (.here) <| .cons (.here) <| .cons (.next <| .here) <| .nil) ?_
  refine Ai fun ds => Aa rfl (Aq one_116 (Az rfl <| Ab) (CellF.own hz6 rfl).cell) ?_
  refine Bn rfl (Cp bd_83 A2 (.cons (Ab) .nil) (rings_ok hX hv) fun v15 F16 hr17 hF18 => ?_)
  replace he := he.mono hF18
  replace hX := hX.mono hF18
  replace hz3 := hF18 _ _ hz3
  replace hz6 := hF18 _ _ hz6
  obtain ⟨dz, rfl, hzd⟩ := hr17
  refine Ah <| Ad <| A4 <| WC_rangeG rfl (Ab) (bd_108) (rings1_iter hX hv hzd) (Heap.le_refl _) (fun pre G H => ∃ es2 vw fo, KnownC Try.prog 3 G es2 s ∧ WrongC G (wrongTo s l pre) vw fo ∧ H = (b10, bx 4 [.bool fo]) :: (b3, bx 28 [vw]) :: [(kb, mapO es2)]) (fun _ _ _ => False) (fun _ _ _ _ hF h => by obtain ⟨a1, a2, a3, a4, a5, a6⟩ := h; exact ⟨a1, a2, a3, a4.mono hF, a5.mono hF, a6⟩) (fun _ _ _ _ _ h => h) ⟨_, _, _, KnownC.nil, .inl ⟨rfl, rfl, rfl⟩, rfl⟩ (fun L D fn tm pre x rest G H1 vs hxs hle hJ hA => ?_) (fun _ _ _ _ h => h.elim) (fun F2 H1 hF2 hJ => ?_)
  ·
   replace he := he.mono hle
   replace hX := hX.mono hle
   replace hz3 := hle _ _ hz3
   replace hz6 := hle _ _ hz6
   obtain ⟨es2, vw, fo, hK2, hW, rfl⟩ := hJ
   obtain ⟨v9, set, rfl, hv9, hset, hsof⟩ := hA
   refine ⟨rfl, rfl, fun w1 => ?_⟩
   refine WC_eq (e' := (upd (upd _ 26 v9) 27 (.int .i64 (set : Int)))) rfl rfl ?_
   refine Ci (.inr (by kernel_rfl)) (fun _ _ h => h) fun ds => ?_
   refine Aa rfl (Ae (Ab)) ?_
   refine Ah <| Ad ⟨_, rfl, ?_⟩
   refine A4 <| Ag <| Ci (.inr (by kernel_rfl)) (fun _ _ h => h) fun ds => ?_
   refine Aa rfl (Aq one_116 (Ba rfl <| Al rfl <| Ab) (CellF.own hz6 rfl).cell) ?_
   refine Aa rfl (Af (Al rfl <| Ab)) ?_
   refine WL_order (.cons (.next <| .next <| .next <| .next <| .here) <| .cons (.here) <| .cons (.here) <| .cons (.here) <| .cons (.here) <| .nil) ?_
   refine Bn rfl (x_callM bd_70 A2 (.cons (Al rfl <| Ab) (.cons (Ab) .nil)) rfl (sell_ok hX hv hK2 (set := set) hset) fun v23 F24 H27 hr25 hF26 => ?_)
   replace he := he.mono hF26
   replace hle := hle.mono hF26
   replace hW := hW.mono hF26
   replace hz3 := hF26 _ _ hz3
   obtain ⟨es3, rfl, hK3, hal⟩ := hr25
   rw [sellL_eq hv (fun b _ => hsof b)] at hal
   refine Aa rfl (Ae (Ab)) ?_
   refine Ah <| Ad <| Ag <| Ci (.inr (by kernel_rfl)) (fun _ _ h => h) fun ds => ?_
   refine Aa rfl (Ae Ac) ?_
   refine Ah <| Ad <| Ag <| Ag <| WC_name (i := 1) rfl (fun _ => .next <| .here) fun oL hoL => ?_
   refine Ci (.inr (by kernel_rfl)) (fun _ _ h => h) fun ds => ?_
   refine Aa rfl (Aq one_47 (A8 rfl <| Az rfl <| Ao rfl <| Al rfl <| Ab) (CellF.own hz3 rfl).cell) ?_
   refine Aa rfl (Bg Cv (Ab) he.plain) ?_
   refine Aa rfl (Af Ac) ?_
   refine Ah <| Ad <| A4 <| Bz [11, 12, 13, 33, 34, 35, 36, 37, 38, 39, 40, 41, 42, 43, 44, 45, 46, 47, 48, 49, 50] (fun m e σ => ∃ k : Nat, m + k = l.length ∧ e 33 = .int .i64 (k : Int) ∧ e 11 = .int .i64 (badMask s l x k : Int) ∧ σ = ⟨F24, [(kb, mapO es3), (L, oL), (D, openO), (b10, bx 4 [.bool fo]), (b3, bx 28 [vw])]⟩) (l.length) ?_ ?_
   · exact ⟨0, by omega, (Ab), (Ao rfl <| Al rfl <| Ab), rfl⟩
   ·
    rintro m e _ ⟨k, hm, hs33, hs11, rfl⟩
    by_cases hlt : k < l.length
    ·
     obtain ⟨n, hn, hnl⟩ := ent_lot hcat hlt
     have hn2 : n < (allS s (castL x)).length := by rw [Eq]; exact hnl
     have hres : (allS s (castL x))[n] = entRes s l[k] x := by rw [Fr]; unfold entRes; rw [hn]; rfl
     have hbb : badB s l x k = !(rightE l[k] (entRes s l[k] x)) := by unfold badB; rw [← ent_at hlt]
     have hkp := pow_lt (show k < 6 by omega)
     have hml6 := badMask_lt (s := s) (l := l) (ring := x) (k := k) (by omega)
     refine Ag <| Ci (.inr (by kernel_rfl)) (fun _ _ h => h) fun ds => ?_
     refine Aa rfl (Bs (As rfl hs33) (Ap rfl <| Al rfl <| Ab)) ?_
     refine Ah <| Ad <| Ag <| Ar (Ab) (by first | rfl | exact decide_eq_true (by omega)) ?_
     by_cases hbd : badB s l x k = true
     ·
      refine Aw <| Ad <| Ag <| A4 <| Ag <| Ci (.inr (by kernel_rfl)) (fun _ _ h => h) fun ds => ?_
      refine Aa rfl (Af (Al rfl <| As rfl hs33)) ?_
      refine Aa rfl (Bj  Cv (Ao rfl <| Ap rfl <| Ao rfl <| Ab) he.plain (Ao rfl <| As rfl hs33) rfl hlt) ?_
      refine Aa rfl (Bh Eg (Ab) rfl rfl (he.whole hlt)) ?_
      refine Bn rfl (B6 E7 rfl fun b29 hb29 nb29 => ?_)
      refine Aa rfl (Ae (Ao rfl <| Al rfl <| Ab)) ?_
      refine Cl (B5 sz_60 (Al rfl <| Ab) (Ao rfl <| Ab) (i := 0) rfl rfl rfl rfl Ent.enc_one (.here) ?_)
      refine Ah <| Ad <| Ag <| Cb (.inr (by kernel_rfl)) (fun _ _ h => h) (by kernel_rfl) (by kernel_rfl) fun ds => ?_
      refine A0 rfl (Bh Eg (Al rfl <| Ab) rfl rfl (Bk 0 rfl)) ?_
      refine A0 rfl (Af (Az rfl <| Ao rfl <| Al rfl <| Ap rfl <| Az rfl <| Ab)) ?_
      refine A0 rfl (Aj Fc (Ao rfl <| Al rfl <| Ab)) ?_
      refine A0 rfl (Aq Bi (Ab) (Cell.own 0 rfl rfl)) ?_
      refine A0 rfl (Bj (k := n) Dc (Ao rfl <| Ab) hal.plain (Ab) hn hn2) ?_
      refine A0 rfl (Bh Ez (Ab) rfl rfl (hal.whole hn2)) ?_
      refine WQ_c rfl (Bc bd_84 A2 (.cons (Az rfl <| Al rfl <| Ab) (.cons (Ab) .nil)) (right_ok _ _) (fun _ _ h => h)) ?_
      refine A0 rfl (Ct (Ab)) ?_
      refine B9 ?_
      refine Ad <| Ar (Ab) (by rw [hres, ← hbb]; exact hbd) ?_
      refine Ci (.inr (by kernel_rfl)) (fun _ _ h => h) fun ds => ?_
      refine Aa rfl (Af (Ba rfl <| Az rfl <| Ao rfl <| As rfl hs11)) ?_
      refine Aa rfl (Af (Ba rfl <| Al rfl <| Ab)) ?_
      refine Aa rfl (q_shl Ac (Ab) (k := k) rfl (by omega) (show (1 : Int) * 2 ^ k = ((2 ^ k : Nat) : Int) by simp) (Int.le_trans (by decide) (Int.natCast_nonneg _)) (by omega)) ?_
      refine Aa rfl (q_or (Ao rfl <| Ab) (Ab) (m := badMask s l x k) (k := 2 ^ k) rfl rfl (by omega) (by omega) rfl) ?_
      refine Aa rfl (Ae (Ab)) ?_
      refine Ah <| Bf <| Ad <| Cc (fun _ _ h => h.drop (.cons _ <| .cons_cons _ <| .cons_cons _ <| .cons_cons _ <| .cons_cons _ <| .cons_cons _ <| .refl _)) ?_
      refine Ci (.inr (by kernel_rfl)) (fun _ _ h => h) fun ds => ?_
      refine Aa rfl (Bp (A8 rfl <| Ao rfl <| Al rfl <| As rfl hs33) Ac rfl (by omega) (by omega)) ?_
      refine Aa rfl (Af (Ab)) ?_
      refine Ah <| Ad ⟨_, m - 1, Off.eq (C3 rfl <| E0 rfl <| El rfl <| Be), by omega, ?_⟩
      exact ⟨k + 1, by omega, (Ab), by rw [badMask, if_pos hbd]; exact (Ao rfl <| Ab), rfl⟩
     ·
      replace hbd : badB s l x k = false := by simpa using hbd
      refine Aw <| Ad <| Ag <| A4 <| Ag <| Ci (.inr (by kernel_rfl)) (fun _ _ h => h) fun ds => ?_
      refine Aa rfl (Af (Al rfl <| As rfl hs33)) ?_
      refine Aa rfl (Bj  Cv (Ao rfl <| Ap rfl <| Ao rfl <| Ab) he.plain (Ao rfl <| As rfl hs33) rfl hlt) ?_
      refine Aa rfl (Bh Eg (Ab) rfl rfl (he.whole hlt)) ?_
      refine Bn rfl (B6 E7 rfl fun b30 hb30 nb30 => ?_)
      refine Aa rfl (Ae (Ao rfl <| Al rfl <| Ab)) ?_
      refine Cl (B5 sz_60 (Al rfl <| Ab) (Ao rfl <| Ab) (i := 0) rfl rfl rfl rfl Ent.enc_one (.here) ?_)
      refine Ah <| Ad <| Ag <| Cb (.inr (by kernel_rfl)) (fun _ _ h => h) (by kernel_rfl) (by kernel_rfl) fun ds => ?_
      refine A0 rfl (Bh Eg (Al rfl <| Ab) rfl rfl (Bk 0 rfl)) ?_
      refine A0 rfl (Af (Az rfl <| Ao rfl <| Al rfl <| Ap rfl <| Az rfl <| Ab)) ?_
      refine A0 rfl (Aj Fc (Ao rfl <| Al rfl <| Ab)) ?_
      refine A0 rfl (Aq Bi (Ab) (Cell.own 0 rfl rfl)) ?_
      refine A0 rfl (Bj (k := n) Dc (Ao rfl <| Ab) hal.plain (Ab) hn hn2) ?_
      refine A0 rfl (Bh Ez (Ab) rfl rfl (hal.whole hn2)) ?_
      refine WQ_c rfl (Bc bd_84 A2 (.cons (Az rfl <| Al rfl <| Ab) (.cons (Ab) .nil)) (right_ok _ _) (fun _ _ h => h)) ?_
      refine A0 rfl (Ct (Ab)) ?_
      refine B9 ?_
      refine Ad <| Am (Ab) (by rw [hres, ← hbb]; exact hbd) ?_
      refine Aw <| Bf <| Ad <| Cc (fun _ _ h => h.drop (.cons _ <| .cons_cons _ <| .cons_cons _ <| .cons_cons _ <| .cons_cons _ <| .cons_cons _ <| .refl _)) ?_
      refine Ci (.inr (by kernel_rfl)) (fun _ _ h => h) fun ds => ?_
      refine Aa rfl (Bp (Ba rfl <| Az rfl <| Ao rfl <| As rfl hs33) Ac rfl (by omega) (by omega)) ?_
      refine Aa rfl (Af (Ab)) ?_
      refine Ah <| Ad ⟨_, m - 1, Off.eq (C3 rfl <| Be), by omega, ?_⟩
      exact ⟨k + 1, by omega, (Ab), by rw [badMask, if_neg (by rw [hbd]; decide)]; exact (A8 rfl <| As rfl hs11), rfl⟩
    ·
     refine Ag <| Ci (.inr (by kernel_rfl)) (fun _ _ h => h) fun ds => ?_
     refine Aa rfl (Bs (As rfl hs33) (Ap rfl <| Al rfl <| Ab)) ?_
     refine Ah <| Ad <| Ag <| Am (Ab) (by first | rfl | exact decide_eq_false (by omega)) ?_
     obtain rfl : k = l.length := by omega
     have hml6 := badMask_lt (s := s) (l := l) (ring := x) (k := l.length) (by omega)
     refine Bv ?_
     refine Bm <| Bm <| Bo <| Ad <| Ag <| Ci (.inr (by kernel_rfl)) (fun _ _ h => h) fun ds => ?_
     refine Aa rfl (Af (Al rfl <| As rfl hs11)) ?_
     refine Bn rfl (Cp bd_85 A2 (.cons (Ab) .nil) (list_ok (n := badMask s l x l.length) (by omega)) fun v31 F32 hr33 hF34 => ?_)
     replace hle := hle.mono hF34
     replace hW := hW.mono hF34
     replace hK3 := hK3.mono hF34
     have hn14 := hr33
     rw [bits_bad hl6] at hn14
     have hbl8 : (badL s l x).length ≤ 8 := by rw [← bits_bad hl6]; exact bitsL_len
     have hn14l := hn14.plain.lt
     refine Aa rfl (Ae (Ab)) ?_
     refine Ah <| Ad <| Ag ?_
     rcases hW with ⟨hw1, rfl, rfl⟩ | ⟨mm, hw1, rfl, hmm, hml⟩
     ·
      refine Ci (.inr (by kernel_rfl)) (fun _ _ h => h) fun ds => ?_
      refine Aa rfl (Aq one_4 (Az rfl <| Ap rfl <| Ba rfl <| Az rfl <| Al rfl <| Ab) (Cell.own 3 rfl rfl)) ?_
      refine Aa rfl (Ct (Ab)) ?_
      refine Aa rfl (Af (Ab)) ?_
      refine Au rfl rfl (Ab) (.inl (congrArg Value.bool (by rfl))) rfl ?_
      refine Au rfl rfl (Al rfl <| Ab) (.inl (congrArg Value.bool (by rfl))) rfl ?_
      refine Au rfl rfl (Ao rfl <| Ab) (.inl (congrArg Value.bool (by rfl))) rfl ?_
      refine Au rfl rfl (Ao rfl <| Al rfl <| Ab) (.inl (congrArg Value.bool (by rfl))) rfl ?_
      refine Au rfl rfl (Az rfl <| Ab) (.inl (congrArg Value.bool (by rfl))) rfl ?_
      refine Aa rfl (A3 (Az rfl <| Al rfl <| Ab) (by rfl) Ac) ?_
      refine Aa rfl (Af (Ab)) ?_
      refine Au rfl rfl (Ab) (.inl (congrArg Value.bool rfl)) rfl ?_
      refine Au rfl rfl (Al rfl <| Ab) (.inl (congrArg Value.bool rfl)) rfl ?_
      refine Au rfl rfl (Ao rfl <| Ab) (.inl (congrArg Value.bool rfl)) rfl ?_
      refine Au rfl rfl (Ao rfl <| Al rfl <| Ab) (.inl (congrArg Value.bool rfl)) rfl ?_
      refine Au rfl rfl (Az rfl <| Ab) (.inl (congrArg Value.bool rfl)) rfl ?_
      refine Au rfl rfl (Az rfl <| Al rfl <| Ab) (.inl (congrArg Value.bool rfl)) rfl ?_
      refine Au rfl rfl (Ab) (.inr rfl) rfl ?_
      refine Au rfl rfl (Al rfl <| Ab) (.inr rfl) rfl ?_
      refine Au rfl rfl (Ao rfl <| Ab) (.inr rfl) rfl ?_
      refine Au rfl rfl (Ao rfl <| Al rfl <| Ab) (.inr rfl) rfl ?_
      refine Au rfl rfl (Ba rfl <| Ao rfl <| Ab) (.inl (congrArg Value.bool rfl)) rfl ?_
      refine Aa rfl (A3 (Ba rfl <| Ao rfl <| Al rfl <| Ab) rfl Ac) ?_
      refine Ah <| Ad <| Ar (Ab) rfl ?_
      subst hoL
      refine Ci (.inr (by kernel_rfl)) (fun _ _ h => h) fun ds => ?_
      refine Aa rfl (Af (A8 rfl <| Az rfl <| Ao rfl <| Ab)) ?_
      refine Cl (Dq sz_28 (A8 rfl <| Ba rfl <| Ao rfl <| Al rfl <| Ap rfl <| A8 rfl <| Ba rfl <| Al rfl <| Ab) (Ab) (i := 4) rfl (.here) (by first | rfl | exact hn14.plain.one) (.next <| .next <| .next <| .next <| .here) ?_)
      refine Cl (Dq sz_4 (A8 rfl <| Ba rfl <| Ao rfl <| Al rfl <| Ap rfl <| Ba rfl <| Az rfl <| Al rfl <| Ab) Ac (i := 3) rfl (.here) (by first | rfl | exact hn14.plain.one) (.next <| .next <| .next <| .here) ?_)
      refine Ah <| Bf ?_
      refine round_nG (.one (.next <| .here) <| .one (.next <| .here) <| .one (.next <| .here) <| .one (.next <| .here) <| .one (.here) <| .nil) ?_
      refine .inl ⟨rfl, _, rfl, hle, ?_⟩
      have e1 : wrongTo s l (pre ++ [x]) = some (badL s l x) := by rw [E1, hw1]; rfl
      exact ⟨_, _, true, hK3, .inr ⟨_, e1, rfl, hn14, hbl8⟩, rfl⟩
     ·
      refine Ci (.inr (by kernel_rfl)) (fun _ _ h => h) fun ds => ?_
      refine Aa rfl (Aq one_4 (Az rfl <| Ap rfl <| Ba rfl <| Az rfl <| Al rfl <| Ab) (Cell.own 3 rfl rfl)) ?_
      refine Aa rfl (Ct (Ab)) ?_
      refine Aa rfl (Af (Ab)) ?_
      refine At rfl rfl (Ab) (by rfl) ?_
      refine Aa rfl (Af (Ao rfl <| Al rfl <| Ab)) ?_
      refine At rfl rfl (Al rfl <| Ab) (by rfl) ?_
      refine Aa rfl (Bg Bq (Ab) hn14.plain) ?_
      refine At rfl rfl (Ao rfl <| Ab) (by rfl) ?_
      refine Aa rfl (Aq one_28 (Ba rfl <| Al rfl <| Ap rfl <| A8 rfl <| Ba rfl <| Al rfl <| Ab) (Cell.own 4 rfl rfl)) ?_
      refine At rfl rfl (Ao rfl <| Al rfl <| Ab) (by rfl) ?_
      refine Aa rfl (Bg Bq (Ab) hmm.plain) ?_
      refine At rfl rfl (Az rfl <| Ab) (by rfl) ?_
      refine Aa rfl (Bs (Ao rfl <| Ab) (Ab)) ?_
      refine Aa rfl (A7 (Az rfl <| Al rfl <| Ab) (by rfl) (Ab)) ?_
      refine Aa rfl (Af (Ab)) ?_
      by_cases h1 : (badL s l x).length < mm.length
      ·
       refine Au rfl rfl (Ab) (.inl (congrArg Value.bool (decide_eq_true (by omega)))) rfl ?_
       refine Au rfl rfl (Al rfl <| Ab) (.inl (congrArg Value.bool (decide_eq_true (by omega)))) rfl ?_
       refine Au rfl rfl (Ao rfl <| Ab) (.inl (congrArg Value.bool (decide_eq_true (by omega)))) rfl ?_
       refine Au rfl rfl (Ao rfl <| Al rfl <| Ab) (.inl (congrArg Value.bool (decide_eq_true (by omega)))) rfl ?_
       refine Au rfl rfl (Az rfl <| Ab) (.inl (congrArg Value.bool (decide_eq_true (by omega)))) rfl ?_
       refine Au rfl rfl (Az rfl <| Al rfl <| Ab) (.inl (congrArg Value.bool (decide_eq_true (by omega)))) rfl ?_
       refine Au rfl rfl (Ab) (.inr rfl) rfl ?_
       refine Au rfl rfl (Al rfl <| Ab) (.inr rfl) rfl ?_
       refine Au rfl rfl (Ao rfl <| Ab) (.inr rfl) rfl ?_
       refine Au rfl rfl (Ao rfl <| Al rfl <| Ab) (.inr rfl) rfl ?_
       refine Au rfl rfl (Ba rfl <| Ao rfl <| Ab) (.inl (congrArg Value.bool (decide_eq_true (by omega)))) rfl ?_
       refine Aa rfl (A3 (Ba rfl <| Ao rfl <| Al rfl <| Ab) (decide_eq_true (by omega)) Ac) ?_
       refine Ah <| Ad <| Ar (Ab) rfl ?_
       subst hoL
       refine Ci (.inr (by kernel_rfl)) (fun _ _ h => h) fun ds => ?_
       refine Aa rfl (Af (A8 rfl <| Az rfl <| Ao rfl <| Ab)) ?_
       refine Cl (Dq sz_28 (A8 rfl <| Ba rfl <| Ao rfl <| Al rfl <| Ap rfl <| A8 rfl <| Ba rfl <| Al rfl <| Ab) (Ab) (i := 4) rfl (.here) (by first | rfl | exact hn14.plain.one) (.next <| .next <| .next <| .next <| .here) ?_)
       refine Cl (Dq sz_4 (A8 rfl <| Ba rfl <| Ao rfl <| Al rfl <| Ap rfl <| Ba rfl <| Az rfl <| Al rfl <| Ab) Ac (i := 3) rfl (.here) (by first | rfl | exact hn14.plain.one) (.next <| .next <| .next <| .here) ?_)
       refine Ah <| Bf ?_
       refine round_nG (.one (.next <| .here) <| .one (.next <| .here) <| .one (.next <| .here) <| .one (.next <| .here) <| .one (.here) <| .nil) ?_
       refine .inl ⟨rfl, _, rfl, hle, ?_⟩
       have e1 : wrongTo s l (pre ++ [x]) = some (badL s l x) := by rw [E1, hw1, wrongStep_new (.inl h1)]
       exact ⟨_, _, true, hK3, .inr ⟨_, e1, rfl, hn14, hbl8⟩, rfl⟩
      ·
       refine At rfl rfl (Ab) (decide_eq_false (by omega)) ?_
       refine Aa rfl (Af (Ba rfl <| Ao rfl <| Ab)) ?_
       refine At rfl rfl (Al rfl <| Ab) (decide_eq_false (by omega)) ?_
       refine Aa rfl (Bg Bq (Ab) hn14.plain) ?_
       refine At rfl rfl (Ao rfl <| Ab) (decide_eq_false (by omega)) ?_
       refine Aa rfl (Aq one_28 (A8 rfl <| Ap rfl <| A8 rfl <| Ba rfl <| Al rfl <| Ab) (Cell.own 4 rfl rfl)) ?_
       refine At rfl rfl (Ao rfl <| Al rfl <| Ab) (decide_eq_false (by omega)) ?_
       refine Aa rfl (Bg Bq (Ab) hmm.plain) ?_
       refine At rfl rfl (Az rfl <| Ab) (decide_eq_false (by omega)) ?_
       refine Aa rfl (B1 (Ao rfl <| Ab) (Ab)) ?_
       refine At rfl rfl (Az rfl <| Al rfl <| Ab) (decide_eq_false (by omega)) ?_
       refine Aa rfl (Af (Ab)) ?_
       by_cases h2 : (badL s l x).length = mm.length
       ·
        refine At rfl rfl (Ab) (decide_eq_true (by omega)) ?_
        refine Aa rfl (Af (A8 rfl <| Ab)) ?_
        refine At rfl rfl (Al rfl <| Ab) (decide_eq_true (by omega)) ?_
        refine Aa rfl (Aq one_28 (A8 rfl <| Az rfl <| Al rfl <| Ap rfl <| A8 rfl <| Ba rfl <| Al rfl <| Ab) (Cell.own 4 rfl rfl)) ?_
        refine At rfl rfl (Ao rfl <| Ab) (decide_eq_true (by omega)) ?_
        refine Bw rfl (Bc bd_86 A2 (.cons (Al rfl <| Ab) (.cons (Ab) .nil)) (compare_ok hn14 hmm) (fun _ _ h => h)) ?_
        refine At rfl rfl (Ao rfl <| Al rfl <| Ab) (decide_eq_true (by omega)) ?_
        refine Aa rfl (Bs (Ab) Ac) ?_
        refine At rfl rfl (Ba rfl <| Ao rfl <| Ab) (decide_eq_false (by omega)) ?_
        refine Aa rfl (A3 (Az rfl <| Ab) (decide_eq_true (by omega)) (Ab)) ?_
        refine Aa rfl (A7 (Ba rfl <| Ao rfl <| Al rfl <| Ab) (decide_eq_false (by omega)) (Ab)) ?_
        refine Ah <| Ad ?_
        by_cases h3 : cmpL (badL s l x) mm < 0
        ·
         refine Ar (Ab) (decide_eq_true h3) ?_
         subst hoL
         refine Ci (.inr (by kernel_rfl)) (fun _ _ h => h) fun ds => ?_
         refine Aa rfl (Af (A8 rfl <| Az rfl <| Ao rfl <| Ab)) ?_
         refine Cl (Dq sz_28 (A8 rfl <| Ba rfl <| Ao rfl <| Al rfl <| Ap rfl <| A8 rfl <| Ba rfl <| Al rfl <| Ab) (Ab) (i := 4) rfl (.here) (by first | rfl | exact hn14.plain.one) (.next <| .next <| .next <| .next <| .here) ?_)
         refine Cl (Dq sz_4 (A8 rfl <| Ba rfl <| Ao rfl <| Al rfl <| Ap rfl <| Ba rfl <| Az rfl <| Al rfl <| Ab) Ac (i := 3) rfl (.here) (by first | rfl | exact hn14.plain.one) (.next <| .next <| .next <| .here) ?_)
         refine Ah <| Bf ?_
         refine round_nG (.one (.next <| .here) <| .one (.next <| .here) <| .one (.next <| .here) <| .one (.next <| .here) <| .one (.here) <| .nil) ?_
         refine .inl ⟨rfl, _, rfl, hle, ?_⟩
         have e1 : wrongTo s l (pre ++ [x]) = some (badL s l x) := by rw [E1, hw1, wrongStep_new (.inr ⟨h2, h3⟩)]
         exact ⟨_, _, true, hK3, .inr ⟨_, e1, rfl, hn14, hbl8⟩, rfl⟩
        ·
         refine Am (Ab) (decide_eq_false h3) ?_
         subst hoL
         refine Aw <| Bf ?_
         refine round_nG (.one (.next <| .here) <| .one (.next <| .here) <| .one (.next <| .here) <| .one (.next <| .here) <| .one (.here) <| .nil) ?_
         refine .inl ⟨rfl, _, rfl, hle, ?_⟩
         have e1 : wrongTo s l (pre ++ [x]) = some mm := by rw [E1, hw1, wrongStep_old (fun h => h.elim h1 (fun h => h3 h.2))]
         exact ⟨_, _, true, hK3, .inr ⟨_, e1, rfl, hmm, hml⟩, rfl⟩
       ·
        refine Au rfl rfl (Ab) (.inl (congrArg Value.bool (decide_eq_false (by omega)))) rfl ?_
        refine Au rfl rfl (Al rfl <| Ab) (.inl (congrArg Value.bool (decide_eq_false (by omega)))) rfl ?_
        refine Au rfl rfl (Ao rfl <| Ab) (.inl (congrArg Value.bool (decide_eq_false (by omega)))) rfl ?_
        refine Au rfl rfl (Ao rfl <| Al rfl <| Ab) (.inl (congrArg Value.bool (decide_eq_false (by omega)))) rfl ?_
        refine At rfl rfl (Ba rfl <| Ao rfl <| Ab) (decide_eq_false (by omega)) ?_
        refine Aa rfl (A7 (Az rfl <| Ab) (decide_eq_false (by omega)) Ac) ?_
        refine Aa rfl (A7 (Ba rfl <| Ao rfl <| Al rfl <| Ab) (decide_eq_false (by omega)) (Ab)) ?_
        refine Ah <| Ad <| Am (Ab) rfl ?_
        subst hoL
        refine Aw <| Bf ?_
        refine round_nG (.one (.next <| .here) <| .one (.next <| .here) <| .one (.next <| .here) <| .one (.next <| .here) <| .one (.here) <| .nil) ?_
        refine .inl ⟨rfl, _, rfl, hle, ?_⟩
        have e1 : wrongTo s l (pre ++ [x]) = some mm := by rw [E1, hw1, wrongStep_old (fun h => h.elim h1 (fun h => h2 h.1))]
        exact ⟨_, _, true, hK3, .inr ⟨_, e1, rfl, hmm, hml⟩, rfl⟩
  obtain ⟨es2, vw, fo, hK2, hW, rfl⟩ := hJ
  have hwm := hW.all
  refine Bf <| Ad <| Ag <| Ai fun ds => Aa rfl (Aq one_28 (Ba rfl <| Az rfl <| Ao rfl <| Ab) (Cell.own 1 rfl rfl)) ?_
  refine Cl (Dq sz_28 (Ba rfl <| Az rfl <| Ao rfl <| Al rfl <| Ab) (Ab) (i := 1) rfl (.here) hwm.plain.one (.next <| .here) ?_)
  refine Aa rfl (Ae Ac) ?_
  refine Ah <| Ad <| A9 <| Ay rfl (.one one_28 (A8 rfl <| Ab) (Cell.own 1 rfl rfl) (.tmp (Ab) .nil)) ?_
  rw [wrongE_ok hok]
  exact ⟨_, rfl, hwm⟩
 ·
  refine Ag <| Ai fun ds => Bn rfl (Cf (Ak rfl) rfl fun b35 hb35 nb35 => ?_)
  refine Bn rfl (Cf (Al rfl <| Ak rfl) (D3 he.plain.one) fun b36 hb36 nb36 => ?_)
  refine Bn rfl (B6 zr_28 rfl fun b37 hb37 nb37 => ?_)
  refine Aa rfl (Ae Ac) ?_
  refine Ah <| Ad <| Ag <| Ai fun ds => Aa rfl (Bh Ca (Ao rfl <| Al rfl <| Ab) rfl rfl (Bk 2 rfl)) ?_
  refine Aa rfl (Aq one_47 (Ao rfl <| Al rfl <| Ab) (Cell.own 1 rfl rfl)) ?_
  refine Bn rfl (Cp bd_77 A2 (.cons (Al rfl <| Ab) (.cons (Ab) .nil)) (catalogue_bad hr he hok) fun v38 F39 hr40 hF41 => ?_)
  obtain ⟨va, hva1, rfl⟩ := hr40
  refine Aa rfl (Af (Ab)) ?_
  refine Aa rfl (A5 (Ab) rfl) ?_
  refine Aa rfl (A5 (Al rfl <| Ab) rfl) ?_
  refine Bn rfl (B6 zr_116 rfl fun b42 hb42 nb42 => ?_)
  refine Cl (Dq sz_116 (Ab) (Ao rfl <| Ab) (i := 0) rfl (.here) (by first | rfl | exact hva1) (.here) ?_)
  refine Aa rfl (Ae (Al rfl <| Ab)) ?_
  refine Ah <| Ad <| Ag <| Ag <| Ai fun ds => Aa rfl (Af (Ab)) ?_
  refine Aa rfl (B7 (Ab) Ac) ?_
  refine Ah <| Ad <| Ar (Ab) (decide_eq_true hok) ?_
  refine Ag <| Ai fun ds => Aa rfl (Af (Ao rfl <| Ab)) ?_
  refine Cl (Dq sz_28 (Ba rfl <| Az rfl <| Ab) Ac (i := 1) rfl (.here) rfl (.next <| .here) ?_)
  refine Aa rfl (Ae (Ab)) ?_
  refine Ah <| Ad <| A9 <| A6 ?_
  refine Ay rfl (.one one_28 (Ba rfl <| Az rfl <| Al rfl <| Ab) (Cell.own 1 rfl rfl) (.tmp (Ab) .nil)) ?_
  rw [wrongE_bad rfl hok]
  exact ⟨_, rfl, Sl.nil⟩
end Go.Proofs.Ytaikojfonleccaa
namespace Go.Proofs.Ytaikojfonleccaa
open Go.RowKit
/-- A list of lists of results. -/
def rsE (p : Value × List Res) : List Value := [p.1]
def RLs (F : Heap) (v : Value) (xss : List (List Res)) : Prop := ∃ ps : List (Value × List Res), Sl F v 1 rsE ps ∧ (∀ p ∈ ps, Sl F p.1 2 Res.enc p.2) ∧ ps.map (·.2) = xss
theorem RLs.mono {F F' : Heap} {v : Value} {xss : List (List Res)} (h : RLs F v xss) (hF : F.le F') : RLs F' v xss := by
 obtain ⟨ps, h1, h2, h3⟩ := h
 exact ⟨ps, h1.mono hF, fun p hp => (h2 p hp).mono hF, h3⟩
def AllR (F : Heap) (ps : List (Value × List Res)) : Prop := ∀ p ∈ ps, Sl F p.1 2 Res.enc p.2
theorem AllR.mono {F F' : Heap} {ps : List (Value × List Res)} (h : AllR F ps) (hF : F.le F') : AllR F' ps := fun p hp => (h p hp).mono hF
theorem AllN.one {F : Heap} {ps : List (Value × List Nat)} (h : AllN F ps) : ∀ x ∈ ps, ∀ u ∈ slE x, u.oneCell' = true := fun x hx u hu => by
 simp only [slE, List.mem_cons, List.not_mem_nil, or_false] at hu
 subst hu; exact (h x hx).plain.one
end Go.Proofs.Ytaikojfonleccaa
namespace Go.Proofs.Ytaikojfonleccaa
open Go.RowKit
theorem bd_46 : Body Try.prog 46 := Bt (by kernel_rfl)
theorem bd_92 : Body Try.prog 92 := Bt (by kernel_rfl)
set_option maxRecDepth 100000 in
theorem refCatalogue_ok {F : Heap} {vs vb vl vn vd : Value} {s : Sale} (hr : SaleR F vs vb vl vn vd s) {ve : Value} {l : List Ent} (he : Sl F ve 4 Ent.enc l) : Ok Try.prog 46 [.agg #[vs, .int .i64 s.premium, .int .i64 s.fee, .int .i64 s.days, vb, vl, vn, vd], ve].toArray F fun u _ => u = .int .i64 (catE s l) := by
 refine Ok.intro Try.func46 rfl Try.ntmps46 rfl fun w0 => ?_
 have hL1 := hr.lots.plain.lt
 have hL2 := he.plain.lt
 refine Ag <| Ai fun ds => Bn rfl (Cf (Ak rfl) rfl fun b1 hb1 nb1 => ?_)
 refine Aa rfl (Ae Ac) ?_
 refine Ah <| Ad <| Ag <| Ag <| Ai fun ds => Aa rfl (Ae Ac) ?_
 refine Ah <| Ad <| A4 <| Bz [4, 5, 6, 7, 8, 9, 10, 11, 12, 13, 14, 15, 16, 17, 18, 19, 20, 21, 22, 23, 24, 25, 26, 27, 28, 29, 30, 31, 32, 33, 34, 35, 36, 37, 38, 39, 40, 41, 42, 43, 44, 45, 46, 47, 48, 49, 50, 51, 52, 53, 54, 55] (fun m e σ => ∃ k : Nat, m + k = l.length ∧ e 5 = .int .i64 (k : Int) ∧ σ = ⟨F, [(b1, bx 27 [vs, .int .i64 s.premium, .int .i64 s.fee, .int .i64 s.days, vb, vl, vn, vd])]⟩ ∧ ∀ j, j < k → entErr s l j = 0) (l.length) ?_ ?_
 · exact ⟨0, by omega, (Ab), rfl, fun j h => absurd h (by omega)⟩
 ·
  rintro m e _ ⟨k, hm, hs5, rfl, hno⟩
  by_cases hlt : k < l.length
  ·
   refine Ag <| Ag <| Ai fun ds => Aa rfl (Af (As rfl hs5)) ?_
   refine Aa rfl (Af (Al rfl <| Ap rfl <| Ao rfl <| Al rfl <| Ak rfl)) ?_
   refine Aa rfl (Bg Cv (Ab) he.plain) ?_
   refine Aa rfl (Bs (Ao rfl <| Ab) (Ab)) ?_
   refine Ah <| Ad <| Ar (Ab) (by first | rfl | exact decide_eq_true (by omega)) ?_
   by_cases h1 : inB 0 (s.lots.length - 1) l[k].lot = true
   ·
    refine Aw <| Ad <| Ag <| A4 <| Ag <| Ai fun ds => Aa rfl (Af (Az rfl <| Ap rfl <| Ao rfl <| Al rfl <| Ak rfl)) ?_
    refine Aa rfl (Af (Az rfl <| Al rfl <| As rfl hs5)) ?_
    refine Aa rfl (Bj  Cv (Al rfl <| Ab) he.plain (Ab) rfl hlt) ?_
    refine Aa rfl (Bh Eg (Ab) rfl rfl (he.whole hlt)) ?_
    refine Bn rfl (B6 E7 rfl fun b3 hb3 nb3 => ?_)
    refine Cl (B5 sz_60 (Ab) (Al rfl <| Ab) (i := 0) rfl rfl rfl rfl Ent.enc_one (.here) ?_)
    refine Ah <| Ad <| Ag <| Ag <| Ai fun ds => Aa rfl (Aj Fc (Ab)) ?_
    refine Aa rfl (Aq Bi (Ab) (Cell.own 0 rfl rfl)) ?_
    refine Aa rfl (Aj Cu (Ba rfl <| Ao rfl <| Al rfl <| Ap rfl <| Ao rfl <| Ab)) ?_
    refine Aa rfl (Aq Db (Ab) (Cell.own 1 rfl rfl)) ?_
    refine Aa rfl (Bg Dd (Ab) hr.lots.plain) ?_
    refine Aa rfl (Cj (Ab) Ac rfl (by omega) (by omega)) ?_
    refine Bw rfl (Bc bd_62 A2 (.cons (Az rfl <| Ab) (.cons Ac (.cons (Ab) .nil))) (Dz _ _ _) (fun _ _ h => h)) ?_
    refine Aa rfl (Ct (Ab)) ?_
    refine Ah <| Ad <| Am (Ab) (by first | (rw [h1]; done) | (rw [h1]; rfl)) ?_
    by_cases hk0 : 0 < k
    ·
     have hk1 : k - 1 < l.length := by omega
     have hprev : ((l[k - 1]?).map (·.lot)).getD 0 = l[k - 1].lot := by rw [List.getElem?_eq_getElem hk1]; rfl
     refine Aw <| Ad <| Ag <| Ag <| Cb (.inl rfl) (fun _ _ h => h) (by kernel_rfl) (by kernel_rfl) fun ds => ?_
     refine A0 rfl (Af (A8 rfl <| Al rfl <| As rfl hs5)) ?_
     refine A0 rfl (Ck (Ab) Ac) ?_
     refine A0 rfl (Af (Ab)) ?_
     refine A1 rfl rfl (Ab) (decide_eq_true (by omega)) ?_
     refine A0 rfl (Aj Fc (Ba rfl <| Ao rfl <| Al rfl <| Ab)) ?_
     refine A1 rfl rfl (Al rfl <| Ab) (decide_eq_true (by omega)) ?_
     refine A0 rfl (Aq Bi (Ab) (Cell.own 0 rfl rfl)) ?_
     refine A1 rfl rfl (Ao rfl <| Ab) (decide_eq_true (by omega)) ?_
     refine A0 rfl (Af (A8 rfl <| Az rfl <| Ao rfl <| Ap rfl <| Ao rfl <| Al rfl <| Ak rfl)) ?_
     refine A1 rfl rfl (Ao rfl <| Al rfl <| Ab) (decide_eq_true (by omega)) ?_
     refine A0 rfl (Af (A8 rfl <| Az rfl <| Ao rfl <| Al rfl <| As rfl hs5)) ?_
     refine A1 rfl rfl (Az rfl <| Ab) (decide_eq_true (by omega)) ?_
     refine A0 rfl (Cj (Ab) Ac rfl (by omega) (by omega)) ?_
     refine A1 rfl rfl (Az rfl <| Al rfl <| Ab) (decide_eq_true (by omega)) ?_
     refine A0 rfl (Bj (k := k - 1) Cv (Ao rfl <| Ab) he.plain (Ab) (by omega) hk1) ?_
     refine A1 rfl rfl (Az rfl <| Ao rfl <| Ab) (decide_eq_true (by omega)) ?_
     refine A0 rfl (Bx Fc (Ab)) ?_
     refine A1 rfl rfl (Az rfl <| Ao rfl <| Al rfl <| Ab) (decide_eq_true (by omega)) ?_
     refine A0 rfl (Aq Bi (Ab) (he.cell hk1 rfl)) ?_
     refine A1 rfl rfl (Ba rfl <| Ab) (decide_eq_true (by omega)) ?_
     refine A0 rfl (Eh (Az rfl <| Ao rfl <| Ab) (Ab)) ?_
     refine A0 rfl (A3 (Ba rfl <| Al rfl <| Ab) (decide_eq_true (by omega)) (Ab)) ?_
     refine A0 rfl (Af (Ab)) ?_
     by_cases h2 : l[k].lot ≤ l[k - 1].lot
     ·
      refine Ax rfl rfl (Ab) (.inl (congrArg Value.bool (decide_eq_true h2))) rfl ?_
      refine Ax rfl rfl (Al rfl <| Ab) (.inl (congrArg Value.bool (decide_eq_true h2))) rfl ?_
      refine Ax rfl rfl (Ao rfl <| Ab) (.inl (congrArg Value.bool (decide_eq_true h2))) rfl ?_
      refine Ax rfl rfl (Ao rfl <| Al rfl <| Ab) (.inl (congrArg Value.bool (decide_eq_true h2))) rfl ?_
      refine Ax rfl rfl (Ab) (.inr rfl) rfl ?_
      refine Ax rfl rfl (Al rfl <| Ab) (.inr rfl) rfl ?_
      refine Ax rfl rfl (Ao rfl <| Ab) (.inr rfl) rfl ?_
      refine Ax rfl rfl (Ao rfl <| Al rfl <| Ab) (.inr rfl) rfl ?_
      refine Ax rfl rfl (Ba rfl <| Ab) (.inl (congrArg Value.bool (decide_eq_true h2))) rfl ?_
      refine A0 rfl (A3 (Ba rfl <| Al rfl <| Ab) (decide_eq_true h2) Ac) ?_
      refine B9 ?_
      refine Ad <| Ar (Ab) rfl ?_
      refine Ag <| Ai fun ds => Aa rfl (Ae Ac) ?_
      refine Ah <| Ad <| A9 <| A6 (Bd (A6 (A6 (Bd (A6 ?_)))))
      refine Ay rfl (.tmp (Ab) .nil) ?_
      show _ = _
      rw [catE_bad hlt hno (show entErr s l k = 2 by rw [Dt hlt, if_neg (by rw [h1]; decide), if_pos (.inl ⟨hk0, by rw [hprev]; exact h2⟩)]) (by decide)]; rfl
     ·
      have hA : ¬ (0 < k ∧ l[k].lot ≤ ((l[k - 1]?).map (·.lot)).getD 0) := fun h => h2 (by rw [← hprev]; exact h.2)
      refine A1 rfl rfl (Ab) (decide_eq_false h2) ?_
      refine A0 rfl (Aj fd_60_1 (A8 rfl <| Az rfl <| Ao rfl <| Ab)) ?_
      refine A1 rfl rfl (Al rfl <| Ab) (decide_eq_false h2) ?_
      refine A0 rfl (Aq one_4 (Ab) (Cell.own 0 rfl rfl)) ?_
      refine A1 rfl rfl (Ao rfl <| Ab) (decide_eq_false h2) ?_
      refine A0 rfl (Ct (Ab)) ?_
      refine A1 rfl rfl (Ao rfl <| Al rfl <| Ab) (decide_eq_false h2) ?_
      refine A0 rfl (Af (Ab)) ?_
      rcases Bool.eq_false_or_eq_true l[k].sold with h3 | h3
      ·
       have hB : ¬ (l[k].sold = false ∧ ¬ (l[k].lo = 0 ∧ l[k].hi = 0)) := fun h => by rw [h3] at h; exact absurd h.1 (by decide)
       refine Ax rfl rfl (Ab) (.inl (congrArg Value.bool (by first | (rw [h3]; done) | (rw [h3]; rfl)))) rfl ?_
       refine Ax rfl rfl (Al rfl <| Ab) (.inl (congrArg Value.bool (by first | (rw [h3]; done) | (rw [h3]; rfl)))) rfl ?_
       refine Ax rfl rfl (Ao rfl <| Ab) (.inl (congrArg Value.bool (by first | (rw [h3]; done) | (rw [h3]; rfl)))) rfl ?_
       refine Ax rfl rfl (Ao rfl <| Al rfl <| Ab) (.inl (congrArg Value.bool (by first | (rw [h3]; done) | (rw [h3]; rfl)))) rfl ?_
       refine A1 rfl rfl (Ba rfl <| Ab) (decide_eq_false h2) ?_
       refine A0 rfl (A7 (Az rfl <| Ab) (by first | (rw [h3]; done) | (rw [h3]; rfl)) Ac) ?_
       refine A0 rfl (A7 (Ba rfl <| Al rfl <| Ab) (decide_eq_false h2) (Ab)) ?_
       refine B9 ?_
       refine Ad <| Am (Ab) rfl ?_
       by_cases hrg : rangeE l[k].lo l[k].hi 0 100000 = 0
       ·
        refine Aw <| Ad <| Ag <| Ai fun ds => Aa rfl (Aj Cd (Bl rfl <| Ab)) ?_
        refine Aa rfl (Bh (vs := [.int .i64 l[k].lo, .int .i64 l[k].hi]) agg_58 (Ab) rfl rfl (D5 0 rfl rfl)) ?_
        refine Bw rfl (Bc bd_92 A2 (.cons (Ab) (.cons Ac (.cons Ac .nil))) (range_ok _ _ _ _) (fun _ _ h => h)) ?_
        refine Aa rfl (Ae (Ab)) ?_
        refine Ah <| Ad <| Ag <| Ai fun ds => Aa rfl (Af (Ab)) ?_
        refine Aa rfl (B7 (Ab) Ac) ?_
        refine Ah <| Ad <| Am (Ab) (decide_eq_false (fun h => h hrg)) ?_
        refine Aw <| Bf <| Ad <| Cc (fun _ _ h => h.drop (.cons _ <| .cons_cons _ <| .refl _)) ?_
        refine Ai fun ds => Aa rfl (Af (Bl rfl <| Ba rfl <| Az rfl <| Ao rfl <| Al rfl <| As rfl hs5)) ?_
        refine Aa rfl (Bp (Ab) Ac rfl (by omega) (by omega)) ?_
        refine Aa rfl (Ae (Ab)) ?_
        refine Ah <| Ad ⟨_, m - 1, Off.eq (D1 rfl <| C3 rfl <| Eo rfl <| Be), by omega, ?_⟩
        refine ⟨k + 1, by omega, (Ab), rfl, fun j hjk => ?_⟩
        rcases Nat.lt_succ_iff_lt_or_eq.1 hjk with hjk | rfl
        · exact hno j hjk
        · rw [Cr hlt h1 hA hB]; exact hrg
       ·
        refine Aw <| Ad <| Ag <| Ai fun ds => Aa rfl (Aj Cd (Bl rfl <| Ab)) ?_
        refine Aa rfl (Bh (vs := [.int .i64 l[k].lo, .int .i64 l[k].hi]) agg_58 (Ab) rfl rfl (D5 0 rfl rfl)) ?_
        refine Bw rfl (Bc bd_92 A2 (.cons (Ab) (.cons Ac (.cons Ac .nil))) (range_ok _ _ _ _) (fun _ _ h => h)) ?_
        refine Aa rfl (Ae (Ab)) ?_
        refine Ah <| Ad <| Ag <| Ai fun ds => Aa rfl (Af (Ab)) ?_
        refine Aa rfl (B7 (Ab) Ac) ?_
        refine Ah <| Ad <| Ar (Ab) (decide_eq_true hrg) ?_
        refine Ag <| Ai fun ds => Aa rfl (Af (Ao rfl <| Ab)) ?_
        refine Aa rfl (Ae (Ab)) ?_
        refine Ah <| Ad <| A9 <| Bd (A6 (A6 (Bd (A6 ?_))))
        refine Ay rfl (.tmp (Ab) .nil) ?_
        show _ = _
        rw [catE_bad hlt hno (Cr hlt h1 hA hB) hrg]; rfl
      ·
       refine A1 rfl rfl (Ab) (by first | (rw [h3]; done) | (rw [h3]; rfl)) ?_
       refine A0 rfl (Aj Cd (A8 rfl <| Ba rfl <| Ao rfl <| Ab)) ?_
       refine A1 rfl rfl (Al rfl <| Ab) (by first | (rw [h3]; done) | (rw [h3]; rfl)) ?_
       refine A0 rfl (Bh (vs := [.int .i64 l[k].lo, .int .i64 l[k].hi]) agg_58 (Ab) rfl rfl (D5 0 rfl rfl)) ?_
       refine A1 rfl rfl (Ao rfl <| Ab) (by first | (rw [h3]; done) | (rw [h3]; rfl)) ?_
       refine A0 rfl (C0 bt_58 .nil .nil) ?_
       refine A1 rfl rfl (Ao rfl <| Al rfl <| Ab) (by first | (rw [h3]; done) | (rw [h3]; rfl)) ?_
       refine A0 rfl (q_neqZ2 Try.underlying58 stoodSp guardSp (by decide) (by decide) rfl rfl Try.underlying3 Try.underlying3 oneSp oneSp (Al rfl <| Ab) (Ab)) ?_
       refine A1 rfl rfl (Ba rfl <| Ab) (decide_eq_false h2) ?_
       refine A0 rfl (A3 (Az rfl <| Ab) (by first | (rw [h3]; done) | (rw [h3]; rfl)) (Ab)) ?_
       refine A0 rfl (A7 (Ba rfl <| Al rfl <| Ab) (decide_eq_false h2) (Ab)) ?_
       refine B9 ?_
       refine Ad ?_
       by_cases h4 : l[k].lo = 0 ∧ l[k].hi = 0
       ·
        have hB : ¬ (l[k].sold = false ∧ ¬ (l[k].lo = 0 ∧ l[k].hi = 0)) := fun h => h.2 h4
        refine Am (Ab) (by rw [Ff]; exact decide_eq_false (fun h => h h4)) ?_
        by_cases hrg : rangeE l[k].lo l[k].hi 0 100000 = 0
        ·
         refine Aw <| Ad <| Ag <| Ai fun ds => Aa rfl (Aj Cd (Bl rfl <| Ab)) ?_
         refine Aa rfl (Bh (vs := [.int .i64 l[k].lo, .int .i64 l[k].hi]) agg_58 (Ab) rfl rfl (D5 0 rfl rfl)) ?_
         refine Bw rfl (Bc bd_92 A2 (.cons (Ab) (.cons Ac (.cons Ac .nil))) (range_ok _ _ _ _) (fun _ _ h => h)) ?_
         refine Aa rfl (Ae (Ab)) ?_
         refine Ah <| Ad <| Ag <| Ai fun ds => Aa rfl (Af (Ab)) ?_
         refine Aa rfl (B7 (Ab) Ac) ?_
         refine Ah <| Ad <| Am (Ab) (decide_eq_false (fun h => h hrg)) ?_
         refine Aw <| Bf <| Ad <| Cc (fun _ _ h => h.drop (.cons _ <| .cons_cons _ <| .refl _)) ?_
         refine Ai fun ds => Aa rfl (Af (Bl rfl <| Ba rfl <| Az rfl <| Ao rfl <| Al rfl <| As rfl hs5)) ?_
         refine Aa rfl (Bp (Ab) Ac rfl (by omega) (by omega)) ?_
         refine Aa rfl (Ae (Ab)) ?_
         refine Ah <| Ad ⟨_, m - 1, Off.eq (D1 rfl <| C3 rfl <| Eo rfl <| Be), by omega, ?_⟩
         refine ⟨k + 1, by omega, (Ab), rfl, fun j hjk => ?_⟩
         rcases Nat.lt_succ_iff_lt_or_eq.1 hjk with hjk | rfl
         · exact hno j hjk
         · rw [Cr hlt h1 hA hB]; exact hrg
        ·
         refine Aw <| Ad <| Ag <| Ai fun ds => Aa rfl (Aj Cd (Bl rfl <| Ab)) ?_
         refine Aa rfl (Bh (vs := [.int .i64 l[k].lo, .int .i64 l[k].hi]) agg_58 (Ab) rfl rfl (D5 0 rfl rfl)) ?_
         refine Bw rfl (Bc bd_92 A2 (.cons (Ab) (.cons Ac (.cons Ac .nil))) (range_ok _ _ _ _) (fun _ _ h => h)) ?_
         refine Aa rfl (Ae (Ab)) ?_
         refine Ah <| Ad <| Ag <| Ai fun ds => Aa rfl (Af (Ab)) ?_
         refine Aa rfl (B7 (Ab) Ac) ?_
         refine Ah <| Ad <| Ar (Ab) (decide_eq_true hrg) ?_
         refine Ag <| Ai fun ds => Aa rfl (Af (Ao rfl <| Ab)) ?_
         refine Aa rfl (Ae (Ab)) ?_
         refine Ah <| Ad <| A9 <| Bd (A6 (A6 (Bd (A6 ?_))))
         refine Ay rfl (.tmp (Ab) .nil) ?_
         show _ = _
         rw [catE_bad hlt hno (Cr hlt h1 hA hB) hrg]; rfl
       ·
        refine Ar (Ab) (by rw [Ff]; exact decide_eq_true h4) ?_
        refine Ag <| Ai fun ds => Aa rfl (Ae Ac) ?_
        refine Ah <| Ad <| A9 <| A6 (Bd (A6 (A6 (Bd (A6 ?_)))))
        refine Ay rfl (.tmp (Ab) .nil) ?_
        show _ = _
        rw [catE_bad hlt hno (show entErr s l k = 2 by rw [Dt hlt, if_neg (by rw [h1]; decide), if_pos (.inr ⟨h3, h4⟩)]) (by decide)]; rfl
    ·
     have hA : ¬ (0 < k ∧ l[k].lot ≤ ((l[k - 1]?).map (·.lot)).getD 0) := fun h => hk0 h.1
     refine Aw <| Ad <| Ag <| Ag <| Cb (.inl rfl) (fun _ _ h => h) (by kernel_rfl) (by kernel_rfl) fun ds => ?_
     refine A0 rfl (Af (A8 rfl <| Al rfl <| As rfl hs5)) ?_
     refine A0 rfl (Ck (Ab) Ac) ?_
     refine A0 rfl (Af (Ab)) ?_
     refine Ax rfl rfl (Ab) (.inl (congrArg Value.bool (decide_eq_false (by omega)))) rfl ?_
     refine Ax rfl rfl (Al rfl <| Ab) (.inl (congrArg Value.bool (decide_eq_false (by omega)))) rfl ?_
     refine Ax rfl rfl (Ao rfl <| Ab) (.inl (congrArg Value.bool (decide_eq_false (by omega)))) rfl ?_
     refine Ax rfl rfl (Ao rfl <| Al rfl <| Ab) (.inl (congrArg Value.bool (decide_eq_false (by omega)))) rfl ?_
     refine Ax rfl rfl (Az rfl <| Ab) (.inl (congrArg Value.bool (decide_eq_false (by omega)))) rfl ?_
     refine Ax rfl rfl (Az rfl <| Al rfl <| Ab) (.inl (congrArg Value.bool (decide_eq_false (by omega)))) rfl ?_
     refine Ax rfl rfl (Az rfl <| Ao rfl <| Ab) (.inl (congrArg Value.bool (decide_eq_false (by omega)))) rfl ?_
     refine Ax rfl rfl (Az rfl <| Ao rfl <| Al rfl <| Ab) (.inl (congrArg Value.bool (decide_eq_false (by omega)))) rfl ?_
     refine Ax rfl rfl (Ba rfl <| Ab) (.inl (congrArg Value.bool (decide_eq_false (by omega)))) rfl ?_
     refine A0 rfl (A7 (Ba rfl <| Al rfl <| Ab) (decide_eq_false (by omega)) Ac) ?_
     refine A0 rfl (Af (Ab)) ?_
     refine A1 rfl rfl (Ab) rfl ?_
     refine A0 rfl (Aj fd_60_1 (A8 rfl <| Az rfl <| Ao rfl <| Ab)) ?_
     refine A1 rfl rfl (Al rfl <| Ab) rfl ?_
     refine A0 rfl (Aq one_4 (Ab) (Cell.own 0 rfl rfl)) ?_
     refine A1 rfl rfl (Ao rfl <| Ab) rfl ?_
     refine A0 rfl (Ct (Ab)) ?_
     refine A1 rfl rfl (Ao rfl <| Al rfl <| Ab) rfl ?_
     refine A0 rfl (Af (Ab)) ?_
     rcases Bool.eq_false_or_eq_true l[k].sold with h3 | h3
     ·
      have hB : ¬ (l[k].sold = false ∧ ¬ (l[k].lo = 0 ∧ l[k].hi = 0)) := fun h => by rw [h3] at h; exact absurd h.1 (by decide)
      refine Ax rfl rfl (Ab) (.inl (congrArg Value.bool (by first | (rw [h3]; done) | (rw [h3]; rfl)))) rfl ?_
      refine Ax rfl rfl (Al rfl <| Ab) (.inl (congrArg Value.bool (by first | (rw [h3]; done) | (rw [h3]; rfl)))) rfl ?_
      refine Ax rfl rfl (Ao rfl <| Ab) (.inl (congrArg Value.bool (by first | (rw [h3]; done) | (rw [h3]; rfl)))) rfl ?_
      refine Ax rfl rfl (Ao rfl <| Al rfl <| Ab) (.inl (congrArg Value.bool (by first | (rw [h3]; done) | (rw [h3]; rfl)))) rfl ?_
      refine A1 rfl rfl (Ba rfl <| Ab) rfl ?_
      refine A0 rfl (A7 (Az rfl <| Ab) (by first | (rw [h3]; done) | (rw [h3]; rfl)) Ac) ?_
      refine A0 rfl (A7 (Ba rfl <| Al rfl <| Ab) rfl (Ab)) ?_
      refine B9 ?_
      refine Ad <| Am (Ab) rfl ?_
      by_cases hrg : rangeE l[k].lo l[k].hi 0 100000 = 0
      ·
       refine Aw <| Ad <| Ag <| Ai fun ds => Aa rfl (Aj Cd (Bl rfl <| Ab)) ?_
       refine Aa rfl (Bh (vs := [.int .i64 l[k].lo, .int .i64 l[k].hi]) agg_58 (Ab) rfl rfl (D5 0 rfl rfl)) ?_
       refine Bw rfl (Bc bd_92 A2 (.cons (Ab) (.cons Ac (.cons Ac .nil))) (range_ok _ _ _ _) (fun _ _ h => h)) ?_
       refine Aa rfl (Ae (Ab)) ?_
       refine Ah <| Ad <| Ag <| Ai fun ds => Aa rfl (Af (Ab)) ?_
       refine Aa rfl (B7 (Ab) Ac) ?_
       refine Ah <| Ad <| Am (Ab) (decide_eq_false (fun h => h hrg)) ?_
       refine Aw <| Bf <| Ad <| Cc (fun _ _ h => h.drop (.cons _ <| .cons_cons _ <| .refl _)) ?_
       refine Ai fun ds => Aa rfl (Af (Bl rfl <| Ba rfl <| Az rfl <| Ao rfl <| Al rfl <| As rfl hs5)) ?_
       refine Aa rfl (Bp (Ab) Ac rfl (by omega) (by omega)) ?_
       refine Aa rfl (Ae (Ab)) ?_
       refine Ah <| Ad ⟨_, m - 1, Off.eq (D1 rfl <| C3 rfl <| Eo rfl <| Be), by omega, ?_⟩
       refine ⟨k + 1, by omega, (Ab), rfl, fun j hjk => ?_⟩
       rcases Nat.lt_succ_iff_lt_or_eq.1 hjk with hjk | rfl
       · exact hno j hjk
       · rw [Cr hlt h1 hA hB]; exact hrg
      ·
       refine Aw <| Ad <| Ag <| Ai fun ds => Aa rfl (Aj Cd (Bl rfl <| Ab)) ?_
       refine Aa rfl (Bh (vs := [.int .i64 l[k].lo, .int .i64 l[k].hi]) agg_58 (Ab) rfl rfl (D5 0 rfl rfl)) ?_
       refine Bw rfl (Bc bd_92 A2 (.cons (Ab) (.cons Ac (.cons Ac .nil))) (range_ok _ _ _ _) (fun _ _ h => h)) ?_
       refine Aa rfl (Ae (Ab)) ?_
       refine Ah <| Ad <| Ag <| Ai fun ds => Aa rfl (Af (Ab)) ?_
       refine Aa rfl (B7 (Ab) Ac) ?_
       refine Ah <| Ad <| Ar (Ab) (decide_eq_true hrg) ?_
       refine Ag <| Ai fun ds => Aa rfl (Af (Ao rfl <| Ab)) ?_
       refine Aa rfl (Ae (Ab)) ?_
       refine Ah <| Ad <| A9 <| Bd (A6 (A6 (Bd (A6 ?_))))
       refine Ay rfl (.tmp (Ab) .nil) ?_
       show _ = _
       rw [catE_bad hlt hno (Cr hlt h1 hA hB) hrg]; rfl
     ·
      refine A1 rfl rfl (Ab) (by first | (rw [h3]; done) | (rw [h3]; rfl)) ?_
      refine A0 rfl (Aj Cd (A8 rfl <| Ba rfl <| Ao rfl <| Ab)) ?_
      refine A1 rfl rfl (Al rfl <| Ab) (by first | (rw [h3]; done) | (rw [h3]; rfl)) ?_
      refine A0 rfl (Bh (vs := [.int .i64 l[k].lo, .int .i64 l[k].hi]) agg_58 (Ab) rfl rfl (D5 0 rfl rfl)) ?_
      refine A1 rfl rfl (Ao rfl <| Ab) (by first | (rw [h3]; done) | (rw [h3]; rfl)) ?_
      refine A0 rfl (C0 bt_58 .nil .nil) ?_
      refine A1 rfl rfl (Ao rfl <| Al rfl <| Ab) (by first | (rw [h3]; done) | (rw [h3]; rfl)) ?_
      refine A0 rfl (q_neqZ2 Try.underlying58 stoodSp guardSp (by decide) (by decide) rfl rfl Try.underlying3 Try.underlying3 oneSp oneSp (Al rfl <| Ab) (Ab)) ?_
      refine A1 rfl rfl (Ba rfl <| Ab) rfl ?_
      refine A0 rfl (A3 (Az rfl <| Ab) (by first | (rw [h3]; done) | (rw [h3]; rfl)) (Ab)) ?_
      refine A0 rfl (A7 (Ba rfl <| Al rfl <| Ab) rfl (Ab)) ?_
      refine B9 ?_
      refine Ad ?_
      by_cases h4 : l[k].lo = 0 ∧ l[k].hi = 0
      ·
       have hB : ¬ (l[k].sold = false ∧ ¬ (l[k].lo = 0 ∧ l[k].hi = 0)) := fun h => h.2 h4
       refine Am (Ab) (by rw [Ff]; exact decide_eq_false (fun h => h h4)) ?_
       by_cases hrg : rangeE l[k].lo l[k].hi 0 100000 = 0
       ·
        refine Aw <| Ad <| Ag <| Ai fun ds => Aa rfl (Aj Cd (Bl rfl <| Ab)) ?_
        refine Aa rfl (Bh (vs := [.int .i64 l[k].lo, .int .i64 l[k].hi]) agg_58 (Ab) rfl rfl (D5 0 rfl rfl)) ?_
        refine Bw rfl (Bc bd_92 A2 (.cons (Ab) (.cons Ac (.cons Ac .nil))) (range_ok _ _ _ _) (fun _ _ h => h)) ?_
        refine Aa rfl (Ae (Ab)) ?_
        refine Ah <| Ad <| Ag <| Ai fun ds => Aa rfl (Af (Ab)) ?_
        refine Aa rfl (B7 (Ab) Ac) ?_
        refine Ah <| Ad <| Am (Ab) (decide_eq_false (fun h => h hrg)) ?_
        refine Aw <| Bf <| Ad <| Cc (fun _ _ h => h.drop (.cons _ <| .cons_cons _ <| .refl _)) ?_
        refine Ai fun ds => Aa rfl (Af (Bl rfl <| Ba rfl <| Az rfl <| Ao rfl <| Al rfl <| As rfl hs5)) ?_
        refine Aa rfl (Bp (Ab) Ac rfl (by omega) (by omega)) ?_
        refine Aa rfl (Ae (Ab)) ?_
        refine Ah <| Ad ⟨_, m - 1, Off.eq (D1 rfl <| C3 rfl <| Eo rfl <| Be), by omega, ?_⟩
        refine ⟨k + 1, by omega, (Ab), rfl, fun j hjk => ?_⟩
        rcases Nat.lt_succ_iff_lt_or_eq.1 hjk with hjk | rfl
        · exact hno j hjk
        · rw [Cr hlt h1 hA hB]; exact hrg
       ·
        refine Aw <| Ad <| Ag <| Ai fun ds => Aa rfl (Aj Cd (Bl rfl <| Ab)) ?_
        refine Aa rfl (Bh (vs := [.int .i64 l[k].lo, .int .i64 l[k].hi]) agg_58 (Ab) rfl rfl (D5 0 rfl rfl)) ?_
        refine Bw rfl (Bc bd_92 A2 (.cons (Ab) (.cons Ac (.cons Ac .nil))) (range_ok _ _ _ _) (fun _ _ h => h)) ?_
        refine Aa rfl (Ae (Ab)) ?_
        refine Ah <| Ad <| Ag <| Ai fun ds => Aa rfl (Af (Ab)) ?_
        refine Aa rfl (B7 (Ab) Ac) ?_
        refine Ah <| Ad <| Ar (Ab) (decide_eq_true hrg) ?_
        refine Ag <| Ai fun ds => Aa rfl (Af (Ao rfl <| Ab)) ?_
        refine Aa rfl (Ae (Ab)) ?_
        refine Ah <| Ad <| A9 <| Bd (A6 (A6 (Bd (A6 ?_))))
        refine Ay rfl (.tmp (Ab) .nil) ?_
        show _ = _
        rw [catE_bad hlt hno (Cr hlt h1 hA hB) hrg]; rfl
      ·
       refine Ar (Ab) (by rw [Ff]; exact decide_eq_true h4) ?_
       refine Ag <| Ai fun ds => Aa rfl (Ae Ac) ?_
       refine Ah <| Ad <| A9 <| A6 (Bd (A6 (A6 (Bd (A6 ?_)))))
       refine Ay rfl (.tmp (Ab) .nil) ?_
       show _ = _
       rw [catE_bad hlt hno (show entErr s l k = 2 by rw [Dt hlt, if_neg (by rw [h1]; decide), if_pos (.inr ⟨h3, h4⟩)]) (by decide)]; rfl
   ·
    replace h1 : inB 0 (s.lots.length - 1) l[k].lot = false := by simpa using h1
    refine Aw <| Ad <| Ag <| A4 <| Ag <| Ai fun ds => Aa rfl (Af (Az rfl <| Ap rfl <| Ao rfl <| Al rfl <| Ak rfl)) ?_
    refine Aa rfl (Af (Az rfl <| Al rfl <| As rfl hs5)) ?_
    refine Aa rfl (Bj  Cv (Al rfl <| Ab) he.plain (Ab) rfl hlt) ?_
    refine Aa rfl (Bh Eg (Ab) rfl rfl (he.whole hlt)) ?_
    refine Bn rfl (B6 E7 rfl fun b4 hb4 nb4 => ?_)
    refine Cl (B5 sz_60 (Ab) (Al rfl <| Ab) (i := 0) rfl rfl rfl rfl Ent.enc_one (.here) ?_)
    refine Ah <| Ad <| Ag <| Ag <| Ai fun ds => Aa rfl (Aj Fc (Ab)) ?_
    refine Aa rfl (Aq Bi (Ab) (Cell.own 0 rfl rfl)) ?_
    refine Aa rfl (Aj Cu (Ba rfl <| Ao rfl <| Al rfl <| Ap rfl <| Ao rfl <| Ab)) ?_
    refine Aa rfl (Aq Db (Ab) (Cell.own 1 rfl rfl)) ?_
    refine Aa rfl (Bg Dd (Ab) hr.lots.plain) ?_
    refine Aa rfl (Cj (Ab) Ac rfl (by omega) (by omega)) ?_
    refine Bw rfl (Bc bd_62 A2 (.cons (Az rfl <| Ab) (.cons Ac (.cons (Ab) .nil))) (Dz _ _ _) (fun _ _ h => h)) ?_
    refine Aa rfl (Ct (Ab)) ?_
    refine Ah <| Ad <| Ar (Ab) (by first | (rw [h1]; done) | (rw [h1]; rfl)) ?_
    refine Ag <| Ai fun ds => Aa rfl (Ae Ac) ?_
    refine Ah <| Ad <| A9 <| A6 (Bd (A6 (A6 (Bd (A6 ?_)))))
    refine Ay rfl (.tmp (Ab) .nil) ?_
    show _ = _
    rw [catE_bad hlt hno (show entErr s l k = 4 by rw [Dt hlt, if_pos h1]) (by decide)]; rfl
  ·
   refine Ag <| Ag <| Ai fun ds => Aa rfl (Af (As rfl hs5)) ?_
   refine Aa rfl (Af (Al rfl <| Ap rfl <| Ao rfl <| Al rfl <| Ak rfl)) ?_
   refine Aa rfl (Bg Cv (Ab) he.plain) ?_
   refine Aa rfl (Bs (Ao rfl <| Ab) (Ab)) ?_
   refine Ah <| Ad <| Am (Ab) (by first | rfl | exact decide_eq_false (by omega)) ?_
   refine Bv ?_
   refine Bm <| Bm <| Bo <| Ad <| Ag <| Ai fun ds => Aa rfl (Ae Ac) ?_
   refine Ah <| Ad <| A9 <| Ay rfl (.tmp (Ab) .nil) ?_
   show _ = _
   rw [catE_ok fun j hj => hno j (by omega)]; rfl
end Go.Proofs.Ytaikojfonleccaa
namespace Go.Proofs.Ytaikojfonleccaa
open Go.RowKit
def stA : Stp := ⟨0, 5⟩
def stB : Stp := ⟨50, 10⟩
def ltA : Lot := ⟨⟨#[98, 105, 98, 108, 101]⟩, 0, 20, true⟩
def ltB : Lot := ⟨⟨#[97, 116, 108, 97, 115]⟩, 0, 48, false⟩
def ltC : Lot := ⟨⟨#[102, 97, 110]⟩, 0, 30, false⟩
def names4 : List ByteArray := [⟨#[97, 110, 110]⟩, ⟨#[98, 101, 110]⟩, ⟨#[99, 105, 100]⟩, ⟨#[100, 111, 116]⟩]
def names1 : List ByteArray := [⟨#[100, 117, 107, 101]⟩]
def bids6 : List Bid := [⟨0, 0, 62⟩, ⟨1, 0, 41⟩, ⟨2, 0, 55⟩, ⟨1, 1, 90⟩, ⟨3, 1, 70⟩, ⟨3, 2, 25⟩]
def saleX : Sale := ⟨[stA, stB], 100, 150, 14, names4, names1, [ltA, ltB, ltC], bids6⟩
def resX (p : Int) : List Res := [⟨0, p⟩, ⟨1, 73⟩, ⟨-1, 0⟩]
def back1 (d : Int) : List Back := [⟨0, d⟩]
def entX (l p : Int) : Ent := ⟨l, true, p, p⟩
def ent1 (l lo hi : Int) : Ent := ⟨l, true, lo, hi⟩
theorem ev_n1 : nextE saleX 50 = (60, 0) := by kernel_rfl
theorem ev_s1 : sellE saleX [] = (resX 60, 0) := by kernel_rfl
theorem ev_s2 : sellE saleX [0, 1, 2] = (resX 20, 0) := by kernel_rfl
theorem ev_a1 : accE saleX [1, 3] (back1 14) = ([0, 53, 0, 0], [41], 12, 0) := by kernel_rfl
theorem ev_a2 : accE saleX [1, 3] (back1 15) = ([], [], 0, 7) := by kernel_rfl
theorem ev_h1 : shareE saleX [0, 1, 2] = ([14, 13, 13], 0) := by kernel_rfl
theorem ev_r1 : ringsE saleX [entX 0 60, entX 1 48] = ([[1, 3], [0, 1, 3], [1, 2, 3]], 0) := by kernel_rfl
theorem ev_r2 : ringsE saleX [entX 2 30] = ([], 8) := by kernel_rfl
theorem ev_m1 : membersE saleX [ent1 0 20 50] = ([0, 2], [0, 1, 2, 3], 0) := by kernel_rfl
theorem ev_w1 : wrongE saleX [entX 0 45, entX 1 48, entX 2 30] = ([0, 2], 0) := by kernel_rfl
end Go.Proofs.Ytaikojfonleccaa
namespace Go.Proofs.Ytaikojfonleccaa
open Go.RowKit
theorem zr_27 : ZeroT Try.prog 27 (.agg #[.slice none 0 0, .int .i64 0, .int .i64 0, .int .i64 0, .slice none 0 0, .slice none 0 0, .slice none 0 0, .slice none 0 0]) := Dl (by kernel_rfl)
theorem bd_25 : Body Try.prog 25 := Bt (by kernel_rfl)
theorem bd_88 : Body Try.prog 88 := Bt (by kernel_rfl)
theorem bd_89 : Body Try.prog 89 := Bt (by kernel_rfl)
theorem bt_27 : BuildT Try.prog 27 [.slice none 0 0, .int .i64 0, .int .i64 0, .int .i64 0, .slice none 0 0, .slice none 0 0, .slice none 0 0, .slice none 0 0] [(0, 1), (1, 1), (2, 1), (3, 1), (4, 1), (5, 1), (6, 1), (7, 1)] := E4 zr_27 (by kernel_rfl) (by decide)
theorem bt_60 : BuildT Try.prog 60 [.int .i64 0, .bool false, .int .i64 0, .int .i64 0] [(0, 1), (1, 1), (2, 2)] := E4 E7 (by kernel_rfl) (by decide)
theorem bt_69 : BuildT Try.prog 69 [.string ⟨#[]⟩, .int .i64 0, .int .i64 0, .bool false] [(0, 1), (1, 1), (2, 1), (3, 1)] := E4 zr_69 (by kernel_rfl) (by decide)
theorem bt_72 : BuildT Try.prog 72 [.int .i64 0, .int .i64 0, .int .i64 0] [(0, 1), (1, 1), (2, 1)] := E4 zr_72 (by kernel_rfl) (by decide)
theorem bt_98 : BuildT Try.prog 98 [.int .i64 0, .int .i64 0] [(0, 1), (1, 1)] := E4 zr_98 (by kernel_rfl) (by decide)
theorem sz_27 : SizeT Try.prog 27 8 := Dw (by kernel_rfl)
theorem sz_58 : SizeT Try.prog 58 2 := Dw (by kernel_rfl)
set_option maxRecDepth 100000 in
theorem span_ok {F : Heap} (a b : Int) : Ok Try.prog 89 [.int .i64 a, .int .i64 b].toArray F fun r _ => r = .agg #[.int .i64 a, .int .i64 b] := by
 refine Ok.intro Try.func89 rfl Try.ntmps89 rfl fun w0 => ?_
 refine Ag <| Ai fun ds => Bn rfl (B6 zr_58 rfl fun b1 hb1 nb1 => ?_)
 refine Ah <| Ad <| Ag <| Ai fun ds => Aa rfl (Af (Al rfl <| Ak rfl)) ?_
 refine Aa rfl (Af (Ao rfl <| Ak rfl)) ?_
 refine Aa rfl (C0 bt_58 (.cons (Al rfl <| Ab) rfl (.cons (Ab) rfl .nil)) (.cons rfl rfl (Nat.le_of_ble_eq_true rfl) (.cons (.here) .nil) (.cons rfl rfl (Nat.le_of_ble_eq_true rfl) (.cons (.next <| .here) .nil) .nil))) ?_
 refine Cl (B5 sz_58 (Ao rfl <| Al rfl <| Ab) (Ab) (i := 0) rfl rfl rfl rfl (by simp [Value.oneCell']) (.here) ?_)
 refine Ah <| Ad <| A9 <| Ay rfl (.agg agg_58 (Ao rfl <| Al rfl <| Ab) rfl rfl (Bk 0 rfl) .nil) ?_
 rfl
set_option maxRecDepth 100000 in
theorem bid_ok {F : Heap} (a b c : Int) : Ok Try.prog 88 [.int .i64 a, .int .i64 b, .int .i64 c].toArray F fun r _ => r = .agg #[.int .i64 a, .int .i64 b, .int .i64 c] := by
 refine Ok.intro Try.func88 rfl Try.ntmps88 rfl fun w0 => ?_
 refine Ag <| Ai fun ds => Bn rfl (B6 zr_72 rfl fun b1 hb1 nb1 => ?_)
 refine Ah <| Ad <| Ag <| Ai fun ds => Aa rfl (Af (Al rfl <| Ak rfl)) ?_
 refine Aa rfl (Af (Ao rfl <| Ak rfl)) ?_
 refine Aa rfl (Af (Ao rfl <| Al rfl <| Ak rfl)) ?_
 refine Aa rfl (C0 bt_72 (.cons (Ao rfl <| Ab) rfl (.cons (Al rfl <| Ab) rfl (.cons (Ab) rfl .nil))) (.cons rfl rfl (Nat.le_of_ble_eq_true rfl) (.cons (.here) .nil) (.cons rfl rfl (Nat.le_of_ble_eq_true rfl) (.cons (.next <| .here) .nil) (.cons rfl rfl (Nat.le_of_ble_eq_true rfl) (.cons (.next <| .next <| .here) .nil) .nil)))) ?_
 refine Cl (B5 sz_72 (Az rfl <| Ab) (Ab) (i := 0) rfl rfl rfl rfl (by simp [Value.oneCell']) (.here) ?_)
 refine Ah <| Ad <| A9 <| Ay rfl (.agg agg_72 (Az rfl <| Ab) rfl rfl (Bk 0 rfl) .nil) ?_
 rfl
set_option maxRecDepth 100000 in
theorem result_ok {F : Heap} (a b : Int) : Ok Try.prog 37 [.int .i64 a, .int .i64 b].toArray F fun r _ => r = .agg #[.int .i64 a, .int .i64 b] := by
 refine Ok.intro Try.func37 rfl Try.ntmps37 rfl fun w0 => ?_
 refine Ag <| Ai fun ds => Bn rfl (B6 zr_63 rfl fun b1 hb1 nb1 => ?_)
 refine Ah <| Ad <| Ag <| Ai fun ds => Aa rfl (Af (Al rfl <| Ak rfl)) ?_
 refine Aa rfl (Af (Ao rfl <| Ak rfl)) ?_
 refine Aa rfl (C0 bt_63 (.cons (Al rfl <| Ab) rfl (.cons (Ab) rfl .nil)) (.cons rfl rfl (Nat.le_of_ble_eq_true rfl) (.cons (.here) .nil) (.cons rfl rfl (Nat.le_of_ble_eq_true rfl) (.cons (.next <| .here) .nil) .nil))) ?_
 refine Cl (B5 sz_63 (Ao rfl <| Al rfl <| Ab) (Ab) (i := 0) rfl rfl rfl rfl (by simp [Value.oneCell']) (.here) ?_)
 refine Ah <| Ad <| A9 <| Ay rfl (.agg Ez (Ao rfl <| Al rfl <| Ab) rfl rfl (Bk 0 rfl) .nil) ?_
 rfl
set_option maxRecDepth 100000 in
theorem Fq {F : Heap} (a b c : Int) : Ok Try.prog 36 [.int .i64 a, .int .i64 b, .int .i64 c].toArray F fun r _ => r = .agg #[.int .i64 a, .bool true, .int .i64 b, .int .i64 c] := by
 refine Ok.intro Try.func36 rfl Try.ntmps36 rfl fun w0 => ?_
 refine Ag <| Ai fun ds => Bn rfl (B6 E7 rfl fun b1 hb1 nb1 => ?_)
 refine Ah <| Ad <| Ag <| Ai fun ds => Aa rfl (Af (Al rfl <| Ak rfl)) ?_
 refine Aa rfl (Af (Ao rfl <| Ak rfl)) ?_
 refine Aa rfl (Af (Ao rfl <| Al rfl <| Ak rfl)) ?_
 refine Bw rfl (Bc bd_89 A2 (.cons (Al rfl <| Ab) (.cons (Ab) .nil)) (span_ok _ _) (fun _ _ h => h)) ?_
 refine Aa rfl (C0 bt_60 (.cons (Ao rfl <| Al rfl <| Ab) rfl (.cons Ac rfl (.cons (Ab) rfl .nil))) (.cons rfl rfl (Nat.le_of_ble_eq_true rfl) (.cons (.here) .nil) (.cons rfl rfl (Nat.le_of_ble_eq_true rfl) (.cons (.next <| .here) .nil) (.cons rfl rfl (Nat.le_of_ble_eq_true rfl) (.cons (.next <| .next <| .here) (.cons (.next <| .next <| .next <| .here) .nil)) .nil)))) ?_
 refine Cl (B5 sz_60 (Az rfl <| Al rfl <| Ab) (Ab) (i := 0) rfl rfl rfl rfl (by simp [Value.oneCell']) (.here) ?_)
 refine Ah <| Ad <| A9 <| Ay rfl (.agg Eg (Az rfl <| Al rfl <| Ab) rfl rfl (Bk 0 rfl) .nil) ?_
 rfl
theorem steps_box2 {F : Heap} {b T : Nat} (h : F b = some (bx T [.int .i64 0, .int .i64 5, .int .i64 50, .int .i64 10])) : Sl F (.slice (some ⟨b, 0, none⟩) 2 2) 2 Stp.enc ([stA, stB] : List Stp) :=
 D9 (xs := ([stA, stB] : List Stp)) h rfl rfl (fun _ => rfl) (by decide)
theorem strs_box4 {F : Heap} {b T : Nat} (h : F b = some (bx T [.string ⟨#[97, 110, 110]⟩, .string ⟨#[98, 101, 110]⟩, .string ⟨#[99, 105, 100]⟩, .string ⟨#[100, 111, 116]⟩])) : Sl F (.slice (some ⟨b, 0, none⟩) 4 4) 1 strE (names4 : List ByteArray) :=
 D9 (xs := (names4 : List ByteArray)) h rfl rfl (fun _ => rfl) (by decide)
theorem strs_box1 {F : Heap} {b T : Nat} (h : F b = some (bx T [.string ⟨#[100, 117, 107, 101]⟩])) : Sl F (.slice (some ⟨b, 0, none⟩) 1 1) 1 strE (names1 : List ByteArray) :=
 D9 (xs := (names1 : List ByteArray)) h rfl rfl (fun _ => rfl) (by decide)
theorem lots_box3 {F : Heap} {b T : Nat} (h : F b = some (bx T [.string ⟨#[98, 105, 98, 108, 101]⟩, .int .i64 0, .int .i64 20, .bool true, .string ⟨#[97, 116, 108, 97, 115]⟩, .int .i64 0, .int .i64 48, .bool false, .string ⟨#[102, 97, 110]⟩, .int .i64 0, .int .i64 30, .bool false])) : Sl F (.slice (some ⟨b, 0, none⟩) 3 3) 4 Lot.enc ([ltA, ltB, ltC] : List Lot) :=
 D9 (xs := ([ltA, ltB, ltC] : List Lot)) h rfl rfl (fun _ => rfl) (by decide)
theorem bids_box6 {F : Heap} {b T : Nat} (h : F b = some (bx T [.int .i64 0, .int .i64 0, .int .i64 62, .int .i64 1, .int .i64 0, .int .i64 41, .int .i64 2, .int .i64 0, .int .i64 55, .int .i64 1, .int .i64 1, .int .i64 90, .int .i64 3, .int .i64 1, .int .i64 70, .int .i64 3, .int .i64 2, .int .i64 25])) : Sl F (.slice (some ⟨b, 0, none⟩) 6 6) 3 Bid.enc (bids6 : List Bid) :=
 D9 (xs := (bids6 : List Bid)) h rfl rfl (fun _ => rfl) (by decide)
set_option maxRecDepth 100000 in
theorem sale_ok {F : Heap} : Ok Try.prog 35 [].toArray F fun u F' => ∃ vs vb vl vn vd, u = .agg #[vs, .int .i64 100, .int .i64 150, .int .i64 14, vb, vl, vn, vd] ∧ SaleR F' vs vb vl vn vd saleX := by
 refine Ok.intro Try.func35 rfl Try.ntmps35 rfl fun w0 => ?_
 refine Ag <| Ai fun ds => Bn rfl (B6 zr_27 rfl fun b1 hb1 nb1 => ?_)
 refine Ah <| Ad <| Ag <| Ai fun ds => Aa rfl (C0 bt_98 (.cons Ac rfl (.cons Ac rfl .nil)) (.cons rfl rfl (Nat.le_of_ble_eq_true rfl) (.cons (.here) .nil) (.cons rfl rfl (Nat.le_of_ble_eq_true rfl) (.cons (.next <| .here) .nil) .nil))) ?_
 refine Aa rfl (C0 bt_98 (.cons Ac rfl (.cons Ac rfl .nil)) (.cons rfl rfl (Nat.le_of_ble_eq_true rfl) (.cons (.here) .nil) (.cons rfl rfl (Nat.le_of_ble_eq_true rfl) (.cons (.next <| .here) .nil) .nil))) ?_
 refine Bn rfl (C9 (offs := [(0, 2), (2, 2)]) (zl := [.int .i64 0, .int .i64 0, .int .i64 0, .int .i64 0]) Dv zr_98 rfl (.cons (Al rfl <| Ab) rfl (.cons (Ab) rfl .nil)) (by intro i p h; rcases i with _ | _ | i <;> simp at h <;> subst h <;> rfl) (.cons rfl rfl (Nat.le_of_ble_eq_true rfl) (.cons (.here) (.cons (.next <| .here) .nil)) (.cons rfl rfl (Nat.le_of_ble_eq_true rfl) (.cons (.next <| .next <| .here) (.cons (.next <| .next <| .next <| .here) .nil)) .nil)) (by decide) (by decide) fun b2 hb2 nb2 => ?_)
 refine Bu (i := 0) rfl hb2 .here fun F3 hF4 hz5 => ?_
 have hsl6 := steps_box2 hz5
 refine Bn rfl (B0 Cx zr_9 rfl (.cons Ac (.cons Ac (.cons Ac (.cons Ac .nil)))) rfl rfl (by decide) (by simp [Value.oneCell']) fun b7 hb7 nb7 => ?_)
 refine Bu (i := 0) rfl hb7 .here fun F8 hF9 hz10 => ?_
 replace hsl6 := hsl6.mono hF9
 have hsl11 := strs_box4 hz10
 refine Bn rfl (B0 Cx zr_9 rfl (.cons Ac .nil) rfl rfl (by decide) (by simp [Value.oneCell']) fun b12 hb12 nb12 => ?_)
 refine Bu (i := 0) rfl hb12 .here fun F13 hF14 hz15 => ?_
 replace hsl6 := hsl6.mono hF14
 replace hsl11 := hsl11.mono hF14
 have hsl16 := strs_box1 hz15
 refine Aa rfl (C0 bt_69 (.cons Ac rfl (.cons Ac rfl (.cons Ac rfl .nil))) (.cons rfl rfl (Nat.le_of_ble_eq_true rfl) (.cons (.here) .nil) (.cons rfl rfl (Nat.le_of_ble_eq_true rfl) (.cons (.next <| .next <| .here) .nil) (.cons rfl rfl (Nat.le_of_ble_eq_true rfl) (.cons (.next <| .next <| .next <| .here) .nil) .nil)))) ?_
 refine Aa rfl (C0 bt_69 (.cons Ac rfl (.cons Ac rfl .nil)) (.cons rfl rfl (Nat.le_of_ble_eq_true rfl) (.cons (.here) .nil) (.cons rfl rfl (Nat.le_of_ble_eq_true rfl) (.cons (.next <| .next <| .here) .nil) .nil))) ?_
 refine Aa rfl (C0 bt_69 (.cons Ac rfl (.cons Ac rfl .nil)) (.cons rfl rfl (Nat.le_of_ble_eq_true rfl) (.cons (.here) .nil) (.cons rfl rfl (Nat.le_of_ble_eq_true rfl) (.cons (.next <| .next <| .here) .nil) .nil))) ?_
 refine Bn rfl (C9 (offs := [(0, 4), (4, 4), (8, 4)]) (zl := [.string ⟨#[]⟩, .int .i64 0, .int .i64 0, .bool false, .string ⟨#[]⟩, .int .i64 0, .int .i64 0, .bool false, .string ⟨#[]⟩, .int .i64 0, .int .i64 0, .bool false]) Dd zr_69 rfl (.cons (Ao rfl <| Ab) rfl (.cons (Al rfl <| Ab) rfl (.cons (Ab) rfl .nil))) (by intro i p h; rcases i with _ | _ | _ | i <;> simp at h <;> subst h <;> rfl) (.cons rfl rfl (Nat.le_of_ble_eq_true rfl) (.cons (.here) (.cons (.next <| .here) (.cons (.next <| .next <| .here) (.cons (.next <| .next <| .next <| .here) .nil)))) (.cons rfl rfl (Nat.le_of_ble_eq_true rfl) (.cons (.next <| .next <| .next <| .next <| .here) (.cons (.next <| .next <| .next <| .next <| .next <| .here) (.cons (.next <| .next <| .next <| .next <| .next <| .next <| .here) (.cons (.next <| .next <| .next <| .next <| .next <| .next <| .next <| .here) .nil)))) (.cons rfl rfl (Nat.le_of_ble_eq_true rfl) (.cons (.next <| .next <| .next <| .next <| .next <| .next <| .next <| .next <| .here) (.cons (.next <| .next <| .next <| .next <| .next <| .next <| .next <| .next <| .next <| .here) (.cons (.next <| .next <| .next <| .next <| .next <| .next <| .next <| .next <| .next <| .next <| .here) (.cons (.next <| .next <| .next <| .next <| .next <| .next <| .next <| .next <| .next <| .next <| .next <| .here) .nil)))) .nil))) (by decide) (by decide) fun b17 hb17 nb17 => ?_)
 refine Bu (i := 0) rfl hb17 .here fun F18 hF19 hz20 => ?_
 replace hsl6 := hsl6.mono hF19
 replace hsl11 := hsl11.mono hF19
 replace hsl16 := hsl16.mono hF19
 have hsl21 := lots_box3 hz20
 refine Bw rfl (Bc bd_88 A2 (.cons Ac (.cons Ac (.cons Ac .nil))) (bid_ok _ _ _) (fun _ _ h => h)) ?_
 refine Bw rfl (Bc bd_88 A2 (.cons Ac (.cons Ac (.cons Ac .nil))) (bid_ok _ _ _) (fun _ _ h => h)) ?_
 refine Bw rfl (Bc bd_88 A2 (.cons Ac (.cons Ac (.cons Ac .nil))) (bid_ok _ _ _) (fun _ _ h => h)) ?_
 refine Bw rfl (Bc bd_88 A2 (.cons Ac (.cons Ac (.cons Ac .nil))) (bid_ok _ _ _) (fun _ _ h => h)) ?_
 refine Bw rfl (Bc bd_88 A2 (.cons Ac (.cons Ac (.cons Ac .nil))) (bid_ok _ _ _) (fun _ _ h => h)) ?_
 refine Bw rfl (Bc bd_88 A2 (.cons Ac (.cons Ac (.cons Ac .nil))) (bid_ok _ _ _) (fun _ _ h => h)) ?_
 refine Bn rfl (C9 (offs := [(0, 3), (3, 3), (6, 3), (9, 3), (12, 3), (15, 3)]) (zl := [.int .i64 0, .int .i64 0, .int .i64 0, .int .i64 0, .int .i64 0, .int .i64 0, .int .i64 0, .int .i64 0, .int .i64 0, .int .i64 0, .int .i64 0, .int .i64 0, .int .i64 0, .int .i64 0, .int .i64 0, .int .i64 0, .int .i64 0, .int .i64 0]) Dm zr_72 rfl (.cons (Az rfl <| Al rfl <| Ab) rfl (.cons (Az rfl <| Ab) rfl (.cons (Ao rfl <| Al rfl <| Ab) rfl (.cons (Ao rfl <| Ab) rfl (.cons (Al rfl <| Ab) rfl (.cons (Ab) rfl .nil)))))) (by intro i p h; rcases i with _ | _ | _ | _ | _ | _ | i <;> simp at h <;> subst h <;> rfl) (.cons rfl rfl (Nat.le_of_ble_eq_true rfl) (.cons (.here) (.cons (.next <| .here) (.cons (.next <| .next <| .here) .nil))) (.cons rfl rfl (Nat.le_of_ble_eq_true rfl) (.cons (.next <| .next <| .next <| .here) (.cons (.next <| .next <| .next <| .next <| .here) (.cons (.next <| .next <| .next <| .next <| .next <| .here) .nil))) (.cons rfl rfl (Nat.le_of_ble_eq_true rfl) (.cons (.next <| .next <| .next <| .next <| .next <| .next <| .here) (.cons (.next <| .next <| .next <| .next <| .next <| .next <| .next <| .here) (.cons (.next <| .next <| .next <| .next <| .next <| .next <| .next <| .next <| .here) .nil))) (.cons rfl rfl (Nat.le_of_ble_eq_true rfl) (.cons (.next <| .next <| .next <| .next <| .next <| .next <| .next <| .next <| .next <| .here) (.cons (.next <| .next <| .next <| .next <| .next <| .next <| .next <| .next <| .next <| .next <| .here) (.cons (.next <| .next <| .next <| .next <| .next <| .next <| .next <| .next <| .next <| .next <| .next <| .here) .nil))) (.cons rfl rfl (Nat.le_of_ble_eq_true rfl) (.cons (.next <| .next <| .next <| .next <| .next <| .next <| .next <| .next <| .next <| .next <| .next <| .next <| .here) (.cons (.next <| .next <| .next <| .next <| .next <| .next <| .next <| .next <| .next <| .next <| .next <| .next <| .next <| .here) (.cons (.next <| .next <| .next <| .next <| .next <| .next <| .next <| .next <| .next <| .next <| .next <| .next <| .next <| .next <| .here) .nil))) (.cons rfl rfl (Nat.le_of_ble_eq_true rfl) (.cons (.next <| .next <| .next <| .next <| .next <| .next <| .next <| .next <| .next <| .next <| .next <| .next <| .next <| .next <| .next <| .here) (.cons (.next <| .next <| .next <| .next <| .next <| .next <| .next <| .next <| .next <| .next <| .next <| .next <| .next <| .next <| .next <| .next <| .here) (.cons (.next <| .next <| .next <| .next <| .next <| .next <| .next <| .next <| .next <| .next <| .next <| .next <| .next <| .next <| .next <| .next <| .next <| .here) .nil))) .nil)))))) (by decide) (by decide) fun b22 hb22 nb22 => ?_)
 refine Bu (i := 0) rfl hb22 .here fun F23 hF24 hz25 => ?_
 replace hsl6 := hsl6.mono hF24
 replace hsl11 := hsl11.mono hF24
 replace hsl16 := hsl16.mono hF24
 replace hsl21 := hsl21.mono hF24
 have hsl26 := bids_box6 hz25
 refine Aa rfl (C0 bt_27 (.cons (Ba rfl <| Az rfl <| Al rfl <| Ab) rfl (.cons Ac rfl (.cons Ac rfl (.cons Ac rfl (.cons (Ba rfl <| Az rfl <| Ab) rfl (.cons (Ba rfl <| Ao rfl <| Al rfl <| Ab) rfl (.cons (Az rfl <| Ao rfl <| Al rfl <| Ab) rfl (.cons (Ab) rfl .nil)))))))) (.cons rfl rfl (Nat.le_of_ble_eq_true rfl) (.cons (.here) .nil) (.cons rfl rfl (Nat.le_of_ble_eq_true rfl) (.cons (.next <| .here) .nil) (.cons rfl rfl (Nat.le_of_ble_eq_true rfl) (.cons (.next <| .next <| .here) .nil) (.cons rfl rfl (Nat.le_of_ble_eq_true rfl) (.cons (.next <| .next <| .next <| .here) .nil) (.cons rfl rfl (Nat.le_of_ble_eq_true rfl) (.cons (.next <| .next <| .next <| .next <| .here) .nil) (.cons rfl rfl (Nat.le_of_ble_eq_true rfl) (.cons (.next <| .next <| .next <| .next <| .next <| .here) .nil) (.cons rfl rfl (Nat.le_of_ble_eq_true rfl) (.cons (.next <| .next <| .next <| .next <| .next <| .next <| .here) .nil) (.cons rfl rfl (Nat.le_of_ble_eq_true rfl) (.cons (.next <| .next <| .next <| .next <| .next <| .next <| .next <| .here) .nil) .nil))))))))) ?_
 refine Cl (B5 sz_27 (A8 rfl <| Al rfl <| Ab) (Ab) (i := 0) rfl rfl rfl rfl (by simp [Value.oneCell']) (.here) ?_)
 refine Ah <| Ad <| A9 <| Ay rfl (.agg Ca (A8 rfl <| Al rfl <| Ab) rfl rfl (Bk 0 rfl) .nil) ?_
 exact ⟨_, _, _, _, _, rfl, ⟨hsl6, hsl11, hsl16, hsl21, hsl26⟩⟩
theorem nats_eq {xs ys : List Nat} : decide (xs.map (fun (n : Nat) => (n : Int)) = ys.map (fun (n : Nat) => (n : Int))) = decide (xs = ys) := by
 congr 1
 rw [eq_iff_iff]
 refine ⟨fun h => ?_, fun h => by rw [h]⟩
 have := congrArg (List.map Int.toNat) h
 rwa [idx_map, idx_map] at this
theorem refInts_nat {F : Heap} {v u : Value} {xs ys : List Nat} (hx : Nats F v xs) (hy : Nats F u ys) : Ok Try.prog 25 [v, u].toArray F fun r _ => r = .bool (decide (xs = ys)) :=
 (refInts_ok hx.ints hy.ints).mono fun r _ _ h => by rw [h, nats_eq]
theorem snd_take {ps qs : List (Value × List Nat)} {k : Nat} (h1 : k < ps.length) (h2 : k < qs.length) (ht : (ps.map (·.2)).take k = (qs.map (·.2)).take k) (he : ps[k].2 = qs[k].2) : (ps.map (·.2)).take (k + 1) = (qs.map (·.2)).take (k + 1) := by
 rw [List.take_succ_eq_append_getElem (by simpa using h1), List.take_succ_eq_append_getElem (by simpa using h2), ht]; simp [he]
theorem snd_ne {ps qs : List (Value × List Nat)} {k : Nat} (h1 : k < ps.length) (h2 : k < qs.length) (he : ps[k].2 ≠ qs[k].2) : ps.map (·.2) ≠ qs.map (·.2) := fun h => by
 apply he
 have := congrArg (fun z => z[k]?) h
 simpa [List.getElem?_eq_getElem h1, List.getElem?_eq_getElem h2] using this
set_option maxRecDepth 100000 in
theorem alike_ok {F : Heap} {v u : Value} {xs ys : List (List Nat)} (hx : Lsts F v xs) (hy : Lsts F u ys) : Ok Try.prog 30 [v, u].toArray F fun r _ => r = .bool (decide (xs = ys)) := by
 obtain ⟨ps, hxs, hpa, hpm⟩ := hx
 replace hpa : AllN _ ps := hpa
 obtain ⟨qs, hys, hqa, hqm⟩ := hy
 replace hqa : AllN _ qs := hqa
 refine Ok.intro Try.func30 rfl Try.ntmps30 rfl fun w0 => ?_
 have hlen := hxs.plain.lt
 have hlen2 := hys.plain.lt
 by_cases hll : ps.length = qs.length
 ·
  refine Ag <| Ai fun ds => Aa rfl (Ae Ac) ?_
  refine Ah <| Ad <| Ag <| Ag <| Ai fun ds => Aa rfl (Af (Al rfl <| Ak rfl)) ?_
  refine Aa rfl (Bg Fg (Ab) hxs.plain) ?_
  refine Aa rfl (Af (Ao rfl <| Al rfl <| Ak rfl)) ?_
  refine Aa rfl (Bg Fg (Ab) hys.plain) ?_
  refine Aa rfl (B7 (Ao rfl <| Ab) (Ab)) ?_
  refine Ah <| Ad <| Am (Ab) (decide_eq_false (by omega)) ?_
  refine Aw <| Ad <| Ag <| Ag <| Ai fun ds => Aa rfl (Ae Ac) ?_
  refine Ah <| Ad <| A4 <| Bz [4, 5, 11, 12, 13, 14, 15, 16, 17, 18, 19, 20, 21, 22, 23, 24, 25, 26] (fun m e σ => ∃ k : Nat, m + k = ps.length ∧ e 5 = .int .i64 (k : Int) ∧ σ = ⟨F, []⟩ ∧ (ps.map (·.2)).take k = (qs.map (·.2)).take k) (ps.length) ?_ ?_
  · exact ⟨0, by omega, (Ab), rfl, rfl⟩
  ·
   rintro m e _ ⟨k, hm, hs5, rfl, htk⟩
   by_cases hlt : k < ps.length
   ·
    have hlt2 : k < qs.length := by omega
    have hxl : Nats _ _ _ := hpa _ (List.getElem_mem hlt)
    have hyl : Nats _ _ _ := hqa _ (List.getElem_mem hlt2)
    refine Ag <| Ag <| Ai fun ds => Aa rfl (Af (As rfl hs5)) ?_
    refine Aa rfl (Af (Al rfl <| Ap rfl <| Az rfl <| Ao rfl <| Al rfl <| Ak rfl)) ?_
    refine Aa rfl (Bg Fg (Ab) hxs.plain) ?_
    refine Aa rfl (Bs (Ao rfl <| Ab) (Ab)) ?_
    refine Ah <| Ad <| Ar (Ab) (by first | rfl | exact decide_eq_true (by omega)) ?_
    by_cases hne : ps[k].2 = qs[k].2
    ·
     refine Aw <| Ad <| Ag <| A4 <| Ag <| Cb (.inl rfl) (fun _ _ h => h) (by kernel_rfl) (by kernel_rfl) fun ds => ?_
     refine A0 rfl (Af (Az rfl <| Ap rfl <| Az rfl <| Ao rfl <| Al rfl <| Ak rfl)) ?_
     refine A0 rfl (Af (Az rfl <| Al rfl <| As rfl hs5)) ?_
     refine A0 rfl (Bj  Fg (Al rfl <| Ab) hxs.plain (Ab) rfl hlt) ?_
     refine A0 rfl (Aq one_28 (Ab) (hxs.cell1 hlt rfl)) ?_
     refine A0 rfl (Af (Ba rfl <| Ap rfl <| Az rfl <| Ao rfl <| Al rfl <| Ak rfl)) ?_
     refine A0 rfl (Af (Ba rfl <| Al rfl <| As rfl hs5)) ?_
     refine A0 rfl (Bj  Fg (Al rfl <| Ab) hys.plain (Ab) rfl hlt2) ?_
     refine A0 rfl (Aq one_28 (Ab) (hys.cell1 hlt2 rfl)) ?_
     refine WQ_c rfl (Bc bd_25 A2 (.cons (Az rfl <| Ab) (.cons (Ab) .nil)) (refInts_nat hxl hyl) (fun _ _ h => h)) ?_
     refine A0 rfl (Ct (Ab)) ?_
     refine B9 ?_
     refine Ad <| Am (Ab) (by simp [hne]) ?_
     refine Aw <| Bf <| Ad <| Ai fun ds => Aa rfl (Af (Ba rfl <| Az rfl <| Ao rfl <| As rfl hs5)) ?_
     refine Aa rfl (Bp (Ab) Ac rfl (by omega) (by omega)) ?_
     refine Aa rfl (Ae (Ab)) ?_
     refine Ah <| Ad ⟨_, m - 1, Off.eq (C3 rfl <| El rfl <| Be), by omega, ?_⟩
     exact ⟨k + 1, by omega, (Ab), rfl, snd_take hlt hlt2 htk hne⟩
    ·
     refine Aw <| Ad <| Ag <| A4 <| Ag <| Cb (.inl rfl) (fun _ _ h => h) (by kernel_rfl) (by kernel_rfl) fun ds => ?_
     refine A0 rfl (Af (Az rfl <| Ap rfl <| Az rfl <| Ao rfl <| Al rfl <| Ak rfl)) ?_
     refine A0 rfl (Af (Az rfl <| Al rfl <| As rfl hs5)) ?_
     refine A0 rfl (Bj  Fg (Al rfl <| Ab) hxs.plain (Ab) rfl hlt) ?_
     refine A0 rfl (Aq one_28 (Ab) (hxs.cell1 hlt rfl)) ?_
     refine A0 rfl (Af (Ba rfl <| Ap rfl <| Az rfl <| Ao rfl <| Al rfl <| Ak rfl)) ?_
     refine A0 rfl (Af (Ba rfl <| Al rfl <| As rfl hs5)) ?_
     refine A0 rfl (Bj  Fg (Al rfl <| Ab) hys.plain (Ab) rfl hlt2) ?_
     refine A0 rfl (Aq one_28 (Ab) (hys.cell1 hlt2 rfl)) ?_
     refine WQ_c rfl (Bc bd_25 A2 (.cons (Az rfl <| Ab) (.cons (Ab) .nil)) (refInts_nat hxl hyl) (fun _ _ h => h)) ?_
     refine A0 rfl (Ct (Ab)) ?_
     refine B9 ?_
     refine Ad <| Ar (Ab) (by simp [hne]) ?_
     refine Ag <| Ai fun ds => Aa rfl (Ae Ac) ?_
     refine Ah <| Ad <| A9 <| Bd (A6 (A6 (Bd (A6 ?_))))
     refine Ay rfl (.tmp (Ab) .nil) ?_
     show _ = _
     rw [← hpm, ← hqm, decide_eq_false (snd_ne hlt hlt2 hne)]; rfl
   ·
    refine Ag <| Ag <| Ai fun ds => Aa rfl (Af (As rfl hs5)) ?_
    refine Aa rfl (Af (Al rfl <| Ap rfl <| Az rfl <| Ao rfl <| Al rfl <| Ak rfl)) ?_
    refine Aa rfl (Bg Fg (Ab) hxs.plain) ?_
    refine Aa rfl (Bs (Ao rfl <| Ab) (Ab)) ?_
    refine Ah <| Ad <| Am (Ab) (by first | rfl | exact decide_eq_false (by omega)) ?_
    obtain rfl : k = ps.length := by omega
    refine Bv ?_
    refine Bm <| Bm <| Bo <| Ad <| Ag <| Ai fun ds => Aa rfl (Ae Ac) ?_
    refine Ah <| Ad <| A9 <| Ay rfl (.tmp (Ab) .nil) ?_
    show _ = _
    have h9 : ps.map (·.2) = qs.map (·.2) := by rw [List.take_of_length_le (by simp), List.take_of_length_le (by simp [hll])] at htk; exact htk
    rw [← hpm, ← hqm, decide_eq_true h9]; rfl
 ·
  refine Ag <| Ai fun ds => Aa rfl (Ae Ac) ?_
  refine Ah <| Ad <| Ag <| Ag <| Ai fun ds => Aa rfl (Af (Al rfl <| Ak rfl)) ?_
  refine Aa rfl (Bg Fg (Ab) hxs.plain) ?_
  refine Aa rfl (Af (Ao rfl <| Al rfl <| Ak rfl)) ?_
  refine Aa rfl (Bg Fg (Ab) hys.plain) ?_
  refine Aa rfl (B7 (Ao rfl <| Ab) (Ab)) ?_
  refine Ah <| Ad <| Ar (Ab) (decide_eq_true (by omega)) ?_
  refine Ag <| Ai fun ds => Aa rfl (Ae Ac) ?_
  refine Ah <| Ad <| A9 <| A6 ?_
  refine Ay rfl (.tmp (Ab) .nil) ?_
  show _ = _
  rw [decide_eq_false (fun h : xs = ys => hll (by rw [← hpm, ← hqm] at h; simpa using congrArg List.length h))]; rfl
end Go.Proofs.Ytaikojfonleccaa
namespace Go.Proofs.Ytaikojfonleccaa
open Go.RowKit
theorem bd_17 : Body Try.prog 17 := Bt (by kernel_rfl)
theorem bd_19 : Body Try.prog 19 := Bt (by kernel_rfl)
theorem bd_21 : Body Try.prog 21 := Bt (by kernel_rfl)
theorem bd_23 : Body Try.prog 23 := Bt (by kernel_rfl)
theorem bd_26 : Body Try.prog 26 := Bt (by kernel_rfl)
theorem bd_30 : Body Try.prog 30 := Bt (by kernel_rfl)
theorem bd_31 : Body Try.prog 31 := Bt (by kernel_rfl)
theorem bd_33 : Body Try.prog 33 := Bt (by kernel_rfl)
theorem bd_35 : Body Try.prog 35 := Bt (by kernel_rfl)
theorem bd_36 : Body Try.prog 36 := Bt (by kernel_rfl)
theorem bd_37 : Body Try.prog 37 := Bt (by kernel_rfl)
theorem bt_77 : BuildT Try.prog 77 [.int .i64 0, .int .i64 0] [(0, 1), (1, 1)] := E4 zr_77 (by kernel_rfl) (by decide)
theorem n13_box2 {F : Heap} {b T : Nat} (h : F b = some (bx T [.int .i64 1, .int .i64 3])) : Nats F (.slice (some ⟨b, 0, none⟩) 2 2) [1, 3] :=
 D9 (xs := ([1, 3] : List Nat)) h rfl rfl (fun _ => rfl) (by decide)
theorem n013_box3 {F : Heap} {b T : Nat} (h : F b = some (bx T [.int .i64 0, .int .i64 1, .int .i64 3])) : Nats F (.slice (some ⟨b, 0, none⟩) 3 3) [0, 1, 3] :=
 D9 (xs := ([0, 1, 3] : List Nat)) h rfl rfl (fun _ => rfl) (by decide)
theorem n123_box3 {F : Heap} {b T : Nat} (h : F b = some (bx T [.int .i64 1, .int .i64 2, .int .i64 3])) : Nats F (.slice (some ⟨b, 0, none⟩) 3 3) [1, 2, 3] :=
 D9 (xs := ([1, 2, 3] : List Nat)) h rfl rfl (fun _ => rfl) (by decide)
theorem n02_box2 {F : Heap} {b T : Nat} (h : F b = some (bx T [.int .i64 0, .int .i64 2])) : Nats F (.slice (some ⟨b, 0, none⟩) 2 2) [0, 2] :=
 D9 (xs := ([0, 2] : List Nat)) h rfl rfl (fun _ => rfl) (by decide)
theorem n0123_box4 {F : Heap} {b T : Nat} (h : F b = some (bx T [.int .i64 0, .int .i64 1, .int .i64 2, .int .i64 3])) : Nats F (.slice (some ⟨b, 0, none⟩) 4 4) [0, 1, 2, 3] :=
 D9 (xs := ([0, 1, 2, 3] : List Nat)) h rfl rfl (fun _ => rfl) (by decide)
theorem entA_box2 {F : Heap} {b T : Nat} (h : F b = some (bx T [.int .i64 0, .bool true, .int .i64 60, .int .i64 60, .int .i64 1, .bool true, .int .i64 48, .int .i64 48])) : Sl F (.slice (some ⟨b, 0, none⟩) 2 2) 4 Ent.enc [ent1 0 60 60, ent1 1 48 48] :=
 D9 (xs := [ent1 0 60 60, ent1 1 48 48]) h rfl rfl (fun _ => rfl) (by decide)
theorem entB_box1 {F : Heap} {b T : Nat} (h : F b = some (bx T [.int .i64 0, .bool true, .int .i64 20, .int .i64 50])) : Sl F (.slice (some ⟨b, 0, none⟩) 1 1) 4 Ent.enc [ent1 0 20 50] :=
 D9 (xs := [ent1 0 20 50]) h rfl rfl (fun _ => rfl) (by decide)
theorem entC_box3 {F : Heap} {b T : Nat} (h : F b = some (bx T [.int .i64 0, .bool true, .int .i64 45, .int .i64 45, .int .i64 1, .bool true, .int .i64 48, .int .i64 48, .int .i64 2, .bool true, .int .i64 30, .int .i64 30])) : Sl F (.slice (some ⟨b, 0, none⟩) 3 3) 4 Ent.enc [ent1 0 45 45, ent1 1 48 48, ent1 2 30 30] :=
 D9 (xs := [ent1 0 45 45, ent1 1 48 48, ent1 2 30 30]) h rfl rfl (fun _ => rfl) (by decide)
theorem entD_box1 {F : Heap} {b T : Nat} (h : F b = some (bx T [.int .i64 2, .bool true, .int .i64 30, .int .i64 30])) : Sl F (.slice (some ⟨b, 0, none⟩) 1 1) 4 Ent.enc [ent1 2 30 30] :=
 D9 (xs := [ent1 2 30 30]) h rfl rfl (fun _ => rfl) (by decide)
theorem resA_box3 {F : Heap} {b T : Nat} (h : F b = some (bx T [.int .i64 (0), .int .i64 60, .int .i64 (1), .int .i64 73, .int .i64 (-1), .int .i64 0])) : Sl F (.slice (some ⟨b, 0, none⟩) 3 3) 2 Res.enc [⟨0, 60⟩, ⟨1, 73⟩, ⟨-1, 0⟩] :=
 D9 (xs := ([⟨0, 60⟩, ⟨1, 73⟩, ⟨-1, 0⟩] : List Res)) h rfl rfl (fun _ => rfl) (by decide)
theorem resB_box3 {F : Heap} {b T : Nat} (h : F b = some (bx T [.int .i64 (0), .int .i64 20, .int .i64 (1), .int .i64 73, .int .i64 (-1), .int .i64 0])) : Sl F (.slice (some ⟨b, 0, none⟩) 3 3) 2 Res.enc [⟨0, 20⟩, ⟨1, 73⟩, ⟨-1, 0⟩] :=
 D9 (xs := ([⟨0, 20⟩, ⟨1, 73⟩, ⟨-1, 0⟩] : List Res)) h rfl rfl (fun _ => rfl) (by decide)
theorem backA_box1 {F : Heap} {b T : Nat} (h : F b = some (bx T [.int .i64 0, .int .i64 14])) : Sl F (.slice (some ⟨b, 0, none⟩) 1 1) 2 Back.enc (back1 14) :=
 D9 (xs := back1 14) h rfl rfl (fun _ => rfl) (by decide)
theorem backB_box1 {F : Heap} {b T : Nat} (h : F b = some (bx T [.int .i64 0, .int .i64 15])) : Sl F (.slice (some ⟨b, 0, none⟩) 1 1) 2 Back.enc (back1 15) :=
 D9 (xs := back1 15) h rfl rfl (fun _ => rfl) (by decide)
theorem ints_box3 {F : Heap} {b T : Nat} {x y z : Int} (h : F b = some (bx T [.int .i64 x, .int .i64 y, .int .i64 z])) : Ints F (.slice (some ⟨b, 0, none⟩) 3 3) [x, y, z] :=
 D9 (xs := [x, y, z]) h rfl rfl (fun _ => rfl) (by decide)
theorem ints_box4 {F : Heap} {b T : Nat} {x y z w : Int} (h : F b = some (bx T [.int .i64 x, .int .i64 y, .int .i64 z, .int .i64 w])) : Ints F (.slice (some ⟨b, 0, none⟩) 4 4) [x, y, z, w] :=
 D9 (xs := [x, y, z, w]) h rfl rfl (fun _ => rfl) (by decide)
def valE (v : Value) : List Value := [v]
theorem vals_box3 {F : Heap} {b T : Nat} {x y z : Value} (h : F b = some (bx T [x, y, z])) : Sl F (.slice (some ⟨b, 0, none⟩) 3 3) 1 valE [x, y, z] :=
 D9 (xs := [x, y, z]) h rfl rfl (fun _ => rfl) (by decide)
theorem Sl.val {F : Heap} {v : Value} {ps : List (Value × List Nat)} (h : Sl F v 1 valE (ps.map (·.1))) : Sl F v 1 slE ps := by
 refine ⟨by simpa using h.plain, fun i hi j u hu => h.cells i (by simpa using hi) j u ?_⟩
 simpa [valE, slE] using hu
theorem lsts3 {F : Heap} {v x y z : Value} {a b c : List Nat} (h : Sl F v 1 valE [x, y, z]) (h1 : Nats F x a) (h2 : Nats F y b) (h3 : Nats F z c) : Lsts F v [a, b, c] :=
 ⟨[(x, a), (y, b), (z, c)], Sl.val h, by simp [h1, h2, h3], rfl⟩
def tupA (v : Value) (i : Nat) : Value := match v with
 | .tuple a => a.toList[i]?.getD v
 | _ => v
theorem LstsR.ans {F : Heap} {u : Value} {p q : List (List Nat) × Int} (h : LstsR F u p) (e : p = q) : u = .tuple #[tupA u 0, .int .i64 q.2] ∧ Lsts F (tupA u 0) q.1 := by
 subst e; obtain ⟨v, rfl, h⟩ := h; exact ⟨rfl, h⟩
theorem NatsR.ans {F : Heap} {u : Value} {p q : List Nat × Int} (h : NatsR F u p) (e : p = q) : u = .tuple #[tupA u 0, .int .i64 q.2] ∧ Nats F (tupA u 0) q.1 := by
 subst e; obtain ⟨v, rfl, h⟩ := h; exact ⟨rfl, h⟩
theorem MemR.ans {F : Heap} {u : Value} {p q : Mem} (h : MemR F u p) (e : p = q) : u = .tuple #[tupA u 0, tupA u 1, .int .i64 q.2.2] ∧ Nats F (tupA u 0) q.1 ∧ Nats F (tupA u 1) q.2.1 := by
 subst e; obtain ⟨v, w, rfl, h1, h2⟩ := h; exact ⟨rfl, h1, h2⟩
set_option maxRecDepth 100000 in
theorem awake_ok {F : Heap} : Ok Try.prog 22 [].toArray F fun u _ => u = .bool true := by
 refine Ok.intro Try.func22 rfl Try.ntmps22 rfl fun w0 => ?_
 refine Ag <| Ai fun ds => Aa rfl (Ae Ac) ?_
 refine Ah <| Ad <| Ag <| Ai fun ds => Bn rfl (Cp bd_35 A2 .nil sale_ok fun v1 F2 hr3 hF4 => ?_)
 obtain ⟨vs, vb, vl, vn, vd, rfl, hr⟩ := hr3
 refine Bn rfl (B6 zr_27 rfl fun b5 hb5 nb5 => ?_)
 refine Cl (B5 sz_27 (Ab) (Al rfl <| Ab) (i := 0) rfl rfl rfl rfl hr.ones (.here) ?_)
 refine Ah <| Ad <| Ag <| Ai fun ds => Aa rfl (Bh Ca (Ab) rfl rfl (Bk 0 rfl)) ?_
 refine Bw rfl (Bc bd_17 A2 (.cons (Ab) (.cons Ac .nil)) (next_ok hr 50) (fun _ _ h => h.trans (show _ = Value.tuple #[.int .i64 60, .int .i64 0] by rw [ev_n1]))) ?_
 refine Aa rfl (Af (Ab)) ?_
 refine Aa rfl (A5 (Ab) rfl) ?_
 refine Aa rfl (A5 (Al rfl <| Ab) rfl) ?_
 refine Aa rfl (Ae (Al rfl <| Ab)) ?_
 refine Aa rfl (Ae (Al rfl <| Ab)) ?_
 refine Ah <| Ad <| Ag <| Ai fun ds => Aa rfl (Bh Ca (Az rfl <| Ao rfl <| Al rfl <| Ab) rfl rfl (Bk 0 rfl)) ?_
 refine Bn rfl (Cp bd_19 A2 (.cons (Ab) (.cons Ac .nil)) ((sellTop_ok hr Sl.nil).mono fun u F2 _ h => (by rw [ev_s1] at h; exact h : ∃ ws0, u = .tuple #[ws0, .int .i64 0] ∧ Sl F2 ws0 2 Res.enc [⟨0, 60⟩, ⟨1, 73⟩, ⟨-1, 0⟩])) fun v6 F7 hr8 hF9 => ?_)
 replace hr := hr.mono hF9
 obtain ⟨hq1_, rfl, hq1⟩ := hr8
 refine Aa rfl (Af (Ab)) ?_
 refine Aa rfl (A5 (Ab) rfl) ?_
 refine Aa rfl (A5 (Al rfl <| Ab) rfl) ?_
 refine Aa rfl (Ae (Al rfl <| Ab)) ?_
 refine Aa rfl (Ae (Al rfl <| Ab)) ?_
 refine Ah <| Ad <| Ag <| Ai fun ds => Aa rfl (Bh Ca (Ba rfl <| Az rfl <| Ao rfl <| Ab) rfl rfl (Bk 0 rfl)) ?_
 refine Bn rfl (B0 Bq C8 rfl (.cons Ac (.cons Ac (.cons Ac .nil))) rfl rfl (by decide) (by simp [Value.oneCell']) fun b10 hb10 nb10 => ?_)
 refine Bu (i := 0) rfl hb10 .here fun F11 hF12 hz13 => ?_
 replace hr := hr.mono hF12
 replace hq1 := hq1.mono hF12
 have hsl14 := ints_box3 hz13
 refine Bn rfl (Cp bd_19 A2 (.cons (Al rfl <| Ab) (.cons (Ab) .nil)) ((sellTop_ok hr hsl14).mono fun u F2 _ h => (by rw [ev_s2] at h; exact h : ∃ ws0, u = .tuple #[ws0, .int .i64 0] ∧ Sl F2 ws0 2 Res.enc [⟨0, 20⟩, ⟨1, 73⟩, ⟨-1, 0⟩])) fun v15 F16 hr17 hF18 => ?_)
 replace hr := hr.mono hF18
 replace hq1 := hq1.mono hF18
 obtain ⟨hq2_, rfl, hq2⟩ := hr17
 refine Aa rfl (Af (Ab)) ?_
 refine Aa rfl (A5 (Ab) rfl) ?_
 refine Aa rfl (A5 (Al rfl <| Ab) rfl) ?_
 refine Aa rfl (Ae (Al rfl <| Ab)) ?_
 refine Aa rfl (Ae (Al rfl <| Ab)) ?_
 refine Ah <| Ad <| Ag <| Ai fun ds => Aa rfl (Bh Ca (A8 rfl <| Az rfl <| Ao rfl <| Ab) rfl rfl (Bk 0 rfl)) ?_
 refine Bn rfl (B0 Bq C8 rfl (.cons Ac (.cons Ac .nil)) rfl rfl (by decide) (by simp [Value.oneCell']) fun b19 hb19 nb19 => ?_)
 refine Bu (i := 0) rfl hb19 .here fun F20 hF21 hz22 => ?_
 replace hr := hr.mono hF21
 replace hq1 := hq1.mono hF21
 replace hq2 := hq2.mono hF21
 have hsl23 := D2 hz22
 refine Aa rfl (C0 bt_77 (.cons Ac rfl (.cons Ac rfl .nil)) (.cons rfl rfl (Nat.le_of_ble_eq_true rfl) (.cons (.here) .nil) (.cons rfl rfl (Nat.le_of_ble_eq_true rfl) (.cons (.next <| .here) .nil) .nil))) ?_
 refine Bn rfl (C9 (offs := [(0, 2)]) (zl := [.int .i64 0, .int .i64 0]) sl_40 zr_77 rfl (.cons (Ab) rfl .nil) (by intro i p h; rcases i with _ | i <;> simp at h <;> subst h <;> rfl) (.cons rfl rfl (Nat.le_of_ble_eq_true rfl) (.cons (.here) (.cons (.next <| .here) .nil)) .nil) (by decide) (by decide) fun b24 hb24 nb24 => ?_)
 refine Bu (i := 0) rfl hb24 .here fun F25 hF26 hz27 => ?_
 replace hr := hr.mono hF26
 replace hq1 := hq1.mono hF26
 replace hq2 := hq2.mono hF26
 replace hsl23 := hsl23.mono hF26
 have hsl28 := backA_box1 hz27
 refine Bn rfl (Cp bd_23 A2 (.cons (Ao rfl <| Al rfl <| Ab) (.cons (Ao rfl <| Ab) (.cons (Ab) .nil))) ((account_ok hr hsl23 hsl28).mono fun u F2 _ h => (by rw [ev_a1] at h; exact h : ∃ ws0 ws1, u = .tuple #[ws0, ws1, .int .i64 12, .int .i64 0] ∧ Ints F2 ws0 [0, 53, 0, 0] ∧ Ints F2 ws1 [41])) fun v29 F30 hr31 hF32 => ?_)
 replace hr := hr.mono hF32
 replace hq1 := hq1.mono hF32
 replace hq2 := hq2.mono hF32
 obtain ⟨hq3_, hq4_, rfl, hq3, hq4⟩ := hr31
 refine Aa rfl (Af (Ab)) ?_
 refine Aa rfl (A5 (Ab) rfl) ?_
 refine Aa rfl (A5 (Al rfl <| Ab) rfl) ?_
 refine Aa rfl (A5 (Ao rfl <| Ab) rfl) ?_
 refine Aa rfl (A5 (Ao rfl <| Al rfl <| Ab) rfl) ?_
 refine Aa rfl (Ae (Ao rfl <| Al rfl <| Ab)) ?_
 refine Aa rfl (Ae (Ao rfl <| Al rfl <| Ab)) ?_
 refine Aa rfl (Ae (Ao rfl <| Al rfl <| Ab)) ?_
 refine Aa rfl (Ae (Ao rfl <| Al rfl <| Ab)) ?_
 refine Ah <| Ad <| Ag <| Ai fun ds => Aa rfl (Bh Ca (Bl rfl <| Az rfl <| Ab) rfl rfl (Bk 0 rfl)) ?_
 refine Bn rfl (B0 Bq C8 rfl (.cons Ac (.cons Ac .nil)) rfl rfl (by decide) (by simp [Value.oneCell']) fun b33 hb33 nb33 => ?_)
 refine Bu (i := 0) rfl hb33 .here fun F34 hF35 hz36 => ?_
 replace hr := hr.mono hF35
 replace hq1 := hq1.mono hF35
 replace hq2 := hq2.mono hF35
 replace hq3 := hq3.mono hF35
 replace hq4 := hq4.mono hF35
 have hsl37 := D2 hz36
 refine Aa rfl (C0 bt_77 (.cons Ac rfl (.cons Ac rfl .nil)) (.cons rfl rfl (Nat.le_of_ble_eq_true rfl) (.cons (.here) .nil) (.cons rfl rfl (Nat.le_of_ble_eq_true rfl) (.cons (.next <| .here) .nil) .nil))) ?_
 refine Bn rfl (C9 (offs := [(0, 2)]) (zl := [.int .i64 0, .int .i64 0]) sl_40 zr_77 rfl (.cons (Ab) rfl .nil) (by intro i p h; rcases i with _ | i <;> simp at h <;> subst h <;> rfl) (.cons rfl rfl (Nat.le_of_ble_eq_true rfl) (.cons (.here) (.cons (.next <| .here) .nil)) .nil) (by decide) (by decide) fun b38 hb38 nb38 => ?_)
 refine Bu (i := 0) rfl hb38 .here fun F39 hF40 hz41 => ?_
 replace hr := hr.mono hF40
 replace hq1 := hq1.mono hF40
 replace hq2 := hq2.mono hF40
 replace hq3 := hq3.mono hF40
 replace hq4 := hq4.mono hF40
 replace hsl37 := hsl37.mono hF40
 have hsl42 := backB_box1 hz41
 refine Bn rfl (Cp bd_23 A2 (.cons (Ao rfl <| Al rfl <| Ab) (.cons (Ao rfl <| Ab) (.cons (Ab) .nil))) ((account_ok hr hsl37 hsl42).mono fun u F2 _ h => (by rw [ev_a2] at h; exact h : ∃ ws0 ws1, u = .tuple #[ws0, ws1, .int .i64 0, .int .i64 7] ∧ Ints F2 ws0 [] ∧ Ints F2 ws1 [])) fun v43 F44 hr45 hF46 => ?_)
 replace hr := hr.mono hF46
 replace hq1 := hq1.mono hF46
 replace hq2 := hq2.mono hF46
 replace hq3 := hq3.mono hF46
 replace hq4 := hq4.mono hF46
 obtain ⟨hq5_, hq6_, rfl, hq5, hq6⟩ := hr45
 refine Aa rfl (Af (Ab)) ?_
 refine Aa rfl (A5 (Ab) rfl) ?_
 refine Aa rfl (A5 (Al rfl <| Ab) rfl) ?_
 refine Aa rfl (A5 (Ao rfl <| Ab) rfl) ?_
 refine Aa rfl (A5 (Ao rfl <| Al rfl <| Ab) rfl) ?_
 refine Aa rfl (Ae (Ao rfl <| Al rfl <| Ab)) ?_
 refine Aa rfl (Ae (Ao rfl <| Al rfl <| Ab)) ?_
 refine Aa rfl (Ae (Ao rfl <| Al rfl <| Ab)) ?_
 refine Aa rfl (Ae (Ao rfl <| Al rfl <| Ab)) ?_
 refine Ah <| Ad <| Ag <| Ai fun ds => Aa rfl (Bh Ca (Bl rfl <| A8 rfl <| Ao rfl <| Ab) rfl rfl (Bk 0 rfl)) ?_
 refine Bn rfl (B0 Bq C8 rfl (.cons Ac (.cons Ac (.cons Ac .nil))) rfl rfl (by decide) (by simp [Value.oneCell']) fun b47 hb47 nb47 => ?_)
 refine Bu (i := 0) rfl hb47 .here fun F48 hF49 hz50 => ?_
 replace hr := hr.mono hF49
 replace hq1 := hq1.mono hF49
 replace hq2 := hq2.mono hF49
 replace hq3 := hq3.mono hF49
 replace hq4 := hq4.mono hF49
 have hsl51 := ints_box3 hz50
 refine Bn rfl (Cp bd_26 A2 (.cons (Al rfl <| Ab) (.cons (Ab) .nil)) ((share_ok hr hsl51).mono fun u F2 _ h => (by rw [ev_h1] at h; exact h : ∃ ws0, u = .tuple #[ws0, .int .i64 0] ∧ Ints F2 ws0 [14, 13, 13])) fun v52 F53 hr54 hF55 => ?_)
 replace hr := hr.mono hF55
 replace hq1 := hq1.mono hF55
 replace hq2 := hq2.mono hF55
 replace hq3 := hq3.mono hF55
 replace hq4 := hq4.mono hF55
 obtain ⟨hq7_, rfl, hq7⟩ := hr54
 refine Aa rfl (Af (Ab)) ?_
 refine Aa rfl (A5 (Ab) rfl) ?_
 refine Aa rfl (A5 (Al rfl <| Ab) rfl) ?_
 refine Aa rfl (Ae (Al rfl <| Ab)) ?_
 refine Aa rfl (Ae (Al rfl <| Ab)) ?_
 refine Ah <| Ad <| Ag <| WC_drawF 10 (.inl rfl) (fun _ _ h => h) (by kernel_rfl) (by kernel_rfl) false rfl ([fun F v => v = .agg #[vs, .int .i64 100, .int .i64 150, .int .i64 14, vb, vl, vn, vd], fun F v => v = .agg #[.int .i64 0, .bool true, .int .i64 60, .int .i64 60], fun F v => v = .agg #[.int .i64 1, .bool true, .int .i64 48, .int .i64 48], fun F v => Sl F v 4 Ent.enc [ent1 0 60 60, ent1 1 48 48], fun F v => v = .tuple #[tupA v 0, .int .i64 0] ∧ Lsts F (tupA v 0) [[1, 3], [0, 1, 3], [1, 2, 3]], fun F v => v = .tuple #[tupA v 0, .int .i64 0] ∧ Lsts F (tupA v 0) [[1, 3], [0, 1, 3], [1, 2, 3]], fun F v => Lsts F v [[1, 3], [0, 1, 3], [1, 2, 3]], fun F v => v = .int .i64 0, fun F v => Lsts F v [[1, 3], [0, 1, 3], [1, 2, 3]], fun F v => v = .int .i64 0]) (⟨fun F F2 v hF h => h, fun F F2 v hF h => h, fun F F2 v hF h => h, fun F F2 v hF h => h.mono hF, fun F F2 v hF h => ⟨h.1, h.2.mono hF⟩, fun F F2 v hF h => ⟨h.1, h.2.mono hF⟩, fun F F2 v hF h => h.mono hF, fun F F2 v hF h => h, fun F F2 v hF h => h.mono hF, fun F F2 v hF h => h, trivial⟩) (fun ds => ?_) (fun ds => ?_)
 ·
  refine ⟨⟨⟨⟨⟨⟨⟨⟨⟨⟨trivial, ?_⟩, ?_⟩, ?_⟩, ?_⟩, ?_⟩, ?_⟩, ?_⟩, ?_⟩, ?_⟩, ?_⟩
  ·
   intro e1 F1 hF1 he hj
   refine ⟨_, _, _, _, _, rfl, ?_⟩
   refine Br (Bh Ca (B2 (Cg he (by kernel_rfl)) <| Bl rfl <| A8 rfl <| Ba rfl <| Ao rfl <| Ab) rfl rfl (Bk 0 rfl)).quiet ⟨_, rfl, Heap.le_refl _, rfl⟩
  ·
   intro e1 F1 hF1 he hj
   refine ⟨_, _, _, _, _, rfl, ?_⟩
   refine Br (Bc bd_36 A2 (.cons Ac (.cons Ac (.cons Ac .nil))) (Fq _ _ _) (fun _ _ h => h)) ⟨_, rfl, Heap.le_refl _, rfl⟩
  ·
   intro e1 F1 hF1 he hj
   have g72 : (e1 72) = .agg #[.int .i64 0, .bool true, .int .i64 60, .int .i64 60] := hj 1 (by kernel_rfl) (by decide)
   refine ⟨_, _, _, _, _, rfl, ?_⟩
   refine Br (Bc bd_36 A2 (.cons Ac (.cons Ac (.cons Ac .nil))) (Fq _ _ _) (fun _ _ h => h)) ⟨_, rfl, Heap.le_refl _, rfl⟩
  ·
   intro e1 F1 hF1 he hj
   have g72 : (e1 72) = .agg #[.int .i64 0, .bool true, .int .i64 60, .int .i64 60] := hj 1 (by kernel_rfl) (by decide)
   have g73 : (e1 73) = .agg #[.int .i64 1, .bool true, .int .i64 48, .int .i64 48] := hj 2 (by kernel_rfl) (by decide)
   refine ⟨_, _, _, _, _, rfl, ?_⟩
   refine OpX_freeze (C9 (offs := [(0, 4), (4, 4)]) (zl := [.int .i64 0, .bool false, .int .i64 0, .int .i64 0, .int .i64 0, .bool false, .int .i64 0, .int .i64 0]) Cv E7 rfl (.cons (C4 g72) rfl (.cons (C4 g73) rfl .nil)) (by intro i p h; rcases i with _ | _ | i <;> simp at h <;> subst h <;> rfl) (.cons rfl rfl (Nat.le_of_ble_eq_true rfl) (.cons (.here) (.cons (.next <| .here) (.cons (.next <| .next <| .here) (.cons (.next <| .next <| .next <| .here) .nil)))) (.cons rfl rfl (Nat.le_of_ble_eq_true rfl) (.cons (.next <| .next <| .next <| .next <| .here) (.cons (.next <| .next <| .next <| .next <| .next <| .here) (.cons (.next <| .next <| .next <| .next <| .next <| .next <| .here) (.cons (.next <| .next <| .next <| .next <| .next <| .next <| .next <| .here) .nil)))) .nil)) (by decide) (by decide) fun b hb nb => ⟨b, _, hb, rfl, fun F2 hF2 hz => ⟨F2, rfl, hF2, (entA_box2 hz)⟩⟩)
  ·
   intro e1 F1 hF1 he hj
   replace hr := hr.mono hF1
   have g71 : (e1 71) = .agg #[vs, .int .i64 100, .int .i64 150, .int .i64 14, vb, vl, vn, vd] := hj 0 (by kernel_rfl) (by decide)
   have g73 : (e1 73) = .agg #[.int .i64 1, .bool true, .int .i64 48, .int .i64 48] := hj 2 (by kernel_rfl) (by decide)
   have g74 : Sl F1 (e1 74) 4 Ent.enc [ent1 0 60 60, ent1 1 48 48] := hj 3 (by kernel_rfl) (by decide)
   refine ⟨_, _, _, _, _, rfl, ?_⟩
   refine Cp bd_28 A2 (.cons (C4 g71) (.cons (C4 rfl) .nil)) (E2 hr g74) fun v2 F2 hr hF2 => ⟨F2, rfl, hF2, (hr.ans ev_r1)⟩
  ·
   intro e1 F1 hF1 he hj
   have g75 : (e1 75) = .tuple #[tupA (e1 75) 0, .int .i64 0] ∧ Lsts F1 (tupA (e1 75) 0) [[1, 3], [0, 1, 3], [1, 2, 3]] := hj 4 (by kernel_rfl) (by decide)
   refine ⟨_, _, _, _, _, rfl, ?_⟩
   refine Br (Af (C4 g75.1)).quiet ⟨_, rfl, Heap.le_refl _, ⟨rfl, g75.2⟩⟩
  ·
   intro e1 F1 hF1 he hj
   have g70 : (e1 70) = .tuple #[tupA (e1 70) 0, .int .i64 0] ∧ Lsts F1 (tupA (e1 70) 0) [[1, 3], [0, 1, 3], [1, 2, 3]] := hj 5 (by kernel_rfl) (by decide)
   refine ⟨_, _, _, _, _, rfl, ?_⟩
   refine Br (A5 (C4 g70.1) rfl).quiet ⟨_, rfl, Heap.le_refl _, g70.2⟩
  ·
   intro e1 F1 hF1 he hj
   have g70 : (e1 70) = .tuple #[tupA (e1 70) 0, .int .i64 0] ∧ Lsts F1 (tupA (e1 70) 0) [[1, 3], [0, 1, 3], [1, 2, 3]] := hj 5 (by kernel_rfl) (by decide)
   refine ⟨_, _, _, _, _, rfl, ?_⟩
   refine Br (A5 (C4 g70.1) rfl).quiet ⟨_, rfl, Heap.le_refl _, rfl⟩
  ·
   intro e1 F1 hF1 he hj
   have g71 : (e1 71) = .agg #[vs, .int .i64 100, .int .i64 150, .int .i64 14, vb, vl, vn, vd] := hj 0 (by kernel_rfl) (by decide)
   have g72 : (e1 72) = .agg #[.int .i64 0, .bool true, .int .i64 60, .int .i64 60] := hj 1 (by kernel_rfl) (by decide)
   have g73 : (e1 73) = .agg #[.int .i64 1, .bool true, .int .i64 48, .int .i64 48] := hj 2 (by kernel_rfl) (by decide)
   have g74 : Sl F1 (e1 74) 4 Ent.enc [ent1 0 60 60, ent1 1 48 48] := hj 3 (by kernel_rfl) (by decide)
   have g75 : (e1 75) = .tuple #[tupA (e1 75) 0, .int .i64 0] ∧ Lsts F1 (tupA (e1 75) 0) [[1, 3], [0, 1, 3], [1, 2, 3]] := hj 4 (by kernel_rfl) (by decide)
   have g70 : (e1 70) = .tuple #[tupA (e1 70) 0, .int .i64 0] ∧ Lsts F1 (tupA (e1 70) 0) [[1, 3], [0, 1, 3], [1, 2, 3]] := hj 5 (by kernel_rfl) (by decide)
   have g76 : Lsts F1 (e1 76) [[1, 3], [0, 1, 3], [1, 2, 3]] := hj 6 (by kernel_rfl) (by decide)
   refine ⟨_, _, _, _, _, rfl, ?_⟩
   refine Br (Ae (C4 rfl)).quiet ⟨_, rfl, Heap.le_refl _, g76⟩
  ·
   intro e1 F1 hF1 he hj
   have g71 : (e1 71) = .agg #[vs, .int .i64 100, .int .i64 150, .int .i64 14, vb, vl, vn, vd] := hj 0 (by kernel_rfl) (by decide)
   have g72 : (e1 72) = .agg #[.int .i64 0, .bool true, .int .i64 60, .int .i64 60] := hj 1 (by kernel_rfl) (by decide)
   have g73 : (e1 73) = .agg #[.int .i64 1, .bool true, .int .i64 48, .int .i64 48] := hj 2 (by kernel_rfl) (by decide)
   have g74 : Sl F1 (e1 74) 4 Ent.enc [ent1 0 60 60, ent1 1 48 48] := hj 3 (by kernel_rfl) (by decide)
   have g75 : (e1 75) = .tuple #[tupA (e1 75) 0, .int .i64 0] ∧ Lsts F1 (tupA (e1 75) 0) [[1, 3], [0, 1, 3], [1, 2, 3]] := hj 4 (by kernel_rfl) (by decide)
   have g70 : (e1 70) = .tuple #[tupA (e1 70) 0, .int .i64 0] ∧ Lsts F1 (tupA (e1 70) 0) [[1, 3], [0, 1, 3], [1, 2, 3]] := hj 5 (by kernel_rfl) (by decide)
   have g76 : Lsts F1 (e1 76) [[1, 3], [0, 1, 3], [1, 2, 3]] := hj 6 (by kernel_rfl) (by decide)
   have g77 : (e1 77) = .int .i64 0 := hj 7 (by kernel_rfl) (by decide)
   have g18 : Lsts F1 (e1 18) [[1, 3], [0, 1, 3], [1, 2, 3]] := hj 8 (by kernel_rfl) (by decide)
   refine ⟨_, _, _, _, _, rfl, ?_⟩
   refine Br (Ae (C4 g77)).quiet ⟨_, rfl, Heap.le_refl _, rfl⟩
 intro e59 F56 hF57 he58 hj
 replace hr := hr.mono hF57
 replace hq1 := hq1.mono hF57
 replace hq2 := hq2.mono hF57
 replace hq3 := hq3.mono hF57
 replace hq4 := hq4.mono hF57
 replace hq7 := hq7.mono hF57
 have g71 : (e59 71) = .agg #[vs, .int .i64 100, .int .i64 150, .int .i64 14, vb, vl, vn, vd] := hj 0 (by decide)
 have g72 : (e59 72) = .agg #[.int .i64 0, .bool true, .int .i64 60, .int .i64 60] := hj 1 (by decide)
 have g73 : (e59 73) = .agg #[.int .i64 1, .bool true, .int .i64 48, .int .i64 48] := hj 2 (by decide)
 have g74 : Sl F56 (e59 74) 4 Ent.enc [ent1 0 60 60, ent1 1 48 48] := hj 3 (by decide)
 have g75 : (e59 75) = .tuple #[tupA (e59 75) 0, .int .i64 0] ∧ Lsts F56 (tupA (e59 75) 0) [[1, 3], [0, 1, 3], [1, 2, 3]] := hj 4 (by decide)
 have g70 : (e59 70) = .tuple #[tupA (e59 70) 0, .int .i64 0] ∧ Lsts F56 (tupA (e59 70) 0) [[1, 3], [0, 1, 3], [1, 2, 3]] := hj 5 (by decide)
 have g76 : Lsts F56 (e59 76) [[1, 3], [0, 1, 3], [1, 2, 3]] := hj 6 (by decide)
 have g77 : (e59 77) = .int .i64 0 := hj 7 (by decide)
 have g18 : Lsts F56 (e59 18) [[1, 3], [0, 1, 3], [1, 2, 3]] := hj 8 (by decide)
 have g19 : (e59 19) = .int .i64 0 := hj 9 (by decide)
 refine Ad <| Ag <| WC_drawF 11 (.inl rfl) (fun _ _ h => h) (by kernel_rfl) (by kernel_rfl) false rfl ([fun F v => v = .agg #[vs, .int .i64 100, .int .i64 150, .int .i64 14, vb, vl, vn, vd], fun F v => v = .agg #[.int .i64 0, .bool true, .int .i64 20, .int .i64 50], fun F v => Sl F v 4 Ent.enc [ent1 0 20 50], fun F v => v = .tuple #[tupA v 0, tupA v 1, .int .i64 0] ∧ Nats F (tupA v 0) [0, 2] ∧ Nats F (tupA v 1) [0, 1, 2, 3], fun F v => v = .tuple #[tupA v 0, tupA v 1, .int .i64 0] ∧ Nats F (tupA v 0) [0, 2] ∧ Nats F (tupA v 1) [0, 1, 2, 3], fun F v => Nats F v [0, 2], fun F v => Nats F v [0, 1, 2, 3], fun F v => v = .int .i64 0, fun F v => Nats F v [0, 2], fun F v => Nats F v [0, 1, 2, 3], fun F v => v = .int .i64 0]) (⟨fun F F2 v hF h => h, fun F F2 v hF h => h, fun F F2 v hF h => h.mono hF, fun F F2 v hF h => ⟨h.1, h.2.1.mono hF, h.2.2.mono hF⟩, fun F F2 v hF h => ⟨h.1, h.2.1.mono hF, h.2.2.mono hF⟩, fun F F2 v hF h => h.mono hF, fun F F2 v hF h => h.mono hF, fun F F2 v hF h => h, fun F F2 v hF h => h.mono hF, fun F F2 v hF h => h.mono hF, fun F F2 v hF h => h, trivial⟩) (fun ds => ?_) (fun ds => ?_)
 ·
  refine ⟨⟨⟨⟨⟨⟨⟨⟨⟨⟨⟨trivial, ?_⟩, ?_⟩, ?_⟩, ?_⟩, ?_⟩, ?_⟩, ?_⟩, ?_⟩, ?_⟩, ?_⟩, ?_⟩
  ·
   intro e1 F1 hF1 he hj
   refine ⟨_, _, _, _, _, rfl, ?_⟩
   refine Br (Bh Ca (B2 (Cg he (by kernel_rfl)) <| B2 (Cg he58 (by kernel_rfl)) <| Bl rfl <| A8 rfl <| Ba rfl <| Ao rfl <| Ab) rfl rfl (Bk 0 rfl)).quiet ⟨_, rfl, Heap.le_refl _, rfl⟩
  ·
   intro e1 F1 hF1 he hj
   refine ⟨_, _, _, _, _, rfl, ?_⟩
   refine Br (Bc bd_36 A2 (.cons Ac (.cons Ac (.cons Ac .nil))) (Fq _ _ _) (fun _ _ h => h)) ⟨_, rfl, Heap.le_refl _, rfl⟩
  ·
   intro e1 F1 hF1 he hj
   have g80 : (e1 80) = .agg #[.int .i64 0, .bool true, .int .i64 20, .int .i64 50] := hj 1 (by kernel_rfl) (by decide)
   refine ⟨_, _, _, _, _, rfl, ?_⟩
   refine OpX_freeze (C9 (offs := [(0, 4)]) (zl := [.int .i64 0, .bool false, .int .i64 0, .int .i64 0]) Cv E7 rfl (.cons (C4 g80) rfl .nil) (by intro i p h; rcases i with _ | i <;> simp at h <;> subst h <;> rfl) (.cons rfl rfl (Nat.le_of_ble_eq_true rfl) (.cons (.here) (.cons (.next <| .here) (.cons (.next <| .next <| .here) (.cons (.next <| .next <| .next <| .here) .nil)))) .nil) (by decide) (by decide) fun b hb nb => ⟨b, _, hb, rfl, fun F2 hF2 hz => ⟨F2, rfl, hF2, (entB_box1 hz)⟩⟩)
  ·
   intro e1 F1 hF1 he hj
   replace hr := hr.mono hF1
   have g79 : (e1 79) = .agg #[vs, .int .i64 100, .int .i64 150, .int .i64 14, vb, vl, vn, vd] := hj 0 (by kernel_rfl) (by decide)
   have g80 : (e1 80) = .agg #[.int .i64 0, .bool true, .int .i64 20, .int .i64 50] := hj 1 (by kernel_rfl) (by decide)
   have g81 : Sl F1 (e1 81) 4 Ent.enc [ent1 0 20 50] := hj 2 (by kernel_rfl) (by decide)
   refine ⟨_, _, _, _, _, rfl, ?_⟩
   refine Cp bd_31 A2 (.cons (C4 g79) (.cons (C4 rfl) .nil)) (members_ok hr g81) fun v2 F2 hr hF2 => ⟨F2, rfl, hF2, (hr.ans ev_m1)⟩
  ·
   intro e1 F1 hF1 he hj
   have g82 : (e1 82) = .tuple #[tupA (e1 82) 0, tupA (e1 82) 1, .int .i64 0] ∧ Nats F1 (tupA (e1 82) 0) [0, 2] ∧ Nats F1 (tupA (e1 82) 1) [0, 1, 2, 3] := hj 3 (by kernel_rfl) (by decide)
   refine ⟨_, _, _, _, _, rfl, ?_⟩
   refine Br (Af (C4 g82.1)).quiet ⟨_, rfl, Heap.le_refl _, ⟨rfl, g82.2⟩⟩
  ·
   intro e1 F1 hF1 he hj
   have g78 : (e1 78) = .tuple #[tupA (e1 78) 0, tupA (e1 78) 1, .int .i64 0] ∧ Nats F1 (tupA (e1 78) 0) [0, 2] ∧ Nats F1 (tupA (e1 78) 1) [0, 1, 2, 3] := hj 4 (by kernel_rfl) (by decide)
   refine ⟨_, _, _, _, _, rfl, ?_⟩
   refine Br (A5 (C4 g78.1) rfl).quiet ⟨_, rfl, Heap.le_refl _, g78.2.1⟩
  ·
   intro e1 F1 hF1 he hj
   have g78 : (e1 78) = .tuple #[tupA (e1 78) 0, tupA (e1 78) 1, .int .i64 0] ∧ Nats F1 (tupA (e1 78) 0) [0, 2] ∧ Nats F1 (tupA (e1 78) 1) [0, 1, 2, 3] := hj 4 (by kernel_rfl) (by decide)
   refine ⟨_, _, _, _, _, rfl, ?_⟩
   refine Br (A5 (C4 g78.1) rfl).quiet ⟨_, rfl, Heap.le_refl _, g78.2.2⟩
  ·
   intro e1 F1 hF1 he hj
   have g78 : (e1 78) = .tuple #[tupA (e1 78) 0, tupA (e1 78) 1, .int .i64 0] ∧ Nats F1 (tupA (e1 78) 0) [0, 2] ∧ Nats F1 (tupA (e1 78) 1) [0, 1, 2, 3] := hj 4 (by kernel_rfl) (by decide)
   refine ⟨_, _, _, _, _, rfl, ?_⟩
   refine Br (A5 (C4 g78.1) rfl).quiet ⟨_, rfl, Heap.le_refl _, rfl⟩
  ·
   intro e1 F1 hF1 he hj
   have g79 : (e1 79) = .agg #[vs, .int .i64 100, .int .i64 150, .int .i64 14, vb, vl, vn, vd] := hj 0 (by kernel_rfl) (by decide)
   have g80 : (e1 80) = .agg #[.int .i64 0, .bool true, .int .i64 20, .int .i64 50] := hj 1 (by kernel_rfl) (by decide)
   have g81 : Sl F1 (e1 81) 4 Ent.enc [ent1 0 20 50] := hj 2 (by kernel_rfl) (by decide)
   have g82 : (e1 82) = .tuple #[tupA (e1 82) 0, tupA (e1 82) 1, .int .i64 0] ∧ Nats F1 (tupA (e1 82) 0) [0, 2] ∧ Nats F1 (tupA (e1 82) 1) [0, 1, 2, 3] := hj 3 (by kernel_rfl) (by decide)
   have g78 : (e1 78) = .tuple #[tupA (e1 78) 0, tupA (e1 78) 1, .int .i64 0] ∧ Nats F1 (tupA (e1 78) 0) [0, 2] ∧ Nats F1 (tupA (e1 78) 1) [0, 1, 2, 3] := hj 4 (by kernel_rfl) (by decide)
   have g83 : Nats F1 (e1 83) [0, 2] := hj 5 (by kernel_rfl) (by decide)
   refine ⟨_, _, _, _, _, rfl, ?_⟩
   refine Br (Ae (C4 rfl)).quiet ⟨_, rfl, Heap.le_refl _, g83⟩
  ·
   intro e1 F1 hF1 he hj
   have g79 : (e1 79) = .agg #[vs, .int .i64 100, .int .i64 150, .int .i64 14, vb, vl, vn, vd] := hj 0 (by kernel_rfl) (by decide)
   have g80 : (e1 80) = .agg #[.int .i64 0, .bool true, .int .i64 20, .int .i64 50] := hj 1 (by kernel_rfl) (by decide)
   have g81 : Sl F1 (e1 81) 4 Ent.enc [ent1 0 20 50] := hj 2 (by kernel_rfl) (by decide)
   have g82 : (e1 82) = .tuple #[tupA (e1 82) 0, tupA (e1 82) 1, .int .i64 0] ∧ Nats F1 (tupA (e1 82) 0) [0, 2] ∧ Nats F1 (tupA (e1 82) 1) [0, 1, 2, 3] := hj 3 (by kernel_rfl) (by decide)
   have g78 : (e1 78) = .tuple #[tupA (e1 78) 0, tupA (e1 78) 1, .int .i64 0] ∧ Nats F1 (tupA (e1 78) 0) [0, 2] ∧ Nats F1 (tupA (e1 78) 1) [0, 1, 2, 3] := hj 4 (by kernel_rfl) (by decide)
   have g83 : Nats F1 (e1 83) [0, 2] := hj 5 (by kernel_rfl) (by decide)
   have g84 : Nats F1 (e1 84) [0, 1, 2, 3] := hj 6 (by kernel_rfl) (by decide)
   have g20 : Nats F1 (e1 20) [0, 2] := hj 8 (by kernel_rfl) (by decide)
   refine ⟨_, _, _, _, _, rfl, ?_⟩
   refine Br (Ae (C4 rfl)).quiet ⟨_, rfl, Heap.le_refl _, g84⟩
  ·
   intro e1 F1 hF1 he hj
   have g79 : (e1 79) = .agg #[vs, .int .i64 100, .int .i64 150, .int .i64 14, vb, vl, vn, vd] := hj 0 (by kernel_rfl) (by decide)
   have g80 : (e1 80) = .agg #[.int .i64 0, .bool true, .int .i64 20, .int .i64 50] := hj 1 (by kernel_rfl) (by decide)
   have g81 : Sl F1 (e1 81) 4 Ent.enc [ent1 0 20 50] := hj 2 (by kernel_rfl) (by decide)
   have g82 : (e1 82) = .tuple #[tupA (e1 82) 0, tupA (e1 82) 1, .int .i64 0] ∧ Nats F1 (tupA (e1 82) 0) [0, 2] ∧ Nats F1 (tupA (e1 82) 1) [0, 1, 2, 3] := hj 3 (by kernel_rfl) (by decide)
   have g78 : (e1 78) = .tuple #[tupA (e1 78) 0, tupA (e1 78) 1, .int .i64 0] ∧ Nats F1 (tupA (e1 78) 0) [0, 2] ∧ Nats F1 (tupA (e1 78) 1) [0, 1, 2, 3] := hj 4 (by kernel_rfl) (by decide)
   have g83 : Nats F1 (e1 83) [0, 2] := hj 5 (by kernel_rfl) (by decide)
   have g84 : Nats F1 (e1 84) [0, 1, 2, 3] := hj 6 (by kernel_rfl) (by decide)
   have g85 : (e1 85) = .int .i64 0 := hj 7 (by kernel_rfl) (by decide)
   have g20 : Nats F1 (e1 20) [0, 2] := hj 8 (by kernel_rfl) (by decide)
   have g21 : Nats F1 (e1 21) [0, 1, 2, 3] := hj 9 (by kernel_rfl) (by decide)
   refine ⟨_, _, _, _, _, rfl, ?_⟩
   refine Br (Ae (C4 g85)).quiet ⟨_, rfl, Heap.le_refl _, rfl⟩
 intro e63 F60 hF61 he62 hj
 replace hr := hr.mono hF61
 replace hq1 := hq1.mono hF61
 replace hq2 := hq2.mono hF61
 replace hq3 := hq3.mono hF61
 replace hq4 := hq4.mono hF61
 replace hq7 := hq7.mono hF61
 replace g18 := g18.mono hF61
 have g79 : (e63 79) = .agg #[vs, .int .i64 100, .int .i64 150, .int .i64 14, vb, vl, vn, vd] := hj 0 (by decide)
 have g80 : (e63 80) = .agg #[.int .i64 0, .bool true, .int .i64 20, .int .i64 50] := hj 1 (by decide)
 have g81 : Sl F60 (e63 81) 4 Ent.enc [ent1 0 20 50] := hj 2 (by decide)
 have g82 : (e63 82) = .tuple #[tupA (e63 82) 0, tupA (e63 82) 1, .int .i64 0] ∧ Nats F60 (tupA (e63 82) 0) [0, 2] ∧ Nats F60 (tupA (e63 82) 1) [0, 1, 2, 3] := hj 3 (by decide)
 have g78 : (e63 78) = .tuple #[tupA (e63 78) 0, tupA (e63 78) 1, .int .i64 0] ∧ Nats F60 (tupA (e63 78) 0) [0, 2] ∧ Nats F60 (tupA (e63 78) 1) [0, 1, 2, 3] := hj 4 (by decide)
 have g83 : Nats F60 (e63 83) [0, 2] := hj 5 (by decide)
 have g84 : Nats F60 (e63 84) [0, 1, 2, 3] := hj 6 (by decide)
 have g85 : (e63 85) = .int .i64 0 := hj 7 (by decide)
 have g20 : Nats F60 (e63 20) [0, 2] := hj 8 (by decide)
 have g21 : Nats F60 (e63 21) [0, 1, 2, 3] := hj 9 (by decide)
 have g22 : (e63 22) = .int .i64 0 := hj 10 (by decide)
 refine Ad <| Ag <| WC_drawF 11 (.inl rfl) (fun _ _ h => h) (by kernel_rfl) (by kernel_rfl) false rfl ([fun F v => v = .agg #[vs, .int .i64 100, .int .i64 150, .int .i64 14, vb, vl, vn, vd], fun F v => v = .agg #[.int .i64 0, .bool true, .int .i64 45, .int .i64 45], fun F v => v = .agg #[.int .i64 1, .bool true, .int .i64 48, .int .i64 48], fun F v => v = .agg #[.int .i64 2, .bool true, .int .i64 30, .int .i64 30], fun F v => Sl F v 4 Ent.enc [ent1 0 45 45, ent1 1 48 48, ent1 2 30 30], fun F v => v = .tuple #[tupA v 0, .int .i64 0] ∧ Nats F (tupA v 0) [0, 2], fun F v => v = .tuple #[tupA v 0, .int .i64 0] ∧ Nats F (tupA v 0) [0, 2], fun F v => Nats F v [0, 2], fun F v => v = .int .i64 0, fun F v => Nats F v [0, 2], fun F v => v = .int .i64 0]) (⟨fun F F2 v hF h => h, fun F F2 v hF h => h, fun F F2 v hF h => h, fun F F2 v hF h => h, fun F F2 v hF h => h.mono hF, fun F F2 v hF h => ⟨h.1, h.2.mono hF⟩, fun F F2 v hF h => ⟨h.1, h.2.mono hF⟩, fun F F2 v hF h => h.mono hF, fun F F2 v hF h => h, fun F F2 v hF h => h.mono hF, fun F F2 v hF h => h, trivial⟩) (fun ds => ?_) (fun ds => ?_)
 ·
  refine ⟨⟨⟨⟨⟨⟨⟨⟨⟨⟨⟨trivial, ?_⟩, ?_⟩, ?_⟩, ?_⟩, ?_⟩, ?_⟩, ?_⟩, ?_⟩, ?_⟩, ?_⟩, ?_⟩
  ·
   intro e1 F1 hF1 he hj
   refine ⟨_, _, _, _, _, rfl, ?_⟩
   refine Br (Bh Ca (B2 (Cg he (by kernel_rfl)) <| B2 (Cg he62 (by kernel_rfl)) <| B2 (Cg he58 (by kernel_rfl)) <| Bl rfl <| A8 rfl <| Ba rfl <| Ao rfl <| Ab) rfl rfl (Bk 0 rfl)).quiet ⟨_, rfl, Heap.le_refl _, rfl⟩
  ·
   intro e1 F1 hF1 he hj
   refine ⟨_, _, _, _, _, rfl, ?_⟩
   refine Br (Bc bd_36 A2 (.cons Ac (.cons Ac (.cons Ac .nil))) (Fq _ _ _) (fun _ _ h => h)) ⟨_, rfl, Heap.le_refl _, rfl⟩
  ·
   intro e1 F1 hF1 he hj
   have g88 : (e1 88) = .agg #[.int .i64 0, .bool true, .int .i64 45, .int .i64 45] := hj 1 (by kernel_rfl) (by decide)
   refine ⟨_, _, _, _, _, rfl, ?_⟩
   refine Br (Bc bd_36 A2 (.cons Ac (.cons Ac (.cons Ac .nil))) (Fq _ _ _) (fun _ _ h => h)) ⟨_, rfl, Heap.le_refl _, rfl⟩
  ·
   intro e1 F1 hF1 he hj
   have g89 : (e1 89) = .agg #[.int .i64 1, .bool true, .int .i64 48, .int .i64 48] := hj 2 (by kernel_rfl) (by decide)
   refine ⟨_, _, _, _, _, rfl, ?_⟩
   refine Br (Bc bd_36 A2 (.cons Ac (.cons Ac (.cons Ac .nil))) (Fq _ _ _) (fun _ _ h => h)) ⟨_, rfl, Heap.le_refl _, rfl⟩
  ·
   intro e1 F1 hF1 he hj
   have g88 : (e1 88) = .agg #[.int .i64 0, .bool true, .int .i64 45, .int .i64 45] := hj 1 (by kernel_rfl) (by decide)
   have g89 : (e1 89) = .agg #[.int .i64 1, .bool true, .int .i64 48, .int .i64 48] := hj 2 (by kernel_rfl) (by decide)
   have g90 : (e1 90) = .agg #[.int .i64 2, .bool true, .int .i64 30, .int .i64 30] := hj 3 (by kernel_rfl) (by decide)
   refine ⟨_, _, _, _, _, rfl, ?_⟩
   refine OpX_freeze (C9 (offs := [(0, 4), (4, 4), (8, 4)]) (zl := [.int .i64 0, .bool false, .int .i64 0, .int .i64 0, .int .i64 0, .bool false, .int .i64 0, .int .i64 0, .int .i64 0, .bool false, .int .i64 0, .int .i64 0]) Cv E7 rfl (.cons (C4 g88) rfl (.cons (C4 g89) rfl (.cons (C4 g90) rfl .nil))) (by intro i p h; rcases i with _ | _ | _ | i <;> simp at h <;> subst h <;> rfl) (.cons rfl rfl (Nat.le_of_ble_eq_true rfl) (.cons (.here) (.cons (.next <| .here) (.cons (.next <| .next <| .here) (.cons (.next <| .next <| .next <| .here) .nil)))) (.cons rfl rfl (Nat.le_of_ble_eq_true rfl) (.cons (.next <| .next <| .next <| .next <| .here) (.cons (.next <| .next <| .next <| .next <| .next <| .here) (.cons (.next <| .next <| .next <| .next <| .next <| .next <| .here) (.cons (.next <| .next <| .next <| .next <| .next <| .next <| .next <| .here) .nil)))) (.cons rfl rfl (Nat.le_of_ble_eq_true rfl) (.cons (.next <| .next <| .next <| .next <| .next <| .next <| .next <| .next <| .here) (.cons (.next <| .next <| .next <| .next <| .next <| .next <| .next <| .next <| .next <| .here) (.cons (.next <| .next <| .next <| .next <| .next <| .next <| .next <| .next <| .next <| .next <| .here) (.cons (.next <| .next <| .next <| .next <| .next <| .next <| .next <| .next <| .next <| .next <| .next <| .here) .nil)))) .nil))) (by decide) (by decide) fun b hb nb => ⟨b, _, hb, rfl, fun F2 hF2 hz => ⟨F2, rfl, hF2, (entC_box3 hz)⟩⟩)
  ·
   intro e1 F1 hF1 he hj
   replace hr := hr.mono hF1
   have g87 : (e1 87) = .agg #[vs, .int .i64 100, .int .i64 150, .int .i64 14, vb, vl, vn, vd] := hj 0 (by kernel_rfl) (by decide)
   have g90 : (e1 90) = .agg #[.int .i64 2, .bool true, .int .i64 30, .int .i64 30] := hj 3 (by kernel_rfl) (by decide)
   have g91 : Sl F1 (e1 91) 4 Ent.enc [ent1 0 45 45, ent1 1 48 48, ent1 2 30 30] := hj 4 (by kernel_rfl) (by decide)
   refine ⟨_, _, _, _, _, rfl, ?_⟩
   refine Cp bd_33 A2 (.cons (C4 g87) (.cons (C4 rfl) .nil)) (wrong_ok hr g91) fun v2 F2 hr hF2 => ⟨F2, rfl, hF2, (hr.ans ev_w1)⟩
  ·
   intro e1 F1 hF1 he hj
   have g92 : (e1 92) = .tuple #[tupA (e1 92) 0, .int .i64 0] ∧ Nats F1 (tupA (e1 92) 0) [0, 2] := hj 5 (by kernel_rfl) (by decide)
   refine ⟨_, _, _, _, _, rfl, ?_⟩
   refine Br (Af (C4 g92.1)).quiet ⟨_, rfl, Heap.le_refl _, ⟨rfl, g92.2⟩⟩
  ·
   intro e1 F1 hF1 he hj
   have g86 : (e1 86) = .tuple #[tupA (e1 86) 0, .int .i64 0] ∧ Nats F1 (tupA (e1 86) 0) [0, 2] := hj 6 (by kernel_rfl) (by decide)
   refine ⟨_, _, _, _, _, rfl, ?_⟩
   refine Br (A5 (C4 g86.1) rfl).quiet ⟨_, rfl, Heap.le_refl _, g86.2⟩
  ·
   intro e1 F1 hF1 he hj
   have g86 : (e1 86) = .tuple #[tupA (e1 86) 0, .int .i64 0] ∧ Nats F1 (tupA (e1 86) 0) [0, 2] := hj 6 (by kernel_rfl) (by decide)
   refine ⟨_, _, _, _, _, rfl, ?_⟩
   refine Br (A5 (C4 g86.1) rfl).quiet ⟨_, rfl, Heap.le_refl _, rfl⟩
  ·
   intro e1 F1 hF1 he hj
   have g87 : (e1 87) = .agg #[vs, .int .i64 100, .int .i64 150, .int .i64 14, vb, vl, vn, vd] := hj 0 (by kernel_rfl) (by decide)
   have g88 : (e1 88) = .agg #[.int .i64 0, .bool true, .int .i64 45, .int .i64 45] := hj 1 (by kernel_rfl) (by decide)
   have g89 : (e1 89) = .agg #[.int .i64 1, .bool true, .int .i64 48, .int .i64 48] := hj 2 (by kernel_rfl) (by decide)
   have g90 : (e1 90) = .agg #[.int .i64 2, .bool true, .int .i64 30, .int .i64 30] := hj 3 (by kernel_rfl) (by decide)
   have g91 : Sl F1 (e1 91) 4 Ent.enc [ent1 0 45 45, ent1 1 48 48, ent1 2 30 30] := hj 4 (by kernel_rfl) (by decide)
   have g92 : (e1 92) = .tuple #[tupA (e1 92) 0, .int .i64 0] ∧ Nats F1 (tupA (e1 92) 0) [0, 2] := hj 5 (by kernel_rfl) (by decide)
   have g86 : (e1 86) = .tuple #[tupA (e1 86) 0, .int .i64 0] ∧ Nats F1 (tupA (e1 86) 0) [0, 2] := hj 6 (by kernel_rfl) (by decide)
   have g93 : Nats F1 (e1 93) [0, 2] := hj 7 (by kernel_rfl) (by decide)
   refine ⟨_, _, _, _, _, rfl, ?_⟩
   refine Br (Ae (C4 rfl)).quiet ⟨_, rfl, Heap.le_refl _, g93⟩
  ·
   intro e1 F1 hF1 he hj
   have g87 : (e1 87) = .agg #[vs, .int .i64 100, .int .i64 150, .int .i64 14, vb, vl, vn, vd] := hj 0 (by kernel_rfl) (by decide)
   have g88 : (e1 88) = .agg #[.int .i64 0, .bool true, .int .i64 45, .int .i64 45] := hj 1 (by kernel_rfl) (by decide)
   have g89 : (e1 89) = .agg #[.int .i64 1, .bool true, .int .i64 48, .int .i64 48] := hj 2 (by kernel_rfl) (by decide)
   have g90 : (e1 90) = .agg #[.int .i64 2, .bool true, .int .i64 30, .int .i64 30] := hj 3 (by kernel_rfl) (by decide)
   have g91 : Sl F1 (e1 91) 4 Ent.enc [ent1 0 45 45, ent1 1 48 48, ent1 2 30 30] := hj 4 (by kernel_rfl) (by decide)
   have g92 : (e1 92) = .tuple #[tupA (e1 92) 0, .int .i64 0] ∧ Nats F1 (tupA (e1 92) 0) [0, 2] := hj 5 (by kernel_rfl) (by decide)
   have g86 : (e1 86) = .tuple #[tupA (e1 86) 0, .int .i64 0] ∧ Nats F1 (tupA (e1 86) 0) [0, 2] := hj 6 (by kernel_rfl) (by decide)
   have g93 : Nats F1 (e1 93) [0, 2] := hj 7 (by kernel_rfl) (by decide)
   have g94 : (e1 94) = .int .i64 0 := hj 8 (by kernel_rfl) (by decide)
   have g23 : Nats F1 (e1 23) [0, 2] := hj 9 (by kernel_rfl) (by decide)
   refine ⟨_, _, _, _, _, rfl, ?_⟩
   refine Br (Ae (C4 g94)).quiet ⟨_, rfl, Heap.le_refl _, rfl⟩
 intro e67 F64 hF65 he66 hj
 replace hr := hr.mono hF65
 replace hq1 := hq1.mono hF65
 replace hq2 := hq2.mono hF65
 replace hq3 := hq3.mono hF65
 replace hq4 := hq4.mono hF65
 replace hq7 := hq7.mono hF65
 replace g18 := g18.mono hF65
 replace g20 := g20.mono hF65
 replace g21 := g21.mono hF65
 have g87 : (e67 87) = .agg #[vs, .int .i64 100, .int .i64 150, .int .i64 14, vb, vl, vn, vd] := hj 0 (by decide)
 have g88 : (e67 88) = .agg #[.int .i64 0, .bool true, .int .i64 45, .int .i64 45] := hj 1 (by decide)
 have g89 : (e67 89) = .agg #[.int .i64 1, .bool true, .int .i64 48, .int .i64 48] := hj 2 (by decide)
 have g90 : (e67 90) = .agg #[.int .i64 2, .bool true, .int .i64 30, .int .i64 30] := hj 3 (by decide)
 have g91 : Sl F64 (e67 91) 4 Ent.enc [ent1 0 45 45, ent1 1 48 48, ent1 2 30 30] := hj 4 (by decide)
 have g92 : (e67 92) = .tuple #[tupA (e67 92) 0, .int .i64 0] ∧ Nats F64 (tupA (e67 92) 0) [0, 2] := hj 5 (by decide)
 have g86 : (e67 86) = .tuple #[tupA (e67 86) 0, .int .i64 0] ∧ Nats F64 (tupA (e67 86) 0) [0, 2] := hj 6 (by decide)
 have g93 : Nats F64 (e67 93) [0, 2] := hj 7 (by decide)
 have g94 : (e67 94) = .int .i64 0 := hj 8 (by decide)
 have g23 : Nats F64 (e67 23) [0, 2] := hj 9 (by decide)
 have g24 : (e67 24) = .int .i64 0 := hj 10 (by decide)
 refine Ad <| Ag <| WC_drawF 9 (.inl rfl) (fun _ _ h => h) (by kernel_rfl) (by kernel_rfl) false rfl ([fun F v => v = .agg #[vs, .int .i64 100, .int .i64 150, .int .i64 14, vb, vl, vn, vd], fun F v => v = .agg #[.int .i64 2, .bool true, .int .i64 30, .int .i64 30], fun F v => Sl F v 4 Ent.enc [ent1 2 30 30], fun F v => v = .tuple #[tupA v 0, .int .i64 8] ∧ Lsts F (tupA v 0) [], fun F v => v = .tuple #[tupA v 0, .int .i64 8] ∧ Lsts F (tupA v 0) [], fun F v => Lsts F v [], fun F v => v = .int .i64 8, fun F v => Lsts F v [], fun F v => v = .int .i64 8]) (⟨fun F F2 v hF h => h, fun F F2 v hF h => h, fun F F2 v hF h => h.mono hF, fun F F2 v hF h => ⟨h.1, h.2.mono hF⟩, fun F F2 v hF h => ⟨h.1, h.2.mono hF⟩, fun F F2 v hF h => h.mono hF, fun F F2 v hF h => h, fun F F2 v hF h => h.mono hF, fun F F2 v hF h => h, trivial⟩) (fun ds => ?_) (fun ds => ?_)
 ·
  refine ⟨⟨⟨⟨⟨⟨⟨⟨⟨trivial, ?_⟩, ?_⟩, ?_⟩, ?_⟩, ?_⟩, ?_⟩, ?_⟩, ?_⟩, ?_⟩
  ·
   intro e1 F1 hF1 he hj
   refine ⟨_, _, _, _, _, rfl, ?_⟩
   refine Br (Bh Ca (B2 (Cg he (by kernel_rfl)) <| B2 (Cg he66 (by kernel_rfl)) <| B2 (Cg he62 (by kernel_rfl)) <| B2 (Cg he58 (by kernel_rfl)) <| Bl rfl <| A8 rfl <| Ba rfl <| Ao rfl <| Ab) rfl rfl (Bk 0 rfl)).quiet ⟨_, rfl, Heap.le_refl _, rfl⟩
  ·
   intro e1 F1 hF1 he hj
   refine ⟨_, _, _, _, _, rfl, ?_⟩
   refine Br (Bc bd_36 A2 (.cons Ac (.cons Ac (.cons Ac .nil))) (Fq _ _ _) (fun _ _ h => h)) ⟨_, rfl, Heap.le_refl _, rfl⟩
  ·
   intro e1 F1 hF1 he hj
   have g97 : (e1 97) = .agg #[.int .i64 2, .bool true, .int .i64 30, .int .i64 30] := hj 1 (by kernel_rfl) (by decide)
   refine ⟨_, _, _, _, _, rfl, ?_⟩
   refine OpX_freeze (C9 (offs := [(0, 4)]) (zl := [.int .i64 0, .bool false, .int .i64 0, .int .i64 0]) Cv E7 rfl (.cons (C4 g97) rfl .nil) (by intro i p h; rcases i with _ | i <;> simp at h <;> subst h <;> rfl) (.cons rfl rfl (Nat.le_of_ble_eq_true rfl) (.cons (.here) (.cons (.next <| .here) (.cons (.next <| .next <| .here) (.cons (.next <| .next <| .next <| .here) .nil)))) .nil) (by decide) (by decide) fun b hb nb => ⟨b, _, hb, rfl, fun F2 hF2 hz => ⟨F2, rfl, hF2, (entD_box1 hz)⟩⟩)
  ·
   intro e1 F1 hF1 he hj
   replace hr := hr.mono hF1
   have g96 : (e1 96) = .agg #[vs, .int .i64 100, .int .i64 150, .int .i64 14, vb, vl, vn, vd] := hj 0 (by kernel_rfl) (by decide)
   have g97 : (e1 97) = .agg #[.int .i64 2, .bool true, .int .i64 30, .int .i64 30] := hj 1 (by kernel_rfl) (by decide)
   have g98 : Sl F1 (e1 98) 4 Ent.enc [ent1 2 30 30] := hj 2 (by kernel_rfl) (by decide)
   refine ⟨_, _, _, _, _, rfl, ?_⟩
   refine Cp bd_28 A2 (.cons (C4 g96) (.cons (C4 rfl) .nil)) (E2 hr g98) fun v2 F2 hr hF2 => ⟨F2, rfl, hF2, (hr.ans ev_r2)⟩
  ·
   intro e1 F1 hF1 he hj
   have g99 : (e1 99) = .tuple #[tupA (e1 99) 0, .int .i64 8] ∧ Lsts F1 (tupA (e1 99) 0) [] := hj 3 (by kernel_rfl) (by decide)
   refine ⟨_, _, _, _, _, rfl, ?_⟩
   refine Br (Af (C4 g99.1)).quiet ⟨_, rfl, Heap.le_refl _, ⟨rfl, g99.2⟩⟩
  ·
   intro e1 F1 hF1 he hj
   have g95 : (e1 95) = .tuple #[tupA (e1 95) 0, .int .i64 8] ∧ Lsts F1 (tupA (e1 95) 0) [] := hj 4 (by kernel_rfl) (by decide)
   refine ⟨_, _, _, _, _, rfl, ?_⟩
   refine Br (A5 (C4 g95.1) rfl).quiet ⟨_, rfl, Heap.le_refl _, g95.2⟩
  ·
   intro e1 F1 hF1 he hj
   have g95 : (e1 95) = .tuple #[tupA (e1 95) 0, .int .i64 8] ∧ Lsts F1 (tupA (e1 95) 0) [] := hj 4 (by kernel_rfl) (by decide)
   refine ⟨_, _, _, _, _, rfl, ?_⟩
   refine Br (A5 (C4 g95.1) rfl).quiet ⟨_, rfl, Heap.le_refl _, rfl⟩
  ·
   intro e1 F1 hF1 he hj
   have g96 : (e1 96) = .agg #[vs, .int .i64 100, .int .i64 150, .int .i64 14, vb, vl, vn, vd] := hj 0 (by kernel_rfl) (by decide)
   have g97 : (e1 97) = .agg #[.int .i64 2, .bool true, .int .i64 30, .int .i64 30] := hj 1 (by kernel_rfl) (by decide)
   have g98 : Sl F1 (e1 98) 4 Ent.enc [ent1 2 30 30] := hj 2 (by kernel_rfl) (by decide)
   have g99 : (e1 99) = .tuple #[tupA (e1 99) 0, .int .i64 8] ∧ Lsts F1 (tupA (e1 99) 0) [] := hj 3 (by kernel_rfl) (by decide)
   have g95 : (e1 95) = .tuple #[tupA (e1 95) 0, .int .i64 8] ∧ Lsts F1 (tupA (e1 95) 0) [] := hj 4 (by kernel_rfl) (by decide)
   have g100 : Lsts F1 (e1 100) [] := hj 5 (by kernel_rfl) (by decide)
   refine ⟨_, _, _, _, _, rfl, ?_⟩
   refine Br (Ae (C4 rfl)).quiet ⟨_, rfl, Heap.le_refl _, g100⟩
  ·
   intro e1 F1 hF1 he hj
   have g96 : (e1 96) = .agg #[vs, .int .i64 100, .int .i64 150, .int .i64 14, vb, vl, vn, vd] := hj 0 (by kernel_rfl) (by decide)
   have g97 : (e1 97) = .agg #[.int .i64 2, .bool true, .int .i64 30, .int .i64 30] := hj 1 (by kernel_rfl) (by decide)
   have g98 : Sl F1 (e1 98) 4 Ent.enc [ent1 2 30 30] := hj 2 (by kernel_rfl) (by decide)
   have g99 : (e1 99) = .tuple #[tupA (e1 99) 0, .int .i64 8] ∧ Lsts F1 (tupA (e1 99) 0) [] := hj 3 (by kernel_rfl) (by decide)
   have g95 : (e1 95) = .tuple #[tupA (e1 95) 0, .int .i64 8] ∧ Lsts F1 (tupA (e1 95) 0) [] := hj 4 (by kernel_rfl) (by decide)
   have g100 : Lsts F1 (e1 100) [] := hj 5 (by kernel_rfl) (by decide)
   have g101 : (e1 101) = .int .i64 8 := hj 6 (by kernel_rfl) (by decide)
   have g25 : Lsts F1 (e1 25) [] := hj 7 (by kernel_rfl) (by decide)
   refine ⟨_, _, _, _, _, rfl, ?_⟩
   refine Br (Ae (C4 g101)).quiet ⟨_, rfl, Heap.le_refl _, rfl⟩
 intro e71 F68 hF69 he70 hj
 replace hq1 := hq1.mono hF69
 replace hq2 := hq2.mono hF69
 replace hq3 := hq3.mono hF69
 replace hq4 := hq4.mono hF69
 replace hq7 := hq7.mono hF69
 replace g18 := g18.mono hF69
 replace g20 := g20.mono hF69
 replace g21 := g21.mono hF69
 replace g23 := g23.mono hF69
 have g96 : (e71 96) = .agg #[vs, .int .i64 100, .int .i64 150, .int .i64 14, vb, vl, vn, vd] := hj 0 (by decide)
 have g97 : (e71 97) = .agg #[.int .i64 2, .bool true, .int .i64 30, .int .i64 30] := hj 1 (by decide)
 have g98 : Sl F68 (e71 98) 4 Ent.enc [ent1 2 30 30] := hj 2 (by decide)
 have g99 : (e71 99) = .tuple #[tupA (e71 99) 0, .int .i64 8] ∧ Lsts F68 (tupA (e71 99) 0) [] := hj 3 (by decide)
 have g95 : (e71 95) = .tuple #[tupA (e71 95) 0, .int .i64 8] ∧ Lsts F68 (tupA (e71 95) 0) [] := hj 4 (by decide)
 have g100 : Lsts F68 (e71 100) [] := hj 5 (by decide)
 have g101 : (e71 101) = .int .i64 8 := hj 6 (by decide)
 have g25 : Lsts F68 (e71 25) [] := hj 7 (by decide)
 have g26 : (e71 26) = .int .i64 8 := hj 8 (by decide)
 refine Ad <| Ag <| Ai fun ds => Aa rfl (Af (B2 (Cg he70 (by kernel_rfl)) <| B2 (Cg he66 (by kernel_rfl)) <| B2 (Cg he62 (by kernel_rfl)) <| B2 (Cg he58 (by kernel_rfl)) <| Bl rfl <| A8 rfl <| Ao rfl <| Al rfl <| Ab)) ?_
 refine Aa rfl (B1 (Ab) Ac) ?_
 refine Aa rfl (Af (Ab)) ?_
 refine At rfl rfl (Ab) (by first | rfl | decide) ?_
 refine Aa rfl (Af (Ao rfl <| Al rfl <| B2 (Cg he70 (by kernel_rfl)) <| B2 (Cg he66 (by kernel_rfl)) <| B2 (Cg he62 (by kernel_rfl)) <| B2 (Cg he58 (by kernel_rfl)) <| Bl rfl <| Ba rfl <| Az rfl <| Ab)) ?_
 refine At rfl rfl (Al rfl <| Ab) (by first | rfl | decide) ?_
 refine Aa rfl (B1 (Ab) Ac) ?_
 refine Aa rfl (A3 (Ao rfl <| Ab) (by first | rfl | decide) (Ab)) ?_
 refine Aa rfl (Af (Ab)) ?_
 refine At rfl rfl (Ab) (by first | rfl | decide) ?_
 refine Aa rfl (Af (Az rfl <| Ao rfl <| Al rfl <| B2 (Cg he70 (by kernel_rfl)) <| B2 (Cg he66 (by kernel_rfl)) <| B2 (Cg he62 (by kernel_rfl)) <| B2 (Cg he58 (by kernel_rfl)) <| Bl rfl <| Az rfl <| Ab)) ?_
 refine At rfl rfl (Al rfl <| Ab) (by first | rfl | decide) ?_
 refine Aa rfl (B1 (Ab) Ac) ?_
 refine Aa rfl (A3 (Ao rfl <| Ab) (by first | rfl | decide) (Ab)) ?_
 refine Aa rfl (Af (Ab)) ?_
 refine At rfl rfl (Ab) (by first | rfl | decide) ?_
 refine Aa rfl (Af (Ba rfl <| Ao rfl <| Al rfl <| B2 (Cg he70 (by kernel_rfl)) <| B2 (Cg he66 (by kernel_rfl)) <| B2 (Cg he62 (by kernel_rfl)) <| B2 (Cg he58 (by kernel_rfl)) <| A8 rfl <| Az rfl <| Ao rfl <| Ab)) ?_
 refine At rfl rfl (Al rfl <| Ab) (by first | rfl | decide) ?_
 refine Aa rfl (B1 (Ab) Ac) ?_
 refine Aa rfl (A3 (Ao rfl <| Ab) (by first | rfl | decide) (Ab)) ?_
 refine Aa rfl (Af (Ab)) ?_
 refine At rfl rfl (Ab) (by first | rfl | decide) ?_
 refine Aa rfl (Af (Ba rfl <| Az rfl <| Ao rfl <| Al rfl <| B2 (Cg he70 (by kernel_rfl)) <| B2 (Cg he66 (by kernel_rfl)) <| B2 (Cg he62 (by kernel_rfl)) <| B2 (Cg he58 (by kernel_rfl)) <| Ab)) ?_
 refine At rfl rfl (Al rfl <| Ab) (by first | rfl | decide) ?_
 refine Aa rfl (B1 (Ab) Ac) ?_
 refine Aa rfl (A3 (Ao rfl <| Ab) (by first | rfl | decide) (Ab)) ?_
 refine Aa rfl (Af (Ab)) ?_
 refine At rfl rfl (Ab) (by first | rfl | decide) ?_
 refine Aa rfl (Af (A8 rfl <| Ao rfl <| Al rfl <| B2 (Cg he70 (by kernel_rfl)) <| B2 (Cg he66 (by kernel_rfl)) <| B2 (Cg he62 (by kernel_rfl)) <| C4 g19)) ?_
 refine At rfl rfl (Al rfl <| Ab) (by first | rfl | decide) ?_
 refine Aa rfl (B1 (Ab) Ac) ?_
 refine Aa rfl (A3 (Ao rfl <| Ab) (by first | rfl | decide) (Ab)) ?_
 refine Aa rfl (Af (Ab)) ?_
 refine At rfl rfl (Ab) (by first | rfl | decide) ?_
 refine Aa rfl (Af (A8 rfl <| Az rfl <| Ao rfl <| Al rfl <| B2 (Cg he70 (by kernel_rfl)) <| B2 (Cg he66 (by kernel_rfl)) <| C4 g22)) ?_
 refine At rfl rfl (Al rfl <| Ab) (by first | rfl | decide) ?_
 refine Aa rfl (B1 (Ab) Ac) ?_
 refine Aa rfl (A3 (Ao rfl <| Ab) (by first | rfl | decide) (Ab)) ?_
 refine Aa rfl (Af (Ab)) ?_
 refine At rfl rfl (Ab) (by first | rfl | decide) ?_
 refine Aa rfl (Af (A8 rfl <| Ba rfl <| Ao rfl <| Al rfl <| B2 (Cg he70 (by kernel_rfl)) <| C4 g24)) ?_
 refine At rfl rfl (Al rfl <| Ab) (by first | rfl | decide) ?_
 refine Aa rfl (B1 (Ab) Ac) ?_
 refine Aa rfl (A3 (Ao rfl <| Ab) (by first | rfl | decide) (Ab)) ?_
 refine Aa rfl (Af (Ab)) ?_
 refine At rfl rfl (Ab) (by first | rfl | decide) ?_
 refine Aa rfl (Af (A8 rfl <| Ba rfl <| Az rfl <| Ao rfl <| Al rfl <| B2 (Cg he70 (by kernel_rfl)) <| B2 (Cg he66 (by kernel_rfl)) <| B2 (Cg he62 (by kernel_rfl)) <| B2 (Cg he58 (by kernel_rfl)) <| Ba rfl <| Ab)) ?_
 refine At rfl rfl (Al rfl <| Ab) (by first | rfl | decide) ?_
 refine Aa rfl (B1 (Ab) Ac) ?_
 refine Aa rfl (A3 (Ao rfl <| Ab) (by first | rfl | decide) (Ab)) ?_
 refine Aa rfl (Af (Ab)) ?_
 refine At rfl rfl (Ab) (by first | rfl | decide) ?_
 refine Aa rfl (Af (Bl rfl <| Ao rfl <| Al rfl <| C4 g26)) ?_
 refine At rfl rfl (Al rfl <| Ab) (by first | rfl | decide) ?_
 refine Aa rfl (B1 (Ab) Ac) ?_
 refine Aa rfl (A3 (Ao rfl <| Ab) (by first | rfl | decide) (Ab)) ?_
 refine Aa rfl (Af (Ab)) ?_
 refine At rfl rfl (Ab) (by first | rfl | decide) ?_
 refine Aa rfl (Af (Bl rfl <| Az rfl <| Ao rfl <| Al rfl <| B2 (Cg he70 (by kernel_rfl)) <| B2 (Cg he66 (by kernel_rfl)) <| B2 (Cg he62 (by kernel_rfl)) <| B2 (Cg he58 (by kernel_rfl)) <| Bl rfl <| A8 rfl <| Az rfl <| Ab)) ?_
 refine At rfl rfl (Al rfl <| Ab) (by first | rfl | decide) ?_
 refine Aa rfl (B1 (Ab) Ac) ?_
 refine Aa rfl (A3 (Ao rfl <| Ab) (by first | rfl | decide) (Ab)) ?_
 refine Aa rfl (Af (Ab)) ?_
 refine At rfl rfl (Ab) (by first | rfl | decide) ?_
 refine Aa rfl (Af (Bl rfl <| Ba rfl <| Ao rfl <| Al rfl <| B2 (Cg he70 (by kernel_rfl)) <| B2 (Cg he66 (by kernel_rfl)) <| B2 (Cg he62 (by kernel_rfl)) <| B2 (Cg he58 (by kernel_rfl)) <| Bl rfl <| Ba rfl <| Az rfl <| Al rfl <| Ab)) ?_
 refine At rfl rfl (Al rfl <| Ab) (by first | rfl | decide) ?_
 refine Bw rfl (Bc bd_37 A2 (.cons Ac (.cons Ac .nil)) (result_ok _ _) (fun _ _ h => h)) ?_
 refine At rfl rfl (Ao rfl <| Ab) (by first | rfl | decide) ?_
 refine Bw rfl (Bc bd_37 A2 (.cons Ac (.cons Ac .nil)) (result_ok _ _) (fun _ _ h => h)) ?_
 refine At rfl rfl (Ao rfl <| Al rfl <| Ab) (by first | rfl | decide) ?_
 refine Bw rfl (Bc bd_37 A2 (.cons Ac (.cons Ac .nil)) (result_ok _ _) (fun _ _ h => h)) ?_
 refine At rfl rfl (Az rfl <| Ab) (by first | rfl | decide) ?_
 refine Bn rfl (C9 (offs := [(0, 2), (2, 2), (4, 2)]) (zl := [.int .i64 0, .int .i64 0, .int .i64 0, .int .i64 0, .int .i64 0, .int .i64 0]) Dc zr_63 rfl (.cons (Ao rfl <| Ab) rfl (.cons (Al rfl <| Ab) rfl (.cons (Ab) rfl .nil))) (by intro i p h; rcases i with _ | _ | _ | i <;> simp at h <;> subst h <;> rfl) (.cons rfl rfl (Nat.le_of_ble_eq_true rfl) (.cons (.here) (.cons (.next <| .here) .nil)) (.cons rfl rfl (Nat.le_of_ble_eq_true rfl) (.cons (.next <| .next <| .here) (.cons (.next <| .next <| .next <| .here) .nil)) (.cons rfl rfl (Nat.le_of_ble_eq_true rfl) (.cons (.next <| .next <| .next <| .next <| .here) (.cons (.next <| .next <| .next <| .next <| .next <| .here) .nil)) .nil))) (by decide) (by decide) fun b72 hb72 nb72 => ?_)
 refine Bu (i := 0) rfl hb72 .here fun F73 hF74 hz75 => ?_
 replace hq1 := hq1.mono hF74
 replace hq2 := hq2.mono hF74
 replace hq3 := hq3.mono hF74
 replace hq4 := hq4.mono hF74
 replace hq7 := hq7.mono hF74
 replace g18 := g18.mono hF74
 replace g20 := g20.mono hF74
 replace g21 := g21.mono hF74
 replace g23 := g23.mono hF74
 have hsl76 := resA_box3 hz75
 refine At rfl rfl (Az rfl <| Al rfl <| Ab) (by first | rfl | decide) ?_
 refine Bw rfl (Bc bd_21 A2 (.cons (Az rfl <| Ab) (.cons (Ab) .nil)) (refSame_ok hq1 hsl76) (fun _ _ h => h)) ?_
 refine Aa rfl (A3 (Az rfl <| Ao rfl <| Ab) (by first | rfl | decide) (Ab)) ?_
 refine Aa rfl (Af (Ab)) ?_
 refine At rfl rfl (Ab) (by first | rfl | decide) ?_
 refine Aa rfl (Af (Bl rfl <| A8 rfl <| Ao rfl <| Al rfl <| B2 (Cg he70 (by kernel_rfl)) <| B2 (Cg he66 (by kernel_rfl)) <| B2 (Cg he62 (by kernel_rfl)) <| B2 (Cg he58 (by kernel_rfl)) <| Bl rfl <| Az rfl <| Al rfl <| Ab)) ?_
 refine At rfl rfl (Al rfl <| Ab) (by first | rfl | decide) ?_
 refine Bw rfl (Bc bd_37 A2 (.cons Ac (.cons Ac .nil)) (result_ok _ _) (fun _ _ h => h)) ?_
 refine At rfl rfl (Ao rfl <| Ab) (by first | rfl | decide) ?_
 refine Bw rfl (Bc bd_37 A2 (.cons Ac (.cons Ac .nil)) (result_ok _ _) (fun _ _ h => h)) ?_
 refine At rfl rfl (Ao rfl <| Al rfl <| Ab) (by first | rfl | decide) ?_
 refine Bw rfl (Bc bd_37 A2 (.cons Ac (.cons Ac .nil)) (result_ok _ _) (fun _ _ h => h)) ?_
 refine At rfl rfl (Az rfl <| Ab) (by first | rfl | decide) ?_
 refine Bn rfl (C9 (offs := [(0, 2), (2, 2), (4, 2)]) (zl := [.int .i64 0, .int .i64 0, .int .i64 0, .int .i64 0, .int .i64 0, .int .i64 0]) Dc zr_63 rfl (.cons (Ao rfl <| Ab) rfl (.cons (Al rfl <| Ab) rfl (.cons (Ab) rfl .nil))) (by intro i p h; rcases i with _ | _ | _ | i <;> simp at h <;> subst h <;> rfl) (.cons rfl rfl (Nat.le_of_ble_eq_true rfl) (.cons (.here) (.cons (.next <| .here) .nil)) (.cons rfl rfl (Nat.le_of_ble_eq_true rfl) (.cons (.next <| .next <| .here) (.cons (.next <| .next <| .next <| .here) .nil)) (.cons rfl rfl (Nat.le_of_ble_eq_true rfl) (.cons (.next <| .next <| .next <| .next <| .here) (.cons (.next <| .next <| .next <| .next <| .next <| .here) .nil)) .nil))) (by decide) (by decide) fun b77 hb77 nb77 => ?_)
 refine Bu (i := 0) rfl hb77 .here fun F78 hF79 hz80 => ?_
 replace hq2 := hq2.mono hF79
 replace hq3 := hq3.mono hF79
 replace hq4 := hq4.mono hF79
 replace hq7 := hq7.mono hF79
 replace g18 := g18.mono hF79
 replace g20 := g20.mono hF79
 replace g21 := g21.mono hF79
 replace g23 := g23.mono hF79
 have hsl81 := resB_box3 hz80
 refine At rfl rfl (Az rfl <| Al rfl <| Ab) (by first | rfl | decide) ?_
 refine Bw rfl (Bc bd_21 A2 (.cons (Az rfl <| Ab) (.cons (Ab) .nil)) (refSame_ok hq2 hsl81) (fun _ _ h => h)) ?_
 refine Aa rfl (A3 (Az rfl <| Ao rfl <| Ab) (by first | rfl | decide) (Ab)) ?_
 refine Aa rfl (Af (Ab)) ?_
 refine At rfl rfl (Ab) (by first | rfl | decide) ?_
 refine Aa rfl (Af (Bl rfl <| A8 rfl <| Ba rfl <| Ao rfl <| Al rfl <| B2 (Cg he70 (by kernel_rfl)) <| B2 (Cg he66 (by kernel_rfl)) <| B2 (Cg he62 (by kernel_rfl)) <| B2 (Cg he58 (by kernel_rfl)) <| A8 rfl <| Ba rfl <| Al rfl <| Ab)) ?_
 refine At rfl rfl (Al rfl <| Ab) (by first | rfl | decide) ?_
 refine Bn rfl (B0 Bq C8 rfl (.cons Ac (.cons Ac (.cons Ac (.cons Ac .nil)))) rfl rfl (by decide) (by simp [Value.oneCell']) fun b82 hb82 nb82 => ?_)
 refine Bu (i := 0) rfl hb82 .here fun F83 hF84 hz85 => ?_
 replace hq3 := hq3.mono hF84
 replace hq4 := hq4.mono hF84
 replace hq7 := hq7.mono hF84
 replace g18 := g18.mono hF84
 replace g20 := g20.mono hF84
 replace g21 := g21.mono hF84
 replace g23 := g23.mono hF84
 have hsl86 := ints_box4 hz85
 refine At rfl rfl (Ao rfl <| Ab) (by first | rfl | decide) ?_
 refine Bw rfl (Bc bd_25 A2 (.cons (Al rfl <| Ab) (.cons (Ab) .nil)) (refInts_ok hq3 hsl86) (fun _ _ h => h)) ?_
 refine Aa rfl (A3 (Ao rfl <| Al rfl <| Ab) (by first | rfl | decide) (Ab)) ?_
 refine Aa rfl (Af (Ab)) ?_
 refine At rfl rfl (Ab) (by first | rfl | decide) ?_
 refine Aa rfl (Af (Bl rfl <| Bl rfl <| B2 (Cg he70 (by kernel_rfl)) <| B2 (Cg he66 (by kernel_rfl)) <| B2 (Cg he62 (by kernel_rfl)) <| B2 (Cg he58 (by kernel_rfl)) <| A8 rfl <| Ba rfl <| Ab)) ?_
 refine At rfl rfl (Al rfl <| Ab) (by first | rfl | decide) ?_
 refine Bn rfl (B0 Bq C8 rfl (.cons Ac .nil) rfl rfl (by decide) (by simp [Value.oneCell']) fun b87 hb87 nb87 => ?_)
 refine Bu (i := 0) rfl hb87 .here fun F88 hF89 hz90 => ?_
 replace hq4 := hq4.mono hF89
 replace hq7 := hq7.mono hF89
 replace g18 := g18.mono hF89
 replace g20 := g20.mono hF89
 replace g21 := g21.mono hF89
 replace g23 := g23.mono hF89
 have hsl91 := Co hz90
 refine At rfl rfl (Ao rfl <| Ab) (by first | rfl | decide) ?_
 refine Bw rfl (Bc bd_25 A2 (.cons (Al rfl <| Ab) (.cons (Ab) .nil)) (refInts_ok hq4 hsl91) (fun _ _ h => h)) ?_
 refine Aa rfl (A3 (Ao rfl <| Al rfl <| Ab) (by first | rfl | decide) (Ab)) ?_
 refine Aa rfl (Af (Ab)) ?_
 refine At rfl rfl (Ab) (by first | rfl | decide) ?_
 refine Aa rfl (Af (Bl rfl <| Bl rfl <| Az rfl <| Al rfl <| B2 (Cg he70 (by kernel_rfl)) <| B2 (Cg he66 (by kernel_rfl)) <| B2 (Cg he62 (by kernel_rfl)) <| B2 (Cg he58 (by kernel_rfl)) <| A8 rfl <| Az rfl <| Ao rfl <| Al rfl <| Ab)) ?_
 refine At rfl rfl (Al rfl <| Ab) (by first | rfl | decide) ?_
 refine Aa rfl (B1 (Ab) Ac) ?_
 refine Aa rfl (A3 (Ao rfl <| Ab) (by first | rfl | decide) (Ab)) ?_
 refine Aa rfl (Af (Ab)) ?_
 refine At rfl rfl (Ab) (by first | rfl | decide) ?_
 refine Aa rfl (Af (Bl rfl <| Bl rfl <| Ba rfl <| Al rfl <| B2 (Cg he70 (by kernel_rfl)) <| B2 (Cg he66 (by kernel_rfl)) <| B2 (Cg he62 (by kernel_rfl)) <| B2 (Cg he58 (by kernel_rfl)) <| Al rfl <| Ab)) ?_
 refine At rfl rfl (Al rfl <| Ab) (by first | rfl | decide) ?_
 refine Bn rfl (B0 Bq C8 rfl (.cons Ac (.cons Ac (.cons Ac .nil))) rfl rfl (by decide) (by simp [Value.oneCell']) fun b92 hb92 nb92 => ?_)
 refine Bu (i := 0) rfl hb92 .here fun F93 hF94 hz95 => ?_
 replace hq7 := hq7.mono hF94
 replace g18 := g18.mono hF94
 replace g20 := g20.mono hF94
 replace g21 := g21.mono hF94
 replace g23 := g23.mono hF94
 have hsl96 := ints_box3 hz95
 refine At rfl rfl (Ao rfl <| Ab) (by first | rfl | decide) ?_
 refine Bw rfl (Bc bd_25 A2 (.cons (Al rfl <| Ab) (.cons (Ab) .nil)) (refInts_ok hq7 hsl96) (fun _ _ h => h)) ?_
 refine Aa rfl (A3 (Ao rfl <| Al rfl <| Ab) (by first | rfl | decide) (Ab)) ?_
 refine Aa rfl (Af (Ab)) ?_
 refine At rfl rfl (Ab) (by first | rfl | decide) ?_
 refine Aa rfl (Af (Bl rfl <| Bl rfl <| Ba rfl <| Az rfl <| Ao rfl <| B2 (Cg he70 (by kernel_rfl)) <| B2 (Cg he66 (by kernel_rfl)) <| B2 (Cg he62 (by kernel_rfl)) <| C4 rfl)) ?_
 refine At rfl rfl (Al rfl <| Ab) (by first | rfl | decide) ?_
 refine Bn rfl (B0 Bq C8 rfl (.cons Ac (.cons Ac .nil)) rfl rfl (by decide) (by simp [Value.oneCell']) fun b97 hb97 nb97 => ?_)
 refine Bu (i := 0) rfl hb97 .here fun F98 hF99 hz100 => ?_
 replace g18 := g18.mono hF99
 replace g20 := g20.mono hF99
 replace g21 := g21.mono hF99
 replace g23 := g23.mono hF99
 have hsl101 := n13_box2 hz100
 refine At rfl rfl (Ao rfl <| Ab) (by first | rfl | decide) ?_
 refine Bn rfl (B0 Bq C8 rfl (.cons Ac (.cons Ac (.cons Ac .nil))) rfl rfl (by decide) (by simp [Value.oneCell']) fun b102 hb102 nb102 => ?_)
 refine Bu (i := 0) rfl hb102 .here fun F103 hF104 hz105 => ?_
 replace g18 := g18.mono hF104
 replace g20 := g20.mono hF104
 replace g21 := g21.mono hF104
 replace g23 := g23.mono hF104
 replace hsl101 := hsl101.mono hF104
 have hsl106 := n013_box3 hz105
 refine At rfl rfl (Ao rfl <| Al rfl <| Ab) (by first | rfl | decide) ?_
 refine Bn rfl (B0 Bq C8 rfl (.cons Ac (.cons Ac (.cons Ac .nil))) rfl rfl (by decide) (by simp [Value.oneCell']) fun b107 hb107 nb107 => ?_)
 refine Bu (i := 0) rfl hb107 .here fun F108 hF109 hz110 => ?_
 replace g18 := g18.mono hF109
 replace g20 := g20.mono hF109
 replace g21 := g21.mono hF109
 replace g23 := g23.mono hF109
 replace hsl101 := hsl101.mono hF109
 replace hsl106 := hsl106.mono hF109
 have hsl111 := n123_box3 hz110
 refine At rfl rfl (Az rfl <| Ab) (by first | rfl | decide) ?_
 refine Bn rfl (B0 Fg zr_28 rfl (.cons (Ao rfl <| Ab) (.cons (Al rfl <| Ab) (.cons (Ab) .nil))) rfl rfl (by decide) (by simp [Value.oneCell']) fun b112 hb112 nb112 => ?_)
 refine Bu (i := 0) rfl hb112 .here fun F113 hF114 hz115 => ?_
 replace g18 := g18.mono hF114
 replace g20 := g20.mono hF114
 replace g21 := g21.mono hF114
 replace g23 := g23.mono hF114
 replace hsl101 := hsl101.mono hF114
 replace hsl106 := hsl106.mono hF114
 replace hsl111 := hsl111.mono hF114
 have hsl116 := vals_box3 hz115
 refine At rfl rfl (Az rfl <| Al rfl <| Ab) (by first | rfl | decide) ?_
 refine Bw rfl (Bc bd_30 A2 (.cons (Az rfl <| Ab) (.cons (Ab) .nil)) (alike_ok g18 (lsts3 hsl116 hsl101 hsl106 hsl111)) (fun _ _ h => h)) ?_
 refine Aa rfl (A3 (Az rfl <| Ao rfl <| Ab) (by first | rfl | decide) (Ab)) ?_
 refine Aa rfl (Af (Ab)) ?_
 refine At rfl rfl (Ab) (by first | rfl | decide) ?_
 refine Aa rfl (Af (Bl rfl <| Bl rfl <| A8 rfl <| Az rfl <| Ao rfl <| B2 (Cg he70 (by kernel_rfl)) <| B2 (Cg he66 (by kernel_rfl)) <| C4 rfl)) ?_
 refine At rfl rfl (Al rfl <| Ab) (by first | rfl | decide) ?_
 refine Bn rfl (B0 Bq C8 rfl (.cons Ac (.cons Ac .nil)) rfl rfl (by decide) (by simp [Value.oneCell']) fun b117 hb117 nb117 => ?_)
 refine Bu (i := 0) rfl hb117 .here fun F118 hF119 hz120 => ?_
 replace g20 := g20.mono hF119
 replace g21 := g21.mono hF119
 replace g23 := g23.mono hF119
 have hsl121 := n02_box2 hz120
 refine At rfl rfl (Ao rfl <| Ab) (by first | rfl | decide) ?_
 refine Bw rfl (Bc bd_25 A2 (.cons (Al rfl <| Ab) (.cons (Ab) .nil)) (refInts_nat g20 hsl121) (fun _ _ h => h)) ?_
 refine Aa rfl (A3 (Ao rfl <| Al rfl <| Ab) (by first | rfl | decide) (Ab)) ?_
 refine Aa rfl (Af (Ab)) ?_
 refine At rfl rfl (Ab) (by first | rfl | decide) ?_
 refine Aa rfl (Af (Bl rfl <| Bl rfl <| A8 rfl <| Ba rfl <| Ao rfl <| Al rfl <| B2 (Cg he70 (by kernel_rfl)) <| B2 (Cg he66 (by kernel_rfl)) <| C4 rfl)) ?_
 refine At rfl rfl (Al rfl <| Ab) (by first | rfl | decide) ?_
 refine Bn rfl (B0 Bq C8 rfl (.cons Ac (.cons Ac (.cons Ac (.cons Ac .nil)))) rfl rfl (by decide) (by simp [Value.oneCell']) fun b122 hb122 nb122 => ?_)
 refine Bu (i := 0) rfl hb122 .here fun F123 hF124 hz125 => ?_
 replace g21 := g21.mono hF124
 replace g23 := g23.mono hF124
 have hsl126 := n0123_box4 hz125
 refine At rfl rfl (Ao rfl <| Ab) (by first | rfl | decide) ?_
 refine Bw rfl (Bc bd_25 A2 (.cons (Al rfl <| Ab) (.cons (Ab) .nil)) (refInts_nat g21 hsl126) (fun _ _ h => h)) ?_
 refine Aa rfl (A3 (Ao rfl <| Al rfl <| Ab) (by first | rfl | decide) (Ab)) ?_
 refine Aa rfl (Af (Ab)) ?_
 refine At rfl rfl (Ab) (by first | rfl | decide) ?_
 refine Aa rfl (Af (Bl rfl <| Bl rfl <| Bl rfl <| B2 (Cg he70 (by kernel_rfl)) <| C4 rfl)) ?_
 refine At rfl rfl (Al rfl <| Ab) (by first | rfl | decide) ?_
 refine Bn rfl (B0 Bq C8 rfl (.cons Ac (.cons Ac .nil)) rfl rfl (by decide) (by simp [Value.oneCell']) fun b127 hb127 nb127 => ?_)
 refine Bu (i := 0) rfl hb127 .here fun F128 hF129 hz130 => ?_
 replace g23 := g23.mono hF129
 have hsl131 := n02_box2 hz130
 refine At rfl rfl (Ao rfl <| Ab) (by first | rfl | decide) ?_
 refine Bw rfl (Bc bd_25 A2 (.cons (Al rfl <| Ab) (.cons (Ab) .nil)) (refInts_nat g23 hsl131) (fun _ _ h => h)) ?_
 refine Aa rfl (A3 (Ao rfl <| Al rfl <| Ab) (by first | rfl | decide) (Ab)) ?_
 refine Aa rfl (Ae (Ab)) ?_
 refine Ah <| Ad <| A9 <| Ay rfl (.tmp (Ab) .nil) ?_
 show _ = _
 first | rfl | decide
end Go.Proofs.Ytaikojfonleccaa
namespace Go.Proofs.Ytaikojfonleccaa
open Go.RowKit
theorem bd_22 : Body Try.prog 22 := Bt (by kernel_rfl)
end Go.Proofs.Ytaikojfonleccaa
namespace Go.Proofs.Ytaikojfonleccaa
def ringL (bits n : Nat) : List Nat := selTo bits.testBit n
def ringN (s : Sale) (bits : Nat) : List Nat := if (ringL bits s.bidders.length).length = 1 then [] else ringL bits s.bidders.length
theorem mem_selTo {p : Nat → Bool} {k i : Nat} : i ∈ selTo p k ↔ i < k ∧ p i = true := by unfold selTo; simp
theorem selTo_asc {p : Nat → Bool} {k : Nat} : Asc (selTo p k) := List.Pairwise.sublist List.filter_sublist List.pairwise_lt_range
theorem ringN_asc {s : Sale} {bits : Nat} : Asc (ringN s bits) := by
 unfold ringN; split
 · exact .nil
 · exact selTo_asc
theorem ringN_lt {s : Sale} {bits : Nat} : ∀ i ∈ ringN s bits, i < s.bidders.length := by
 intro i hi; unfold ringN at hi; split at hi
 · cases hi
 · exact (mem_selTo.1 hi).1
theorem ringN_one {s : Sale} {bits : Nat} : (ringN s bits).length ≠ 1 := by
 unfold ringN; split
 · simp
 · assumption
theorem mem_everyR {n : Nat} {l : List Nat} (h1 : Asc l) (h2 : ∀ b ∈ l, b < n) (h3 : l.length ≠ 1) : l ∈ everyR n := by
 unfold everyR
 by_cases h0 : l.length = 0
 · rw [List.eq_nil_of_length_eq_zero h0]; exact List.mem_cons_self
 · refine List.mem_cons_of_mem _ (List.mem_flatMap.2 ⟨l.length, ?_, mem_lists.2 ⟨h1, fun i hi => ⟨by omega, h2 i hi⟩, rfl⟩⟩)
   have : l.length ≤ n := by
     have := sub_len (b := List.range n) h1 (fun i hi => List.mem_range.2 (h2 i hi))
     simpa using this
   exact List.mem_range'_1.2 ⟨by omega, by omega⟩
theorem ringN_every {s : Sale} {bits : Nat} : ringN s bits ∈ everyR s.bidders.length := mem_everyR ringN_asc ringN_lt ringN_one
end Go.Proofs.Ytaikojfonleccaa
namespace Go.Proofs.Ytaikojfonleccaa
open Go.RowKit
theorem Ex {m k : Nat} : decide ((((m / 2 ^ k : Nat) : Int) % 2) = 1) = m.testBit k := by
 rw [Nat.testBit_eq_decide_div_mod_eq]
 by_cases h : m / 2 ^ k % 2 = 1
 · rw [decide_eq_true h]; exact decide_eq_true (by omega)
 · rw [decide_eq_false h]; exact decide_eq_false (by omega)
set_option maxRecDepth 100000 in
theorem valid_ok {F : Heap} {vs vb vl vn vd : Value} {s : Sale} (hr : SaleR F vs vb vl vn vd s) : Ok Try.prog 38 [.agg #[vs, .int .i64 s.premium, .int .i64 s.fee, .int .i64 s.days, vb, vl, vn, vd]].toArray F fun u _ => u = .bool (decide ((checkS s).2.2 = 0)) := by
 refine Ok.intro Try.func38 rfl Try.ntmps38 rfl fun w0 => ?_
 refine Ag <| Ai fun ds => Bn rfl (Cf (Ak rfl) rfl fun b1 hb1 nb1 => ?_)
 refine Aa rfl (Ae Ac) ?_
 refine Ah <| Ad <| Ag <| Ai fun ds => Aa rfl (Bh Ca (Al rfl <| Ab) rfl rfl (Bk 0 rfl)) ?_
 refine Bw rfl (Bc bd_16 A2 (.cons (Ab) .nil) (refCheckS_ok hr) (fun _ _ h => h.trans (show checkSV s = .tuple #[.int .i64 (checkS s).1, .int .i64 (checkS s).2.1, .int .i64 (checkS s).2.2] from rfl))) ?_
 refine Aa rfl (Af (Ab)) ?_
 refine Aa rfl (A5 (Ab) rfl) ?_
 refine Aa rfl (A5 (Al rfl <| Ab) rfl) ?_
 refine Aa rfl (A5 (Ao rfl <| Ab) rfl) ?_
 refine Aa rfl (Ae (Ao rfl <| Ab)) ?_
 refine Aa rfl (Ae (Ao rfl <| Ab)) ?_
 refine Aa rfl (Ae (Ao rfl <| Ab)) ?_
 refine Ah <| Ad <| Ag <| Ai fun ds => Aa rfl (Af (Ab)) ?_
 refine Aa rfl (B1 (Ab) Ac) ?_
 refine Aa rfl (Ae (Ab)) ?_
 refine Ah <| Ad <| A9 <| Ay rfl (.tmp (Ab) .nil) ?_
 rfl
set_option maxRecDepth 100000 in
theorem ring_ok {F : Heap} {vs vb vl vn vd : Value} {s : Sale} (hr : SaleR F vs vb vl vn vd s) (hv : ValidS s) {bits : Nat} : Ok Try.prog 39 [.agg #[vs, .int .i64 s.premium, .int .i64 s.fee, .int .i64 s.days, vb, vl, vn, vd], .int .u8 (bits : Int)].toArray F fun u F' => Nats F' u (ringN s bits) := by
 refine Ok.intro Try.func39 rfl Try.ntmps39 rfl fun w0 => ?_
 have hL1 := hr.bidders.plain.lt
 have hnb := hv.nb
 refine Ag <| Ai fun ds => Bn rfl (Cf (Ak rfl) rfl fun b1 hb1 nb1 => ?_)
 refine Aa rfl (Ae Ac) ?_
 refine Ah <| Ad <| Ag <| Ai fun ds => Aa rfl (Ae Ac) ?_
 refine Ah <| Ad <| Ag <| Ag <| Ai fun ds => Aa rfl (Ae Ac) ?_
 refine Ah <| Ad <| A4 <| Bz [5, 6, 7, 8, 9, 10, 11, 12, 13, 14, 15, 16, 17, 18, 19, 20, 21, 22] (fun m e σ => ∃ k : Nat, m + k = s.bidders.length ∧ e 6 = .int .i64 (k : Int) ∧ ∃ v R, e 5 = v ∧ Own 3 1 v (ringL bits k).length ((ringL bits k).flatMap natE) R ∧ σ = ⟨F, (b1, bx 27 [vs, .int .i64 s.premium, .int .i64 s.fee, .int .i64 s.days, vb, vl, vn, vd]) :: R⟩) (s.bidders.length) ?_ ?_
 · exact ⟨0, by omega, (Ab), _, _, (Al rfl <| Ab), Own.nil, rfl⟩
 ·
  rintro m e _ ⟨k, hm, hs6, v5, R2, hs5, ho, rfl⟩; have hbl : (ringL bits k).length ≤ k := Ek
  by_cases hlt : k < s.bidders.length
  ·
   refine Ag <| Ag <| Ai fun ds => Aa rfl (Af (As rfl hs6)) ?_
   refine Aa rfl (Aj Dg (Al rfl <| Ap rfl <| Ao rfl <| Al rfl <| Ab)) ?_
   refine Aa rfl (Aq C1 (Ab) (Cell.own 0 rfl rfl)) ?_
   refine Aa rfl (Bg Cx (Ab) hr.bidders.plain) ?_
   refine Aa rfl (Bs (Ao rfl <| Al rfl <| Ab) (Ab)) ?_
   refine Ah <| Ad <| Ar (Ab) (by first | rfl | exact decide_eq_true (by omega)) ?_
   by_cases hb : bits.testBit k = true
   ·
    refine Aw <| Ad <| Ag <| A4 <| Ag <| Ai fun ds => Aa rfl (Af (Az rfl <| Al rfl <| Ap rfl <| Az rfl <| Ak rfl)) ?_
    refine Aa rfl (Af (Az rfl <| Ao rfl <| As rfl hs6)) ?_
    refine Aa rfl (Ew (Al rfl <| Ab) (Ab) (k := k) rfl (by show k < 8; omega) De) ?_
    refine Aa rfl (E8 (Ab) Ac (Int.natCast_nonneg _) (by decide)) ?_
    refine Aa rfl (B1 (Ab) Ac) ?_
    refine Ah <| Ad <| Ar (Ab) (by rw [Ex]; exact hb) ?_
    refine Ai fun ds => Aa rfl (Af (Ba rfl <| Ao rfl <| As rfl hs5)) ?_
    refine Aa rfl (Af (Ba rfl <| Ao rfl <| Al rfl <| As rfl hs6)) ?_
    refine Bn rfl (B0 Bq C8 rfl (.cons (Ab) .nil) rfl rfl (by decide) (by simp [Value.oneCell']) fun b3 hb3 nb3 => ?_)
    refine Bn rfl (Cw Bq el_3 (Ao rfl <| Ab) ho (Ab) (C6 (s := 1) 0 rfl rfl (by simp [Value.oneCell'])) (by omega) (by omega) (.s <| .s <| .z) .last fun v4 R5 ho6 => ?_)
    have ho2 := ho6.snoc (x := k) rfl rfl
    refine Aa rfl (Ae (Ab)) ?_
    refine Ah <| Bf <| Ad <| Cc (fun _ _ h => h.drop (.cons _ <| .cons_cons _ <| .refl _)) ?_
    refine Ai fun ds => Aa rfl (Af (Ba rfl <| Az rfl <| Ao rfl <| Al rfl <| As rfl hs6)) ?_
    refine Aa rfl (Bp (Ab) Ac rfl (by omega) (by omega)) ?_
    refine Aa rfl (Ae (Ab)) ?_
    refine Ah <| Ad ⟨_, m - 1, Off.eq (C3 rfl <| Eo rfl <| Be), by omega, ?_⟩
    refine ⟨k + 1, by omega, (Ab), _, _, (Ao rfl <| Al rfl <| Ab), by rw [ringL, Cq, if_pos hb]; exact ho2, rfl⟩
   ·
    replace hb : bits.testBit k = false := by simpa using hb
    refine Aw <| Ad <| Ag <| A4 <| Ag <| Ai fun ds => Aa rfl (Af (Az rfl <| Al rfl <| Ap rfl <| Az rfl <| Ak rfl)) ?_
    refine Aa rfl (Af (Az rfl <| Ao rfl <| As rfl hs6)) ?_
    refine Aa rfl (Ew (Al rfl <| Ab) (Ab) (k := k) rfl (by show k < 8; omega) De) ?_
    refine Aa rfl (E8 (Ab) Ac (Int.natCast_nonneg _) (by decide)) ?_
    refine Aa rfl (B1 (Ab) Ac) ?_
    refine Ah <| Ad <| Am (Ab) (by rw [Ex]; exact hb) ?_
    refine Aw <| Bf <| Ad <| Ai fun ds => Aa rfl (Af (Ba rfl <| Ao rfl <| As rfl hs6)) ?_
    refine Aa rfl (Bp (Ab) Ac rfl (by omega) (by omega)) ?_
    refine Aa rfl (Ae (Ab)) ?_
    refine Ah <| Ad ⟨_, m - 1, Off.eq (Ed rfl <| E0 rfl <| El rfl <| Be), by omega, ?_⟩
    refine ⟨k + 1, by omega, (Ab), _, _, (Ba rfl <| Az rfl <| Al rfl <| As rfl hs5), by rw [ringL, Cq, if_neg (by rw [hb]; simp)]; exact ho, rfl⟩
  ·
   refine Ag <| Ag <| Ai fun ds => Aa rfl (Af (As rfl hs6)) ?_
   refine Aa rfl (Aj Dg (Al rfl <| Ap rfl <| Ao rfl <| Al rfl <| Ab)) ?_
   refine Aa rfl (Aq C1 (Ab) (Cell.own 0 rfl rfl)) ?_
   refine Aa rfl (Bg Cx (Ab) hr.bidders.plain) ?_
   refine Aa rfl (Bs (Ao rfl <| Al rfl <| Ab) (Ab)) ?_
   refine Ah <| Ad <| Am (Ab) (by first | rfl | exact decide_eq_false (by omega)) ?_
   obtain rfl : k = s.bidders.length := by omega
   refine Ec (σ := ⟨_, _⟩) (by rfl) ho (.s <| .z) .last fun F7 hF8 hz9 => ?_
   have hn2 := ho.sl (fun _ => rfl) hz9 (by have := Ek (p := bits.testBit) (k := s.bidders.length); unfold ringL; omega)
   by_cases h1 : (ringL bits s.bidders.length).length = 1
   ·
    refine Bv ?_
    refine Bm <| Bm <| Bo <| Ad <| Ag <| Ag <| Ai fun ds => Aa rfl (Af (Az rfl <| Al rfl <| As rfl hs5)) ?_
    refine Aa rfl (Bg Bq (Ab) hn2.plain) ?_
    refine Aa rfl (B1 (Ab) Ac) ?_
    refine Ah <| Ad <| Ar (Ab) (decide_eq_true (by omega)) ?_
    refine Ag <| Ai fun ds => Aa rfl (Ae Ac) ?_
    refine Ah <| Ad <| A9 <| A6 ?_
    refine Ay rfl (.tmp (Ab) .nil) ?_
    unfold ringN; rw [if_pos h1]
    exact Sl.nil
   ·
    refine Bv ?_
    refine Bm <| Bm <| Bo <| Ad <| Ag <| Ag <| Ai fun ds => Aa rfl (Af (Az rfl <| Al rfl <| As rfl hs5)) ?_
    refine Aa rfl (Bg Bq (Ab) hn2.plain) ?_
    refine Aa rfl (B1 (Ab) Ac) ?_
    refine Ah <| Ad <| Am (Ab) (decide_eq_false (by omega)) ?_
    refine Aw <| Ad <| Ag <| Ai fun ds => Aa rfl (Af (Ba rfl <| As rfl hs5)) ?_
    refine Aa rfl (Ae (Ab)) ?_
    refine Ah <| Ad <| A9 <| Ay rfl (.tmp (Ab) .nil) ?_
    unfold ringN; rw [if_neg h1]
    exact hn2
end Go.Proofs.Ytaikojfonleccaa
namespace Go.Proofs.Ytaikojfonleccaa
def offN (off : List Nat) (n : Nat) : Nat := off[n % off.length]?.getD 0
def toldE (s : Sale) (rg : List Int) (off : List Nat) (i : Nat) : Ent :=
 if (soldS s i rg).bidder ≠ -1 then ⟨i, true, max 0 ((soldS s i rg).price - ((offN off (2 * i) % 40 : Nat) : Int)), min 100000 ((soldS s i rg).price + ((offN off (2 * i + 1) % 40 : Nat) : Int))⟩ else ⟨i, false, 0, 0⟩
def flipE (b : Bool) (x : Ent) : Ent := if b = true then ⟨x.lot, !x.sold, 0, 0⟩ else x
def toldTo (s : Sale) (rg : List Int) (off : List Nat) (lots bits : Nat) : Nat → List Ent
 | 0 => []
 | k + 1 => if lots.testBit k = true then toldTo s rg off lots bits k else toldTo s rg off lots bits k ++ [flipE (bits.testBit (toldTo s rg off lots bits k).length) (toldE s rg off k)]
def toldL (s : Sale) (rg : List Int) (off : List Nat) (lots bits : Nat) : List Ent := toldTo s rg off lots bits s.lots.length
theorem toldE_lot {s : Sale} {rg : List Int} {off : List Nat} {i : Nat} : (toldE s rg off i).lot = (i : Int) := by unfold toldE; split <;> rfl
theorem flipE_lot {b : Bool} {x : Ent} : (flipE b x).lot = x.lot := by unfold flipE; split <;> rfl
theorem told_len {s : Sale} {rg : List Int} {off : List Nat} {lots bits : Nat} : ∀ k, (toldTo s rg off lots bits k).length ≤ k
 | 0 => Nat.le_refl _
 | k + 1 => by
   have := told_len (s := s) (rg := rg) (off := off) (lots := lots) (bits := bits) k
   unfold toldTo; split
   · omega
   · rw [List.length_append, List.length_singleton]; omega
/-- Each entry is of a lot, the lots ascend. -/
theorem told_at {s : Sale} {rg : List Int} {off : List Nat} {lots bits : Nat} : ∀ k j (hj : j < (toldTo s rg off lots bits k).length), ∃ i, i < k ∧ j ≤ i ∧ (toldTo s rg off lots bits k)[j] = flipE (bits.testBit j) (toldE s rg off i) ∧ ∀ j' (hj' : j' < (toldTo s rg off lots bits k).length), j' < j → (toldTo s rg off lots bits k)[j'].lot < (i : Int)
 | 0, j, hj => absurd hj (by simp [toldTo])
 | k + 1, j, hj => by
   by_cases hl : lots.testBit k = true
   · have he : toldTo s rg off lots bits (k + 1) = toldTo s rg off lots bits k := by rw [toldTo, if_pos hl]
     simp only [he] at hj ⊢
     obtain ⟨i, h1, h2, h3, h4⟩ := told_at k j hj
     exact ⟨i, by omega, h2, h3, h4⟩
   · have he : toldTo s rg off lots bits (k + 1) = toldTo s rg off lots bits k ++ [flipE (bits.testBit (toldTo s rg off lots bits k).length) (toldE s rg off k)] := by rw [toldTo, if_neg hl]
     simp only [he] at hj ⊢
     rw [List.length_append, List.length_singleton] at hj
     by_cases hjk : j < (toldTo s rg off lots bits k).length
     · obtain ⟨i, h1, h2, h3, h4⟩ := told_at k j hjk
       refine ⟨i, by omega, h2, by rw [List.getElem_append_left hjk]; exact h3, fun j' hj' hlt => ?_⟩
       rw [List.getElem_append_left (by omega)]
       exact h4 j' (by omega) hlt
     · obtain rfl : j = (toldTo s rg off lots bits k).length := by omega
       refine ⟨k, by omega, told_len k, by rw [List.getElem_append_right (by omega)]; simp, fun j' hj' hlt => ?_⟩
       rw [List.getElem_append_left hlt]
       obtain ⟨i, h1, h2, h3, h4⟩ := told_at k j' hlt
       rw [h3, flipE_lot, toldE_lot]; omega
theorem told_range {s : Sale} (hv : ValidS s) {rg : List Int} {off : List Nat} {i : Nat} (hi : i < s.lots.length) (b : Bool) : rangeE (flipE b (toldE s rg off i)).lo (flipE b (toldE s rg off i)).hi 0 100000 = 0 ∧ ((flipE b (toldE s rg off i)).sold = false → (flipE b (toldE s rg off i)).lo = 0 ∧ (flipE b (toldE s rg off i)).hi = 0) := by
 have hb := Ej hv hi rg
 cases b with
 | true => unfold flipE rangeE; simp
 | false =>
   simp only [flipE, Bool.false_eq_true, if_false]
   unfold toldE
   split
   · refine ⟨?_, fun h => by cases h⟩
     unfold rangeE
     simp only
     have h1 : ((offN off (2 * i) % 40 : Nat) : Int) ≥ 0 := by omega
     have h2 : ((offN off (2 * i + 1) % 40 : Nat) : Int) ≥ 0 := by omega
     rw [if_neg (by omega), if_neg (by omega)]
   · exact ⟨show rangeE 0 0 0 100000 = 0 by decide, fun _ => ⟨rfl, rfl⟩⟩
theorem told_cat {s : Sale} (hv : ValidS s) {rg : List Int} {off : List Nat} {lots bits : Nat} : catE s (toldL s rg off lots bits) = 0 := by
 refine catE_ok fun j hj => ?_
 obtain ⟨i, h1, h2, h3, h4⟩ := told_at s.lots.length j hj
 have h3' : (toldL s rg off lots bits)[j] = flipE (bits.testBit j) (toldE s rg off i) := h3
 have hr := told_range hv (rg := rg) (off := off) h1 (bits.testBit j)
 rw [Dt hj, if_neg, if_neg]
 · rw [h3']; exact hr.1
 · rw [h3']
   rintro (⟨h5, h6⟩ | ⟨h5, h6⟩)
   · rw [List.getElem?_eq_getElem (show j - 1 < (toldL s rg off lots bits).length by omega)] at h6
     simp only [Option.map_some, Option.getD_some, flipE_lot, toldE_lot] at h6
     have := h4 (j - 1) (by show j - 1 < (toldL s rg off lots bits).length; omega) (by omega)
     have h7 : (toldL s rg off lots bits)[j - 1].lot < (i : Int) := this
     omega
   · exact h6 (hr.2 h5)
 · rw [h3', flipE_lot, toldE_lot]; unfold inB; simp; omega
/-- An entry that is not changed is right. -/
theorem told_right {s : Sale} (hv : ValidS s) {ring : List Nat} {off : List Nat} {lots bits j : Nat} (hj : j < (toldL s (castL ring) off lots bits).length) (hb : bits.testBit j = false) : rightE (toldL s (castL ring) off lots bits)[j] (entRes s (toldL s (castL ring) off lots bits)[j] ring) = true := by
 obtain ⟨i, h1, h2, h3, h4⟩ := told_at s.lots.length j hj
 have h3' : (toldL s (castL ring) off lots bits)[j] = toldE s (castL ring) off i := by
   rw [show (toldL s (castL ring) off lots bits)[j] = flipE (bits.testBit j) (toldE s (castL ring) off i) from h3, hb]; rfl
 rw [h3']
 unfold entRes rightE
 rw [toldE_lot]
 simp only [Int.toNat_natCast]
 have hbd := Ej hv h1 (castL ring)
 unfold toldE
 by_cases hne : (soldS s i (castL ring)).bidder ≠ -1
 · rw [if_pos hne]
   have h1 : ((offN off (2 * i) % 40 : Nat) : Int) ≥ 0 := by omega
   have h2 : ((offN off (2 * i + 1) % 40 : Nat) : Int) ≥ 0 := by omega
   have h5 : max 0 ((soldS s i (castL ring)).price - ((offN off (2 * i) % 40 : Nat) : Int)) ≤ (soldS s i (castL ring)).price := by omega
   have h6 : (soldS s i (castL ring)).price ≤ min 100000 ((soldS s i (castL ring)).price + ((offN off (2 * i + 1) % 40 : Nat) : Int)) := by omega
   simp only [decide_eq_true hne, decide_eq_true h5, decide_eq_true h6]; rfl
 · rw [if_neg hne]
   simp only [decide_eq_false hne]; rfl
theorem told_bad {s : Sale} (hv : ValidS s) {ring : List Nat} {off : List Nat} {lots bits : Nat} : ∀ j ∈ badL s (toldL s (castL ring) off lots bits) ring, bits.testBit j = true := fun j hj => by
 obtain ⟨h1, h2⟩ := badL_mem.1 hj
 cases hb : bits.testBit j with
 | true => rfl
 | false =>
   have h3 := told_right hv h1 hb
   unfold badB at h2
   rw [← ent_at h1, h3] at h2
   cases h2
def lackTo (l : List Ent) (out : List Nat) : Nat → List Ent
 | 0 => []
 | k + 1 => if k ∈ out then lackTo l out k else lackTo l out k ++ [ent l k]
def lackL (l : List Ent) (out : List Nat) : List Ent := lackTo l out l.length
theorem lack_len {l : List Ent} {out : List Nat} : ∀ k, (lackTo l out k).length ≤ k
 | 0 => Nat.le_refl _
 | k + 1 => by
   have := lack_len (l := l) (out := out) k
   unfold lackTo; split
   · omega
   · rw [List.length_append, List.length_singleton]; omega
theorem lack_at {l : List Ent} {out : List Nat} : ∀ k j (hj : j < (lackTo l out k).length), ∃ i, i < k ∧ i ∉ out ∧ (lackTo l out k)[j] = ent l i ∧ ∀ j' (hj' : j' < (lackTo l out k).length), j' < j → ∃ i', i' < i ∧ (lackTo l out k)[j'] = ent l i'
 | 0, j, hj => absurd hj (by simp [lackTo])
 | k + 1, j, hj => by
   by_cases hl : k ∈ out
   · have he : lackTo l out (k + 1) = lackTo l out k := by rw [lackTo, if_pos hl]
     simp only [he] at hj ⊢
     obtain ⟨i, h1, h2, h3, h4⟩ := lack_at k j hj
     exact ⟨i, by omega, h2, h3, h4⟩
   · have he : lackTo l out (k + 1) = lackTo l out k ++ [ent l k] := by rw [lackTo, if_neg hl]
     simp only [he] at hj ⊢
     rw [List.length_append, List.length_singleton] at hj
     by_cases hjk : j < (lackTo l out k).length
     · obtain ⟨i, h1, h2, h3, h4⟩ := lack_at k j hjk
       refine ⟨i, by omega, h2, by rw [List.getElem_append_left hjk]; exact h3, fun j' hj' hlt => ?_⟩
       rw [List.getElem_append_left (by omega)]
       exact h4 j' (by omega) hlt
     · obtain rfl : j = (lackTo l out k).length := by omega
       refine ⟨k, by omega, hl, by rw [List.getElem_append_right (by omega)]; simp, fun j' hj' hlt => ?_⟩
       rw [List.getElem_append_left hlt]
       obtain ⟨i, h1, h2, h3, h4⟩ := lack_at k j' hlt
       exact ⟨i, h1, h3⟩
theorem lack_has {l : List Ent} {out : List Nat} : ∀ k i, i < k → i ∉ out → ent l i ∈ lackTo l out k
 | 0, i, h, _ => absurd h (by omega)
 | k + 1, i, h, ho => by
   unfold lackTo
   by_cases hik : i = k
   · subst hik; rw [if_neg ho]; simp
   · have := lack_has (l := l) k i (by omega) ho
     split
     · exact this
     · exact List.mem_append_left _ this
theorem asc_any {s : Sale} {l : List Ent} (h : catE s l = 0) {i : Nat} : ∀ {j : Nat}, i < j → j < l.length → (ent l i).lot < (ent l j).lot
 | 0, h1, _ => absurd h1 (by omega)
 | j + 1, h1, h2 => by
   have h3 := ent_asc h h2 (by omega)
   simp only [Nat.add_sub_cancel] at h3
   rw [ent_at, ent_at] at h3
   by_cases hij : i = j
   · subst hij; exact h3
   · have := asc_any h (show i < j by omega) (by omega); omega
theorem lack_cat {s : Sale} {l : List Ent} (h : catE s l = 0) {out : List Nat} : catE s (lackL l out) = 0 := by
 refine catE_ok fun j hj => ?_
 obtain ⟨i, h1, h2, h3, h4⟩ := lack_at l.length j hj
 have h3' : (lackL l out)[j] = ent l i := h3
 have hz := catE_zero h i h1
 rw [Dt h1, ent_at h1] at hz
 rw [Dt hj, h3']
 split at hz
 · cases hz
 · rename_i hlo
   rw [if_neg hlo]
   split at hz
   · cases hz
   · rename_i h5
     rw [if_neg]
     · exact hz
     · rintro (⟨h6, h7⟩ | h6)
       · rw [List.getElem?_eq_getElem (show j - 1 < (lackL l out).length by omega)] at h7
         simp only [Option.map_some, Option.getD_some] at h7
         obtain ⟨i', h8, h9⟩ := h4 (j - 1) (by show j - 1 < (lackL l out).length; omega) (by omega)
         have h9' : (lackL l out)[j - 1] = ent l i' := h9
         rw [h9'] at h7
         have := asc_any h h8 h1
         omega
       · exact h5 (.inr h6)
theorem lack_right {s : Sale} {l : List Ent} {out ring : List Nat} : rightS s (lackL l out) [] ring = true ↔ ∀ i ∈ badL s l ring, i ∈ out := by
 rw [rightS_iff]
 constructor
 · intro h i hi
   obtain ⟨h1, h2⟩ := badL_mem.1 hi
   by_cases ho : i ∈ out
   · exact ho
   · exfalso
     obtain ⟨j, hj, he⟩ := List.getElem_of_mem (lack_has (l := l) l.length i h1 ho)
     have he' : ent (lackL l out) j = ent l i := by rw [← ent_at (show j < (lackL l out).length from hj)]; exact he
     have := h j (badL_mem.2 ⟨hj, by unfold badB; rw [he']; exact h2⟩)
     cases this
 · intro h j hj
   exfalso
   obtain ⟨h1, h2⟩ := badL_mem.1 hj
   obtain ⟨i, h3, h4, h5, -⟩ := lack_at l.length j h1
   have he : ent (lackL l out) j = ent l i := by rw [← ent_at h1]; exact h5
   unfold badB at h2
   rw [he] at h2
   exact h4 (h i (badL_mem.2 ⟨h3, h2⟩))
theorem fit_lack {s : Sale} {l : List Ent} {out x : List Nat} : x ∈ fitS s (lackL l out) [] ↔ x ∈ everyR s.bidders.length ∧ ∀ i ∈ badL s l x, i ∈ out := by
 unfold fitS; rw [List.mem_filter, lack_right]
end Go.Proofs.Ytaikojfonleccaa
