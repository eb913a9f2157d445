/-
  StemClean returns true of any stem and places, and leaves what it is handed as it was. No conditions.
-/
import Derived.Test.YtccogmkhijgelaaPae
namespace Go.Proofs.Ytccogmkhijgelaa
open Go.RowKit
theorem bd_47 : Body Try.prog 47 := Bn (by kernel_rfl)
theorem bd_48 : Body Try.prog 48 := Bn (by kernel_rfl)
theorem plOut_yes {s : Stm} {b : List Nat} {k : Nat} (h : inNB b k = false) : (selN (outB b) (k + 1)).map s.pl = (selN (outB b) k).map s.pl ++ [s.pl k] := by
 rw [C8, if_pos (outB_yes h), List.map_append]; rfl
theorem plOut_no {s : Stm} {b : List Nat} {k : Nat} (h : inNB b k = true) : (selN (outB b) (k + 1)).map s.pl = (selN (outB b) k).map s.pl := by
 rw [C8, if_neg (by rw [outB_no h]; simp)]
theorem rdOut_yes {x : Edn} {b : List Nat} {k : Nat} (h : inNB b k = false) (hk : k < x.rd.length) : (selN (outB b) (k + 1)).map (fun p => x.rd[p]?.getD 0) = (selN (outB b) k).map (fun p => x.rd[p]?.getD 0) ++ [x.rd[k]] := by
 rw [C8, if_pos (outB_yes h), List.map_append, List.map_singleton, List.getElem?_eq_getElem hk]; rfl
theorem rdOut_no {x : Edn} {b : List Nat} {k : Nat} (h : inNB b k = true) : (selN (outB b) (k + 1)).map (fun p => x.rd[p]?.getD 0) = (selN (outB b) k).map (fun p => x.rd[p]?.getD 0) := by
 rw [C8, if_neg (by rw [outB_no h]; simp)]
set_option maxRecDepth 100000 in
theorem without_ok7 {F : Heap} {vp ve : Value} {ps : List (Value × Edn)} {s : Stm} (hr : StmR F vp ve ps s) (hv : ValidT s) {w : Value} {b : List Nat} (hw : Nats F w b) : Ok Try.prog 47 [.agg #[vp, ve], w].toArray F fun u F' => ∃ vp' ve' ps', u = .tuple #[.agg #[vp', ve'], .bool (decide (0 < (selN (outB b) s.places.length).length))] ∧ StmR F' vp' ve' ps' (subS s (outB b)) := by
 have hle0 : F.le F := Heap.le_refl _
 refine Ok.intro Try.func47 rfl Try.ntmps47 rfl fun w0 => ?_
 have hnp := hv.np
 have hne := hv.ne
 have hlen := hr.len
 have hL1 := hr.eds.plain.lt
 have hL2 := hr.places.plain.lt
 refine Af <| Ai fun ds => Bh rfl (B4 (Aj rfl) rfl fun b1 hb1 nb1 => ?_)
 refine Bh rfl (B6 zr_25 rfl fun b2 hb2 nb2 => ?_)
 refine Aa rfl (Ae Ad) ?_
 refine Ah <| Ab <| Af <| Ai fun ds => Aa rfl (A6 B1 (Ar rfl <| Ac) rfl rfl (A4 1 rfl)) ?_
 refine Bh rfl (B6 zr_25 rfl fun b3 hb3 nb3 => ?_)
 refine Cj (B9 sz_25 (Ac) (Am rfl <| Ac) (i := 0) rfl rfl rfl rfl hr.ones (.here) ?_)
 refine Ah <| Ab <| Af <| Ai fun ds => Aa rfl (Al Cg (Ac)) ?_
 refine Cj (Ci sz_22 (Ac) Ad (i := 0) rfl (.here) rfl (.here) ?_)
 refine Aa rfl (Al Br (Am rfl <| Ac)) ?_
 refine Cj (Ci sz_23 (Ac) Ad (i := 0) rfl (.next <| .here) rfl (.here) ?_)
 refine Ah <| Ab <| Af <| Af <| Ai fun ds => Aa rfl (Ae Ad) ?_
 refine Ah <| Ab <| Az <| Bt [7, 15, 16, 17, 18, 19, 20, 21, 22, 23, 24, 25, 26, 27, 28, 29, 30, 31, 32, 33, 34, 35] (fun m e σ => ∃ k : Nat, m + k = s.places.length ∧ e 7 = .int .i64 (k : Int) ∧ ∃ w7 R7, Own 70 2 w7 ((selN (outB b) k).map s.pl).length (((selN (outB b) k).map s.pl).flatMap Plc.enc) R7 ∧ σ = ⟨F, (b3, bx 25 [w7, .slice none 0 0]) :: (b2, bx 25 [.slice none 0 0, .slice none 0 0]) :: (b1, bx 25 [vp, ve]) :: R7⟩) (s.places.length) ?_ ?_
 · exact ⟨0, by omega, (Ac), _, [], Own.nil, rfl⟩
 ·
  rintro m e _ ⟨k, hm, hs7, w7, R7, ho, rfl⟩; have hsl : (selN (outB b) k).length ≤ k := C7
  by_cases hlt : k < s.places.length
  ·
   refine Af <| Af <| Ai fun ds => Aa rfl (Ag (At rfl hs7)) ?_
   refine Aa rfl (Al Cg (Am rfl <| Ak rfl <| A1 rfl <| Ar rfl <| Am rfl <| Ac)) ?_
   refine Aa rfl (Ap Cr (Ac) (Cell.own 2 rfl rfl)) ?_
   refine Aa rfl (Bj Cw (Ac) hr.places.plain) ?_
   refine Aa rfl (Bs (Ar rfl <| Am rfl <| Ac) (Ac)) ?_
   refine Ah <| Ab <| Aq (Ac) (by first | rfl | exact decide_eq_true (by omega)) ?_
   by_cases hb : inNB b k = true
   ·
    refine Aw <| Ab <| Af <| Az <| Af <| Ai fun ds => Aa rfl (Ag (A1 rfl <| Am rfl <| Ak rfl <| A7 rfl <| Aj rfl)) ?_
    refine Aa rfl (Ag (A1 rfl <| Ar rfl <| At rfl hs7)) ?_
    refine Bw rfl (Bc bd_46 A0 (.cons (Am rfl <| Ac) (.cons (Ac) .nil)) (has_ok (Nats.ints hw) _) (fun _ _ h => h.trans (congrArg Value.bool has_nat))) ?_
    refine Aa rfl (Co (Ac)) ?_
    refine Ah <| Ab <| Ao (Ac) (by rw [hb]; rfl) ?_
    refine Aw <| Ba <| Ab <| Ai fun ds => Aa rfl (Ag (A7 rfl <| Am rfl <| At rfl hs7)) ?_
    refine Aa rfl (Bv (Ac) Ad rfl (by omega) (by omega)) ?_
    refine Aa rfl (Ae (Ac)) ?_
    refine Ah <| Ab ⟨_, m - 1, Off.eq (Dr rfl <| D5 rfl <| Bd), by omega, ?_⟩
    exact ⟨k + 1, by omega, (Ac), _, _, by rw [plOut_no hb]; exact ho, rfl⟩
   ·
    replace hb : inNB b k = false := by simpa using hb
    refine Aw <| Ab <| Af <| Az <| Af <| Ai fun ds => Aa rfl (Ag (A1 rfl <| Am rfl <| Ak rfl <| A7 rfl <| Aj rfl)) ?_
    refine Aa rfl (Ag (A1 rfl <| Ar rfl <| At rfl hs7)) ?_
    refine Bw rfl (Bc bd_46 A0 (.cons (Am rfl <| Ac) (.cons (Ac) .nil)) (has_ok (Nats.ints hw) _) (fun _ _ h => h.trans (congrArg Value.bool has_nat))) ?_
    refine Aa rfl (Co (Ac)) ?_
    refine Ah <| Ab <| Aq (Ac) (by rw [hb]; rfl) ?_
    have hleS := hle0
    refine C1 (.inl rfl) (fun _ _ h => h) (.cons_cons _ <| .cons_cons _ <| .cons_cons _ <| List.nil_sublist _) [8, 10, 9] (by kernel_rfl) fun ds => ?_
    refine A8 0 rfl (by kernel_rfl) (by kernel_rfl) (by kernel_rfl) (by kernel_rfl) rfl rfl (fun _ h => h.drop (.cons_cons _ <| .cons_cons _ <| .cons_cons _ <| List.nil_sublist _)) (fun _ _ _ h => h) (Al Cg (A7 rfl <| Am rfl <| Ak rfl <| Ar rfl <| Am rfl <| Ac)) ?_
    refine A8 1 rfl (by kernel_rfl) (by kernel_rfl) (by kernel_rfl) (by kernel_rfl) rfl rfl (fun _ h => h.drop (.cons_cons _ <| .cons_cons _ <| .cons_cons _ <| List.nil_sublist _)) (fun _ _ _ h => h) (Ap Cr (Ac) (Cell.own 0 rfl rfl)) ?_
    refine A8 2 rfl (by kernel_rfl) (by kernel_rfl) (by kernel_rfl) (by kernel_rfl) rfl rfl (fun _ h => h.drop (.cons_cons _ <| .cons_cons _ <| .cons_cons _ <| List.nil_sublist _)) (fun _ _ _ h => h) (Al Cg (A7 rfl <| Ar rfl <| Am rfl <| Ak rfl <| A1 rfl <| Ar rfl <| Am rfl <| Ac)) ?_
    refine A8 3 rfl (by kernel_rfl) (by kernel_rfl) (by kernel_rfl) (by kernel_rfl) rfl rfl (fun _ h => h.drop (.cons_cons _ <| .cons_cons _ <| .cons_cons _ <| List.nil_sublist _)) (fun _ _ _ h => h) (Ap Cr (Ac) (Cell.own 2 rfl rfl)) ?_
    refine A8 4 rfl (by kernel_rfl) (by kernel_rfl) (by kernel_rfl) (by kernel_rfl) rfl rfl (fun _ h => h.drop (.cons_cons _ <| .cons_cons _ <| .cons_cons _ <| List.nil_sublist _)) (fun _ _ _ h => h) (Ag (A7 rfl <| A1 rfl <| Am rfl <| At rfl hs7)) ?_
    refine A8 5 rfl (by kernel_rfl) (by kernel_rfl) (by kernel_rfl) (by kernel_rfl) rfl rfl (fun _ h => h.drop (.cons_cons _ <| .cons_cons _ <| .cons_cons _ <| List.nil_sublist _)) (fun _ _ _ h => h) (Bf (k := k) Cw (Am rfl <| Ac) hr.places.plain (Ac) rfl hlt) ?_
    refine A8 6 rfl (by kernel_rfl) (by kernel_rfl) (by kernel_rfl) (by kernel_rfl) rfl rfl (fun _ h => h.drop (.cons_cons _ <| .cons_cons _ <| .cons_cons _ <| List.nil_sublist _)) (fun _ _ _ h => h) (A6 agg_70 (Ac) rfl rfl (hr.places.whole hlt)) ?_
    refine WX_x 7 rfl (by kernel_rfl) rfl (x_buildN (offs := [(0, 2)]) (zl := [.string ⟨#[]⟩, .int .i64 0]) Cw zr_70 rfl (.cons (Ac) rfl .nil) (by intro i p h; rcases i with _ | i <;> simp at h <;> subst h <;> rfl) (.cons rfl rfl (Nat.le_of_ble_eq_true rfl) (.cons (.here) (.cons (.next <| .here) .nil)) .nil) (by decide) (by decide) fun b5 hb5 nb5 => ⟨fun _ _ => (fun _ h => h.drop (.cons _ <| .cons_cons _ <| .cons_cons _ <| .cons_cons _ <| List.nil_sublist _)), ?_⟩)
    refine WX_x 8 rfl (by kernel_rfl) rfl (Cv Cw el_70 (A1 rfl <| Ar rfl <| Ac) ho (Ac) (Df (s := 2) 0 rfl rfl Plc.enc_one) (by rw [List.length_map]; omega) (by rw [List.length_map]; omega) (.s <| .s <| .s <| .s <| .z) .last fun v6 R7 ho8 => ⟨(fun h => nomatch h), ?_⟩)
    have ho2 := ho8.snoc (x := s.places[k]) rfl rfl
    refine WX_x 9 rfl (by kernel_rfl) rfl (x_quiet (Al Cg (A5 rfl <| Ar rfl <| Ak rfl <| Ar rfl <| Am rfl <| Ac)).quiet ⟨(fun h => nomatch h), ?_⟩)
    refine WX_x0 10 rfl (by kernel_rfl) (Ci sz_22 (Ac) (Am rfl <| Ac) (i := 1) rfl (.here) ho2.one (.next <| .here) ⟨(fun h => nomatch h), ?_⟩)
    refine C6 (by kernel_rfl) ?_ _
    refine Ba <| Ab <| C9 (fun _ _ h => h.drop (.cons _ <| .cons_cons _ <| .cons_cons _ <| .cons_cons _ <| .refl _)) ?_
    refine Ai fun ds => Aa rfl (Ag (A5 rfl <| Ar rfl <| Am rfl <| At rfl hs7)) ?_
    refine Aa rfl (Bv (Ac) Ad rfl (by omega) (by omega)) ?_
    refine Aa rfl (Ae (Ac)) ?_
    refine Ah <| Ab ⟨_, m - 1, Off.eq (C5 rfl <| D5 rfl <| ou2 rfl <| Bd), by omega, ?_⟩
    exact ⟨k + 1, by omega, (Ac), _, _, by rw [plOut_yes hb, ← pl_at hlt]; exact ho2, rfl⟩
  ·
   refine Af <| Af <| Ai fun ds => Aa rfl (Ag (At rfl hs7)) ?_
   refine Aa rfl (Al Cg (Am rfl <| Ak rfl <| A1 rfl <| Ar rfl <| Am rfl <| Ac)) ?_
   refine Aa rfl (Ap Cr (Ac) (Cell.own 2 rfl rfl)) ?_
   refine Aa rfl (Bj Cw (Ac) hr.places.plain) ?_
   refine Aa rfl (Bs (Ar rfl <| Am rfl <| Ac) (Ac)) ?_
   refine Ah <| Ab <| Ao (Ac) (by first | rfl | exact decide_eq_false (by omega)) ?_
   obtain rfl : k = s.places.length := by omega
   refine Cu (σ := ⟨_, _⟩) (by rfl) ho (.s <| .s <| .s <| .z) .last fun F9 hF10 hz11 => ?_
   replace hr := hr.mono hF10
   replace hw := hw.mono hF10
   replace hle0 := Heap.le_trans hle0 hF10
   have hpl := ho.sl (fun _ => rfl) hz11 (by rw [List.length_map]; omega)
   obtain ⟨hpl_v, hplv⟩ : ∃ y, y = w7 := ⟨_, rfl⟩
   subst hplv
   refine Bp ?_
   refine Be <| Be <| Bg <| Ab <| Af <| Af <| Ai fun ds => Aa rfl (Ae Ad) ?_
   refine Ah <| Ab <| Az <| Bt [8, 9, 10, 11, 36, 37, 38, 39, 40, 41, 42, 43, 44, 45, 46, 47, 48, 49, 50, 51, 52, 53, 54, 55, 56, 57, 58, 59, 60, 61, 62, 63, 64, 65, 66, 67, 68, 69, 70, 71, 72, 73, 74] (fun m e σ => ∃ k : Nat, m + k = ps.length ∧ e 8 = .int .i64 (k : Int) ∧ ∃ G, F.le G ∧ StmR G vp ve ps s ∧ Nats G w b ∧ Sl G hpl_v 2 Plc.enc ((selN (outB b) s.places.length).map s.pl) ∧ ∃ w6 S qs, Own 64 4 w6 qs.length (qs.flatMap edE) S ∧ EdsR G qs ((s.editions.map fun x => x.sub (selN (outB b) s.places.length)).take k) ∧ σ = ⟨G, (b3, bx 25 [hpl_v, w6]) :: (b2, bx 25 [.slice none 0 0, .slice none 0 0]) :: (b1, bx 25 [vp, ve]) :: S⟩) (ps.length) ?_ ?_
   · exact ⟨0, by omega, (Ac), _, hle0, hr, hw, hpl, _, [], [], Em, EdsR.nil, rfl⟩
   ·
    rintro m e _ ⟨k, hm, hs8, G8, hle0, hr, hw, hpl, w6, R16, qs, ho, hE, rfl⟩
    by_cases hlt : k < ps.length
    ·
     have hrk := hr.rd hlt
     have hrdk := hv.rdl k (by omega)
     have e1 := hr.at hlt
     have hqs := hE.len
     have hqk : qs.length ≤ 5 := by rw [hqs, List.length_take, List.length_map]; omega
     refine Af <| Af <| Ai fun ds => Aa rfl (Ag (At rfl hs8)) ?_
     refine Aa rfl (Al Br (Am rfl <| Ak rfl <| A1 rfl <| Ar rfl <| Ak rfl <| A1 rfl <| Ar rfl <| Am rfl <| Ac)) ?_
     refine Aa rfl (Ap Bz (Ac) (Cell.own 2 rfl rfl)) ?_
     refine Aa rfl (Bj B5 (Ac) hr.eds.plain) ?_
     refine Aa rfl (Bs (Ar rfl <| Am rfl <| Ac) (Ac)) ?_
     refine Ah <| Ab <| Aq (Ac) (by first | rfl | exact decide_eq_true (by omega)) ?_
     refine Aw <| Ab <| Af <| Az <| Af <| Ai fun ds => Aa rfl (Al Br (A1 rfl <| Am rfl <| Ak rfl <| A1 rfl <| Ar rfl <| Ak rfl <| A1 rfl <| Ar rfl <| Am rfl <| Ac)) ?_
     refine Aa rfl (Ap Bz (Ac) (Cell.own 2 rfl rfl)) ?_
     refine Aa rfl (Ag (A1 rfl <| Ar rfl <| Am rfl <| At rfl hs8)) ?_
     refine Aa rfl (Bf (k := k) B5 (Am rfl <| Ac) hr.eds.plain (Ac) rfl hlt) ?_
     refine Aa rfl (A6 Eo (Ac) rfl rfl (hr.eds.whole hlt)) ?_
     refine Bh rfl (B6 zr_64 rfl fun b13 hb13 nb13 => ?_)
     refine Cj (B9 sz_64 (Ac) (Am rfl <| Ac) (i := 0) rfl rfl rfl rfl (edE_one (hr.one _ (List.getElem_mem hlt))) (.here) ?_)
     refine Ah <| Ab <| Af <| Ai fun ds => Aa rfl (Ae Ad) ?_
     refine Ah <| Ab <| Af <| Af <| Ai fun ds => Aa rfl (Ae Ad) ?_
     refine Ah <| Ab <| Az <| Bt [10, 11, 48, 49, 50, 51, 52, 53, 54, 55, 56, 57, 58, 59, 60, 61, 62, 63, 64, 65, 66] (fun m e σ => ∃ j : Nat, m + j = s.places.length ∧ e 11 = .int .i64 (j : Int) ∧ ∃ w10 R10, e 10 = w10 ∧ Own 3 1 w10 ((selN (outB b) j).map fun p => (s.ed k).rd[p]?.getD 0).length (((selN (outB b) j).map fun p => (s.ed k).rd[p]?.getD 0).flatMap intE) R10 ∧ σ = ⟨G8, (b13, bx 64 [.string ps[k].2.name, .int .i64 ps[k].2.lo, .int .i64 ps[k].2.hi, ps[k].1]) :: (b3, bx 25 [hpl_v, w6]) :: (b2, bx 25 [.slice none 0 0, .slice none 0 0]) :: (b1, bx 25 [vp, ve]) :: (R16 ++ R10)⟩) (s.places.length) ?_ ?_
     · exact ⟨0, by omega, (Ac), _, [], (Am rfl <| Ac), Own.nil, (by rw [List.append_nil]; first | done | rfl)⟩
     ·
      rintro m2 e2 _ ⟨j, hm2, ht11, w10, R10, ht10, ho10, rfl⟩; have hsl2 : (selN (outB b) j).length ≤ j := C7
      by_cases hlt2 : j < s.places.length
      ·
       refine Af <| Af <| Ai fun ds => Aa rfl (Ag (At rfl ht11)) ?_
       refine Aa rfl (Al Cg (Am rfl <| Ak rfl <| A7 rfl <| A1 rfl <| Am rfl <| Ak rfl <| A1 rfl <| Ar rfl <| Ak rfl <| A1 rfl <| Ar rfl <| Am rfl <| Ac)) ?_
       refine Aa rfl (Ap Cr (Ac) (Cell.own 3 rfl rfl)) ?_
       refine Aa rfl (Bj Cw (Ac) hr.places.plain) ?_
       refine Aa rfl (Bs (Ar rfl <| Am rfl <| Ac) (Ac)) ?_
       refine Ah <| Ab <| Aq (Ac) (by first | rfl | exact decide_eq_true (by omega)) ?_
       by_cases hb : inNB b j = true
       ·
        refine Aw <| Ab <| Af <| Az <| Af <| Ai fun ds => Aa rfl (Ag (A1 rfl <| Am rfl <| Ak rfl <| A7 rfl <| A1 rfl <| Am rfl <| Ak rfl <| A1 rfl <| Ar rfl <| Ak rfl <| A7 rfl <| Aj rfl)) ?_
        refine Aa rfl (Ag (A1 rfl <| Ar rfl <| At rfl ht11)) ?_
        refine Bw rfl (Bc bd_46 A0 (.cons (Am rfl <| Ac) (.cons (Ac) .nil)) (has_ok (Nats.ints hw) _) (fun _ _ h => h.trans (congrArg Value.bool has_nat))) ?_
        refine Aa rfl (Co (Ac)) ?_
        refine Ah <| Ab <| Ao (Ac) (by rw [hb]; rfl) ?_
        refine Aw <| Ba <| Ab <| Ai fun ds => Aa rfl (Ag (A7 rfl <| Am rfl <| At rfl ht11)) ?_
        refine Aa rfl (Bv (Ac) Ad rfl (by omega) (by omega)) ?_
        refine Aa rfl (Ae (Ac)) ?_
        refine Ah <| Ab ⟨_, m2 - 1, Off.eq (Dr rfl <| D5 rfl <| Bd), by omega, ?_⟩
        exact ⟨j + 1, by omega, (Ac), _, _, (A7 rfl <| A1 rfl <| At rfl ht10), by rw [rdOut_no hb]; exact ho10, rfl⟩
       ·
        replace hb : inNB b j = false := by simpa using hb
        refine Aw <| Ab <| Af <| Az <| Af <| Ai fun ds => Aa rfl (Ag (A1 rfl <| Am rfl <| Ak rfl <| A7 rfl <| A1 rfl <| Am rfl <| Ak rfl <| A1 rfl <| Ar rfl <| Ak rfl <| A7 rfl <| Aj rfl)) ?_
        refine Aa rfl (Ag (A1 rfl <| Ar rfl <| At rfl ht11)) ?_
        refine Bw rfl (Bc bd_46 A0 (.cons (Am rfl <| Ac) (.cons (Ac) .nil)) (has_ok (Nats.ints hw) _) (fun _ _ h => h.trans (congrArg Value.bool has_nat))) ?_
        refine Aa rfl (Co (Ac)) ?_
        refine Ah <| Ab <| Aq (Ac) (by rw [hb]; rfl) ?_
        have hjr : j < (s.ed k).rd.length := by omega
        refine Ai fun ds => Aa rfl (Ag (A7 rfl <| Am rfl <| At rfl ht10)) ?_
        refine Aa rfl (Al Ce (A7 rfl <| Ar rfl <| Ak rfl <| Ar rfl <| Ac)) ?_
        refine Aa rfl (Ap Ck (Ac) (Cell.own 0 rfl rfl)) ?_
        refine Aa rfl (Ag (A7 rfl <| A1 rfl <| At rfl ht11)) ?_
        refine Aa rfl (Bf (k := j) Bl (Am rfl <| Ac) hrk.plain (Ac) rfl hjr) ?_
        refine Aa rfl (Ap Bm (Ac) (hrk.cell1 hjr rfl)) ?_
        refine Bh rfl (Cb Bl Dd rfl (.cons (Ac) .nil) rfl rfl (by decide) (by simp [Value.oneCell']) fun b15 hb15 nb15 => ?_)
        refine Bh rfl (Cv Bl el_3 (A1 rfl <| Ar rfl <| Ac) ho10 (Ac) (Df (s := 1) 0 rfl rfl (by simp [Value.oneCell'])) (by rw [List.length_map]; omega) (by rw [List.length_map]; omega) (.s <| .s <| .s <| .s <| .s <| .k <| .z) .last fun v16 R17 ho18 => ?_)
        have hoD := ho18.snoc (x := (s.ed k).rd[j]) rfl rfl
        refine Aa rfl (Ae (Ac)) ?_
        refine Ah <| Ba <| Ab <| C9 (fun _ _ h => h.drop (.cons _ <| .cons_cons _ <| .cons_cons _ <| .cons_cons _ <| .cons_cons _ <| .refl _)) ?_
        refine Ai fun ds => Aa rfl (Ag (A5 rfl <| Ar rfl <| At rfl ht11)) ?_
        refine Aa rfl (Bv (Ac) Ad rfl (by omega) (by omega)) ?_
        refine Aa rfl (Ae (Ac)) ?_
        refine Ah <| Ab ⟨_, m2 - 1, Off.eq (C5 rfl <| D5 rfl <| D0 rfl <| Bd), by omega, ?_⟩
        exact ⟨j + 1, by omega, (Ac), _, _, (Ar rfl <| Am rfl <| Ac), by rw [rdOut_yes hb hjr]; exact hoD, rfl⟩
      ·
       refine Af <| Af <| Ai fun ds => Aa rfl (Ag (At rfl ht11)) ?_
       refine Aa rfl (Al Cg (Am rfl <| Ak rfl <| A7 rfl <| A1 rfl <| Am rfl <| Ak rfl <| A1 rfl <| Ar rfl <| Ak rfl <| A1 rfl <| Ar rfl <| Am rfl <| Ac)) ?_
       refine Aa rfl (Ap Cr (Ac) (Cell.own 3 rfl rfl)) ?_
       refine Aa rfl (Bj Cw (Ac) hr.places.plain) ?_
       refine Aa rfl (Bs (Ar rfl <| Am rfl <| Ac) (Ac)) ?_
       refine Ah <| Ab <| Ao (Ac) (by first | rfl | exact decide_eq_false (by omega)) ?_
       obtain rfl : j = s.places.length := by omega
       refine Cu (σ := ⟨_, _⟩) (by rfl) ho10 (.s <| .s <| .s <| .s <| .k <| .z) .last fun F19 hF20 hz21 => ?_
       replace hr := hr.mono hF20
       replace hw := hw.mono hF20
       replace hle0 := Heap.le_trans hle0 hF20
       replace hpl := hpl.mono hF20
       replace hE := hE.mono hF20
       refine WC_pickB (.one (.here) <| .one (.here) <| .one (.here) <| .one (.here) <| .lastb (.here)) ?_
       have hrd2 := ho10.sl (fun _ => rfl) hz21 (by rw [List.length_map]; omega)
       refine Bp ?_
       refine Be <| Be <| Bg <| Ab <| Af <| Ai fun ds => Aa rfl (Ag (A1 rfl <| Am rfl <| At rfl ht10)) ?_
       refine Aa rfl (Al Ce (A1 rfl <| Ar rfl <| Ak rfl <| Ar rfl <| Ac)) ?_
       refine Cj (Ci sz_26 (Ac) (Am rfl <| Ac) (i := 0) rfl (.next <| .next <| .next <| .here) hrd2.plain.one (.here) ?_)
       refine Ah <| Ab <| Ai fun ds => Aa rfl (Al Br (A1 rfl <| Ar rfl <| Am rfl <| Ak rfl <| A7 rfl <| A1 rfl <| Am rfl <| Ak rfl <| A1 rfl <| Ar rfl <| Ak rfl <| Ar rfl <| Am rfl <| Ac)) ?_
       refine Aa rfl (Ap Bz (Ac) (Cell.own 1 rfl rfl)) ?_
       refine Aa rfl (A6 Eo (A7 rfl <| Am rfl <| Ak rfl <| Ar rfl <| Ac) rfl rfl (A4 0 rfl)) ?_
       refine Bh rfl (x_buildN (offs := [(0, 4)]) (zl := [.string ⟨#[]⟩, .int .i64 0, .int .i64 0, .slice none 0 0]) B5 zr_64 rfl (.cons (Ac) rfl .nil) (by intro i p h; rcases i with _ | i <;> simp at h <;> subst h <;> rfl) (.cons rfl rfl (Nat.le_of_ble_eq_true rfl) (.cons (.here) (.cons (.next <| .here) (.cons (.next <| .next <| .here) (.cons (.next <| .next <| .next <| .here) .nil)))) .nil) (by decide) (by decide) fun b22 hb22 nb22 => ?_)
       refine Bh rfl (Cv B5 el_64 (Ar rfl <| Ac) ho (Ac) (Df (s := 4) 0 rfl rfl (by intro u hu; simp only [List.mem_cons, List.not_mem_nil, or_false] at hu; rcases hu with rfl | rfl | rfl | rfl; rfl; rfl; rfl; exact hrd2.plain.one)) (by omega) (by omega) (.s <| .s <| .s <| .s <| .s <| .z) .last fun v23 R24 ho25 => ?_)
       have ho2 := ho25.snoc (x := ((_, (ps[k]'hlt).2.sub (selN (outB b) s.places.length)) : Value × Edn)) rfl rfl
       refine Aa rfl (Al Br (A7 rfl <| A1 rfl <| Ak rfl <| A7 rfl <| A1 rfl <| Am rfl <| Ak rfl <| A1 rfl <| Ar rfl <| Ak rfl <| Ar rfl <| Am rfl <| Ac)) ?_
       refine Cj (Ci sz_23 (Ac) (Am rfl <| Ac) (i := 2) rfl (.next <| .here) ho2.one (.next <| .next <| .here) ?_)
       refine Ah <| Ba <| Ab <| C9 (fun _ _ h => h.drop (.cons _ <| .cons _ <| .cons_cons _ <| .cons_cons _ <| .cons_cons _ <| .refl _)) ?_
       refine Ai fun ds => Aa rfl (Ag (A7 rfl <| A1 rfl <| Am rfl <| Ak rfl <| A7 rfl <| A1 rfl <| Am rfl <| At rfl hs8)) ?_
       refine Aa rfl (Bv (Ac) Ad rfl (by omega) (by omega)) ?_
       refine Aa rfl (Ae (Ac)) ?_
       refine Ah <| Ab ⟨_, m - 1, Off.eq (C5 rfl <| off_in rfl <| Dr rfl <| D5 rfl <| D0 rfl <| Bd), by omega, ?_⟩
       exact ⟨k + 1, by omega, (Ac), _, hle0, hr, hw, hpl, _, _, qs ++ [_], ho2, by rw [take_map_snoc (by omega), ed_at (by omega), ← e1]; exact hE.snoc (by rw [e1]; exact hrd2), rfl⟩
    ·
     refine Af <| Af <| Ai fun ds => Aa rfl (Ag (At rfl hs8)) ?_
     refine Aa rfl (Al Br (Am rfl <| Ak rfl <| A1 rfl <| Ar rfl <| Ak rfl <| A1 rfl <| Ar rfl <| Am rfl <| Ac)) ?_
     refine Aa rfl (Ap Bz (Ac) (Cell.own 2 rfl rfl)) ?_
     refine Aa rfl (Bj B5 (Ac) hr.eds.plain) ?_
     refine Aa rfl (Bs (Ar rfl <| Am rfl <| Ac) (Ac)) ?_
     refine Ah <| Ab <| Ao (Ac) (by first | rfl | exact decide_eq_false (by omega)) ?_
     obtain rfl : k = ps.length := by omega
     rw [List.take_of_length_le (by rw [List.length_map]; omega)] at hE
     have hqs := hE.len
     have hqk : qs.length ≤ 5 := by rw [hqs, List.length_map]; omega
     refine Cu (σ := ⟨_, _⟩) (by rfl) ho (.s <| .s <| .s <| .z) .last fun F26 hF27 hz28 => ?_
     replace hle0 := Heap.le_trans hle0 hF27
     replace hpl := hpl.mono hF27
     replace hE := hE.mono hF27
     have hen := ho.sl (fun _ => rfl) hz28 (by omega)
     refine Bp ?_
     refine Be <| Be <| Bg <| Ab <| Af ?_
     have hleS := hle0
     refine C1 (.inl rfl) (fun _ _ h => h) (.cons_cons _ <| .cons _ <| .cons_cons _ <| .refl _) [6] (by kernel_rfl) fun ds => ?_
     refine A8 0 rfl (by kernel_rfl) (by kernel_rfl) (by kernel_rfl) (by kernel_rfl) rfl rfl (fun _ h => h.drop (.cons_cons _ <| .cons _ <| .cons_cons _ <| .refl _)) (fun _ _ _ h => h) (A6 B1 (A1 rfl <| Am rfl <| Ak rfl <| A1 rfl <| Ar rfl <| Ak rfl <| Ar rfl <| Am rfl <| Ac) rfl rfl (A4 0 rfl)) ?_
     refine A8 1 rfl (by kernel_rfl) (by kernel_rfl) (by kernel_rfl) (by kernel_rfl) rfl rfl (fun _ h => h.drop (.cons_cons _ <| .cons _ <| .cons_cons _ <| .refl _)) (fun _ _ _ h => h) (Al Cg (A1 rfl <| Ar rfl <| Ak rfl <| A1 rfl <| Ar rfl <| Ak rfl <| Ar rfl <| Am rfl <| Ac)) ?_
     refine A8 2 rfl (by kernel_rfl) (by kernel_rfl) (by kernel_rfl) (by kernel_rfl) rfl rfl (fun _ h => h.drop (.cons_cons _ <| .cons _ <| .cons_cons _ <| .refl _)) (fun _ _ _ h => h) (Ap Cr (Ac) (Cell.own 0 rfl rfl)) ?_
     refine A8 3 rfl (by kernel_rfl) (by kernel_rfl) (by kernel_rfl) (by kernel_rfl) rfl rfl (fun _ h => h.drop (.cons_cons _ <| .cons _ <| .cons_cons _ <| .refl _)) (fun _ _ _ h => h) (Bj Cw (Ac) hpl.plain) ?_
     refine A8 4 rfl (by kernel_rfl) (by kernel_rfl) (by kernel_rfl) (by kernel_rfl) rfl rfl (fun _ h => h.drop (.cons_cons _ <| .cons _ <| .cons_cons _ <| .refl _)) (fun _ _ _ h => h) (Dc (Ac) Ad) ?_
     refine WX_x0 5 rfl (by kernel_rfl) (B9 sz_25 (A7 rfl <| Ar rfl <| Ak rfl <| A1 rfl <| Ar rfl <| Ak rfl <| A1 rfl <| Ar rfl <| Ac) (A1 rfl <| Ac) (i := 1) rfl rfl rfl rfl (by intro u hu; simp only [List.mem_cons, List.not_mem_nil, or_false] at hu; rcases hu with rfl | rfl; exact hpl.plain.one; exact hen.plain.one) (.next <| .here) ⟨fun _ _ => (fun _ h => h.drop (.cons_cons _ <| .cons _ <| .cons_cons _ <| .refl _)), ?_⟩)
     refine WX_x 6 rfl (by kernel_rfl) rfl (x_quiet (Ae (Ac)).quiet ⟨(fun h => nomatch h), ?_⟩)
     refine C6 (by kernel_rfl) ?_ _
     refine Ab <| A2 <| Ax rfl (.agg B1 (A7 rfl <| Ar rfl <| Am rfl <| Ak rfl <| A1 rfl <| Ar rfl <| Ak rfl <| A1 rfl <| Ar rfl <| Ac) rfl rfl (A4 1 rfl) (.tmp (Ac) .nil)) ?_
     refine ⟨_, _, qs, ?_, EdsR.stm (s := subS s (outB b)) hE hpl hen⟩
     show Value.tuple #[_, _] = _
     rw [List.length_map]
     exact congrArg (fun b => Value.tuple #[.agg #[hpl_v, w6], .bool b]) (decide_eq_decide.2 (by omega))
set_option maxRecDepth 100000 in
theorem kinds_ok {F : Heap} {vp ve : Value} {ps : List (Value × Edn)} {s : Stm} (hr : StmR F vp ve ps s) (hv : ValidT s) : Ok Try.prog 48 [.agg #[vp, ve]].toArray F fun u _ => u = .int .i64 (kindsS s) := by
 have hle0 : F.le F := Heap.le_refl _
 refine Ok.intro Try.func48 rfl Try.ntmps48 rfl fun w0 => ?_
 have hnp := hv.np
 have hne := hv.ne
 have hlen := hr.len
 have hL1 := hr.eds.plain.lt
 have hL2 := hr.places.plain.lt
 refine Af <| Ai fun ds => Bh rfl (B4 (Aj rfl) rfl fun b1 hb1 nb1 => ?_)
 refine Aa rfl (Ae Ad) ?_
 refine Ah <| Ab <| Af <| Ai fun ds => Aa rfl (Ae Ad) ?_
 refine Ah <| Ab <| Af <| Af <| Ai fun ds => Aa rfl (Ae Ad) ?_
 refine Ah <| Ab <| Az <| Bt [3, 4, 5, 6, 7, 8, 9, 10, 11, 12, 13, 14, 15, 16, 17, 18, 19, 20, 21, 22, 23, 24, 25, 26, 27, 28, 29, 30, 31, 32, 33, 34, 35, 36, 37, 38, 39, 40, 41, 42, 43, 44, 45, 46, 47, 48] (fun m e σ => ∃ k : Nat, m + k = s.places.length ∧ e 4 = .int .i64 (k : Int) ∧ e 3 = .int .i64 (sumN k (needN s)) ∧ ∃ G, F.le G ∧ StmR G vp ve ps s ∧ σ = ⟨G, [(b1, bx 25 [vp, ve])]⟩) (s.places.length) ?_ ?_
 · exact ⟨0, by omega, (Ac), (Am rfl <| Ac), _, hle0, hr, rfl⟩
 ·
  rintro m e _ ⟨k, hm, hs4, hs3, G4, hle0, hr, rfl⟩
  by_cases hlt : k < s.places.length
  ·
   refine Af <| Af <| Ai fun ds => Aa rfl (Ag (At rfl hs4)) ?_
   refine Aa rfl (Al Cg (Am rfl <| Ak rfl <| Ar rfl <| Am rfl <| Ac)) ?_
   refine Aa rfl (Ap Cr (Ac) (Cell.own 0 rfl rfl)) ?_
   refine Aa rfl (Bj Cw (Ac) hr.places.plain) ?_
   refine Aa rfl (Bs (Ar rfl <| Am rfl <| Ac) (Ac)) ?_
   refine Ah <| Ab <| Aq (Ac) (by first | rfl | exact decide_eq_true (by omega)) ?_
   refine Aw <| Ab <| Af <| Az <| Af <| Ai fun ds => Aa rfl (Ae Ad) ?_
   refine Ah <| Ab <| Af <| Af <| Ai fun ds => Aa rfl (Ae Ad) ?_
   refine Ah <| Ab <| Az <| Bt [5, 6, 7, 15, 16, 17, 18, 19, 20, 21, 22, 23, 24, 25, 26, 27, 28, 29, 30, 31, 32, 33, 34, 35, 36, 37, 38, 39, 40, 41, 42] (fun m e σ => ∃ i : Nat, m + i = ps.length ∧ e 6 = .int .i64 (i : Int) ∧ ∃ v5 R5, e 5 = v5 ∧ Own 3 1 v5 (metTo s k i).length ((metTo s k i).flatMap intE) R5 ∧ σ = ⟨G4, (b1, bx 25 [vp, ve]) :: R5⟩) (ps.length) ?_ ?_
   · exact ⟨0, by omega, (Ac), _, [], (Am rfl <| Ac), Own.nil, rfl⟩
   ·
    rintro m2 e2 _ ⟨i, hm2, ht6, v5, R5, ht5, ho5, rfl⟩; have hmt := metTo_len (s := s) (p := k) i
    by_cases hlt2 : i < ps.length
    ·
     have hri := hr.rd hlt2
     have hrdi := hv.rdl i (by omega)
     have hpi : k < (s.ed i).rd.length := by omega
     have er := rdT_at hpi
     refine Af <| Af <| Ai fun ds => Aa rfl (Ag (At rfl ht6)) ?_
     refine Aa rfl (Al Br (Am rfl <| Ak rfl <| A1 rfl <| Ar rfl <| Am rfl <| Ak rfl <| Ar rfl <| Am rfl <| Ac)) ?_
     refine Aa rfl (Ap Bz (Ac) (Cell.own 0 rfl rfl)) ?_
     refine Aa rfl (Bj B5 (Ac) hr.eds.plain) ?_
     refine Aa rfl (Bs (Ar rfl <| Am rfl <| Ac) (Ac)) ?_
     refine Ah <| Ab <| Aq (Ac) (by first | rfl | exact decide_eq_true (by omega)) ?_
     by_cases hg : 0 < s.r i k
     ·
      refine Aw <| Ab <| Af <| Az <| Af <| Ai fun ds => Aa rfl (Al Br (A1 rfl <| Am rfl <| Ak rfl <| A1 rfl <| Ar rfl <| Am rfl <| Ak rfl <| Ar rfl <| Am rfl <| Ac)) ?_
      refine Aa rfl (Ap Bz (Ac) (Cell.own 0 rfl rfl)) ?_
      refine Aa rfl (Ag (A1 rfl <| Ar rfl <| Am rfl <| At rfl ht6)) ?_
      refine Aa rfl (Bf (k := i) B5 (Am rfl <| Ac) hr.eds.plain (Ac) rfl hlt2) ?_
      refine Aa rfl (Bu Ce (Ac)) ?_
      refine Aa rfl (Ap Ck (Ac) (hr.eds.cell hlt2 rfl)) ?_
      refine Aa rfl (Ag (A7 rfl <| Ar rfl <| Am rfl <| Ak rfl <| A1 rfl <| Ar rfl <| Am rfl <| At rfl hs4)) ?_
      refine Aa rfl (Bf (k := k) Bl (Am rfl <| Ac) hri.plain (Ac) rfl hpi) ?_
      refine Aa rfl (Ap Bm (Ac) (hri.cell1 hpi rfl)) ?_
      refine Aa rfl (Ae (Ac)) ?_
      refine Ah <| Ab <| Af <| Ai fun ds => Aa rfl (Ag (Ac)) ?_
      refine Aa rfl (Dc (Ac) Ad) ?_
      refine Aa rfl (Ag (Ac)) ?_
      refine As rfl rfl (Ac) (by rw [er]; exact decide_eq_true hg) ?_
      refine Aa rfl (Ag (A5 rfl <| Ar rfl <| At rfl ht5)) ?_
      refine As rfl rfl (Am rfl <| Ac) (by rw [er]; exact decide_eq_true hg) ?_
      refine Aa rfl (Ag (A1 rfl <| Ac)) ?_
      refine As rfl rfl (Ar rfl <| Ac) (by rw [er]; exact decide_eq_true hg) ?_
      refine Bw rfl (q_callH bd_46 A0 (.cons (Am rfl <| Ac) (.cons (Ac) .nil)) (fun G _ hG => has_ok (ho5.sl (fun _ => rfl) (fun p hp => hG p (by simp [hp])) (by omega)) _) (fun _ _ h => h)) ?_
      refine As rfl rfl (Ar rfl <| Am rfl <| Ac) (by rw [er]; exact decide_eq_true hg) ?_
      refine Aa rfl (Co (Ac)) ?_
      refine Aa rfl (A3 (A1 rfl <| Ac) (by rw [er]; exact decide_eq_true hg) (Ac)) ?_
      refine Ah <| Ab ?_
      by_cases hin : s.r i k ∈ metTo s k i
      ·
       refine Ao (Ac) (by rw [er, decide_eq_true hin]; rfl) ?_
       refine Aw <| Ba <| Ab <| Ai fun ds => Aa rfl (Ag (A5 rfl <| A1 rfl <| Ar rfl <| Am rfl <| At rfl ht6)) ?_
       refine Aa rfl (Bv (Ac) Ad rfl (by omega) (by omega)) ?_
       refine Aa rfl (Ae (Ac)) ?_
       refine Ah <| Ab ⟨_, m2 - 1, Off.eq (C5 rfl <| Dr rfl <| ou2 rfl <| Bd), by omega, ?_⟩
       exact ⟨i + 1, by omega, (Ac), _, _, (A5 rfl <| A7 rfl <| Ar rfl <| At rfl ht5), by rw [metTo_no (fun h => h.2 hin)]; exact ho5, rfl⟩
      ·
       refine Aq (Ac) (by rw [er, decide_eq_false hin]; rfl) ?_
       refine Ai fun ds => Aa rfl (Ag (A5 rfl <| A1 rfl <| Ar rfl <| Am rfl <| At rfl ht5)) ?_
       refine Aa rfl (Ag (A7 rfl <| Am rfl <| Ac)) ?_
       refine Bh rfl (Cb Bl Dd rfl (.cons (Ac) .nil) rfl rfl (by decide) (by simp [Value.oneCell']) fun b4 hb4 nb4 => ?_)
       refine Bh rfl (Cv Bl el_3 (Ar rfl <| Ac) ho5 (Ac) (Df (s := 1) 0 rfl rfl (by simp [Value.oneCell'])) (by omega) (by omega) (.s <| .s <| .z) .last fun v5 R6 ho7 => ?_)
       have ho2 := ho7.snoc (x := (s.ed i).rd[k]) rfl rfl
       refine Aa rfl (Ae (Ac)) ?_
       refine Ah <| Ba <| Ab <| C9 (fun _ _ h => h.drop (.cons _ <| .cons_cons _ <| .refl _)) ?_
       refine Ai fun ds => Aa rfl (Ag (A5 rfl <| A7 rfl <| A1 rfl <| At rfl ht6)) ?_
       refine Aa rfl (Bv (Ac) Ad rfl (by omega) (by omega)) ?_
       refine Aa rfl (Ae (Ac)) ?_
       refine Ah <| Ab ⟨_, m2 - 1, Off.eq (C5 rfl <| Dr rfl <| D5 rfl <| ou2 rfl <| D0 rfl <| Bd), by omega, ?_⟩
       exact ⟨i + 1, by omega, (Ac), _, _, (Ar rfl <| Am rfl <| Ac), by rw [metTo_yes hg hin, ← er]; exact ho2, rfl⟩
     ·
      refine Aw <| Ab <| Af <| Az <| Af <| Ai fun ds => Aa rfl (Al Br (A1 rfl <| Am rfl <| Ak rfl <| A1 rfl <| Ar rfl <| Am rfl <| Ak rfl <| Ar rfl <| Am rfl <| Ac)) ?_
      refine Aa rfl (Ap Bz (Ac) (Cell.own 0 rfl rfl)) ?_
      refine Aa rfl (Ag (A1 rfl <| Ar rfl <| Am rfl <| At rfl ht6)) ?_
      refine Aa rfl (Bf (k := i) B5 (Am rfl <| Ac) hr.eds.plain (Ac) rfl hlt2) ?_
      refine Aa rfl (Bu Ce (Ac)) ?_
      refine Aa rfl (Ap Ck (Ac) (hr.eds.cell hlt2 rfl)) ?_
      refine Aa rfl (Ag (A7 rfl <| Ar rfl <| Am rfl <| Ak rfl <| A1 rfl <| Ar rfl <| Am rfl <| At rfl hs4)) ?_
      refine Aa rfl (Bf (k := k) Bl (Am rfl <| Ac) hri.plain (Ac) rfl hpi) ?_
      refine Aa rfl (Ap Bm (Ac) (hri.cell1 hpi rfl)) ?_
      refine Aa rfl (Ae (Ac)) ?_
      refine Ah <| Ab <| Af <| Ai fun ds => Aa rfl (Ag (Ac)) ?_
      refine Aa rfl (Dc (Ac) Ad) ?_
      refine Aa rfl (Ag (Ac)) ?_
      refine Ay rfl rfl (Ac) (.inl (congrArg Value.bool (by rw [er]; exact decide_eq_false hg))) rfl ?_
      refine Ay rfl rfl (Am rfl <| Ac) (.inl (congrArg Value.bool (by rw [er]; exact decide_eq_false hg))) rfl ?_
      refine Ay rfl rfl (Ar rfl <| Ac) (.inl (congrArg Value.bool (by rw [er]; exact decide_eq_false hg))) rfl ?_
      refine Ay rfl rfl (Ar rfl <| Am rfl <| Ac) (.inl (congrArg Value.bool (by rw [er]; exact decide_eq_false hg))) rfl ?_
      refine Aa rfl (Bb (A1 rfl <| Ac) (by rw [er]; exact decide_eq_false hg) Ad) ?_
      refine Ah <| Ab <| Ao (Ac) rfl ?_
      refine Aw <| Ba <| Ab <| Ai fun ds => Aa rfl (Ag (A5 rfl <| A1 rfl <| Ar rfl <| Am rfl <| At rfl ht6)) ?_
      refine Aa rfl (Bv (Ac) Ad rfl (by omega) (by omega)) ?_
      refine Aa rfl (Ae (Ac)) ?_
      refine Ah <| Ab ⟨_, m2 - 1, Off.eq (C5 rfl <| Dr rfl <| ou2 rfl <| Bd), by omega, ?_⟩
      exact ⟨i + 1, by omega, (Ac), _, _, (A5 rfl <| A7 rfl <| Ar rfl <| At rfl ht5), by rw [metTo_no (fun h => hg h.1)]; exact ho5, rfl⟩
    ·
     refine Af <| Af <| Ai fun ds => Aa rfl (Ag (At rfl ht6)) ?_
     refine Aa rfl (Al Br (Am rfl <| Ak rfl <| A1 rfl <| Ar rfl <| Am rfl <| Ak rfl <| Ar rfl <| Am rfl <| Ac)) ?_
     refine Aa rfl (Ap Bz (Ac) (Cell.own 0 rfl rfl)) ?_
     refine Aa rfl (Bj B5 (Ac) hr.eds.plain) ?_
     refine Aa rfl (Bs (Ar rfl <| Am rfl <| Ac) (Ac)) ?_
     refine Ah <| Ab <| Ao (Ac) (by first | rfl | exact decide_eq_false (by omega)) ?_
     obtain rfl : i = ps.length := by omega
     have hml : ((metTo s k ps.length).length : Int) = kindsN s k := by rw [hlen]; exact met_len (fun j hj => hv.rd j k hj hlt)
     have hkb := kinds_bound (s := s) k
     have hnb := needN_bound (s := s) (p := k)
     refine Cu (σ := ⟨_, _⟩) (by rfl) ho5 (.s <| .z) .last fun F8 hF9 hz10 => ?_
     replace hr := hr.mono hF9
     replace hle0 := Heap.le_trans hle0 hF9
     have hme := ho5.sl (fun _ => rfl) hz10 (by omega)
     refine Bp ?_
     refine Be <| Be <| Bg <| Ab <| Ai fun ds => Aa rfl (Ag (A1 rfl <| Am rfl <| Ak rfl <| A1 rfl <| Ar rfl <| Am rfl <| At rfl hs3)) ?_
     refine Aa rfl (Ag (A1 rfl <| Ar rfl <| At rfl ht5)) ?_
     refine Aa rfl (Bj Bl (Ac) hme.plain) ?_
     refine Aa rfl (q_sub (Ac) Ad rfl (by omega) (by omega)) ?_
     refine Aa rfl (q_max2 Ad (Ac)) ?_
     refine Aa rfl (Bv (A1 rfl <| Ac) (Ac) rfl (by omega) (by omega)) ?_
     refine Aa rfl (Ae (Ac)) ?_
     refine Ah <| Ba <| Ab <| Ai fun ds => Aa rfl (Ag (A7 rfl <| A1 rfl <| Ak rfl <| A1 rfl <| Ar rfl <| Am rfl <| At rfl hs4)) ?_
     refine Aa rfl (Bv (Ac) Ad rfl (by omega) (by omega)) ?_
     refine Aa rfl (Ae (Ac)) ?_
     refine Ah <| Ab ⟨_, m - 1, Off.eq (Dr rfl <| D5 rfl <| ou2 rfl <| D0 rfl <| off_in rfl <| D5 rfl <| ou2 rfl <| D0 rfl <| Bd), by omega, ?_⟩
     exact ⟨k + 1, by omega, (Ac), ((Ar rfl <| Am rfl <| Ac)).trans (congrArg (Value.int .i64) (by simp only [sumN]; unfold needN; rw [← hml])), _, hle0, hr, rfl⟩
  ·
   refine Af <| Af <| Ai fun ds => Aa rfl (Ag (At rfl hs4)) ?_
   refine Aa rfl (Al Cg (Am rfl <| Ak rfl <| Ar rfl <| Am rfl <| Ac)) ?_
   refine Aa rfl (Ap Cr (Ac) (Cell.own 0 rfl rfl)) ?_
   refine Aa rfl (Bj Cw (Ac) hr.places.plain) ?_
   refine Aa rfl (Bs (Ar rfl <| Am rfl <| Ac) (Ac)) ?_
   refine Ah <| Ab <| Ao (Ac) (by first | rfl | exact decide_eq_false (by omega)) ?_
   obtain rfl : k = s.places.length := by omega
   refine Bp ?_
   refine Be <| Be <| Bg <| Ab <| Af <| Ai fun ds => Aa rfl (Ag (A1 rfl <| Am rfl <| At rfl hs3)) ?_
   refine Aa rfl (Ae (Ac)) ?_
   refine Ah <| Ab <| A2 <| Ax rfl (.tmp (Ac) .nil) ?_
   rfl
theorem bit8_eq {m k : Nat} : decide ((((m / 2 ^ k : Nat) : Int) % 2) = 1) = m.testBit k := by
 rw [Nat.testBit_eq_decide_div_mod_eq]
 by_cases h : m / 2 ^ k % 2 = 1
 · rw [decide_eq_true h]; exact decide_eq_true (by omega)
 · rw [decide_eq_false h]; exact decide_eq_false (by omega)
set_option maxRecDepth 100000 in
set_option maxHeartbeats 1000000 in
theorem cleanLaw_ok {F : Heap} {vp ve : Value} {ps : List (Value × Edn)} {s : Stm} (hr : StmR F vp ve ps s) {wa : Nat} (hwa : wa < 256) : Ok Try.prog 12 [.agg #[vp, ve], .int .u8 (wa : Int)].toArray F fun u _ => u = .bool true := by
 have hle0 : F.le F := Heap.le_refl _
 refine Ok.intro Try.func12 rfl Try.ntmps12 rfl fun w0 => ?_
 have hL1 := hr.eds.plain.lt
 have hL2 := hr.places.plain.lt
 have hlen := hr.len
 by_cases h0 : (checkT s).2.2 = 0
 ·
  have hv := Cz h0
  have hne := hv.ne
  have hnp := hv.np
  rcases hcl : cleanR s (allTrees s) with _ | b
  ·
   have hbn := allTrees_none (clean_min.1.1 hcl)
   have ha9 := askedT_nil h0 hbn
   have hask : askedT s ≠ 0 := by rw [ha9]; decide
   refine Af <| Ai fun ds => Bh rfl (B4 (Aj rfl) rfl fun b1 hb1 nb1 => ?_)
   refine Aa rfl (Ae Ad) ?_
   refine Ah <| Ab <| Af <| Ai fun ds => Aa rfl (A6 B1 (Am rfl <| Ac) rfl rfl (A4 0 rfl)) ?_
   refine Bh rfl (Cl bd_33 A0 (.cons (Ac) .nil) (clean_top_ok hr) fun v2 F3 hr4 hF5 => ?_)
   replace hr := hr.mono hF5
   have hc0 := hr4
   rw [cleanE_none h0 hcl] at hc0
   obtain ⟨vb, rfl, hb⟩ := hc0
   replace hb : Nats _ vb [] := hb
   refine Aa rfl (Ag (Ac)) ?_
   refine Aa rfl (Au (Ac) rfl) ?_
   refine Aa rfl (Au (Am rfl <| Ac) rfl) ?_
   refine Aa rfl (Ae (Am rfl <| Ac)) ?_
   refine Aa rfl (Ae (Am rfl <| Ac)) ?_
   refine Ah <| Ab <| Af <| Af <| Ai fun ds => Aa rfl (A6 B1 (A7 rfl <| Ac) rfl rfl (A4 0 rfl)) ?_
   refine Bw rfl (Bc bd_40 A0 (.cons (Ac) .nil) (valid_ok hr) (fun _ _ h => h)) ?_
   refine Aa rfl (Co (Ac)) ?_
   refine Ah <| Ab <| Ao (Ac) (by simp [h0]) ?_
   refine Aw <| Ab <| Af <| Af <| Ai fun ds => Aa rfl (Ag (Ar rfl <| Am rfl <| Ac)) ?_
   refine Aa rfl (B3 (Ac) Ad) ?_
   refine Ah <| Ab <| Aq (Ac) (by decide) ?_
   refine Af <| Ai fun ds => Aa rfl (A6 B1 (A7 rfl <| A1 rfl <| Am rfl <| Ac) rfl rfl (A4 0 rfl)) ?_
   refine Bh rfl (Cl bd_27 A0 (.cons (Ac) .nil) (best_top_ok hr) fun v6 F7 hr8 hF9 => ?_)
   have hq0 := hr8
   rw [bestTE_bad hask] at hq0
   obtain ⟨vq, rfl, hq⟩ := hq0
   refine Aa rfl (Ag (Ac)) ?_
   refine Aa rfl (Au (Ac) rfl) ?_
   refine Aa rfl (Au (Am rfl <| Ac) rfl) ?_
   refine Aa rfl (Au (Ar rfl <| Ac) rfl) ?_
   refine Aa rfl (Au (Ar rfl <| Am rfl <| Ac) rfl) ?_
   refine Aa rfl (Ae (Ar rfl <| Am rfl <| Ac)) ?_
   refine Aa rfl (Ae (Ar rfl <| Am rfl <| Ac)) ?_
   refine Aa rfl (Ae (Ar rfl <| Am rfl <| Ac)) ?_
   refine Aa rfl (Ae (Ar rfl <| Am rfl <| Ac)) ?_
   refine Ah <| Ab <| Af <| Ai fun ds => Aa rfl (Ag (A5 rfl <| Ac)) ?_
   refine Aa rfl (Bx (Ac) Ad) ?_
   refine Aa rfl (Ag (Ac)) ?_
   refine As rfl rfl (Ac) (by decide) ?_
   refine Aa rfl (Ag (Ar rfl <| Am rfl <| Ac)) ?_
   refine As rfl rfl (Am rfl <| Ac) (by decide) ?_
   refine Aa rfl (Ag (A5 rfl <| A1 rfl <| Ac)) ?_
   refine As rfl rfl (Ar rfl <| Ac) (by decide) ?_
   refine Aa rfl (Bx (Am rfl <| Ac) (Ac)) ?_
   refine Aa rfl (A3 (Ar rfl <| Am rfl <| Ac) (by decide) (Ac)) ?_
   refine Aa rfl (Ag (Ac)) ?_
   refine As rfl rfl (Ac) (decide_eq_true ha9) ?_
   refine Bw rfl (Bc bd_26 A0 .nil awake_ok (fun _ _ h => h)) ?_
   refine Aa rfl (A3 (Am rfl <| Ac) (decide_eq_true ha9) (Ac)) ?_
   refine Aa rfl (Ae (Ac)) ?_
   refine Ah <| Ab <| A2 <| A9 ?_
   refine Ax rfl (.tmp (Ac) .nil) ?_
   rfl
  ·
   obtain ⟨⟨tb, -, hbu⟩, -⟩ := clean_min.2 b hcl
   have hbl0 : b.length ≤ s.places.length := by rw [hbu]; exact C7
   have hmem : ∀ j (h : j < b.length), b[j] < s.places.length := fun j h => by have h1 := List.getElem_mem h; generalize b[j] = x at h1 ⊢; rw [hbu] at h1; exact (unclean_mem.1 h1).1
   have hinc : ∀ i j (hij : i < j) (hj : j < b.length), b[i] < b[j] := by rw [hbu]; exact fun i j hij hj => unclean_inc hij hj
   refine Af <| Ai fun ds => Bh rfl (B4 (Aj rfl) rfl fun b10 hb10 nb10 => ?_)
   refine Aa rfl (Ae Ad) ?_
   refine Ah <| Ab <| Af <| Ai fun ds => Aa rfl (A6 B1 (Am rfl <| Ac) rfl rfl (A4 0 rfl)) ?_
   refine Bh rfl (Cl bd_33 A0 (.cons (Ac) .nil) (clean_top_ok hr) fun v11 F12 hr13 hF14 => ?_)
   replace hr := hr.mono hF14
   replace hle0 := Heap.le_trans hle0 hF14
   have hc0 := hr13
   rw [cleanE_some h0 hcl] at hc0
   obtain ⟨vb, rfl, hb⟩ := hc0
   replace hb : Nats _ vb b := hb
   refine Aa rfl (Ag (Ac)) ?_
   refine Aa rfl (Au (Ac) rfl) ?_
   refine Aa rfl (Au (Am rfl <| Ac) rfl) ?_
   refine Aa rfl (Ae (Am rfl <| Ac)) ?_
   refine Aa rfl (Ae (Am rfl <| Ac)) ?_
   refine Ah <| Ab <| Af <| Af <| Ai fun ds => Aa rfl (A6 B1 (A7 rfl <| Ac) rfl rfl (A4 0 rfl)) ?_
   refine Bw rfl (Bc bd_40 A0 (.cons (Ac) .nil) (valid_ok hr) (fun _ _ h => h)) ?_
   refine Aa rfl (Co (Ac)) ?_
   refine Ah <| Ab <| Ao (Ac) (by simp [h0]) ?_
   refine Aw <| Ab <| Af <| Af <| Ai fun ds => Aa rfl (Ag (Ar rfl <| Am rfl <| Ac)) ?_
   refine Aa rfl (B3 (Ac) Ad) ?_
   refine Ah <| Ab <| Ao (Ac) (decide_eq_false (fun h => h rfl)) ?_
   refine Aw <| Ab <| Af <| Af <| Ai fun ds => Aa rfl (Ae Ad) ?_
   refine Ah <| Ab <| Az <| Bt [4, 11, 63, 64, 65, 66, 67, 68, 69, 70, 71, 72, 73, 74, 75, 76, 77, 78, 79, 80, 81, 82, 83, 84, 85, 86, 87, 88, 89, 90, 91, 92, 93, 94, 95, 96, 97, 98, 99] (fun m e σ => ∃ k : Nat, m + k = b.length ∧ e 11 = .int .i64 (k : Int) ∧ σ = ⟨F12, [(b10, bx 25 [vp, ve])]⟩) (b.length) ?_ ?_
   · exact ⟨0, by omega, (Ac), rfl⟩
   ·
    rintro m e _ ⟨k, hm, hs11, rfl⟩
    by_cases hlt : k < b.length
    ·
     have hbk := hmem k hlt
     refine Af <| Af <| Ai fun ds => Aa rfl (Ag (At rfl hs11)) ?_
     refine Aa rfl (Ag (Am rfl <| Ak rfl <| A1 rfl <| Ar rfl <| Am rfl <| Ac)) ?_
     refine Aa rfl (Bj Bl (Ac) hb.plain) ?_
     refine Aa rfl (Bs (Ar rfl <| Ac) (Ac)) ?_
     refine Ah <| Ab <| Aq (Ac) (by first | rfl | exact decide_eq_true (by omega)) ?_
     refine Aw <| Ab <| Af <| Az <| Af <| Dg (.inl rfl) (fun _ _ h => h) (by kernel_rfl) (by kernel_rfl) fun ds => ?_
     refine Bk rfl (Ag (A1 rfl <| Ak rfl <| A1 rfl <| Ar rfl <| Am rfl <| Ac)) ?_
     refine Bk rfl (Ag (A1 rfl <| Am rfl <| At rfl hs11)) ?_
     refine Bk rfl (Bf (k := k) Bl (Am rfl <| Ac) hb.plain (Ac) rfl hlt) ?_
     refine Bk rfl (Ap Bm (Ac) (hb.cell1 hlt rfl)) ?_
     refine Bk rfl (Bs (Ac) Ad) ?_
     refine Bk rfl (Ag (Ac)) ?_
     refine B2 rfl rfl (Ac) (decide_eq_false (by omega)) ?_
     refine Bk rfl (Ag (A7 rfl <| Ar rfl <| Ak rfl <| A1 rfl <| Ar rfl <| Am rfl <| Ac)) ?_
     refine B2 rfl rfl (Am rfl <| Ac) (decide_eq_false (by omega)) ?_
     refine Bk rfl (Ag (A7 rfl <| Ar rfl <| Am rfl <| At rfl hs11)) ?_
     refine B2 rfl rfl (Ar rfl <| Ac) (decide_eq_false (by omega)) ?_
     refine Bk rfl (Bf (k := k) Bl (Am rfl <| Ac) hb.plain (Ac) rfl hlt) ?_
     refine B2 rfl rfl (Ar rfl <| Am rfl <| Ac) (decide_eq_false (by omega)) ?_
     refine Bk rfl (Ap Bm (Ac) (hb.cell1 hlt rfl)) ?_
     refine B2 rfl rfl (A1 rfl <| Ac) (decide_eq_false (by omega)) ?_
     refine Bk rfl (Al Cg (A7 rfl <| A1 rfl <| Ar rfl <| Ak rfl <| A7 rfl <| A1 rfl <| Ar rfl <| Ac)) ?_
     refine B2 rfl rfl (A1 rfl <| Am rfl <| Ac) (decide_eq_false (by omega)) ?_
     refine Bk rfl (Ap Cr (Ac) (Cell.own 0 rfl rfl)) ?_
     refine B2 rfl rfl (A1 rfl <| Ar rfl <| Ac) (decide_eq_false (by omega)) ?_
     refine Bk rfl (Bj Cw (Ac) hr.places.plain) ?_
     refine B2 rfl rfl (A1 rfl <| Ar rfl <| Am rfl <| Ac) (decide_eq_false (by omega)) ?_
     refine Bk rfl (Do (Ar rfl <| Am rfl <| Ac) (Ac)) ?_
     refine Bk rfl (Bb (A7 rfl <| Ac) (decide_eq_false (by omega)) (Ac)) ?_
     refine Bk rfl (Ag (Ac)) ?_
     refine B2 rfl rfl (Ac) (decide_eq_false (by omega)) ?_
     refine Bk rfl (Ag (A5 rfl <| A1 rfl <| At rfl hs11)) ?_
     refine B2 rfl rfl (Am rfl <| Ac) (decide_eq_false (by omega)) ?_
     refine Bk rfl (Dc (Ac) Ad) ?_
     refine B2 rfl rfl (Ar rfl <| Ac) (decide_eq_false (by omega)) ?_
     refine Bk rfl (Ag (Ac)) ?_
     by_cases hk0 : 0 < k
     ·
      have hbi := hinc (k - 1) k (by omega) hlt
      refine B2 rfl rfl (Ac) (decide_eq_true (by omega)) ?_
      refine Bk rfl (Ag (A5 rfl <| A1 rfl <| Ar rfl <| Am rfl <| Ak rfl <| A1 rfl <| Ar rfl <| Am rfl <| Ac)) ?_
      refine B2 rfl rfl (Am rfl <| Ac) (decide_eq_true (by omega)) ?_
      refine Bk rfl (Ag (A5 rfl <| A7 rfl <| At rfl hs11)) ?_
      refine B2 rfl rfl (Ar rfl <| Ac) (decide_eq_true (by omega)) ?_
      refine Bk rfl (Bf (k := k) Bl (Am rfl <| Ac) hb.plain (Ac) rfl hlt) ?_
      refine B2 rfl rfl (Ar rfl <| Am rfl <| Ac) (decide_eq_true (by omega)) ?_
      refine Bk rfl (Ap Bm (Ac) (hb.cell1 hlt rfl)) ?_
      refine B2 rfl rfl (A1 rfl <| Ac) (decide_eq_true (by omega)) ?_
      refine Bk rfl (Ag (A5 rfl <| A7 rfl <| Ar rfl <| Am rfl <| Ak rfl <| A1 rfl <| Ar rfl <| Am rfl <| Ac)) ?_
      refine B2 rfl rfl (A1 rfl <| Am rfl <| Ac) (decide_eq_true (by omega)) ?_
      refine Bk rfl (Ag (A5 rfl <| A7 rfl <| A1 rfl <| At rfl hs11)) ?_
      refine B2 rfl rfl (A1 rfl <| Ar rfl <| Ac) (decide_eq_true (by omega)) ?_
      refine Bk rfl (q_sub (Ac) Ad rfl (by omega) (by omega)) ?_
      refine B2 rfl rfl (A1 rfl <| Ar rfl <| Am rfl <| Ac) (decide_eq_true (by omega)) ?_
      refine Bk rfl (Bf (k := k - 1) Bl (Ar rfl <| Ac) hb.plain (Ac) (by omega) (by omega)) ?_
      refine B2 rfl rfl (A7 rfl <| Ac) (decide_eq_true (by omega)) ?_
      refine Bk rfl (Ap Bm (Ac) (hb.cell1 (by omega) rfl)) ?_
      refine B2 rfl rfl (A7 rfl <| Am rfl <| Ac) (decide_eq_true (by omega)) ?_
      refine Bk rfl (q_leq (A1 rfl <| Am rfl <| Ac) (Ac)) ?_
      refine B2 rfl rfl (A7 rfl <| A1 rfl <| Am rfl <| Ac) (decide_eq_false (by omega)) ?_
      refine Bk rfl (A3 (A7 rfl <| Ar rfl <| Ac) (decide_eq_true (by omega)) (Ac)) ?_
      refine Bk rfl (Bb (A7 rfl <| A1 rfl <| Ar rfl <| Ac) (decide_eq_false (by omega)) (Ac)) ?_
      refine Dv ?_
      refine Ab <| Ao (Ac) (decide_eq_false (by omega)) ?_
      refine Aw <| Ba <| Ab <| Ai fun ds => Aa rfl (Ag (Bo rfl <| Ar rfl <| Am rfl <| At rfl hs11)) ?_
      refine Aa rfl (Bv (Ac) Ad rfl (by omega) (by omega)) ?_
      refine Aa rfl (Ae (Ac)) ?_
      refine Ah <| Ab ⟨_, m - 1, Off.eq (ou32 rfl <| D5 rfl <| ou2 rfl <| Bd), by omega, ?_⟩
      exact ⟨k + 1, by omega, (Ac), rfl⟩
     ·
      refine Ch rfl rfl (Ac) (.inl (congrArg Value.bool (decide_eq_false (by omega)))) rfl ?_
      refine Ch rfl rfl (Am rfl <| Ac) (.inl (congrArg Value.bool (decide_eq_false (by omega)))) rfl ?_
      refine Ch rfl rfl (Ar rfl <| Ac) (.inl (congrArg Value.bool (decide_eq_false (by omega)))) rfl ?_
      refine Ch rfl rfl (Ar rfl <| Am rfl <| Ac) (.inl (congrArg Value.bool (decide_eq_false (by omega)))) rfl ?_
      refine Ch rfl rfl (A1 rfl <| Ac) (.inl (congrArg Value.bool (decide_eq_false (by omega)))) rfl ?_
      refine Ch rfl rfl (A1 rfl <| Am rfl <| Ac) (.inl (congrArg Value.bool (decide_eq_false (by omega)))) rfl ?_
      refine Ch rfl rfl (A1 rfl <| Ar rfl <| Ac) (.inl (congrArg Value.bool (decide_eq_false (by omega)))) rfl ?_
      refine Ch rfl rfl (A1 rfl <| Ar rfl <| Am rfl <| Ac) (.inl (congrArg Value.bool (decide_eq_false (by omega)))) rfl ?_
      refine Ch rfl rfl (A7 rfl <| Ac) (.inl (congrArg Value.bool (decide_eq_false (by omega)))) rfl ?_
      refine Ch rfl rfl (A7 rfl <| Am rfl <| Ac) (.inl (congrArg Value.bool (decide_eq_false (by omega)))) rfl ?_
      refine B2 rfl rfl (A7 rfl <| A1 rfl <| Am rfl <| Ac) (decide_eq_false (by omega)) ?_
      refine Bk rfl (Bb (A7 rfl <| Ar rfl <| Ac) (decide_eq_false (by omega)) Ad) ?_
      refine Bk rfl (Bb (A7 rfl <| A1 rfl <| Ar rfl <| Ac) (decide_eq_false (by omega)) (Ac)) ?_
      refine Dv ?_
      refine Ab <| Ao (Ac) rfl ?_
      refine Aw <| Ba <| Ab <| Ai fun ds => Aa rfl (Ag (Bo rfl <| Ar rfl <| Am rfl <| At rfl hs11)) ?_
      refine Aa rfl (Bv (Ac) Ad rfl (by omega) (by omega)) ?_
      refine Aa rfl (Ae (Ac)) ?_
      refine Ah <| Ab ⟨_, m - 1, Off.eq (ou32 rfl <| D5 rfl <| ou2 rfl <| Bd), by omega, ?_⟩
      exact ⟨k + 1, by omega, (Ac), rfl⟩
    ·
     refine Af <| Af <| Ai fun ds => Aa rfl (Ag (At rfl hs11)) ?_
     refine Aa rfl (Ag (Am rfl <| Ak rfl <| A1 rfl <| Ar rfl <| Am rfl <| Ac)) ?_
     refine Aa rfl (Bj Bl (Ac) hb.plain) ?_
     refine Aa rfl (Bs (Ar rfl <| Ac) (Ac)) ?_
     refine Ah <| Ab <| Ao (Ac) (by first | rfl | exact decide_eq_false (by omega)) ?_
     refine Bp ?_
     refine Be <| Be <| Bg <| Ab <| Af <| Ai fun ds => Aa rfl (A6 B1 (A1 rfl <| Ak rfl <| A7 rfl <| A1 rfl <| Ar rfl <| Ac) rfl rfl (A4 0 rfl)) ?_
     refine Aa rfl (Ag (A1 rfl <| Am rfl <| Ak rfl <| A1 rfl <| Ar rfl <| Am rfl <| Ac)) ?_
     refine Bh rfl (Cl bd_47 A0 (.cons (Am rfl <| Ac) (.cons (Ac) .nil)) (without_ok7 hr hv hb) fun v16 F17 hr18 hF19 => ?_)
     replace hr := hr.mono hF19
     replace hle0 := Heap.le_trans hle0 hF19
     replace hb := hb.mono hF19
     obtain ⟨vp2, ve2, ps2, rfl, hr2⟩ := hr18
     refine Aa rfl (Ag (Ac)) ?_
     refine Aa rfl (Au (Ac) rfl) ?_
     refine Aa rfl (Au (Am rfl <| Ac) rfl) ?_
     refine Bh rfl (B6 zr_25 rfl fun b20 hb20 nb20 => ?_)
     refine Cj (B9 sz_25 (Ac) (Ar rfl <| Ac) (i := 0) rfl rfl rfl rfl hr2.ones (.here) ?_)
     refine Aa rfl (Ae (Am rfl <| Ac)) ?_
     refine Ah <| Ab <| Af <| Af <| Ai fun ds => Aa rfl (Ag (Ac)) ?_
     refine Ah <| Ab <| Cf (i := 0) rfl hb20 (.here) fun F21 hF22 hz12 => ?_
     replace hr := hr.mono hF22
     replace hle0 := Heap.le_trans hle0 hF22
     replace hb := hb.mono hF22
     replace hr2 := hr2.mono hF22
     refine WC_cut [4, 14, 15, 16, 17, 107, 108, 109, 110, 111, 112, 113, 114, 115, 116, 117, 118, 119, 120, 121] (fun st σ => ∃ G, F.le G ∧ StmR G vp ve ps s ∧ Nats G vb b ∧ σ = ⟨G, [(b10, bx 25 [vp, ve])]⟩) ?_ ?_
     ·
      by_cases hn0 : (selN (outB b) s.places.length).length = 0
      ·
       refine Ao (Ac) (decide_eq_false (by omega)) ?_
       refine Aw <| Ab ⟨_, Off.eq (off_refl), ?_⟩
       exact ⟨_, hle0, hr, hb, rfl⟩
      ·
       obtain ⟨hc1, hc2⟩ := clean_rest' h0 hcl hn0
       have hv2 := Cz (sub_check h0 hn0)
       refine Aq (Ac) (decide_eq_true (by omega)) ?_
       refine Af <| Ai fun ds => Aa rfl (A6 B1 (Ar rfl <| Ac) rfl rfl (Cs hz12)) ?_
       refine Bh rfl (Cl bd_27 A0 (.cons (Ac) .nil) (best_top_ok hr2) fun v23 F24 hr25 hF26 => ?_)
       replace hr := hr.mono hF26
       replace hle0 := Heap.le_trans hle0 hF26
       replace hb := hb.mono hF26
       replace hr2 := hr2.mono hF26
       replace hz12 := hF26 _ _ hz12
       have hq0 := hr25
       rw [bestTE_ok hc1] at hq0
       obtain ⟨vq, rfl, hq⟩ := hq0
       refine Aa rfl (Ag (Ac)) ?_
       refine Aa rfl (Au (Ac) rfl) ?_
       refine Aa rfl (Au (Am rfl <| Ac) rfl) ?_
       refine Aa rfl (Au (Ar rfl <| Ac) rfl) ?_
       refine Aa rfl (Au (Ar rfl <| Am rfl <| Ac) rfl) ?_
       refine Aa rfl (Ae (Ar rfl <| Am rfl <| Ac)) ?_
       refine Aa rfl (Ae (Ar rfl <| Am rfl <| Ac)) ?_
       refine Aa rfl (Ae (Ar rfl <| Am rfl <| Ac)) ?_
       refine Aa rfl (Ae (Ar rfl <| Am rfl <| Ac)) ?_
       refine Ah <| Ab <| Af <| Ai fun ds => Aa rfl (Ag (Ac)) ?_
       refine Aa rfl (B3 (Ac) Ad) ?_
       refine Aa rfl (Ag (Ac)) ?_
       refine As rfl rfl (Ac) (decide_eq_false (fun h => h rfl)) ?_
       refine Aa rfl (Ag (A1 rfl <| Am rfl <| Ac)) ?_
       refine As rfl rfl (Am rfl <| Ac) (decide_eq_false (fun h => h rfl)) ?_
       refine Aa rfl (A6 B1 (A5 rfl <| Am rfl <| Ac) rfl rfl (Cs hz12)) ?_
       refine As rfl rfl (Ar rfl <| Ac) (decide_eq_false (fun h => h rfl)) ?_
       refine Bw rfl (Bc bd_48 A0 (.cons (Ac) .nil) (kinds_ok hr2 hv2) (fun _ _ h => h)) ?_
       refine As rfl rfl (Ar rfl <| Am rfl <| Ac) (decide_eq_false (fun h => h rfl)) ?_
       refine Aa rfl (B3 (Ar rfl <| Ac) (Ac)) ?_
       refine Aa rfl (Bb (A1 rfl <| Ac) (decide_eq_false (fun h => h rfl)) (Ac)) ?_
       refine Ah <| Ab <| Ao (Ac) (decide_eq_false (fun h => h hc2)) ?_
       refine Aw <| Ab ⟨_, Off.eq (C5 rfl <| ou2 rfl <| D0 rfl <| off_refl), ?_⟩
       exact ⟨_, hle0, hr, hb, rfl⟩
     rintro e13 _ ⟨G13, hle0, hr, hb, rfl⟩
     refine Af <| Ai fun ds => Aa rfl (Ae Ad) ?_
     refine Ah <| Ab <| Af <| Af <| Ai fun ds => Aa rfl (Ae Ad) ?_
     refine Ah <| Ab <| Az <| Bt [18, 19, 122, 123, 124, 125, 126, 127, 128, 129, 130, 131, 132, 133, 134, 135, 136, 137, 138] (fun m e σ => ∃ k : Nat, m + k = s.places.length ∧ e 19 = .int .i64 (k : Int) ∧ ∃ v18 R18, e 18 = v18 ∧ Own 3 1 v18 (bitsTo wa k).length ((bitsTo wa k).flatMap natE) R18 ∧ σ = ⟨G13, (b10, bx 25 [vp, ve]) :: R18⟩) (s.places.length) ?_ ?_
     · exact ⟨0, by omega, (Ac), _, [], (Am rfl <| Ac), Own.nil, rfl⟩
     ·
      rintro m e _ ⟨k, hm, hs19, v18, R18, hs18, ho, rfl⟩; have hbl := bitsTo_length (set := wa) (k := k)
      by_cases hlt : k < s.places.length
      ·
       refine Af <| Af <| Ai fun ds => Aa rfl (Ag (At rfl hs19)) ?_
       refine Aa rfl (Al Cg (Am rfl <| Ak rfl <| Ar rfl <| Ak rfl <| A7 rfl <| A1 rfl <| Am rfl <| Ak rfl <| A7 rfl <| A1 rfl <| Ar rfl <| Ac)) ?_
       refine Aa rfl (Ap Cr (Ac) (Cell.own 0 rfl rfl)) ?_
       refine Aa rfl (Bj Cw (Ac) hr.places.plain) ?_
       refine Aa rfl (Bs (Ar rfl <| Am rfl <| Ac) (Ac)) ?_
       refine Ah <| Ab <| Aq (Ac) (by first | rfl | exact decide_eq_true (by omega)) ?_
       by_cases hb1 : wa.testBit k = true
       ·
        refine Aw <| Ab <| Af <| Az <| Af <| Ai fun ds => Aa rfl (Ag (A1 rfl <| Am rfl <| Ak rfl <| Ar rfl <| Ak rfl <| A7 rfl <| A1 rfl <| Am rfl <| Ak rfl <| A7 rfl <| A1 rfl <| Ar rfl <| Am rfl <| Aj rfl)) ?_
        refine Aa rfl (q_convert ⟨_, Try.underlying5⟩ Try.underlying3 (Ac) (IntWalk.i64_in _ ⟨by omega, by omega⟩)) ?_
        refine Aa rfl (Ag (A1 rfl <| Ar rfl <| Am rfl <| At rfl hs19)) ?_
        refine Aa rfl (q_shr (Am rfl <| Ac) (Ac) (k := k) rfl (by show k < 64; omega) shr_nat) ?_
        refine Aa rfl (q_rem (Ac) Ad (Int.natCast_nonneg _) (by decide)) ?_
        refine Aa rfl (Bx (Ac) Ad) ?_
        refine Ah <| Ab <| Aq (Ac) (by rw [bit8_eq]; exact hb1) ?_
        refine Ai fun ds => Aa rfl (Ag (A7 rfl <| Ar rfl <| Am rfl <| At rfl hs18)) ?_
        refine Aa rfl (Ag (A7 rfl <| A1 rfl <| At rfl hs19)) ?_
        refine Bh rfl (Cb Bl Dd rfl (.cons (Ac) .nil) rfl rfl (by decide) (by simp [Value.oneCell']) fun b28 hb28 nb28 => ?_)
        refine Bh rfl (Cv Bl el_3 (Ar rfl <| Ac) ho (Ac) (Df (s := 1) 0 rfl rfl (by simp [Value.oneCell'])) (by omega) (by omega) (.s <| .s <| .z) .last fun v29 R30 ho31 => ?_)
        have ho2 := ho31.snoc (x := k) rfl rfl
        refine Aa rfl (Ae (Ac)) ?_
        refine Ah <| Ba <| Ab <| C9 (fun _ _ h => h.drop (.cons _ <| .cons_cons _ <| .refl _)) ?_
        refine Ai fun ds => Aa rfl (Ag (A5 rfl <| At rfl hs19)) ?_
        refine Aa rfl (Bv (Ac) Ad rfl (by omega) (by omega)) ?_
        refine Aa rfl (Ae (Ac)) ?_
        refine Ah <| Ab ⟨_, m - 1, Off.eq (C5 rfl <| ou2 rfl <| D0 rfl <| Bd), by omega, ?_⟩
        exact ⟨k + 1, by omega, (Ac), _, _, (Ar rfl <| Am rfl <| Ac), by rw [bitsTo_succ, if_pos hb1]; exact ho2, rfl⟩
       ·
        replace hb1 : wa.testBit k = false := by simpa using hb1
        refine Aw <| Ab <| Af <| Az <| Af <| Ai fun ds => Aa rfl (Ag (A1 rfl <| Am rfl <| Ak rfl <| Ar rfl <| Ak rfl <| A7 rfl <| A1 rfl <| Am rfl <| Ak rfl <| A7 rfl <| A1 rfl <| Ar rfl <| Am rfl <| Aj rfl)) ?_
        refine Aa rfl (q_convert ⟨_, Try.underlying5⟩ Try.underlying3 (Ac) (IntWalk.i64_in _ ⟨by omega, by omega⟩)) ?_
        refine Aa rfl (Ag (A1 rfl <| Ar rfl <| Am rfl <| At rfl hs19)) ?_
        refine Aa rfl (q_shr (Am rfl <| Ac) (Ac) (k := k) rfl (by show k < 64; omega) shr_nat) ?_
        refine Aa rfl (q_rem (Ac) Ad (Int.natCast_nonneg _) (by decide)) ?_
        refine Aa rfl (Bx (Ac) Ad) ?_
        refine Ah <| Ab <| Ao (Ac) (by rw [bit8_eq]; exact hb1) ?_
        refine Aw <| Ba <| Ab <| Ai fun ds => Aa rfl (Ag (A7 rfl <| Ar rfl <| Am rfl <| At rfl hs19)) ?_
        refine Aa rfl (Bv (Ac) Ad rfl (by omega) (by omega)) ?_
        refine Aa rfl (Ae (Ac)) ?_
        refine Ah <| Ab ⟨_, m - 1, Off.eq (Dr rfl <| D5 rfl <| ou2 rfl <| Bd), by omega, ?_⟩
        exact ⟨k + 1, by omega, (Ac), _, _, (A7 rfl <| A1 rfl <| Ar rfl <| At rfl hs18), by rw [bitsTo_succ, if_neg (by rw [hb1]; simp)]; exact ho, rfl⟩
      ·
       refine Af <| Af <| Ai fun ds => Aa rfl (Ag (At rfl hs19)) ?_
       refine Aa rfl (Al Cg (Am rfl <| Ak rfl <| Ar rfl <| Ak rfl <| A7 rfl <| A1 rfl <| Am rfl <| Ak rfl <| A7 rfl <| A1 rfl <| Ar rfl <| Ac)) ?_
       refine Aa rfl (Ap Cr (Ac) (Cell.own 0 rfl rfl)) ?_
       refine Aa rfl (Bj Cw (Ac) hr.places.plain) ?_
       refine Aa rfl (Bs (Ar rfl <| Am rfl <| Ac) (Ac)) ?_
       refine Ah <| Ab <| Ao (Ac) (by first | rfl | exact decide_eq_false (by omega)) ?_
       obtain rfl : k = s.places.length := by omega
       refine Cu (σ := ⟨_, _⟩) (by rfl) ho (.s <| .z) .last fun F32 hF33 hz34 => ?_
       replace hr := hr.mono hF33
       replace hb := hb.mono hF33
       have hno := ho.sl (fun _ => rfl) hz34 (by omega)
       by_cases hn0 : (selN (outB (bitsTo wa s.places.length)) s.places.length).length = 0
       ·
        refine Bp ?_
        refine Be <| Be <| Bg <| Ab <| Af <| Ai fun ds => Aa rfl (A6 B1 (A1 rfl <| Am rfl <| Ak rfl <| Ar rfl <| Ak rfl <| A7 rfl <| A1 rfl <| Am rfl <| Ak rfl <| A7 rfl <| A1 rfl <| Ar rfl <| Ac) rfl rfl (A4 0 rfl)) ?_
        refine Aa rfl (Ag (A1 rfl <| Ar rfl <| At rfl hs18)) ?_
        refine Bh rfl (Cl bd_47 A0 (.cons (Am rfl <| Ac) (.cons (Ac) .nil)) (without_ok7 hr hv hno) fun v35 F36 hr37 hF38 => ?_)
        obtain ⟨vp3, ve3, ps3, rfl, hr3⟩ := hr37
        refine Aa rfl (Ag (Ac)) ?_
        refine Aa rfl (Au (Ac) rfl) ?_
        refine Aa rfl (Au (Am rfl <| Ac) rfl) ?_
        refine Bh rfl (B6 zr_25 rfl fun b39 hb39 nb39 => ?_)
        refine Cj (B9 sz_25 (Ac) (Ar rfl <| Ac) (i := 0) rfl rfl rfl rfl hr3.ones (.here) ?_)
        refine Aa rfl (Ae (Am rfl <| Ac)) ?_
        refine Ah <| Ab <| Af <| Af <| Ai fun ds => Aa rfl (Ag (Ac)) ?_
        refine Aa rfl (Co (Ac)) ?_
        refine Aa rfl (Ag (Ac)) ?_
        refine Ay rfl rfl (Ac) (.inl (congrArg Value.bool (by rw [decide_eq_false (by omega)]; first | done | rfl))) rfl ?_
        refine Ay rfl rfl (Am rfl <| Ac) (.inl (congrArg Value.bool (by rw [decide_eq_false (by omega)]; first | done | rfl))) rfl ?_
        refine Ay rfl rfl (Ar rfl <| Ac) (.inl (congrArg Value.bool (by rw [decide_eq_false (by omega)]; first | done | rfl))) rfl ?_
        refine Ay rfl rfl (Ar rfl <| Am rfl <| Ac) (.inl (congrArg Value.bool (by rw [decide_eq_false (by omega)]; first | done | rfl))) rfl ?_
        refine Ay rfl rfl (A1 rfl <| Ac) (.inl (congrArg Value.bool (by rw [decide_eq_false (by omega)]; first | done | rfl))) rfl ?_
        refine Aa rfl (A3 (A1 rfl <| Am rfl <| Ac) (by rw [decide_eq_false (by omega)]; first | done | rfl) Ad) ?_
        refine Ah <| Ab <| Aq (Ac) rfl ?_
        refine Af <| Ai fun ds => Bw rfl (Bc bd_26 A0 .nil awake_ok (fun _ _ h => h)) ?_
        refine Aa rfl (Ae (Ac)) ?_
        refine Ah <| Ab <| A2 <| A9 ?_
        refine Ax rfl (.tmp (Ac) .nil) ?_
        rfl
       ·
        have hv3 := Cz (sub_check h0 hn0)
        refine Bp ?_
        refine Be <| Be <| Bg <| Ab <| Af <| Ai fun ds => Aa rfl (A6 B1 (A1 rfl <| Am rfl <| Ak rfl <| Ar rfl <| Ak rfl <| A7 rfl <| A1 rfl <| Am rfl <| Ak rfl <| A7 rfl <| A1 rfl <| Ar rfl <| Ac) rfl rfl (A4 0 rfl)) ?_
        refine Aa rfl (Ag (A1 rfl <| Ar rfl <| At rfl hs18)) ?_
        refine Bh rfl (Cl bd_47 A0 (.cons (Am rfl <| Ac) (.cons (Ac) .nil)) (without_ok7 hr hv hno) fun v40 F41 hr42 hF43 => ?_)
        replace hb := hb.mono hF43
        replace hno := hno.mono hF43
        obtain ⟨vp3, ve3, ps3, rfl, hr3⟩ := hr42
        refine Aa rfl (Ag (Ac)) ?_
        refine Aa rfl (Au (Ac) rfl) ?_
        refine Aa rfl (Au (Am rfl <| Ac) rfl) ?_
        refine Bh rfl (B6 zr_25 rfl fun b44 hb44 nb44 => ?_)
        refine Cj (B9 sz_25 (Ac) (Ar rfl <| Ac) (i := 0) rfl rfl rfl rfl hr3.ones (.here) ?_)
        refine Aa rfl (Ae (Am rfl <| Ac)) ?_
        refine Ah <| Ab <| Af <| Af <| Ai fun ds => Aa rfl (Ag (Ac)) ?_
        refine Aa rfl (Co (Ac)) ?_
        refine Aa rfl (Ag (Ac)) ?_
        refine As rfl rfl (Ac) (by rw [decide_eq_true (by omega)]; first | done | rfl) ?_
        refine Aa rfl (Ag (A5 rfl <| At rfl hs18)) ?_
        refine As rfl rfl (Am rfl <| Ac) (by rw [decide_eq_true (by omega)]; first | done | rfl) ?_
        refine Aa rfl (Bj Bl (Ac) hno.plain) ?_
        refine As rfl rfl (Ar rfl <| Ac) (by rw [decide_eq_true (by omega)]; first | done | rfl) ?_
        refine Aa rfl (Ag (A5 rfl <| Ar rfl <| Ak rfl <| Ar rfl <| Ak rfl <| A7 rfl <| A1 rfl <| Am rfl <| Ak rfl <| A1 rfl <| Ar rfl <| Am rfl <| Ac)) ?_
        refine As rfl rfl (Ar rfl <| Am rfl <| Ac) (by rw [decide_eq_true (by omega)]; first | done | rfl) ?_
        refine Aa rfl (Bj Bl (Ac) hb.plain) ?_
        refine As rfl rfl (A1 rfl <| Ac) (by rw [decide_eq_true (by omega)]; first | done | rfl) ?_
        refine Aa rfl (Do (Ar rfl <| Ac) (Ac)) ?_
        refine Aa rfl (Bb (A1 rfl <| Am rfl <| Ac) (by rw [decide_eq_true (by omega)]; first | done | rfl) (Ac)) ?_
        refine Ah <| Ab ?_
        by_cases hob : (bitsTo wa s.places.length).length < b.length
        ·
         refine Ao (Ac) (decide_eq_false (by omega)) ?_
         by_cases hask : askedT (subS s (outB (bitsTo wa s.places.length))) = 0
         ·
          have hlt9 := clean_fewer' h0 hcl hob hn0 hask
          refine Aw <| Ab <| Af <| Ai fun ds => Aa rfl (A6 B1 (A7 rfl <| Ar rfl <| Ac) rfl rfl (A4 0 rfl)) ?_
          refine Bh rfl (Cl bd_27 A0 (.cons (Ac) .nil) (best_top_ok hr3) fun v45 F46 hr47 hF48 => ?_)
          replace hr3 := hr3.mono hF48
          have hq0 := hr47
          rw [bestTE_ok hask] at hq0
          obtain ⟨vq, rfl, hq⟩ := hq0
          refine Aa rfl (Ag (Ac)) ?_
          refine Aa rfl (Au (Ac) rfl) ?_
          refine Aa rfl (Au (Am rfl <| Ac) rfl) ?_
          refine Aa rfl (Au (Ar rfl <| Ac) rfl) ?_
          refine Aa rfl (Au (Ar rfl <| Am rfl <| Ac) rfl) ?_
          refine Aa rfl (Ae (Ar rfl <| Am rfl <| Ac)) ?_
          refine Aa rfl (Ae (Ar rfl <| Am rfl <| Ac)) ?_
          refine Aa rfl (Ae (Ar rfl <| Am rfl <| Ac)) ?_
          refine Aa rfl (Ae (Ar rfl <| Am rfl <| Ac)) ?_
          refine Ah <| Ab <| Af <| Ai fun ds => Aa rfl (Ag (Ac)) ?_
          refine Aa rfl (B3 (Ac) Ad) ?_
          refine Aa rfl (Ag (Ac)) ?_
          refine As rfl rfl (Ac) (decide_eq_false (fun h => h rfl)) ?_
          refine Aa rfl (Ag (A1 rfl <| Am rfl <| Ac)) ?_
          refine As rfl rfl (Am rfl <| Ac) (decide_eq_false (fun h => h rfl)) ?_
          refine Aa rfl (A6 B1 (A5 rfl <| A7 rfl <| Am rfl <| Ac) rfl rfl (A4 0 rfl)) ?_
          refine As rfl rfl (Ar rfl <| Ac) (decide_eq_false (fun h => h rfl)) ?_
          refine Bw rfl (Bc bd_48 A0 (.cons (Ac) .nil) (kinds_ok hr3 hv3) (fun _ _ h => h)) ?_
          refine As rfl rfl (Ar rfl <| Am rfl <| Ac) (decide_eq_false (fun h => h rfl)) ?_
          refine Aa rfl (Dc (Ar rfl <| Ac) (Ac)) ?_
          refine Aa rfl (Bb (A1 rfl <| Ac) (decide_eq_false (fun h => h rfl)) (Ac)) ?_
          refine Aa rfl (Ag (Ac)) ?_
          refine As rfl rfl (Ac) (decide_eq_true (by omega)) ?_
          refine Bw rfl (Bc bd_26 A0 .nil awake_ok (fun _ _ h => h)) ?_
          refine Aa rfl (A3 (Am rfl <| Ac) (decide_eq_true (by omega)) (Ac)) ?_
          refine Aa rfl (Ae (Ac)) ?_
          refine Ah <| Ab <| A2 <| Ax rfl (.tmp (Ac) .nil) ?_
          rfl
         ·
          refine Aw <| Ab <| Af <| Ai fun ds => Aa rfl (A6 B1 (A7 rfl <| Ar rfl <| Ac) rfl rfl (A4 0 rfl)) ?_
          refine Bh rfl (Cl bd_27 A0 (.cons (Ac) .nil) (best_top_ok hr3) fun v49 F50 hr51 hF52 => ?_)
          have hq0 := hr51
          rw [bestTE_bad hask] at hq0
          obtain ⟨vq, rfl, hq⟩ := hq0
          refine Aa rfl (Ag (Ac)) ?_
          refine Aa rfl (Au (Ac) rfl) ?_
          refine Aa rfl (Au (Am rfl <| Ac) rfl) ?_
          refine Aa rfl (Au (Ar rfl <| Ac) rfl) ?_
          refine Aa rfl (Au (Ar rfl <| Am rfl <| Ac) rfl) ?_
          refine Aa rfl (Ae (Ar rfl <| Am rfl <| Ac)) ?_
          refine Aa rfl (Ae (Ar rfl <| Am rfl <| Ac)) ?_
          refine Aa rfl (Ae (Ar rfl <| Am rfl <| Ac)) ?_
          refine Aa rfl (Ae (Ar rfl <| Am rfl <| Ac)) ?_
          refine Ah <| Ab <| Af <| Ai fun ds => Aa rfl (Ag (Ac)) ?_
          refine Aa rfl (B3 (Ac) Ad) ?_
          refine Aa rfl (Ag (Ac)) ?_
          refine Ay rfl rfl (Ac) (.inl (congrArg Value.bool (decide_eq_true hask))) rfl ?_
          refine Ay rfl rfl (Am rfl <| Ac) (.inl (congrArg Value.bool (decide_eq_true hask))) rfl ?_
          refine Ay rfl rfl (Ar rfl <| Ac) (.inl (congrArg Value.bool (decide_eq_true hask))) rfl ?_
          refine Ay rfl rfl (Ar rfl <| Am rfl <| Ac) (.inl (congrArg Value.bool (decide_eq_true hask))) rfl ?_
          refine Aa rfl (A3 (A1 rfl <| Ac) (decide_eq_true hask) Ad) ?_
          refine Aa rfl (Ag (Ac)) ?_
          refine As rfl rfl (Ac) rfl ?_
          refine Bw rfl (Bc bd_26 A0 .nil awake_ok (fun _ _ h => h)) ?_
          refine Aa rfl (A3 (Am rfl <| Ac) rfl (Ac)) ?_
          refine Aa rfl (Ae (Ac)) ?_
          refine Ah <| Ab <| A2 <| Ax rfl (.tmp (Ac) .nil) ?_
          rfl
        ·
         refine Aq (Ac) (decide_eq_true (by omega)) ?_
         refine Af <| Ai fun ds => Bw rfl (Bc bd_26 A0 .nil awake_ok (fun _ _ h => h)) ?_
         refine Aa rfl (Ae (Ac)) ?_
         refine Ah <| Ab <| A2 <| A9 ?_
         refine Ax rfl (.tmp (Ac) .nil) ?_
         rfl
 ·
  refine Af <| Ai fun ds => Bh rfl (B4 (Aj rfl) rfl fun b53 hb53 nb53 => ?_)
  refine Aa rfl (Ae Ad) ?_
  refine Ah <| Ab <| Af <| Ai fun ds => Aa rfl (A6 B1 (Am rfl <| Ac) rfl rfl (A4 0 rfl)) ?_
  refine Bh rfl (Cl bd_33 A0 (.cons (Ac) .nil) (clean_top_ok hr) fun v54 F55 hr56 hF57 => ?_)
  replace hr := hr.mono hF57
  have hc0 := hr56
  rw [cleanE_bad h0] at hc0
  obtain ⟨vb, rfl, hb⟩ := hc0
  replace hb : Nats _ vb [] := hb
  refine Aa rfl (Ag (Ac)) ?_
  refine Aa rfl (Au (Ac) rfl) ?_
  refine Aa rfl (Au (Am rfl <| Ac) rfl) ?_
  refine Aa rfl (Ae (Am rfl <| Ac)) ?_
  refine Aa rfl (Ae (Am rfl <| Ac)) ?_
  refine Ah <| Ab <| Af <| Af <| Ai fun ds => Aa rfl (A6 B1 (A7 rfl <| Ac) rfl rfl (A4 0 rfl)) ?_
  refine Bw rfl (Bc bd_40 A0 (.cons (Ac) .nil) (valid_ok hr) (fun _ _ h => h)) ?_
  refine Aa rfl (Co (Ac)) ?_
  refine Ah <| Ab <| Aq (Ac) (by simp [h0]) ?_
  refine Af <| Ai fun ds => Aa rfl (Ag (Ar rfl <| Am rfl <| Ac)) ?_
  refine Aa rfl (B3 (Ac) Ad) ?_
  refine Aa rfl (Ag (Ac)) ?_
  refine As rfl rfl (Ac) (decide_eq_true h0) ?_
  refine Aa rfl (Ag (A1 rfl <| Ar rfl <| Am rfl <| Ac)) ?_
  refine As rfl rfl (Am rfl <| Ac) (decide_eq_true h0) ?_
  refine Aa rfl (Bj Bl (Ac) hb.plain) ?_
  refine As rfl rfl (Ar rfl <| Ac) (decide_eq_true h0) ?_
  refine Aa rfl (Bx (Ac) Ad) ?_
  refine Aa rfl (A3 (Ar rfl <| Am rfl <| Ac) (decide_eq_true h0) (Ac)) ?_
  refine Aa rfl (Ag (Ac)) ?_
  refine As rfl rfl (Ac) (by decide) ?_
  refine Bw rfl (Bc bd_26 A0 .nil awake_ok (fun _ _ h => h)) ?_
  refine Aa rfl (A3 (Am rfl <| Ac) (by decide) (Ac)) ?_
  refine Aa rfl (Ae (Ac)) ?_
  refine Ah <| Ab <| A2 <| A9 ?_
  refine Ax rfl (.tmp (Ac) .nil) ?_
  rfl
end Go.Proofs.Ytccogmkhijgelaa
namespace Go.Proofs.Ytccogmkhijgelaa
open Go.ChangeShapes Go.WideShapes Go.ChangeAt Go.RowKit
set_option maxRecDepth 100000 in
theorem stemCleanLifted (os : Os) (started : os.Started) (H : Type) (enc : TypeId × Value → H) :
   ReturnsInHanded {} Try.checked os 12 .any (Rows.stemCleanSpec.pre6 enc Try.prog Try.f12 Rows.stemCleanRow.domain false) (Rows.stemCleanSpec.post enc Try.prog Try.f12 false true false false) := by
 refine returnsInHanded_of_change_sized (C := Try.checked) ownKnob0 started (by kernel_rfl) Try.func12
   (ChangeSpec.witness6 (enc := enc) (C := Try.checked) false ⟨#[], #[.agg #[.slice none 0 0, .slice none 0 0], .int .u8 0], []⟩ 8 (by kernel_rfl) (by kernel_rfl) (by kernel_rfl) (by kernel_rfl)) ?_
 intro W base args ds gs before hval0 hW hcnd hsz _
 have hval : ∀ (j : Nat) t v, Try.f12.params[j]? = some t → args[j]? = some v → Value.okWide Try.prog W .any base t v := hval0
 have hW' := hW
 obtain ⟨p, q, hA0, hV, rfl, hfz, hnd⟩ := hW
 have hA : DataW.TrodAll enc Try.prog W 0 (fun _ => true) true Try.f12.params.toList args.toList ds p := hA0
 rw [Try.params12] at hA hval
 obtain ⟨v0, vs0, d0, ds0, p0, q0, hargs, rfl, rfl, h0, r0⟩ := trodAll_cons hA
 obtain ⟨v1, vs1, d1, ds1, p1, q1, rfl, rfl, rfl, h1, r1⟩ := trodAll_cons r0
 obtain ⟨rfl, rfl, rfl⟩ := trodAll_nil r1
 obtain rfl : args = #[v0, v1] := by cases args; simp_all
 obtain ⟨rfl, rfl⟩ := trodVars_none hV
 have hsz' : (DataW.weightsEach Try.prog (Try.f12.params.toList ++ []) ([d0, d1] ++ [])).all (· ≤ reachBytes) = true := hsz
 rw [Try.params12] at hsz'
 have k0 := h0
 have lt0 : ∀ x ∈ p0, x.block < W.heap.size := by obtain ⟨m, hm⟩ := k0; exact DataW.trod_lt m _ _ _ hm
 have k1 := h1
 have lt1 : ∀ x ∈ p1, x.block < W.heap.size := by obtain ⟨m, hm⟩ := k1; exact DataW.trod_lt m _ _ _ hm
 obtain ⟨vp, ve, ps, s, rfl, hr⟩ := arg_stem (hval 0 25 v0 rfl rfl) h0 (weights_at hsz' (j := 0) rfl rfl)
 obtain ⟨wa, rfl, hwa⟩ := arg_u8 (hval 1 5 v1 rfl rfl) h1 (weights_at hsz' (j := 1) rfl rfl)
 clear hA0 hval0
 refine (Ok.law (cleanLaw_ok hr hwa)).mono fun e W' ⟨he, bel⟩ => ?_
 subst he
 exact ⟨_, rfl, _, _, _, [], _, [], hW', trodAll_mk1 (shut_bool Try.underlying4 _), (trodAll_cons_mk (Below.trod laidOut (by kernel_rfl) (of_decide_eq_true (by kernel_rfl)) k0 bel lt0) (trodAll_cons_mk (Below.trod laidOut (by kernel_rfl) (of_decide_eq_true (by kernel_rfl)) k1 bel lt1) trodAll_mk0)), rfl, bel.frame _, fun h => by cases h⟩
theorem stemClean : Rows.StemCleanSaid :=
 OpenClaim.holds_of_wide 12 Try.f12 rfl rfl rfl rfl rfl rfl rfl ⟨rfl, rfl, rfl, rfl, rfl⟩ rfl rfl rfl rfl rfl (by kernel_rfl) Try.func12 (by kernel_rfl)
   (of_decide_eq_true (by kernel_rfl)) (by unfold Func.isWrapper; first | (rw [if_pos (by decide +kernel)]; kernel_rfl) | (rw [if_neg (by decide +kernel)]; exact ⟨rfl, rfl⟩))
   (fun os started H enc _ => stemCleanLifted os started H enc)
#print axioms stemClean
end Go.Proofs.Ytccogmkhijgelaa
