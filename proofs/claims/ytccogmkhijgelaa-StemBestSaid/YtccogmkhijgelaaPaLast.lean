/-
  StemBest returns true of any stem and editions, and leaves what it is handed as it was. No conditions.
-/
import Derived.Test.YtccogmkhijgelaaPae
namespace Go.Proofs.Ytccogmkhijgelaa
open Go.RowKit
theorem bd_111 : Body Try.prog 111 := Bo (by kernel_rfl)
theorem bd_119 : Body Try.prog 119 := Bo (by kernel_rfl)
theorem bd_77 : Body Try.prog 77 := Bo (by kernel_rfl)
theorem bd_85 : Body Try.prog 85 := Bo (by kernel_rfl)
set_option maxRecDepth 100000 in
theorem trees_zero {F : Heap} {n : Nat} (_hn : n ≤ 5) {v : Value} {b : List Int} (hb : Ints F v b) (hin : InN n b) (hbl : b.length = n) : Ok Try.prog 119 [v, .int .i64 (n : Int)].toArray F fun u F' => LstZ F' u (treesF n 0 b) := by
 refine Ok.intro Try.func119 rfl Try.ntmps119 rfl fun w0 => ?_
 have hL := hb.plain.lt
 refine Af <| Ai fun ds => Aa rfl (Ac Ad) ?_
 refine Ah <| Ab <| Af <| Af <| Ai fun ds => Aa rfl (Ag (Al rfl <| Aj rfl)) ?_
 refine Aa rfl (Bh Be (Ae) hb.plain) ?_
 refine Aa rfl (Ag (Ar rfl <| Al rfl <| Aj rfl)) ?_
 refine Aa rfl (Bx (Al rfl <| Ae) (Ae)) ?_
 refine Ah <| Ab <| Aq (Ae) (decide_eq_true (by omega)) ?_
 by_cases hT : isT b = true
 ·
  refine Af <| Af <| Ai fun ds => Aa rfl (Ag (Az rfl <| Al rfl <| Aj rfl)) ?_
  refine B0 rfl (Bj bd_107 A1 (.cons (Ae) .nil) (refIs_ok hb (hin.in_ hbl)) (fun _ _ h => h)) ?_
  refine Ah <| Ab <| Aq (Ae) hT ?_
  refine Af <| Ai fun ds => Aa rfl (Ag (Az rfl <| Ar rfl <| Al rfl <| Aj rfl)) ?_
  refine Bk rfl (B2 Ce zr_26 rfl (.cons (Ae) .nil) rfl rfl (by decide) (by intro u hu; simp only [List.mem_cons, List.not_mem_nil, or_false] at hu; subst hu; exact hb.plain.one) fun b1 hb1 nb1 => ?_)
  refine B9 (i := 0) rfl hb1 .here fun F2 hF3 hz4 => ?_
  replace hb := hb.mono hF3
  have hsl5 := lstz_box1 hz4
  refine Aa rfl (Ac (Ae)) ?_
  refine Ah <| Ab <| A4 <| Bc (Bc ?_)
  refine Ay rfl (.tmp (Ae) .nil) ?_
  rw [treesZ_yes hT]; exact hsl5 _ hb
 ·
  replace hT : isT b = false := by simpa using hT
  refine Af <| Af <| Ai fun ds => Aa rfl (Ag (Az rfl <| Al rfl <| Aj rfl)) ?_
  refine B0 rfl (Bj bd_107 A1 (.cons (Ae) .nil) (refIs_ok hb (hin.in_ hbl)) (fun _ _ h => h)) ?_
  refine Ah <| Ab <| Am (Ae) hT ?_
  refine Au <| Ab <| Af <| Ai fun ds => Aa rfl (Ac Ad) ?_
  refine Ah <| Ab <| A4 <| Bc ?_
  refine Ay rfl (.tmp (Ae) .nil) ?_
  rw [treesZ_no hT]; exact LstZ.nil
set_option maxRecDepth 100000 in
theorem trees_step {F : Heap} {n : Nat} (hn : n ≤ 5) {v : Value} {b : List Int} (hb : Ints F v b) (hin : InN n b) {d : Nat} (hbl : b.length + (d + 1) = n) (ih : ∀ {G : Heap} {w : Value} {c : List Int}, Ints G w c → InN n c → c.length + d = n → Ok Try.prog 119 [w, .int .i64 (n : Int)].toArray G fun u G2 => LstZ G2 u (treesF n d c)) : Ok Try.prog 119 [v, .int .i64 (n : Int)].toArray F fun u F' => LstZ F' u (treesF n (d + 1) b) := by
 have hle0 : F.le F := Heap.le_refl _
 refine Ok.intro Try.func119 rfl Try.ntmps119 rfl fun w0 => ?_
 have hL := hb.plain.lt
 refine Af <| Ai fun ds => Aa rfl (Ac Ad) ?_
 refine Ah <| Ab <| Af <| Af <| Ai fun ds => Aa rfl (Ag (Al rfl <| Aj rfl)) ?_
 refine Aa rfl (Bh Be (Ae) hb.plain) ?_
 refine Aa rfl (Ag (Ar rfl <| Al rfl <| Aj rfl)) ?_
 refine Aa rfl (Bx (Al rfl <| Ae) (Ae)) ?_
 refine Ah <| Ab <| Am (Ae) (decide_eq_false (by omega)) ?_
 refine Au <| Ab <| Af <| Ai fun ds => Aa rfl (Ac Ad) ?_
 refine Ah <| Ab <| Af <| Af <| Ai fun ds => Aa rfl (Ac Ad) ?_
 refine Ah <| Ab <| A0 <| Bs [5, 6, 15, 16, 17, 18, 19, 20, 21, 22, 23, 24, 25, 26, 27, 28, 29] (fun m e σ => ∃ G, F.le G ∧ Ints G v b ∧ ∃ j : Nat, m + j = n + 1 ∧ e 6 = .int .i64 ((j : Int) - 1) ∧ ∃ v5 R5 qs, e 5 = v5 ∧ Own 26 1 v5 qs.length (qs.flatMap slZ) R5 ∧ AllZ G qs ∧ qs.map (·.2) = treesTo n d b j ∧ σ = ⟨G, R5⟩) (n + 1) ?_ ?_
 · exact ⟨_, hle0, hb, 0, by omega, (Ae), _, _, [], (Al rfl <| Ae), Own.nil, AllZ.nil, rfl, rfl⟩
 ·
  rintro m e _ ⟨G, hle0, hb, j, hm, hs6, v5, R5, qs, hs5, ho, hqa, hqs, rfl⟩
  by_cases hlt : j < n + 1
  ·
   refine Af <| Af <| Ai fun ds => Aa rfl (Ag (As rfl hs6)) ?_
   refine Aa rfl (Ag (Al rfl <| Ak rfl <| Az rfl <| Ar rfl <| Al rfl <| Aj rfl)) ?_
   refine Aa rfl (Br (Al rfl <| Ae) (Ae)) ?_
   refine Ah <| Ab <| Aq (Ae) (decide_eq_true (by omega)) ?_
   have hqb : qs.length ≤ j * 7776 := by rw [Cv hqs]; exact treesTo_len5 hn (by omega)
   refine Au <| Ab <| Af <| A0 <| Ai fun ds => Aa rfl (Ag (Ar rfl <| Al rfl <| As rfl hs5)) ?_
   refine Bk rfl (B2 Be Db rfl .nil rfl rfl (by decide) (by simp [Value.oneCell']) fun b2 hb2 nb2 => ?_)
   refine Aa rfl (Ag (Az rfl <| Al rfl <| Ak rfl <| Az rfl <| Ar rfl <| Al rfl <| Aj rfl)) ?_
   refine Bk rfl (B4 Be el_3 (Al rfl <| Ae) (Eg rfl) (Ae) hb.srcInt (by omega) (by omega) (.z) .box fun v3 R4 ho5 => ?_)
   have ho2 : Own 3 1 v3 b.length (b.flatMap intE) R4 := by simpa using ho5
   refine Aa rfl (Ag (Az rfl <| Ar rfl <| Al rfl <| As rfl hs6)) ?_
   refine Bk rfl (B2 Be Db rfl (.cons (Ae) .nil) rfl rfl (by decide) (by simp [Value.oneCell']) fun b6 hb6 nb6 => ?_)
   refine Bk rfl (B4 Be el_3 (Ar rfl <| Ae) ho2 (Ae) (C6 (s := 1) 0 rfl rfl (by simp [Value.oneCell'])) (by omega) (by omega) (.s <| .z) .more fun v7 R8 ho9 => ?_)
   have ho3 := ho9.snoc (x := (j : Int) - 1) rfl rfl
   refine Aa rfl (Ag (A7 rfl <| Ar rfl <| Ak rfl <| Az rfl <| Ar rfl <| Al rfl <| Aj rfl)) ?_
   refine WL_freezeR (σ := ⟨_, _⟩) (by rfl) ho3 (.s <| .z) .more fun F10 hF11 hz12 => ?_
   replace hb := hb.mono hF11
   replace hqa := hqa.mono hF11
   replace hle0 := Heap.le_trans hle0 hF11
   have hn2 := ho3.sl (fun _ => rfl) hz12 (by simp only [List.length_append, List.length_singleton]; omega)
   refine Bk rfl (B6 bd_119 A1 (.cons (Al rfl <| Ae) (.cons (Ae) .nil)) (ih hn2 (hin.snoc (by omega)) (by simp only [List.length_append, List.length_singleton]; omega)) fun v13 F14 hr15 hF16 => ?_)
   replace hb := hb.mono hF16
   replace hqa := hqa.mono hF16
   replace hle0 := Heap.le_trans hle0 hF16
   obtain ⟨zs, hzs, hza, hzm⟩ := hr15
   have hzl : zs.length ≤ 7776 := by rw [Cv hzm]; exact trees_len5 hn (by omega)
   refine Bk rfl (B4 Ce el_26 (A7 rfl <| Ae) ho (Ae) (hzs.srcM (fun _ => rfl) hza.one) (by omega) (by omega) (.s <| .z) .last fun v17 R18 ho19 => ?_)
   have ho6 := ho19
   refine Aa rfl (Ac (Ae)) ?_
   refine Ah <| Bb <| Ab <| Cz (fun _ _ h => h.drop (.cons _ <| .refl _)) ?_
   refine Ai fun ds => Aa rfl (Ag (A7 rfl <| Az rfl <| Ar rfl <| As rfl hs6)) ?_
   refine Aa rfl (Bp (Ae) Ad rfl (by omega) (by omega)) ?_
   refine Aa rfl (Ac (Ae)) ?_
   refine Ah <| Ab ⟨_, m - 1, Off.eq (Cq rfl <| Df rfl <| Ba), by omega, ?_⟩
   exact ⟨_, hle0, hb, j + 1, by omega, ((Ae)).trans (congrArg (Value.int .i64) (by omega)), _, _, qs ++ zs, (Ar rfl <| Al rfl <| Ae), by rw [flat_sndZ, List.length_append]; exact ho6, hqa.add hza, by rw [List.map_append, hqs, hzm, treesTo_succ], rfl⟩
  ·
   refine Af <| Af <| Ai fun ds => Aa rfl (Ag (As rfl hs6)) ?_
   refine Aa rfl (Ag (Al rfl <| Ak rfl <| Az rfl <| Ar rfl <| Al rfl <| Aj rfl)) ?_
   refine Aa rfl (Br (Al rfl <| Ae) (Ae)) ?_
   refine Ah <| Ab <| Am (Ae) (decide_eq_false (by omega)) ?_
   have hqb : qs.length ≤ j * 7776 := by rw [Cv hqs]; exact treesTo_len5 hn (by omega)
   obtain rfl : j = n + 1 := by omega
   refine Cn (σ := ⟨_, _⟩) (by rfl) ho (.z) .last fun F20 hF21 hz22 => ?_
   replace hqa := hqa.mono hF21
   have hsp := ho.sl (fun _ => rfl) hz22 (by omega)
   refine Bn ?_
   refine Bd <| Bd <| Bf <| Ab <| Af <| Ai fun ds => Aa rfl (Ag (Ar rfl <| Al rfl <| As rfl hs5)) ?_
   refine Aa rfl (Ac (Ae)) ?_
   refine Ah <| Ab <| A4 <| Ay rfl (.tmp (Ae) .nil) ?_
   exact ⟨qs, hsp, hqa, by rw [hqs]; exact treesTo_end⟩
theorem trees_ok7 {n : Nat} (hn : n ≤ 5) : ∀ (d : Nat) {F : Heap} {v : Value} {b : List Int}, Ints F v b → InN n b → b.length + d = n → Ok Try.prog 119 [v, .int .i64 (n : Int)].toArray F fun u F' => LstZ F' u (treesF n d b)
 | 0, _, _, _, hb, hi, h => trees_zero hn hb hi (by omega)
 | d + 1, _, _, _, hb, hi, h => trees_step hn hb hi (by omega) (fun h1 h2 h3 => trees_ok7 hn d h1 h2 h3)
set_option maxRecDepth 100000 in
theorem refAll_ok {F : Heap} {vp ve : Value} {ps : List (Value × Edn)} {s : Stm} (hr : StmR F vp ve ps s) (hv : ValidT s) : Ok Try.prog 85 [.agg #[vp, ve]].toArray F fun u F' => LstZ F' u (allTrees s) := by
 have hle0 : F.le F := Heap.le_refl _
 refine Ok.intro Try.func85 rfl Try.ntmps85 rfl fun w0 => ?_
 have hne := hv.ne
 have hlen := hr.len
 have hL1 := hr.eds.plain.lt
 refine Af <| Ai fun ds => Bk rfl (B1 (Aj rfl) rfl fun b1 hb1 nb1 => ?_)
 refine Aa rfl (Ac Ad) ?_
 refine Ah <| Ab <| Af <| Ai fun ds => Aa rfl (Ao Bv (Al rfl <| Ae)) ?_
 refine Aa rfl (Ap Bz (Ae) (Cell.own 0 rfl rfl)) ?_
 refine Aa rfl (Bh B7 (Ae) hr.eds.plain) ?_
 refine Bk rfl (B6 bd_119 A1 (.cons Ad (.cons (Ae) .nil)) (trees_ok7 (n := ps.length) (by omega) ps.length Sl.nil InN.nil (by simp)) fun v2 F3 hr4 hF5 => ?_)
 replace hr := hr.mono hF5
 obtain ⟨zs, hzs, hza, hzm⟩ := hr4
 rw [hlen] at hzm
 have hzl : zs.length ≤ 7776 := by rw [Cv hzm]; exact trees_len5 (by omega) (by omega)
 refine Aa rfl (Ac (Ae)) ?_
 refine Ah <| Ab <| Af <| Ai fun ds => Aa rfl (Ac Ad) ?_
 refine Ah <| Ab <| Af <| Af <| Ai fun ds => Aa rfl (Ac Ad) ?_
 refine Ah <| Ab <| A0 <| Bs [4, 5, 10, 11, 12, 13, 14, 15, 16, 17, 18, 19, 20, 21, 22, 23, 24, 25, 26, 27, 28] (fun m e σ => ∃ i : Nat, m + i = zs.length ∧ e 5 = .int .i64 (i : Int) ∧ ∃ v4 R4, e 4 = v4 ∧ Own 26 1 v4 (selZ s zs i).length ((selZ s zs i).flatMap slZ) R4 ∧ σ = ⟨F3, (b1, bx 25 [vp, ve]) :: R4⟩) (zs.length) ?_ ?_
 · exact ⟨0, by omega, (Ae), _, _, (Al rfl <| Ae), Own.nil, rfl⟩
 ·
  rintro m e _ ⟨i, hm, hs5, v4, R4, hs4, ho, rfl⟩
  by_cases hlt : i < zs.length
  ·
   have hzi : Ints _ _ _ := hza _ (List.getElem_mem hlt)
   obtain ⟨hll, ht⟩ := treesN_mem (hzm ▸ List.mem_map_of_mem (f := Prod.snd) (List.getElem_mem hlt))
   have hsl := selZ_len (s := s) (zs := zs) (i := i)
   refine Af <| Af <| Ai fun ds => Aa rfl (Ag (As rfl hs5)) ?_
   refine Aa rfl (Ag (Al rfl <| Ak rfl <| Ar rfl <| Ae)) ?_
   refine Aa rfl (Bh Ce (Ae) hzs.plain) ?_
   refine Aa rfl (Br (Ar rfl <| Ae) (Ae)) ?_
   refine Ah <| Ab <| Aq (Ae) (by first | rfl | exact decide_eq_true (by omega)) ?_
   by_cases hf : fitsT s zs[i].2 = true
   ·
    refine Au <| Ab <| Af <| A0 <| Af <| Cp (.inl rfl) (fun _ _ h => h) (by kernel_rfl) (by kernel_rfl) fun ds => ?_
    refine Bi rfl (A8 Bw (Az rfl <| Ak rfl <| A7 rfl <| Ae) rfl rfl (A3 0 rfl)) ?_
    refine Bi rfl (Ag (Az rfl <| Al rfl <| Ak rfl <| Ar rfl <| Ae)) ?_
    refine Bi rfl (Ag (Az rfl <| Ar rfl <| As rfl hs5)) ?_
    refine Bi rfl (A9 (k := i) Ce (Al rfl <| Ae) hzs.plain (Ae) rfl hlt) ?_
    refine Bi rfl (Ap B8 (Ae) (hzs.cell1 hlt rfl)) ?_
    refine WQ_c rfl (Bj bd_94 A1 (.cons (Az rfl <| Ae) (.cons (Ae) .nil)) (refFits_ok hr hv hzi hll ht) (fun _ _ h => h)) ?_
    refine C3 ?_
    refine Ab <| Aq (Ae) hf ?_
    refine Ai fun ds => Aa rfl (Ag (A7 rfl <| Ar rfl <| As rfl hs4)) ?_
    refine Aa rfl (Ag (A7 rfl <| Ar rfl <| Al rfl <| Ak rfl <| Ar rfl <| Ae)) ?_
    refine Aa rfl (Ag (A7 rfl <| Az rfl <| As rfl hs5)) ?_
    refine Aa rfl (A9 (k := i) Ce (Al rfl <| Ae) hzs.plain (Ae) rfl hlt) ?_
    refine Aa rfl (Ap B8 (Ae) (hzs.cell1 hlt rfl)) ?_
    refine Bk rfl (B2 Ce zr_26 rfl (.cons (Ae) .nil) rfl rfl (by decide) (by intro u hu; simp only [List.mem_cons, List.not_mem_nil, or_false] at hu; subst hu; exact hzi.plain.one) fun b7 hb7 nb7 => ?_)
    refine Bk rfl (B4 Ce el_26 (Az rfl <| Al rfl <| Ae) ho (Ae) (C6 (s := 1) 0 rfl rfl (by intro u hu; simp only [List.mem_cons, List.not_mem_nil, or_false] at hu; subst hu; exact hzi.plain.one)) (by omega) (by omega) (.s <| .s <| .z) .last fun v8 R9 ho10 => ?_)
    have ho2 := ho10.snoc (x := zs[i]) rfl rfl
    refine Aa rfl (Ac (Ae)) ?_
    refine Ah <| Bb <| Ab <| Cz (fun _ _ h => h.drop (.cons _ <| .cons_cons _ <| .refl _)) ?_
    refine Ai fun ds => Aa rfl (Ag (A5 rfl <| Ar rfl <| As rfl hs5)) ?_
    refine Aa rfl (Bp (Ae) Ad rfl (by omega) (by omega)) ?_
    refine Aa rfl (Ac (Ae)) ?_
    refine Ah <| Ab ⟨_, m - 1, Off.eq (Cq rfl <| Dy rfl <| Df rfl <| Ba), by omega, ?_⟩
    exact ⟨i + 1, by omega, (Ae), _, _, (Ar rfl <| Al rfl <| Ae), by rw [selZ_yes hlt hf]; exact ho2, rfl⟩
   ·
    replace hf : fitsT s zs[i].2 = false := by simpa using hf
    refine Au <| Ab <| Af <| A0 <| Af <| Cp (.inl rfl) (fun _ _ h => h) (by kernel_rfl) (by kernel_rfl) fun ds => ?_
    refine Bi rfl (A8 Bw (Az rfl <| Ak rfl <| A7 rfl <| Ae) rfl rfl (A3 0 rfl)) ?_
    refine Bi rfl (Ag (Az rfl <| Al rfl <| Ak rfl <| Ar rfl <| Ae)) ?_
    refine Bi rfl (Ag (Az rfl <| Ar rfl <| As rfl hs5)) ?_
    refine Bi rfl (A9 (k := i) Ce (Al rfl <| Ae) hzs.plain (Ae) rfl hlt) ?_
    refine Bi rfl (Ap B8 (Ae) (hzs.cell1 hlt rfl)) ?_
    refine WQ_c rfl (Bj bd_94 A1 (.cons (Az rfl <| Ae) (.cons (Ae) .nil)) (refFits_ok hr hv hzi hll ht) (fun _ _ h => h)) ?_
    refine C3 ?_
    refine Ab <| Am (Ae) hf ?_
    refine Au <| Bb <| Ab <| Ai fun ds => Aa rfl (Ag (A7 rfl <| Ar rfl <| As rfl hs5)) ?_
    refine Aa rfl (Bp (Ae) Ad rfl (by omega) (by omega)) ?_
    refine Aa rfl (Ac (Ae)) ?_
    refine Ah <| Ab ⟨_, m - 1, Off.eq (Di rfl <| Dy rfl <| Df rfl <| Ba), by omega, ?_⟩
    exact ⟨i + 1, by omega, (Ae), _, _, (A7 rfl <| Az rfl <| Al rfl <| As rfl hs4), by rw [selZ_no hlt hf]; exact ho, rfl⟩
  ·
   refine Af <| Af <| Ai fun ds => Aa rfl (Ag (As rfl hs5)) ?_
   refine Aa rfl (Ag (Al rfl <| Ak rfl <| Ar rfl <| Ae)) ?_
   refine Aa rfl (Bh Ce (Ae) hzs.plain) ?_
   refine Aa rfl (Br (Ar rfl <| Ae) (Ae)) ?_
   refine Ah <| Ab <| Am (Ae) (by first | rfl | exact decide_eq_false (by omega)) ?_
   obtain rfl : i = zs.length := by omega
   have hsl := selZ_len (s := s) (zs := zs) (i := zs.length)
   refine Cn (σ := ⟨_, _⟩) (by rfl) ho (.s <| .z) .last fun F11 hF12 hz13 => ?_
   replace hza := hza.mono hF12
   have hsp := ho.sl (fun _ => rfl) hz13 (by omega)
   refine Bn ?_
   refine Bd <| Bd <| Bf <| Ab <| Af <| Ai fun ds => Aa rfl (Ag (Az rfl <| As rfl hs4)) ?_
   refine Aa rfl (Ac (Ae)) ?_
   refine Ah <| Ab <| A4 <| Ay rfl (.tmp (Ae) .nil) ?_
   exact ⟨_, hsp, selZ_all hza, by rw [selZ_end, hzm]; rfl⟩
set_option maxRecDepth 100000 in
theorem refBests_ok {F : Heap} {vp ve : Value} {ps : List (Value × Edn)} {s : Stm} (hr : StmR F vp ve ps s) (hv : ValidT s) : Ok Try.prog 111 [.agg #[vp, ve]].toArray F fun u F' => ∃ v, u = .tuple #[v, .int .i64 (bestsM s)] ∧ LstZ F' v (bestsL s) := by
 have hle0 : F.le F := Heap.le_refl _
 refine Ok.intro Try.func111 rfl Try.ntmps111 rfl fun w0 => ?_
 have hne := hv.ne
 refine Af <| Ai fun ds => Bk rfl (B1 (Aj rfl) rfl fun b1 hb1 nb1 => ?_)
 refine Aa rfl (Ac Ad) ?_
 refine Aa rfl (Ac Ad) ?_
 refine Ah <| Ab <| Af <| Ai fun ds => Aa rfl (A8 Bw (Ar rfl <| Ae) rfl rfl (A3 0 rfl)) ?_
 refine Bk rfl (B6 bd_85 A1 (.cons (Ae) .nil) (refAll_ok hr hv) fun v2 F3 hr4 hF5 => ?_)
 replace hr := hr.mono hF5
 obtain ⟨zs, hzs, hza, hzm⟩ := hr4
 have hzl : zs.length ≤ 7776 := by rw [Cv hzm]; exact E2 hv
 refine Aa rfl (Ac (Ae)) ?_
 refine Ah <| Ab <| Af <| Ai fun ds => Aa rfl (Ac Ad) ?_
 refine Ah <| Ab <| Af <| Ai fun ds => Aa rfl (Ac Ad) ?_
 refine Ah <| Ab <| Af <| Af <| Ai fun ds => Aa rfl (Ac Ad) ?_
 refine Ah <| Ab <| A0 <| Bs [5, 6, 7, 8, 11, 12, 13, 14, 15, 16, 17, 18, 19, 20, 21, 22, 23, 24, 25, 26, 27, 28, 29, 30, 31, 32, 33, 34, 35, 36, 37, 38, 39, 40] (fun m e σ => ∃ i : Nat, m + i = zs.length ∧ e 7 = .int .i64 (i : Int) ∧ e 5 = .int .i64 (bestZ s zs i).2 ∧ ∃ v6 R6, e 6 = v6 ∧ Own 26 1 v6 (bestZ s zs i).1.length ((bestZ s zs i).1.flatMap slZ) R6 ∧ σ = ⟨F3, (b1, bx 25 [vp, ve]) :: R6⟩) (zs.length) ?_ ?_
 · exact ⟨0, by omega, (Ae), (Ar rfl <| Ae), _, _, (Al rfl <| Ae), Own.nil, rfl⟩
 ·
  rintro m e _ ⟨i, hm, hs7, hs5, v6, R6, hs6, ho, rfl⟩
  by_cases hlt : i < zs.length
  ·
   have hzi : Ints _ _ _ := hza _ (List.getElem_mem hlt)
   obtain ⟨hll, ht, -⟩ := Dw.1 (hzm ▸ List.mem_map_of_mem (f := Prod.snd) (List.getElem_mem hlt))
   have hbl := bestZ_le (s := s) (zs := zs) (i := i)
   refine Af <| Af <| Ai fun ds => Aa rfl (Ag (As rfl hs7)) ?_
   refine Aa rfl (Ag (Al rfl <| Ak rfl <| Ar rfl <| Al rfl <| Ae)) ?_
   refine Aa rfl (Bh Ce (Ae) hzs.plain) ?_
   refine Aa rfl (Br (Ar rfl <| Ae) (Ae)) ?_
   refine Ah <| Ab <| Aq (Ae) (by first | rfl | exact decide_eq_true (by omega)) ?_
   by_cases h1 : costL s zs[i].2 < (bestZ s zs i).2
   ·
    have hb := bestZ_lt hlt h1
    refine Au <| Ab <| Af <| A0 <| Af <| Cp (.inl rfl) (fun _ _ h => h) (by kernel_rfl) (by kernel_rfl) fun ds => ?_
    refine Bi rfl (A8 Bw (Az rfl <| Ak rfl <| A7 rfl <| Ae) rfl rfl (A3 0 rfl)) ?_
    refine Bi rfl (Ag (Az rfl <| Al rfl <| Ak rfl <| Ar rfl <| Al rfl <| Ae)) ?_
    refine Bi rfl (Ag (Az rfl <| Ar rfl <| As rfl hs7)) ?_
    refine Bi rfl (A9 (k := i) Ce (Al rfl <| Ae) hzs.plain (Ae) rfl hlt) ?_
    refine Bi rfl (Ap B8 (Ae) (hzs.cell1 hlt rfl)) ?_
    refine WQ_c rfl (Bj bd_71 A1 (.cons (Az rfl <| Ae) (.cons (Ae) .nil)) (refCost_ok hr hv hzi hll ht) (fun _ _ h => h)) ?_
    refine Bi rfl (Ac (Ae)) ?_
    refine C3 ?_
    refine Ab <| Af <| Af <| Ai fun ds => Aa rfl (Ag (Ae)) ?_
    refine Aa rfl (Ag (A7 rfl <| Az rfl <| As rfl hs5)) ?_
    refine Aa rfl (Br (Al rfl <| Ae) (Ae)) ?_
    refine Ah <| Ab <| Aq (Ae) (decide_eq_true h1) ?_
    refine Ai fun ds => Aa rfl (Ag (Ar rfl <| Al rfl <| Ae)) ?_
    refine Aa rfl (Ac (Ae)) ?_
    refine Aa rfl (Ac Ad) ?_
    refine Ah <| Ab <| Af <| Ai fun ds => Aa rfl (Ag (Az rfl <| Ar rfl <| Ae)) ?_
    refine Aa rfl (Ag (Ar rfl <| Ae)) ?_
    refine Aa rfl (Bx (Al rfl <| Ae) (Ae)) ?_
    refine Aa rfl (Ag (Ae)) ?_
    refine At rfl rfl (Ae) (decide_eq_true rfl) ?_
    refine Aa rfl (Ag (A7 rfl <| Ar rfl <| Ae)) ?_
    refine At rfl rfl (Al rfl <| Ae) (decide_eq_true rfl) ?_
    refine Aa rfl (Br (Ae) Ad) ?_
    refine Aa rfl (A6 (Ar rfl <| Ae) (decide_eq_true rfl) (Ae)) ?_
    refine Ah <| Ab <| Aq (Ae) (decide_eq_true (by omega)) ?_
    refine Ai fun ds => Aa rfl (Ag (Az rfl <| Ar rfl <| Al rfl <| Ae)) ?_
    refine Aa rfl (Ag (A5 rfl <| A7 rfl <| Al rfl <| Ak rfl <| Ar rfl <| Al rfl <| Ae)) ?_
    refine Aa rfl (Ag (A5 rfl <| A7 rfl <| Ar rfl <| As rfl hs7)) ?_
    refine Aa rfl (A9 (k := i) Ce (Al rfl <| Ae) hzs.plain (Ae) rfl hlt) ?_
    refine Aa rfl (Ap B8 (Ae) (hzs.cell1 hlt rfl)) ?_
    refine Bk rfl (B2 Ce zr_26 rfl (.cons (Ae) .nil) rfl rfl (by decide) (by intro u hu; simp only [List.mem_cons, List.not_mem_nil, or_false] at hu; subst hu; exact hzi.plain.one) fun b7 hb7 nb7 => ?_)
    refine Bk rfl (B4 Ce el_26 (Az rfl <| Al rfl <| Ae) Ef (Ae) (C6 (s := 1) 0 rfl rfl (by intro u hu; simp only [List.mem_cons, List.not_mem_nil, or_false] at hu; subst hu; exact hzi.plain.one)) (by decide) (by decide) (.z) .nil fun v8 R9 ho10 => ?_)
    have ho2 : Own 26 1 v8 (bestZ s zs (i + 1)).1.length ((bestZ s zs (i + 1)).1.flatMap slZ) R9 := by rw [hb]; exact ho10
    refine Aa rfl (Ac (Ae)) ?_
    refine Ah <| Bb <| Ab <| WC_pickB (.one (.skip <| .next <| .here) <| .lastb (.here)) ?_
    refine Ai fun ds => Aa rfl (Ag (Bq rfl <| As rfl hs7)) ?_
    refine Aa rfl (Bp (Ae) Ad rfl (by omega) (by omega)) ?_
    refine Aa rfl (Ac (Ae)) ?_
    refine Ah <| Ab ⟨_, m - 1, Off.eq (ou32 rfl <| Eb rfl <| Df rfl <| Ba), by omega, ?_⟩
    exact ⟨i + 1, by omega, (Ae), ((A5 rfl <| Ar rfl <| Al rfl <| Ae)).trans (by rw [hb]), _, _, (Ar rfl <| Al rfl <| Ae), ho2, rfl⟩
   ·
    refine Au <| Ab <| Af <| A0 <| Af <| Cp (.inl rfl) (fun _ _ h => h) (by kernel_rfl) (by kernel_rfl) fun ds => ?_
    refine Bi rfl (A8 Bw (Az rfl <| Ak rfl <| A7 rfl <| Ae) rfl rfl (A3 0 rfl)) ?_
    refine Bi rfl (Ag (Az rfl <| Al rfl <| Ak rfl <| Ar rfl <| Al rfl <| Ae)) ?_
    refine Bi rfl (Ag (Az rfl <| Ar rfl <| As rfl hs7)) ?_
    refine Bi rfl (A9 (k := i) Ce (Al rfl <| Ae) hzs.plain (Ae) rfl hlt) ?_
    refine Bi rfl (Ap B8 (Ae) (hzs.cell1 hlt rfl)) ?_
    refine WQ_c rfl (Bj bd_71 A1 (.cons (Az rfl <| Ae) (.cons (Ae) .nil)) (refCost_ok hr hv hzi hll ht) (fun _ _ h => h)) ?_
    refine Bi rfl (Ac (Ae)) ?_
    refine C3 ?_
    refine Ab <| Af <| Af <| Ai fun ds => Aa rfl (Ag (Ae)) ?_
    refine Aa rfl (Ag (A7 rfl <| Az rfl <| As rfl hs5)) ?_
    refine Aa rfl (Br (Al rfl <| Ae) (Ae)) ?_
    refine Ah <| Ab <| Am (Ae) (decide_eq_false h1) ?_
    by_cases h2 : costL s zs[i].2 = (bestZ s zs i).2
    ·
     refine Au <| Ab <| Af <| Ai fun ds => Aa rfl (Ag (Ar rfl <| Al rfl <| Ae)) ?_
     refine Aa rfl (Ag (A7 rfl <| Az rfl <| Ar rfl <| Al rfl <| As rfl hs5)) ?_
     refine Aa rfl (Bx (Al rfl <| Ae) (Ae)) ?_
     refine Aa rfl (Ag (Ae)) ?_
     refine At rfl rfl (Ae) (decide_eq_true h2) ?_
     refine Aa rfl (Ag (Az rfl <| Ar rfl <| Al rfl <| Ae)) ?_
     refine At rfl rfl (Al rfl <| Ae) (decide_eq_true h2) ?_
     refine Aa rfl (Br (Ae) Ad) ?_
     refine Aa rfl (A6 (Ar rfl <| Ae) (decide_eq_true h2) (Ae)) ?_
     refine Ah <| Ab ?_
     by_cases h3 : costL s zs[i].2 < 1000
     ·
      have hb := bestZ_eq hlt h2 h3
      refine Aq (Ae) (decide_eq_true h3) ?_
      refine Ai fun ds => Aa rfl (Ag (A5 rfl <| Az rfl <| Al rfl <| As rfl hs6)) ?_
      refine Aa rfl (Ag (A5 rfl <| Az rfl <| Ar rfl <| Ak rfl <| Ar rfl <| Al rfl <| Ae)) ?_
      refine Aa rfl (Ag (A5 rfl <| Az rfl <| Ar rfl <| Al rfl <| As rfl hs7)) ?_
      refine Aa rfl (A9 (k := i) Ce (Al rfl <| Ae) hzs.plain (Ae) rfl hlt) ?_
      refine Aa rfl (Ap B8 (Ae) (hzs.cell1 hlt rfl)) ?_
      refine Bk rfl (B2 Ce zr_26 rfl (.cons (Ae) .nil) rfl rfl (by decide) (by intro u hu; simp only [List.mem_cons, List.not_mem_nil, or_false] at hu; subst hu; exact hzi.plain.one) fun b11 hb11 nb11 => ?_)
      refine Bk rfl (B4 Ce el_26 (Az rfl <| Al rfl <| Ae) ho (Ae) (C6 (s := 1) 0 rfl rfl (by intro u hu; simp only [List.mem_cons, List.not_mem_nil, or_false] at hu; subst hu; exact hzi.plain.one)) (by omega) (by omega) (.s <| .s <| .z) .last fun v12 R13 ho14 => ?_)
      have ho2 : Own 26 1 v12 (bestZ s zs (i + 1)).1.length ((bestZ s zs (i + 1)).1.flatMap slZ) R13 := by rw [hb]; exact ho14.snoc (x := zs[i]) rfl rfl
      refine Aa rfl (Ac (Ae)) ?_
      refine Ah <| Bb <| Ab <| Cz (fun _ _ h => h.drop (.cons _ <| .cons_cons _ <| .refl _)) ?_
      refine Ai fun ds => Aa rfl (Ag (A5 rfl <| A7 rfl <| Az rfl <| Al rfl <| As rfl hs7)) ?_
      refine Aa rfl (Bp (Ae) Ad rfl (by omega) (by omega)) ?_
      refine Aa rfl (Ac (Ae)) ?_
      refine Ah <| Ab ⟨_, m - 1, Off.eq (ou32 rfl <| Ba), by omega, ?_⟩
      exact ⟨i + 1, by omega, (Ae), ((Bq rfl <| As rfl hs5)).trans (by rw [hb]), _, _, (Ar rfl <| Al rfl <| Ae), ho2, rfl⟩
     ·
      have hb := bestZ_no hlt h1 (fun h => h3 h.2)
      refine Am (Ae) (decide_eq_false h3) ?_
      refine Au <| Bb <| Ab <| Ai fun ds => Aa rfl (Ag (A5 rfl <| Az rfl <| Al rfl <| As rfl hs7)) ?_
      refine Aa rfl (Bp (Ae) Ad rfl (by omega) (by omega)) ?_
      refine Aa rfl (Ac (Ae)) ?_
      refine Ah <| Ab ⟨_, m - 1, Off.eq (Cq rfl <| Di rfl <| Ba), by omega, ?_⟩
      exact ⟨i + 1, by omega, (Ae), ((A5 rfl <| A7 rfl <| As rfl hs5)).trans (by rw [hb]), _, _, (A5 rfl <| A7 rfl <| As rfl hs6), by rw [hb]; exact ho, rfl⟩
    ·
     have hb := bestZ_no hlt h1 (fun h => h2 h.1)
     refine Au <| Ab <| Af <| Ai fun ds => Aa rfl (Ag (Ar rfl <| Al rfl <| Ae)) ?_
     refine Aa rfl (Ag (A7 rfl <| Az rfl <| Ar rfl <| Al rfl <| As rfl hs5)) ?_
     refine Aa rfl (Bx (Al rfl <| Ae) (Ae)) ?_
     refine Aa rfl (Ag (Ae)) ?_
     refine Aw rfl rfl (Ae) (.inl (congrArg Value.bool (decide_eq_false h2))) rfl ?_
     refine Aw rfl rfl (Al rfl <| Ae) (.inl (congrArg Value.bool (decide_eq_false h2))) rfl ?_
     refine Aa rfl (Bg (Ar rfl <| Ae) (decide_eq_false h2) Ad) ?_
     refine Ah <| Ab <| Am (Ae) rfl ?_
     refine Au <| Bb <| Ab <| Ai fun ds => Aa rfl (Ag (A5 rfl <| Az rfl <| Al rfl <| As rfl hs7)) ?_
     refine Aa rfl (Bp (Ae) Ad rfl (by omega) (by omega)) ?_
     refine Aa rfl (Ac (Ae)) ?_
     refine Ah <| Ab ⟨_, m - 1, Off.eq (Cq rfl <| Di rfl <| Ba), by omega, ?_⟩
     exact ⟨i + 1, by omega, (Ae), ((A5 rfl <| A7 rfl <| As rfl hs5)).trans (by rw [hb]), _, _, (A5 rfl <| A7 rfl <| As rfl hs6), by rw [hb]; exact ho, rfl⟩
  ·
   refine Af <| Af <| Ai fun ds => Aa rfl (Ag (As rfl hs7)) ?_
   refine Aa rfl (Ag (Al rfl <| Ak rfl <| Ar rfl <| Al rfl <| Ae)) ?_
   refine Aa rfl (Bh Ce (Ae) hzs.plain) ?_
   refine Aa rfl (Br (Ar rfl <| Ae) (Ae)) ?_
   refine Ah <| Ab <| Am (Ae) (by first | rfl | exact decide_eq_false (by omega)) ?_
   obtain rfl : i = zs.length := by omega
   have hbl := bestZ_le (s := s) (zs := zs) (i := zs.length)
   obtain ⟨he1, he2⟩ := bestZ_end hzm
   refine Cn (σ := ⟨_, _⟩) (by rfl) ho (.s <| .z) .last fun F15 hF16 hz17 => ?_
   replace hza := hza.mono hF16
   have hsp := ho.sl (fun _ => rfl) hz17 (by omega)
   refine Bn ?_
   refine Bd <| Bd <| Bf <| Ab <| Af <| Ai fun ds => Aa rfl (Ag (Az rfl <| As rfl hs6)) ?_
   refine Aa rfl (Ag (Az rfl <| Al rfl <| As rfl hs5)) ?_
   refine Aa rfl (Ac (Al rfl <| Ae)) ?_
   refine Aa rfl (Ac (Al rfl <| Ae)) ?_
   refine Ah <| Ab <| A4 <| Ay rfl (.tmp (Al rfl <| Ae) (.tmp (Ae) .nil)) ?_
   exact ⟨_, by rw [← he2]; rfl, _, hsp, bestZ_all hza, he1⟩
set_option maxRecDepth 100000 in
theorem Eo {F : Heap} {vp ve : Value} {ps : List (Value × Edn)} {s : Stm} (hr : StmR F vp ve ps s) : Ok Try.prog 77 [.agg #[vp, ve]].toArray F fun u F' => AskZ F' u s := by
 have hle0 : F.le F := Heap.le_refl _
 refine Ok.intro Try.func77 rfl Try.ntmps77 rfl fun w0 => ?_
 by_cases h0 : (checkT s).2.2 = 0
 ·
  have hv := C9 h0
  refine Af <| Ai fun ds => Bk rfl (B1 (Aj rfl) rfl fun b1 hb1 nb1 => ?_)
  refine Aa rfl (Ac Ad) ?_
  refine Aa rfl (Ac Ad) ?_
  refine Aa rfl (Ac Ad) ?_
  refine Ah <| Ab <| Af <| Ai fun ds => Aa rfl (A8 Bw (Ar rfl <| Al rfl <| Ae) rfl rfl (A3 0 rfl)) ?_
  refine B0 rfl (Bj bd_17 A1 (.cons (Ae) .nil) (D3 hr) (fun _ _ h => h)) ?_
  refine Aa rfl (Ag (Ae)) ?_
  refine Aa rfl (Ax (Ae) rfl) ?_
  refine Aa rfl (Ax (Al rfl <| Ae) rfl) ?_
  refine Aa rfl (Ax (Ar rfl <| Ae) rfl) ?_
  refine Aa rfl (Ac (Ar rfl <| Ae)) ?_
  refine Aa rfl (Ac (Ar rfl <| Ae)) ?_
  refine Aa rfl (Ac (Ar rfl <| Ae)) ?_
  refine Ah <| Ab <| Af <| Af <| Ai fun ds => Aa rfl (Ag (Ae)) ?_
  refine Aa rfl (By (Ae) Ad) ?_
  refine Ah <| Ab <| Am (Ae) (by rw [h0]; rfl) ?_
  by_cases hb : bestsL s = []
  ·
   refine Au <| Ab <| Af <| Ai fun ds => Aa rfl (A8 Bw (A7 rfl <| Az rfl <| Ar rfl <| Ae) rfl rfl (A3 0 rfl)) ?_
   refine Bk rfl (B6 bd_111 A1 (.cons (Ae) .nil) (refBests_ok hr hv) fun v2 F3 hr4 hF5 => ?_)
   obtain ⟨vb, rfl, zs, hzs, hza, hzm⟩ := hr4
   have hzl : zs.length ≤ 7776 := by rw [Cv hzm]; exact Em hv
   refine Aa rfl (Ag (Ae)) ?_
   refine Aa rfl (Ax (Ae) rfl) ?_
   refine Aa rfl (Ax (Al rfl <| Ae) rfl) ?_
   refine Aa rfl (Ac (Al rfl <| Ae)) ?_
   refine Aa rfl (Ac (Al rfl <| Ae)) ?_
   refine Ah <| Ab <| Af <| Af <| Ai fun ds => Aa rfl (Ag (Al rfl <| Ae)) ?_
   refine Aa rfl (Bh Ce (Ae) hzs.plain) ?_
   refine Aa rfl (Bx (Ae) Ad) ?_
   refine Ah <| Ab <| Aq (Ae) (decide_eq_true (by rw [Cv hzm, hb]; rfl)) ?_
   refine Af <| Ai fun ds => Aa rfl (Ac Ad) ?_
   refine Aa rfl (Ac Ad) ?_
   refine Aa rfl (Ac Ad) ?_
   refine Ah <| Ab <| A4 <| Bc ?_
   refine Ay rfl (.tmp (Ar rfl <| Ae) (.tmp (Al rfl <| Ae) (.tmp (Ae) .nil))) ?_
   unfold AskZ; rw [askedE_bad (by rw [askedT_nil h0 hb]; decide), askedT_nil h0 hb]
   exact ⟨_, rfl, LstZ.nil⟩
  ·
   refine Au <| Ab <| Af <| Ai fun ds => Aa rfl (A8 Bw (A7 rfl <| Az rfl <| Ar rfl <| Ae) rfl rfl (A3 0 rfl)) ?_
   refine Bk rfl (B6 bd_111 A1 (.cons (Ae) .nil) (refBests_ok hr hv) fun v6 F7 hr8 hF9 => ?_)
   obtain ⟨vb, rfl, zs, hzs, hza, hzm⟩ := hr8
   have hzl : zs.length ≤ 7776 := by rw [Cv hzm]; exact Em hv
   refine Aa rfl (Ag (Ae)) ?_
   refine Aa rfl (Ax (Ae) rfl) ?_
   refine Aa rfl (Ax (Al rfl <| Ae) rfl) ?_
   refine Aa rfl (Ac (Al rfl <| Ae)) ?_
   refine Aa rfl (Ac (Al rfl <| Ae)) ?_
   refine Ah <| Ab <| Af <| Af <| Ai fun ds => Aa rfl (Ag (Al rfl <| Ae)) ?_
   refine Aa rfl (Bh Ce (Ae) hzs.plain) ?_
   refine Aa rfl (Bx (Ae) Ad) ?_
   refine Ah <| Ab <| Am (Ae) (decide_eq_false (by rw [Cv hzm]; have := List.length_pos_iff.2 hb; omega)) ?_
   refine Au <| Ab <| Af <| Ai fun ds => Aa rfl (Ag (Az rfl <| Ae)) ?_
   refine Aa rfl (Ag (Az rfl <| Ae)) ?_
   refine Aa rfl (Ac (Al rfl <| Ae)) ?_
   refine Aa rfl (Ac (Al rfl <| Ae)) ?_
   refine Aa rfl (Ac Ad) ?_
   refine Ah <| Ab <| A4 <| Ay rfl (.tmp (Ar rfl <| Ae) (.tmp (Al rfl <| Ae) (.tmp (Ae) .nil))) ?_
   unfold AskZ; rw [askedE_ok (askedT_some h0 hb)]
   exact ⟨_, rfl, zs, hzs, hza, hzm⟩
 ·
  refine Af <| Ai fun ds => Bk rfl (B1 (Aj rfl) rfl fun b10 hb10 nb10 => ?_)
  refine Aa rfl (Ac Ad) ?_
  refine Aa rfl (Ac Ad) ?_
  refine Aa rfl (Ac Ad) ?_
  refine Ah <| Ab <| Af <| Ai fun ds => Aa rfl (A8 Bw (Ar rfl <| Al rfl <| Ae) rfl rfl (A3 0 rfl)) ?_
  refine B0 rfl (Bj bd_17 A1 (.cons (Ae) .nil) (D3 hr) (fun _ _ h => h)) ?_
  refine Aa rfl (Ag (Ae)) ?_
  refine Aa rfl (Ax (Ae) rfl) ?_
  refine Aa rfl (Ax (Al rfl <| Ae) rfl) ?_
  refine Aa rfl (Ax (Ar rfl <| Ae) rfl) ?_
  refine Aa rfl (Ac (Ar rfl <| Ae)) ?_
  refine Aa rfl (Ac (Ar rfl <| Ae)) ?_
  refine Aa rfl (Ac (Ar rfl <| Ae)) ?_
  refine Ah <| Ab <| Af <| Af <| Ai fun ds => Aa rfl (Ag (Ae)) ?_
  refine Aa rfl (By (Ae) Ad) ?_
  refine Ah <| Ab <| Aq (Ae) (decide_eq_true h0) ?_
  refine Af <| Ai fun ds => Aa rfl (Ag (Ar rfl <| Ae)) ?_
  refine Aa rfl (Ac Ad) ?_
  refine Aa rfl (Ac Ad) ?_
  refine Aa rfl (Ac (Ar rfl <| Ae)) ?_
  refine Ah <| Ab <| A4 <| Bc ?_
  refine Ay rfl (.tmp (Ar rfl <| Ae) (.tmp (Al rfl <| Ae) (.tmp (Ae) .nil))) ?_
  unfold AskZ; rw [askedE_bad (by rw [askedT_bad h0]; exact h0), askedT_bad h0]
  exact ⟨_, rfl, LstZ.nil⟩
set_option maxRecDepth 100000 in
theorem refBest_ok {F : Heap} {vp ve : Value} {ps : List (Value × Edn)} {s : Stm} (hr : StmR F vp ve ps s) : Ok Try.prog 28 [.agg #[vp, ve]].toArray F fun u F' => BestTR F' u (bestTE s) := by
 have hle0 : F.le F := Heap.le_refl _
 refine Ok.intro Try.func28 rfl Try.ntmps28 rfl fun w0 => ?_
 by_cases hok : askedT s = 0
 ·
  obtain ⟨h0, hbn⟩ := askedT_ok hok
  have hv := C9 h0
  have hne := hv.ne
  have hbl := Em hv
  have h0l : 0 < (bestsL s).length := List.length_pos_iff.2 hbn
  refine Af <| Ai fun ds => Bk rfl (B1 (Aj rfl) rfl fun b1 hb1 nb1 => ?_)
  refine Aa rfl (Ac Ad) ?_
  refine Aa rfl (Ac Ad) ?_
  refine Aa rfl (Ac Ad) ?_
  refine Aa rfl (Ac Ad) ?_
  refine Ah <| Ab <| Af <| Ai fun ds => Aa rfl (A8 Bw (Az rfl <| Ae) rfl rfl (A3 0 rfl)) ?_
  refine Bk rfl (B6 bd_77 A1 (.cons (Ae) .nil) (Eo hr) fun v2 F3 hr4 hF5 => ?_)
  obtain ⟨vq, rfl, zs, hzs, hza, hzm⟩ := AskZ.ok hr4 hok
  have hzl := Cv hzm
  refine Aa rfl (Ag (Ae)) ?_
  refine Aa rfl (Ax (Ae) rfl) ?_
  refine Aa rfl (Ax (Al rfl <| Ae) rfl) ?_
  refine Aa rfl (Ax (Ar rfl <| Ae) rfl) ?_
  refine Aa rfl (Ac (Ar rfl <| Ae)) ?_
  refine Aa rfl (Ac (Ar rfl <| Ae)) ?_
  refine Aa rfl (Ac (Ar rfl <| Ae)) ?_
  refine Ah <| Ab <| Af <| Af <| Ai fun ds => Aa rfl (Ag (Ae)) ?_
  refine Aa rfl (By (Ae) Ad) ?_
  refine Ah <| Ab <| Am (Ae) (by decide) ?_
  refine Au <| Ab <| Af ?_
  have h0z : 0 < zs.length := by omega
  have hz0 : Ints _ _ _ := hza _ (List.getElem_mem h0z)
  have he0 : zs[0].2 = (bestsL s)[0] := by simp [← hzm]
  refine Ai fun ds => Aa rfl (Ag (Az rfl <| Ae)) ?_
  refine Aa rfl (A9 (k := 0) Ce (Ae) hzs.plain Ad rfl h0z) ?_
  refine Aa rfl (Ap B8 (Ae) (hzs.cell1 h0z rfl)) ?_
  refine Aa rfl (Ag (Az rfl <| Ar rfl <| Ae)) ?_
  refine Aa rfl (Ag (A7 rfl <| Ae)) ?_
  refine Aa rfl (Bh Ce (Ae) hzs.plain) ?_
  refine Aa rfl (Ac (Ar rfl <| Al rfl <| Ae)) ?_
  refine Aa rfl (Ac (Ar rfl <| Al rfl <| Ae)) ?_
  refine Aa rfl (Ac (Ar rfl <| Ae)) ?_
  refine Aa rfl (Ac Ad) ?_
  refine Ah <| Ab <| A4 <| Ay rfl (.tmp (Ar rfl <| Al rfl <| Ae) (.tmp (Ar rfl <| Ae) (.tmp (Al rfl <| Ae) (.tmp (Ae) .nil)))) ?_
  unfold BestTR; rw [bestTE_ok hok, List.getElem?_eq_getElem h0l]
  exact ⟨_, by rw [← hzl]; rfl, by show Ints _ _ (bestsL s)[0]; rw [← he0]; exact hz0⟩
 ·
  refine Af <| Ai fun ds => Bk rfl (B1 (Aj rfl) rfl fun b6 hb6 nb6 => ?_)
  refine Aa rfl (Ac Ad) ?_
  refine Aa rfl (Ac Ad) ?_
  refine Aa rfl (Ac Ad) ?_
  refine Aa rfl (Ac Ad) ?_
  refine Ah <| Ab <| Af <| Ai fun ds => Aa rfl (A8 Bw (Az rfl <| Ae) rfl rfl (A3 0 rfl)) ?_
  refine Bk rfl (B6 bd_77 A1 (.cons (Ae) .nil) (Eo hr) fun v7 F8 hr9 hF10 => ?_)
  obtain ⟨vq, rfl⟩ := AskZ.bad hr9 hok
  refine Aa rfl (Ag (Ae)) ?_
  refine Aa rfl (Ax (Ae) rfl) ?_
  refine Aa rfl (Ax (Al rfl <| Ae) rfl) ?_
  refine Aa rfl (Ax (Ar rfl <| Ae) rfl) ?_
  refine Aa rfl (Ac (Ar rfl <| Ae)) ?_
  refine Aa rfl (Ac (Ar rfl <| Ae)) ?_
  refine Aa rfl (Ac (Ar rfl <| Ae)) ?_
  refine Ah <| Ab <| Af <| Af <| Ai fun ds => Aa rfl (Ag (Ae)) ?_
  refine Aa rfl (By (Ae) Ad) ?_
  refine Ah <| Ab <| Aq (Ae) (decide_eq_true hok) ?_
  refine Af <| Ai fun ds => Aa rfl (Ag (Ar rfl <| Ae)) ?_
  refine Aa rfl (Ac Ad) ?_
  refine Aa rfl (Ac Ad) ?_
  refine Aa rfl (Ac Ad) ?_
  refine Aa rfl (Ac (Ar rfl <| Al rfl <| Ae)) ?_
  refine Ah <| Ab <| A4 <| Bc ?_
  refine Ay rfl (.tmp (Ar rfl <| Al rfl <| Ae) (.tmp (Ar rfl <| Ae) (.tmp (Al rfl <| Ae) (.tmp (Ae) .nil)))) ?_
  unfold BestTR; rw [bestTE_bad hok]
  exact ⟨_, rfl, Sl.nil⟩
end Go.Proofs.Ytccogmkhijgelaa
namespace Go.Proofs.Ytccogmkhijgelaa
open Go.RowKit
set_option maxRecDepth 100000 in
theorem refFirst_ok {F : Heap} {vp ve : Value} {ps : List (Value × Edn)} {s : Stm} (hr : StmR F vp ve ps s) : Ok Try.prog 30 [.agg #[vp, ve]].toArray F fun u F' => NatsR F' u (firstTE s) := by
 have hle0 : F.le F := Heap.le_refl _
 refine Ok.intro Try.func30 rfl Try.ntmps30 rfl fun w0 => ?_
 have hlen := hr.len
 have hL1 := hr.eds.plain.lt
 by_cases hok : askedT s = 0
 ·
  obtain ⟨h0, hbn⟩ := askedT_ok hok
  have hv := C9 h0
  have hne := hv.ne
  have hbl := Em hv
  have h0l : 0 < (bestsL s).length := List.length_pos_iff.2 hbn
  refine Af <| Ai fun ds => Bk rfl (B1 (Aj rfl) rfl fun b1 hb1 nb1 => ?_)
  refine Aa rfl (Ac Ad) ?_
  refine Aa rfl (Ac Ad) ?_
  refine Ah <| Ab <| Af <| Ai fun ds => Aa rfl (A8 Bw (Ar rfl <| Ae) rfl rfl (A3 0 rfl)) ?_
  refine Bk rfl (B6 bd_77 A1 (.cons (Ae) .nil) (Eo hr) fun v2 F3 hr4 hF5 => ?_)
  replace hr := hr.mono hF5
  obtain ⟨vq, rfl, zs, hzs, hza, hzm⟩ := AskZ.ok hr4 hok
  have hzl := Cv hzm
  refine Aa rfl (Ag (Ae)) ?_
  refine Aa rfl (Ax (Ae) rfl) ?_
  refine Aa rfl (Ax (Al rfl <| Ae) rfl) ?_
  refine Aa rfl (Ax (Ar rfl <| Ae) rfl) ?_
  refine Aa rfl (Ac (Ar rfl <| Ae)) ?_
  refine Aa rfl (Ac (Ar rfl <| Ae)) ?_
  refine Aa rfl (Ac (Ar rfl <| Ae)) ?_
  refine Ah <| Ab <| Af <| Af <| Ai fun ds => Aa rfl (Ag (Ae)) ?_
  refine Aa rfl (By (Ae) Ad) ?_
  refine Ah <| Ab <| Am (Ae) (by decide) ?_
  refine Au <| Ab <| Af <| Ai fun ds => Aa rfl (Ac Ad) ?_
  refine Ah <| Ab <| Af <| Af <| Ai fun ds => Aa rfl (Ac Ad) ?_
  refine Ah <| Ab <| A0 <| Bs [7, 8, 9, 10, 20, 21, 22, 23, 24, 25, 26, 27, 28, 29, 30, 31, 32, 33, 34, 35, 36, 37, 38, 39, 40, 41, 42, 43, 44, 45, 46, 47, 48] (fun m e σ => ∃ i : Nat, m + i = ps.length ∧ e 8 = .int .i64 (i : Int) ∧ ∃ v7 R7, e 7 = v7 ∧ Own 3 1 v7 (selN (firstB s) i).length ((selN (firstB s) i).flatMap natE) R7 ∧ σ = ⟨F3, (b1, bx 25 [vp, ve]) :: R7⟩) (ps.length) ?_ ?_
  · exact ⟨0, by omega, (Ae), _, _, (Al rfl <| Ae), Own.nil, rfl⟩
  ·
   rintro m e _ ⟨i, hm, hs8, v7, R7, hs7, ho, rfl⟩; have hsl := Dk (p := firstB s) (k := i)
   by_cases hlt : i < ps.length
   ·
    refine Af <| Af <| Ai fun ds => Aa rfl (Ag (As rfl hs8)) ?_
    refine Aa rfl (Ao Bv (Al rfl <| Ak rfl <| A7 rfl <| Az rfl <| Ar rfl <| Al rfl <| Ae)) ?_
    refine Aa rfl (Ap Bz (Ae) (Cell.own 0 rfl rfl)) ?_
    refine Aa rfl (Bh B7 (Ae) hr.eds.plain) ?_
    refine Aa rfl (Br (Ar rfl <| Al rfl <| Ae) (Ae)) ?_
    refine Ah <| Ab <| Aq (Ae) (by first | rfl | exact decide_eq_true (by omega)) ?_
    refine Au <| Ab <| Af <| A0 <| Af <| Ai fun ds => Aa rfl (Ac Ad) ?_
    refine Ah <| Ab <| Af <| Af <| Ai fun ds => Aa rfl (Ac Ad) ?_
    refine Ah <| Ab <| A0 <| Bs [9, 10, 27, 28, 29, 30, 31, 32, 33, 34, 35, 36, 37, 38, 39, 40, 41, 42, 43] (fun m e σ => ∃ k : Nat, m + k = zs.length ∧ e 10 = .int .i64 (k : Int) ∧ e 9 = .bool (firstTo s i k) ∧ σ = ⟨F3, (b1, bx 25 [vp, ve]) :: R7⟩) (zs.length) ?_ ?_
    · exact ⟨0, by omega, (Ae), (Al rfl <| Ae), rfl⟩
    ·
     rintro m2 e2 _ ⟨k, hm2, ht10, ht9, rfl⟩
     by_cases hk : k < zs.length
     ·
      have hkb : k < (bestsL s).length := by omega
      have hzk : Ints _ _ _ := hza _ (List.getElem_mem (show k < zs.length by omega))
      have hzm1 : zs[k].2 = (bestsL s)[k] := by simp [← hzm]
      obtain ⟨hzl1, -⟩ := bestsL_at (List.getElem_mem (show k < (bestsL s).length by omega))
      have hik : i < zs[k].2.length := by rw [hzm1, hzl1]; omega
      have hup := Dd hik
      rw [show upN zs[k].2 i = upN (bestsL s)[k] i by rw [hzm1]] at hup
      refine Af <| Af <| Ai fun ds => Aa rfl (Ag (As rfl ht10)) ?_
      refine Aa rfl (Ag (Al rfl <| Ak rfl <| Az rfl <| Ar rfl <| Al rfl <| Ak rfl <| Az rfl <| Ar rfl <| Ae)) ?_
      refine Aa rfl (Bh Ce (Ae) hzs.plain) ?_
      refine Aa rfl (Br (Ar rfl <| Ae) (Ae)) ?_
      refine Ah <| Ab <| Aq (Ae) (by first | rfl | exact decide_eq_true (by omega)) ?_
      by_cases hf : firstTo s i k = true
      ·
       refine Au <| Ab <| Af <| A0 <| Ai fun ds => Aa rfl (Ag (Az rfl <| As rfl ht9)) ?_
       refine Aa rfl (Ag (Ae)) ?_
       refine Aw rfl rfl (Ae) (.inl (congrArg Value.bool hf)) rfl ?_
       refine Aw rfl rfl (Al rfl <| Ae) (.inl (congrArg Value.bool hf)) rfl ?_
       refine Aw rfl rfl (Ar rfl <| Ae) (.inl (congrArg Value.bool hf)) rfl ?_
       refine Aw rfl rfl (Ar rfl <| Al rfl <| Ae) (.inl (congrArg Value.bool hf)) rfl ?_
       refine Aw rfl rfl (Az rfl <| Ae) (.inl (congrArg Value.bool hf)) rfl ?_
       refine Aw rfl rfl (Az rfl <| Al rfl <| Ae) (.inl (congrArg Value.bool hf)) rfl ?_
       refine Aw rfl rfl (Az rfl <| Ar rfl <| Ae) (.inl (congrArg Value.bool hf)) rfl ?_
       refine Aw rfl rfl (Az rfl <| Ar rfl <| Al rfl <| Ae) (.inl (congrArg Value.bool hf)) rfl ?_
       refine Aa rfl (A6 (A7 rfl <| Ae) hf Ad) ?_
       refine Aa rfl (Ac (Ae)) ?_
       refine Ah <| Bb <| Ab <| Ai fun ds => Aa rfl (Ag (A5 rfl <| As rfl ht10)) ?_
       refine Aa rfl (Bp (Ae) Ad rfl (by omega) (by omega)) ?_
       refine Aa rfl (Ac (Ae)) ?_
       refine Ah <| Ab ⟨_, m2 - 1, Off.eq (Cq rfl <| Eb rfl <| Df rfl <| Ba), by omega, ?_⟩
       exact ⟨k + 1, by omega, (Ae), ((Ar rfl <| Al rfl <| Ae)).trans (congrArg Value.bool (by rw [firstTo_succ hkb, hf]; rfl)), rfl⟩
      ·
       replace hf : firstTo s i k = false := by simpa using hf
       refine Au <| Ab <| Af <| A0 <| Ai fun ds => Aa rfl (Ag (Az rfl <| As rfl ht9)) ?_
       refine Aa rfl (Ag (Ae)) ?_
       refine At rfl rfl (Ae) hf ?_
       refine Aa rfl (Ag (Az rfl <| Ar rfl <| Ak rfl <| Az rfl <| Ar rfl <| Al rfl <| Ak rfl <| Az rfl <| Ar rfl <| Ae)) ?_
       refine At rfl rfl (Al rfl <| Ae) hf ?_
       refine Aa rfl (Ag (Az rfl <| Ar rfl <| Al rfl <| As rfl ht10)) ?_
       refine At rfl rfl (Ar rfl <| Ae) hf ?_
       refine Aa rfl (A9 (k := k) Ce (Al rfl <| Ae) hzs.plain (Ae) rfl hk) ?_
       refine At rfl rfl (Ar rfl <| Al rfl <| Ae) hf ?_
       refine Aa rfl (Ap B8 (Ae) (hzs.cell1 hk rfl)) ?_
       refine At rfl rfl (Az rfl <| Ae) hf ?_
       refine Aa rfl (Ag (A7 rfl <| Ar rfl <| Ak rfl <| Az rfl <| Ar rfl <| Al rfl <| As rfl hs8)) ?_
       refine At rfl rfl (Az rfl <| Al rfl <| Ae) hf ?_
       refine Aa rfl (A9 (k := i) Be (Al rfl <| Ae) hzk.plain (Ae) rfl hik) ?_
       refine At rfl rfl (Az rfl <| Ar rfl <| Ae) hf ?_
       refine Aa rfl (Ap Bl (Ae) (hzk.cell1 hik rfl)) ?_
       refine At rfl rfl (Az rfl <| Ar rfl <| Al rfl <| Ae) hf ?_
       refine Aa rfl (Bx (Ae) Ad) ?_
       refine Aa rfl (Bg (A7 rfl <| Ae) hf (Ae)) ?_
       refine Aa rfl (Ac (Ae)) ?_
       refine Ah <| Bb <| Ab <| Ai fun ds => Aa rfl (Ag (A5 rfl <| As rfl ht10)) ?_
       refine Aa rfl (Bp (Ae) Ad rfl (by omega) (by omega)) ?_
       refine Aa rfl (Ac (Ae)) ?_
       refine Ah <| Ab ⟨_, m2 - 1, Off.eq (Cq rfl <| Eb rfl <| Df rfl <| Ba), by omega, ?_⟩
       exact ⟨k + 1, by omega, (Ae), ((Ar rfl <| Al rfl <| Ae)).trans (congrArg Value.bool (by rw [firstTo_succ hkb, hf, hup]; rfl)), rfl⟩
     ·
      refine Af <| Af <| Ai fun ds => Aa rfl (Ag (As rfl ht10)) ?_
      refine Aa rfl (Ag (Al rfl <| Ak rfl <| Az rfl <| Ar rfl <| Al rfl <| Ak rfl <| Az rfl <| Ar rfl <| Ae)) ?_
      refine Aa rfl (Bh Ce (Ae) hzs.plain) ?_
      refine Aa rfl (Br (Ar rfl <| Ae) (Ae)) ?_
      refine Ah <| Ab <| Am (Ae) (by first | rfl | exact decide_eq_false (by omega)) ?_
      obtain rfl : k = (bestsL s).length := by omega
      rw [firstTo_end] at ht9
      by_cases hfb : firstB s i = true
      ·
       refine Bn ?_
       refine Bd <| Bd <| Bf <| Ab <| Af <| Ai fun ds => Aa rfl (Ag (Az rfl <| As rfl ht9)) ?_
       refine Ah <| Ab <| Aq (Ae) hfb ?_
       refine Ai fun ds => Aa rfl (Ag (Az rfl <| Al rfl <| Ak rfl <| Az rfl <| Ar rfl <| Al rfl <| As rfl hs7)) ?_
       refine Aa rfl (Ag (Az rfl <| Ar rfl <| Ak rfl <| Az rfl <| Ar rfl <| Al rfl <| As rfl hs8)) ?_
       refine Bk rfl (B2 Be Db rfl (.cons (Ae) .nil) rfl rfl (by decide) (by simp [Value.oneCell']) fun b8 hb8 nb8 => ?_)
       refine Bk rfl (B4 Be el_3 (Ar rfl <| Ae) ho (Ae) (C6 (s := 1) 0 rfl rfl (by simp [Value.oneCell'])) (by omega) (by omega) (.s <| .s <| .z) .last fun v9 R10 ho11 => ?_)
       have ho2 := ho11.snoc (x := i) rfl rfl
       refine Aa rfl (Ac (Ae)) ?_
       refine Ah <| Bb <| Ab <| Cz (fun _ _ h => h.drop (.cons _ <| .cons_cons _ <| .refl _)) ?_
       refine Ai fun ds => Aa rfl (Ag (A7 rfl <| Ar rfl <| Ak rfl <| Az rfl <| Ar rfl <| Al rfl <| As rfl hs8)) ?_
       refine Aa rfl (Bp (Ae) Ad rfl (by omega) (by omega)) ?_
       refine Aa rfl (Ac (Ae)) ?_
       refine Ah <| Ab ⟨_, m - 1, Off.eq (Di rfl <| Dy rfl <| Df rfl <| Do rfl <| Dy rfl <| Eb rfl <| Df rfl <| Ba), by omega, ?_⟩
       exact ⟨i + 1, by omega, (Ae), _, _, (Ar rfl <| Al rfl <| Ae), by rw [Dh, if_pos hfb]; exact ho2, rfl⟩
      ·
       replace hfb : firstB s i = false := by simpa using hfb
       refine Bn ?_
       refine Bd <| Bd <| Bf <| Ab <| Af <| Ai fun ds => Aa rfl (Ag (Az rfl <| As rfl ht9)) ?_
       refine Ah <| Ab <| Am (Ae) hfb ?_
       refine Au <| Bb <| Ab <| Ai fun ds => Aa rfl (Ag (Az rfl <| Al rfl <| Ak rfl <| Az rfl <| Ar rfl <| Al rfl <| As rfl hs8)) ?_
       refine Aa rfl (Bp (Ae) Ad rfl (by omega) (by omega)) ?_
       refine Aa rfl (Ac (Ae)) ?_
       refine Ah <| Ab ⟨_, m - 1, Off.eq (Di rfl <| Do rfl <| Dy rfl <| Eb rfl <| Df rfl <| Ba), by omega, ?_⟩
       exact ⟨i + 1, by omega, (Ae), _, _, (A7 rfl <| Ak rfl <| Az rfl <| Ar rfl <| Al rfl <| As rfl hs7), by rw [Dh, if_neg (by rw [hfb]; simp)]; exact ho, rfl⟩
   ·
    refine Af <| Af <| Ai fun ds => Aa rfl (Ag (As rfl hs8)) ?_
    refine Aa rfl (Ao Bv (Al rfl <| Ak rfl <| A7 rfl <| Az rfl <| Ar rfl <| Al rfl <| Ae)) ?_
    refine Aa rfl (Ap Bz (Ae) (Cell.own 0 rfl rfl)) ?_
    refine Aa rfl (Bh B7 (Ae) hr.eds.plain) ?_
    refine Aa rfl (Br (Ar rfl <| Al rfl <| Ae) (Ae)) ?_
    refine Ah <| Ab <| Am (Ae) (by first | rfl | exact decide_eq_false (by omega)) ?_
    obtain rfl : i = s.editions.length := by omega
    refine Cn (σ := ⟨_, _⟩) (by rfl) ho (.s <| .z) .last fun F12 hF13 hz14 => ?_
    have hn7 := ho.sl (fun _ => rfl) hz14 (by omega)
    refine Bn ?_
    refine Bd <| Bd <| Bf <| Ab <| Af <| Ai fun ds => Aa rfl (Ag (Az rfl <| Al rfl <| As rfl hs7)) ?_
    refine Aa rfl (Ac (Ae)) ?_
    refine Aa rfl (Ac Ad) ?_
    refine Ah <| Ab <| A4 <| Ay rfl (.tmp (Al rfl <| Ae) (.tmp (Ae) .nil)) ?_
    rw [firstTE_ok hok]
    exact ⟨_, rfl, hn7⟩
 ·
  refine Af <| Ai fun ds => Bk rfl (B1 (Aj rfl) rfl fun b15 hb15 nb15 => ?_)
  refine Aa rfl (Ac Ad) ?_
  refine Aa rfl (Ac Ad) ?_
  refine Ah <| Ab <| Af <| Ai fun ds => Aa rfl (A8 Bw (Ar rfl <| Ae) rfl rfl (A3 0 rfl)) ?_
  refine Bk rfl (B6 bd_77 A1 (.cons (Ae) .nil) (Eo hr) fun v16 F17 hr18 hF19 => ?_)
  obtain ⟨vq, rfl⟩ := AskZ.bad hr18 hok
  refine Aa rfl (Ag (Ae)) ?_
  refine Aa rfl (Ax (Ae) rfl) ?_
  refine Aa rfl (Ax (Al rfl <| Ae) rfl) ?_
  refine Aa rfl (Ax (Ar rfl <| Ae) rfl) ?_
  refine Aa rfl (Ac (Ar rfl <| Ae)) ?_
  refine Aa rfl (Ac (Ar rfl <| Ae)) ?_
  refine Aa rfl (Ac (Ar rfl <| Ae)) ?_
  refine Ah <| Ab <| Af <| Af <| Ai fun ds => Aa rfl (Ag (Ae)) ?_
  refine Aa rfl (By (Ae) Ad) ?_
  refine Ah <| Ab <| Aq (Ae) (decide_eq_true hok) ?_
  refine Af <| Ai fun ds => Aa rfl (Ag (Ar rfl <| Ae)) ?_
  refine Aa rfl (Ac Ad) ?_
  refine Aa rfl (Ac (Al rfl <| Ae)) ?_
  refine Ah <| Ab <| A4 <| Bc ?_
  refine Ay rfl (.tmp (Al rfl <| Ae) (.tmp (Ae) .nil)) ?_
  rw [firstTE_bad hok]
  exact ⟨_, rfl, Sl.nil⟩
set_option maxRecDepth 100000 in
theorem refFrom_ok {F : Heap} {vp ve : Value} {ps : List (Value × Edn)} {s : Stm} (hr : StmR F vp ve ps s) (a b : Int) : Ok Try.prog 32 [.agg #[vp, ve], .int .i64 a, .int .i64 b].toArray F fun u _ => u = fromV s a b := by
 have hle0 : F.le F := Heap.le_refl _
 refine Ok.intro Try.func32 rfl Try.ntmps32 rfl fun w0 => ?_
 have hL := hr.eds.plain.lt
 have hlen := hr.len
 by_cases h0 : (checkT s).2.2 = 0
 ·
  refine Af <| Ai fun ds => Bk rfl (B1 (Aj rfl) rfl fun b1 hb1 nb1 => ?_)
  refine Aa rfl (Ac Ad) ?_
  refine Aa rfl (Ac Ad) ?_
  refine Ah <| Ab <| Af <| Ai fun ds => Aa rfl (A8 Bw (Ar rfl <| Ae) rfl rfl (A3 0 rfl)) ?_
  refine B0 rfl (Bj bd_17 A1 (.cons (Ae) .nil) (D3 hr) (fun _ _ h => h)) ?_
  refine Aa rfl (Ag (Ae)) ?_
  refine Aa rfl (Ax (Ae) rfl) ?_
  refine Aa rfl (Ax (Al rfl <| Ae) rfl) ?_
  refine Aa rfl (Ax (Ar rfl <| Ae) rfl) ?_
  refine Aa rfl (Ac (Ar rfl <| Ae)) ?_
  refine Aa rfl (Ac (Ar rfl <| Ae)) ?_
  refine Aa rfl (Ac (Ar rfl <| Ae)) ?_
  refine Ah <| Ab <| Af <| Af <| Ai fun ds => Aa rfl (Ag (Ae)) ?_
  refine Aa rfl (Bx (Ae) Ad) ?_
  refine Aa rfl (Ag (Ae)) ?_
  refine At rfl rfl (Ae) (decide_eq_true h0) ?_
  refine Aa rfl (Ag (A7 rfl <| Az rfl <| Ar rfl <| Al rfl <| Aj rfl)) ?_
  refine At rfl rfl (Al rfl <| Ae) (decide_eq_true h0) ?_
  refine Aa rfl (Ao Bv (A7 rfl <| Az rfl <| Ar rfl <| Al rfl <| Ae)) ?_
  refine At rfl rfl (Ar rfl <| Ae) (decide_eq_true h0) ?_
  refine Aa rfl (Ap Bz (Ae) (Cell.own 0 rfl rfl)) ?_
  refine At rfl rfl (Ar rfl <| Al rfl <| Ae) (decide_eq_true h0) ?_
  refine Aa rfl (Bh B7 (Ae) hr.eds.plain) ?_
  refine At rfl rfl (Az rfl <| Ae) (decide_eq_true h0) ?_
  refine Aa rfl (Ew (Ae) Ad rfl (by omega) (by omega)) ?_
  refine At rfl rfl (Az rfl <| Al rfl <| Ae) (decide_eq_true h0) ?_
  refine B0 rfl (Bj bd_62 A1 (.cons (Az rfl <| Ae) (.cons Ad (.cons (Ae) .nil))) (in7_ok _ _ _) (fun _ _ h => h)) ?_
  refine At rfl rfl (Az rfl <| Ar rfl <| Ae) (decide_eq_true h0) ?_
  refine Aa rfl (Cm (Ae)) ?_
  refine At rfl rfl (Az rfl <| Ar rfl <| Al rfl <| Ae) (decide_eq_true h0) ?_
  refine Aa rfl (Ag (Ae)) ?_
  by_cases h1 : inB 0 (s.editions.length - 1) a = true
  ·
   refine At rfl rfl (Ae) (by simp [hlen, h1]) ?_
   refine Aa rfl (Ag (A5 rfl <| Az rfl <| Ar rfl <| Al rfl <| Aj rfl)) ?_
   refine At rfl rfl (Al rfl <| Ae) (by simp [hlen, h1]) ?_
   refine Aa rfl (Ao Bv (A5 rfl <| Az rfl <| Ar rfl <| Al rfl <| Ae)) ?_
   refine At rfl rfl (Ar rfl <| Ae) (by simp [hlen, h1]) ?_
   refine Aa rfl (Ap Bz (Ae) (Cell.own 0 rfl rfl)) ?_
   refine At rfl rfl (Ar rfl <| Al rfl <| Ae) (by simp [hlen, h1]) ?_
   refine Aa rfl (Bh B7 (Ae) hr.eds.plain) ?_
   refine At rfl rfl (Az rfl <| Ae) (by simp [hlen, h1]) ?_
   refine Aa rfl (Ew (Ae) Ad rfl (by omega) (by omega)) ?_
   refine At rfl rfl (Az rfl <| Al rfl <| Ae) (by simp [hlen, h1]) ?_
   refine B0 rfl (Bj bd_62 A1 (.cons (Az rfl <| Ae) (.cons Ad (.cons (Ae) .nil))) (in7_ok _ _ _) (fun _ _ h => h)) ?_
   refine At rfl rfl (Az rfl <| Ar rfl <| Ae) (by simp [hlen, h1]) ?_
   refine Aa rfl (Cm (Ae)) ?_
   refine At rfl rfl (A7 rfl <| Az rfl <| Ar rfl <| Al rfl <| Ae) (decide_eq_true h0) ?_
   refine Aa rfl (Bg (Az rfl <| Ar rfl <| Al rfl <| Ae) (by simp [hlen, h1]) (Ae)) ?_
   refine Aa rfl (A6 (A5 rfl <| Ae) (decide_eq_true h0) (Ae)) ?_
   refine Ah <| Ab ?_
   by_cases h2 : inB 0 (s.editions.length - 1) b = true
   ·
    have he0 := eds_ok h0 h1 h2
    obtain ⟨i, rfl, hi⟩ := inB_nat h1
    obtain ⟨j, rfl, hj⟩ := inB_nat h2
    refine Am (Ae) (by simp [hlen, h2]) ?_
    refine Au <| Ab <| Af <| Af <| Ai fun ds => Aa rfl (Ag (A5 rfl <| Az rfl <| Ae)) ?_
    refine Aa rfl (By (Ae) Ad) ?_
    refine Ah <| Ab <| Am (Ae) (decide_eq_false (fun h => h h0)) ?_
    by_cases hok : askedT s = 0
    ·
     obtain ⟨-, hbn⟩ := askedT_ok hok
     have hv := C9 h0
     have hne := hv.ne
     have hbl := Em hv
     refine Au <| Ab <| Af <| Ai fun ds => Aa rfl (A8 Bw (Bq rfl <| Al rfl <| Ae) rfl rfl (A3 0 rfl)) ?_
     refine Bk rfl (B6 bd_77 A1 (.cons (Ae) .nil) (Eo hr) fun v2 F3 hr4 hF5 => ?_)
     obtain ⟨vq, rfl, zs, hzs, hza, hzm⟩ := AskZ.ok hr4 hok
     have hzl := Cv hzm
     refine Aa rfl (Ag (Ae)) ?_
     refine Aa rfl (Ax (Ae) rfl) ?_
     refine Aa rfl (Ax (Al rfl <| Ae) rfl) ?_
     refine Aa rfl (Ax (Ar rfl <| Ae) rfl) ?_
     refine Aa rfl (Ac (Ar rfl <| Ae)) ?_
     refine Aa rfl (Ac (Ar rfl <| Ae)) ?_
     refine Aa rfl (Ac (Ar rfl <| Ae)) ?_
     refine Ah <| Ab <| Af <| Af <| Ai fun ds => Aa rfl (Ag (Ae)) ?_
     refine Aa rfl (By (Ae) Ad) ?_
     refine Ah <| Ab <| Am (Ae) (by decide) ?_
     refine Au <| Ab <| Af <| Ai fun ds => Aa rfl (Ac Ad) ?_
     refine Ah <| Ab <| Af <| Af <| Ai fun ds => Aa rfl (Ac Ad) ?_
     refine Ah <| Ab <| A0 <| Bs [13, 14, 53, 54, 55, 56, 57, 58, 59, 60, 61, 62, 63, 64, 65, 66, 67, 68, 69] (fun m e σ => ∃ k : Nat, m + k = zs.length ∧ e 14 = .int .i64 (k : Int) ∧ e 13 = .int .i64 (fromTo s i j k) ∧ σ = ⟨F3, [(b1, bx 25 [vp, ve])]⟩) (zs.length) ?_ ?_
     · exact ⟨0, by omega, (Ae), (Al rfl <| Ae), rfl⟩
     ·
      rintro m e _ ⟨k, hm, hs14, hs13, rfl⟩
      by_cases hk : k < zs.length
      ·
       have hkb : k < (bestsL s).length := by omega
       have hfb := fromTo_bound (s := s) (a := i) (b := j) (k := k)
       have hzk : Ints _ _ _ := hza _ (List.getElem_mem (show k < zs.length by omega))
       have hzm1 : zs[k].2 = (bestsL s)[k] := by simp [← hzm]
       obtain ⟨hzl1, -⟩ := bestsL_at (List.getElem_mem (show k < (bestsL s).length by omega))
       have hik : j < zs[k].2.length := by rw [hzm1, hzl1]; exact hj
       have hup := Dd hik
       rw [show upN zs[k].2 j = upN (bestsL s)[k] j by rw [hzm1]] at hup
       refine Af <| Af <| Ai fun ds => Aa rfl (Ag (As rfl hs14)) ?_
       refine Aa rfl (Ag (Al rfl <| Ak rfl <| Az rfl <| Ar rfl <| Ae)) ?_
       refine Aa rfl (Bh Ce (Ae) hzs.plain) ?_
       refine Aa rfl (Br (Ar rfl <| Ae) (Ae)) ?_
       refine Ah <| Ab <| Aq (Ae) (by first | rfl | exact decide_eq_true (by omega)) ?_
       by_cases hf : fromB i j (bestsL s)[k] = true
       ·
        refine Au <| Ab <| Af <| A0 <| Af <| Ai fun ds => Aa rfl (Ag (Az rfl <| Ak rfl <| Az rfl <| Ar rfl <| Ae)) ?_
        refine Aa rfl (Ag (Az rfl <| Al rfl <| As rfl hs14)) ?_
        refine Aa rfl (A9 (k := k) Ce (Al rfl <| Ae) hzs.plain (Ae) rfl hk) ?_
        refine Aa rfl (Ap B8 (Ae) (hzs.cell1 hk rfl)) ?_
        refine Aa rfl (Ag (A7 rfl <| Ak rfl <| Bq rfl <| A7 rfl <| Az rfl <| Ar rfl <| Al rfl <| Aj rfl)) ?_
        refine Aa rfl (A9 (k := j) Be (Al rfl <| Ae) hzk.plain (Ae) rfl hik) ?_
        refine Aa rfl (Ap Bl (Ae) (hzk.cell1 hik rfl)) ?_
        refine Aa rfl (Ag (A7 rfl <| Ar rfl <| Al rfl <| Ak rfl <| Bq rfl <| A7 rfl <| Az rfl <| Ar rfl <| Al rfl <| Aj rfl)) ?_
        refine Aa rfl (Bx (Al rfl <| Ae) (Ae)) ?_
        refine Ah <| Ab <| Aq (Ae) (by rw [hup]; exact hf) ?_
        refine Ai fun ds => Aa rfl (Ag (A7 rfl <| Az rfl <| Al rfl <| As rfl hs13)) ?_
        refine Aa rfl (Bp (Ae) Ad rfl (by omega) (by omega)) ?_
        refine Aa rfl (Ac (Ae)) ?_
        refine Ah <| Bb <| Ab <| Ai fun ds => Aa rfl (Ag (A5 rfl <| As rfl hs14)) ?_
        refine Aa rfl (Bp (Ae) Ad rfl (by omega) (by omega)) ?_
        refine Aa rfl (Ac (Ae)) ?_
        refine Ah <| Ab ⟨_, m - 1, Off.eq (Cq rfl <| Eb rfl <| Df rfl <| Ba), by omega, ?_⟩
        exact ⟨k + 1, by omega, (Ae), ((Ar rfl <| Al rfl <| Ae)).trans (congrArg (Value.int .i64) (by rw [fromTo_succ hkb, if_pos hf])), rfl⟩
       ·
        replace hf : fromB i j (bestsL s)[k] = false := by simpa using hf
        refine Au <| Ab <| Af <| A0 <| Af <| Ai fun ds => Aa rfl (Ag (Az rfl <| Ak rfl <| Az rfl <| Ar rfl <| Ae)) ?_
        refine Aa rfl (Ag (Az rfl <| Al rfl <| As rfl hs14)) ?_
        refine Aa rfl (A9 (k := k) Ce (Al rfl <| Ae) hzs.plain (Ae) rfl hk) ?_
        refine Aa rfl (Ap B8 (Ae) (hzs.cell1 hk rfl)) ?_
        refine Aa rfl (Ag (A7 rfl <| Ak rfl <| Bq rfl <| A7 rfl <| Az rfl <| Ar rfl <| Al rfl <| Aj rfl)) ?_
        refine Aa rfl (A9 (k := j) Be (Al rfl <| Ae) hzk.plain (Ae) rfl hik) ?_
        refine Aa rfl (Ap Bl (Ae) (hzk.cell1 hik rfl)) ?_
        refine Aa rfl (Ag (A7 rfl <| Ar rfl <| Al rfl <| Ak rfl <| Bq rfl <| A7 rfl <| Az rfl <| Ar rfl <| Al rfl <| Aj rfl)) ?_
        refine Aa rfl (Bx (Al rfl <| Ae) (Ae)) ?_
        refine Ah <| Ab <| Am (Ae) (by rw [hup]; exact hf) ?_
        refine Au <| Bb <| Ab <| Ai fun ds => Aa rfl (Ag (A7 rfl <| Az rfl <| Al rfl <| As rfl hs14)) ?_
        refine Aa rfl (Bp (Ae) Ad rfl (by omega) (by omega)) ?_
        refine Aa rfl (Ac (Ae)) ?_
        refine Ah <| Ab ⟨_, m - 1, Off.eq (Cq rfl <| Ba), by omega, ?_⟩
        exact ⟨k + 1, by omega, (Ae), ((A5 rfl <| As rfl hs13)).trans (congrArg (Value.int .i64) (by rw [fromTo_succ hkb, if_neg (by rw [hf]; simp)])), rfl⟩
      ·
       refine Af <| Af <| Ai fun ds => Aa rfl (Ag (As rfl hs14)) ?_
       refine Aa rfl (Ag (Al rfl <| Ak rfl <| Az rfl <| Ar rfl <| Ae)) ?_
       refine Aa rfl (Bh Ce (Ae) hzs.plain) ?_
       refine Aa rfl (Br (Ar rfl <| Ae) (Ae)) ?_
       refine Ah <| Ab <| Am (Ae) (by first | rfl | exact decide_eq_false (by omega)) ?_
       obtain rfl : k = (bestsL s).length := by omega
       by_cases hq1 : fromTo s i j (bestsL s).length = (bestsL s).length
       ·
        obtain ⟨q1, q2⟩ := from_sure hbn hq1
        refine Bn ?_
        refine Bd <| Bd <| Bf <| Ab <| Af <| Af <| Ai fun ds => Aa rfl (Ag (Az rfl <| As rfl hs13)) ?_
        refine Aa rfl (Ag (Az rfl <| Al rfl <| Ak rfl <| Az rfl <| Ar rfl <| Ae)) ?_
        refine Aa rfl (Bh Ce (Ae) hzs.plain) ?_
        refine Aa rfl (Bx (Ar rfl <| Ae) (Ae)) ?_
        refine Ah <| Ab <| Aq (Ae) (decide_eq_true (by omega)) ?_
        refine Af <| Ai fun ds => Aa rfl (Ac Ad) ?_
        refine Aa rfl (Ac Ad) ?_
        refine Ah <| Ab <| A4 <| Bc ?_
        refine Ay rfl (.tmp (Al rfl <| Ae) (.tmp (Ae) .nil)) ?_
        show _ = _
        rw [fromV, fromE, if_neg (fun k : edsErr s (i : Int) (j : Int) ≠ 0 => k he0), if_neg (fun k : askedT s ≠ 0 => k hok), Int.toNat_natCast, Int.toNat_natCast, if_neg q1, if_pos q2]; rfl
       ·
        refine Bn ?_
        refine Bd <| Bd <| Bf <| Ab <| Af <| Af <| Ai fun ds => Aa rfl (Ag (Az rfl <| As rfl hs13)) ?_
        refine Aa rfl (Ag (Az rfl <| Al rfl <| Ak rfl <| Az rfl <| Ar rfl <| Ae)) ?_
        refine Aa rfl (Bh Ce (Ae) hzs.plain) ?_
        refine Aa rfl (Bx (Ar rfl <| Ae) (Ae)) ?_
        refine Ah <| Ab <| Am (Ae) (decide_eq_false (by omega)) ?_
        by_cases hq0 : fromTo s i j (bestsL s).length = 0
        ·
         have q1 := from_never hq0
         refine Au <| Ab <| Af <| Af <| Ai fun ds => Aa rfl (Ag (A7 rfl <| As rfl hs13)) ?_
         refine Aa rfl (Bx (Ae) Ad) ?_
         refine Ah <| Ab <| Aq (Ae) (decide_eq_true hq0) ?_
         refine Af <| Ai fun ds => Aa rfl (Ac Ad) ?_
         refine Aa rfl (Ac Ad) ?_
         refine Ah <| Ab <| A4 <| Bc ?_
         refine Ay rfl (.tmp (Al rfl <| Ae) (.tmp (Ae) .nil)) ?_
         show _ = _
         rw [fromV, fromE, if_neg (fun k : edsErr s (i : Int) (j : Int) ≠ 0 => k he0), if_neg (fun k : askedT s ≠ 0 => k hok), Int.toNat_natCast, Int.toNat_natCast, if_pos q1]; rfl
        ·
         obtain ⟨q1, q2⟩ := from_may hq1 hq0
         refine Au <| Ab <| Af <| Af <| Ai fun ds => Aa rfl (Ag (A7 rfl <| As rfl hs13)) ?_
         refine Aa rfl (Bx (Ae) Ad) ?_
         refine Ah <| Ab <| Am (Ae) (decide_eq_false hq0) ?_
         refine Au <| Ab <| Af <| Ai fun ds => Aa rfl (Ac Ad) ?_
         refine Aa rfl (Ac Ad) ?_
         refine Ah <| Ab <| A4 <| Ay rfl (.tmp (Al rfl <| Ae) (.tmp (Ae) .nil)) ?_
         show _ = _
         rw [fromV, fromE, if_neg (fun k : edsErr s (i : Int) (j : Int) ≠ 0 => k he0), if_neg (fun k : askedT s ≠ 0 => k hok), Int.toNat_natCast, Int.toNat_natCast, if_neg q1, if_neg q2]; rfl
    ·
     refine Au <| Ab <| Af <| Ai fun ds => Aa rfl (A8 Bw (Bq rfl <| Al rfl <| Ae) rfl rfl (A3 0 rfl)) ?_
     refine Bk rfl (B6 bd_77 A1 (.cons (Ae) .nil) (Eo hr) fun v7 F8 hr9 hF10 => ?_)
     obtain ⟨vq, rfl⟩ := AskZ.bad hr9 hok
     refine Aa rfl (Ag (Ae)) ?_
     refine Aa rfl (Ax (Ae) rfl) ?_
     refine Aa rfl (Ax (Al rfl <| Ae) rfl) ?_
     refine Aa rfl (Ax (Ar rfl <| Ae) rfl) ?_
     refine Aa rfl (Ac (Ar rfl <| Ae)) ?_
     refine Aa rfl (Ac (Ar rfl <| Ae)) ?_
     refine Aa rfl (Ac (Ar rfl <| Ae)) ?_
     refine Ah <| Ab <| Af <| Af <| Ai fun ds => Aa rfl (Ag (Ae)) ?_
     refine Aa rfl (By (Ae) Ad) ?_
     refine Ah <| Ab <| Aq (Ae) (decide_eq_true hok) ?_
     refine Af <| Ai fun ds => Aa rfl (Ag (Ar rfl <| Ae)) ?_
     refine Aa rfl (Ac Ad) ?_
     refine Aa rfl (Ac (Al rfl <| Ae)) ?_
     refine Ah <| Ab <| A4 <| Bc ?_
     refine Ay rfl (.tmp (Al rfl <| Ae) (.tmp (Ae) .nil)) ?_
     show _ = _
     rw [fromV, fromE, if_neg (fun k => k he0), if_pos hok]; rfl
   ·
    replace h2 : inB 0 (s.editions.length - 1) b = false := by simpa using h2
    refine Aq (Ae) (by simp [hlen, h2]) ?_
    refine Ai fun ds => Aa rfl (Ac Ad) ?_
    refine Ah <| Ab <| Af <| Af <| Ai fun ds => Aa rfl (Ag (Ae)) ?_
    refine Aa rfl (By (Ae) Ad) ?_
    refine Ah <| Ab <| Aq (Ae) (by decide) ?_
    refine Af <| Ai fun ds => Aa rfl (Ag (Ar rfl <| Ae)) ?_
    refine Aa rfl (Ac Ad) ?_
    refine Aa rfl (Ac (Al rfl <| Ae)) ?_
    refine Ah <| Ab <| A4 <| Bc ?_
    refine Ay rfl (.tmp (Al rfl <| Ae) (.tmp (Ae) .nil)) ?_
    show _ = _
    rw [fromV, fromE, eds_none h0 (by simp [h1, h2]), if_pos (by decide)]; rfl
  ·
   replace h1 : inB 0 (s.editions.length - 1) a = false := by simpa using h1
   refine Aw rfl rfl (Ae) (.inl (congrArg Value.bool (by simp [hlen, h1]))) rfl ?_
   refine Aw rfl rfl (Al rfl <| Ae) (.inl (congrArg Value.bool (by simp [hlen, h1]))) rfl ?_
   refine Aw rfl rfl (Ar rfl <| Ae) (.inl (congrArg Value.bool (by simp [hlen, h1]))) rfl ?_
   refine Aw rfl rfl (Ar rfl <| Al rfl <| Ae) (.inl (congrArg Value.bool (by simp [hlen, h1]))) rfl ?_
   refine Aw rfl rfl (Az rfl <| Ae) (.inl (congrArg Value.bool (by simp [hlen, h1]))) rfl ?_
   refine Aw rfl rfl (Az rfl <| Al rfl <| Ae) (.inl (congrArg Value.bool (by simp [hlen, h1]))) rfl ?_
   refine Aw rfl rfl (Az rfl <| Ar rfl <| Ae) (.inl (congrArg Value.bool (by simp [hlen, h1]))) rfl ?_
   refine At rfl rfl (A7 rfl <| Az rfl <| Ar rfl <| Al rfl <| Ae) (decide_eq_true h0) ?_
   refine Aa rfl (A6 (Az rfl <| Ar rfl <| Al rfl <| Ae) (by simp [hlen, h1]) Ad) ?_
   refine Aa rfl (A6 (A5 rfl <| Ae) (decide_eq_true h0) (Ae)) ?_
   refine Ah <| Ab <| Aq (Ae) (by first | rfl | simp [hlen, h1]) ?_
   refine Ai fun ds => Aa rfl (Ac Ad) ?_
   refine Ah <| Ab <| Af <| Af <| Ai fun ds => Aa rfl (Ag (Ae)) ?_
   refine Aa rfl (By (Ae) Ad) ?_
   refine Ah <| Ab <| Aq (Ae) (by decide) ?_
   refine Af <| Ai fun ds => Aa rfl (Ag (Ar rfl <| Ae)) ?_
   refine Aa rfl (Ac Ad) ?_
   refine Aa rfl (Ac (Al rfl <| Ae)) ?_
   refine Ah <| Ab <| A4 <| Bc ?_
   refine Ay rfl (.tmp (Al rfl <| Ae) (.tmp (Ae) .nil)) ?_
   show _ = _
   rw [fromV, fromE, eds_none h0 (by simp [h1]), if_pos (by decide)]; rfl
 ·
  refine Af <| Ai fun ds => Bk rfl (B1 (Aj rfl) rfl fun b11 hb11 nb11 => ?_)
  refine Aa rfl (Ac Ad) ?_
  refine Aa rfl (Ac Ad) ?_
  refine Ah <| Ab <| Af <| Ai fun ds => Aa rfl (A8 Bw (Ar rfl <| Ae) rfl rfl (A3 0 rfl)) ?_
  refine B0 rfl (Bj bd_17 A1 (.cons (Ae) .nil) (D3 hr) (fun _ _ h => h)) ?_
  refine Aa rfl (Ag (Ae)) ?_
  refine Aa rfl (Ax (Ae) rfl) ?_
  refine Aa rfl (Ax (Al rfl <| Ae) rfl) ?_
  refine Aa rfl (Ax (Ar rfl <| Ae) rfl) ?_
  refine Aa rfl (Ac (Ar rfl <| Ae)) ?_
  refine Aa rfl (Ac (Ar rfl <| Ae)) ?_
  refine Aa rfl (Ac (Ar rfl <| Ae)) ?_
  refine Ah <| Ab <| Af <| Af <| Ai fun ds => Aa rfl (Ag (Ae)) ?_
  refine Aa rfl (Bx (Ae) Ad) ?_
  refine Aa rfl (Ag (Ae)) ?_
  refine Aw rfl rfl (Ae) (.inl (congrArg Value.bool (decide_eq_false h0))) rfl ?_
  refine Aw rfl rfl (Al rfl <| Ae) (.inl (congrArg Value.bool (decide_eq_false h0))) rfl ?_
  refine Aw rfl rfl (Ar rfl <| Ae) (.inl (congrArg Value.bool (decide_eq_false h0))) rfl ?_
  refine Aw rfl rfl (Ar rfl <| Al rfl <| Ae) (.inl (congrArg Value.bool (decide_eq_false h0))) rfl ?_
  refine Aw rfl rfl (Az rfl <| Ae) (.inl (congrArg Value.bool (decide_eq_false h0))) rfl ?_
  refine Aw rfl rfl (Az rfl <| Al rfl <| Ae) (.inl (congrArg Value.bool (decide_eq_false h0))) rfl ?_
  refine Aw rfl rfl (Az rfl <| Ar rfl <| Ae) (.inl (congrArg Value.bool (decide_eq_false h0))) rfl ?_
  refine Aw rfl rfl (Az rfl <| Ar rfl <| Al rfl <| Ae) (.inl (congrArg Value.bool (decide_eq_false h0))) rfl ?_
  refine Aw rfl rfl (Ae) (.inr rfl) rfl ?_
  refine Aw rfl rfl (Al rfl <| Ae) (.inr rfl) rfl ?_
  refine Aw rfl rfl (Ar rfl <| Ae) (.inr rfl) rfl ?_
  refine Aw rfl rfl (Ar rfl <| Al rfl <| Ae) (.inr rfl) rfl ?_
  refine Aw rfl rfl (Az rfl <| Ae) (.inr rfl) rfl ?_
  refine Aw rfl rfl (Az rfl <| Al rfl <| Ae) (.inr rfl) rfl ?_
  refine Aw rfl rfl (Az rfl <| Ar rfl <| Ae) (.inr rfl) rfl ?_
  refine Aw rfl rfl (A7 rfl <| Az rfl <| Ar rfl <| Al rfl <| Ae) (.inl (congrArg Value.bool (decide_eq_false h0))) rfl ?_
  refine Aa rfl (Bg (A5 rfl <| Ae) (decide_eq_false h0) Ad) ?_
  refine Ah <| Ab <| Am (Ae) rfl ?_
  refine Au <| Ab <| Af <| Af <| Ai fun ds => Aa rfl (Ag (A5 rfl <| Az rfl <| Ae)) ?_
  refine Aa rfl (By (Ae) Ad) ?_
  refine Ah <| Ab <| Aq (Ae) (decide_eq_true h0) ?_
  refine Af <| Ai fun ds => Aa rfl (Ag (A5 rfl <| Az rfl <| Ar rfl <| Ae)) ?_
  refine Aa rfl (Ac Ad) ?_
  refine Aa rfl (Ac (Al rfl <| Ae)) ?_
  refine Ah <| Ab <| A4 <| Bc ?_
  refine Ay rfl (.tmp (Al rfl <| Ae) (.tmp (Ae) .nil)) ?_
  show _ = _
  rw [fromV, fromE, eds_bad h0, if_pos h0]; rfl
end Go.Proofs.Ytccogmkhijgelaa
namespace Go.Proofs.Ytccogmkhijgelaa
section
variable {s : Stm} {l : List Int} {x p n : Nat}
def metUp (s : Stm) (p v i : Nat) : Bool := (List.range i).any fun i => decide (s.r i p = (v : Int))
theorem metUp_yes {v i : Nat} (h : s.r i p = (v : Int)) : metUp s p v (i + 1) = true := by
 unfold metUp; rw [List.range_succ, List.any_append]; simp [h]
theorem metUp_no {v i : Nat} (h : s.r i p ≠ (v : Int)) : metUp s p v (i + 1) = metUp s p v i := by
 unfold metUp; rw [List.range_succ, List.any_append]; simp [h]
def metI (s : Stm) (p v i : Nat) : Int := if metUp s p v i = true then 1 else 0
theorem metI_yes {v i : Nat} (h : s.r i p = (v : Int)) : metI s p v (i + 1) = 1 := if_pos (metUp_yes h)
theorem metI_no {v i : Nat} (h : s.r i p ≠ (v : Int)) : metI s p v (i + 1) = metI s p v i := by unfold metI; rw [metUp_no h]
theorem metI_bound {v i : Nat} : 0 ≤ metI s p v i ∧ metI s p v i ≤ 1 := by unfold metI; split <;> omega
theorem kindTo_up {j : Nat} : kindTo s p (j + 1) = kindTo s p j + metI s p (j + 1) s.editions.length := rfl
theorem unclean_len : (uncleanL s l).length ≤ s.places.length := Dk
/-- The cleanest of so many trees. -/
theorem clean_start {xs : List (List Int)} (h : 0 < xs.length) : cleanR s (xs.take 1) = some (uncleanL s xs[0]) := by
 rw [List.take_succ_eq_append_getElem h, cleanR_snoc]; rfl
theorem clean_take {xs : List (List Int)} {i : Nat} {b : List Nat} (hi : i < xs.length) (hb : cleanR s (xs.take i) = some b) : cleanR s (xs.take (i + 1)) = cleanStep s (some b) xs[i] := by
 rw [List.take_succ_eq_append_getElem hi, cleanR_snoc, hb]
theorem clean_yes {xs : List (List Int)} {i : Nat} {b : List Nat} (hi : i < xs.length) (hb : cleanR s (xs.take i) = some b) (h : (uncleanL s xs[i]).length < b.length ∨ ((uncleanL s xs[i]).length = b.length ∧ cmpL (uncleanL s xs[i]) b < 0)) : cleanR s (xs.take (i + 1)) = some (uncleanL s xs[i]) := by
 rw [clean_take hi hb]; exact if_pos h
theorem clean_no {xs : List (List Int)} {i : Nat} {b : List Nat} (hi : i < xs.length) (hb : cleanR s (xs.take i) = some b) (h : ¬ ((uncleanL s xs[i]).length < b.length ∨ ((uncleanL s xs[i]).length = b.length ∧ cmpL (uncleanL s xs[i]) b < 0))) : cleanR s (xs.take (i + 1)) = some b := by
 rw [clean_take hi hb]; exact if_neg h
end
end Go.Proofs.Ytccogmkhijgelaa
namespace Go.Proofs.Ytccogmkhijgelaa
open Go.RowKit
theorem bd_120 : Body Try.prog 120 := Bo (by kernel_rfl)
theorem bd_42 : Body Try.prog 42 := Bo (by kernel_rfl)
theorem bd_86 : Body Try.prog 86 := Bo (by kernel_rfl)
set_option maxRecDepth 100000 in
theorem refKinds_ok {F : Heap} {vp ve : Value} {ps : List (Value × Edn)} {s : Stm} (hr : StmR F vp ve ps s) (hv : ValidT s) {p : Nat} (hp : p < s.places.length) : Ok Try.prog 120 [.agg #[vp, ve], .int .i64 (p : Int)].toArray F fun u _ => u = .int .i64 (kindsN s p) := by
 refine Ok.intro Try.func120 rfl Try.ntmps120 rfl fun w0 => ?_
 have hlen := hr.len
 have hL1 := hr.eds.plain.lt
 have hne := hv.ne
 refine Af <| Ai fun ds => Bk rfl (B1 (Aj rfl) rfl fun b1 hb1 nb1 => ?_)
 refine Aa rfl (Ac Ad) ?_
 refine Ah <| Ab <| Af <| Ai fun ds => Aa rfl (Ac Ad) ?_
 refine Ah <| Ab <| Af <| Af <| Ai fun ds => Aa rfl (Ac Ad) ?_
 refine Ah <| Ab <| A0 <| Bs [5, 6, 7, 8, 9, 10, 11, 12, 13, 14, 15, 16, 17, 18, 19, 20, 21, 22, 23, 24, 25, 26, 27, 28, 29, 30, 31, 32, 33] (fun m e σ => ∃ k : Nat, m + k = 3 ∧ e 6 = .int .i64 ((k : Int) + 1) ∧ e 5 = .int .i64 (kindTo s p k) ∧ σ = ⟨F, [(b1, bx 25 [vp, ve])]⟩) (3) ?_ ?_
 · exact ⟨0, by omega, (Ae), (Al rfl <| Ae), rfl⟩
 ·
  rintro m e _ ⟨k, hm, hs6, hs5, rfl⟩
  by_cases hlt : k < 3
  ·
   refine Af <| Af <| Ai fun ds => Aa rfl (Ag (As rfl hs6)) ?_
   refine Aa rfl (D0 (Ae) Ad) ?_
   refine Ah <| Ab <| Aq (Ae) (decide_eq_true (by omega)) ?_
   refine Au <| Ab <| Af <| A0 <| Af <| Ai fun ds => Aa rfl (Ac Ad) ?_
   refine Ah <| Ab <| Af <| Af <| Ai fun ds => Aa rfl (Ac Ad) ?_
   refine Ah <| Ab <| A0 <| Bs [7, 8, 13, 14, 15, 16, 17, 18, 19, 20, 21, 22, 23, 24, 25, 26, 27, 28, 29, 30] (fun m e σ => ∃ i : Nat, m + i = ps.length ∧ e 8 = .int .i64 (i : Int) ∧ e 7 = .int .i64 (metI s p (k + 1) i) ∧ σ = ⟨F, [(b1, bx 25 [vp, ve])]⟩) (ps.length) ?_ ?_
   · exact ⟨0, by omega, (Ae), (Al rfl <| Ae), rfl⟩
   ·
    rintro m2 e2 _ ⟨i, hm2, ht8, ht7, rfl⟩
    by_cases hi : i < ps.length
    ·
     have hin : i < s.editions.length := by omega
     have hri := hr.rd hi
     have hpi : p < (s.ed i).rd.length := by rw [hv.rdl i hin]; exact hp
     have er := rdT_at hpi
     refine Af <| Af <| Ai fun ds => Aa rfl (Ag (As rfl ht8)) ?_
     refine Aa rfl (Ao Bv (Al rfl <| Ak rfl <| Az rfl <| Ak rfl <| Ar rfl <| Al rfl <| Ae)) ?_
     refine Aa rfl (Ap Bz (Ae) (Cell.own 0 rfl rfl)) ?_
     refine Aa rfl (Bh B7 (Ae) hr.eds.plain) ?_
     refine Aa rfl (Br (Ar rfl <| Al rfl <| Ae) (Ae)) ?_
     refine Ah <| Ab <| Aq (Ae) (by first | rfl | exact decide_eq_true (by omega)) ?_
     by_cases hm1 : s.r i p = ((k + 1 : Nat) : Int)
     ·
      refine Au <| Ab <| Af <| A0 <| Af <| Ai fun ds => Aa rfl (Ao Bv (Az rfl <| Al rfl <| Ak rfl <| Az rfl <| Ak rfl <| Ar rfl <| Al rfl <| Ae)) ?_
      refine Aa rfl (Ap Bz (Ae) (Cell.own 0 rfl rfl)) ?_
      refine Aa rfl (Ag (Az rfl <| Ar rfl <| Al rfl <| As rfl ht8)) ?_
      refine Aa rfl (A9 (k := i) B7 (Al rfl <| Ae) hr.eds.plain (Ae) rfl hi) ?_
      refine Aa rfl (Bt Cf (Ae)) ?_
      refine Aa rfl (Ap B8 (Ae) (hr.eds.cell hi rfl)) ?_
      refine Aa rfl (Ag (A7 rfl <| Ar rfl <| Al rfl <| Ak rfl <| Az rfl <| Ak rfl <| Az rfl <| Aj rfl)) ?_
      refine Aa rfl (A9 (k := p) Be (Al rfl <| Ae) hri.plain (Ae) rfl hpi) ?_
      refine Aa rfl (Ap Bl (Ae) (hri.cell1 hpi rfl)) ?_
      refine Aa rfl (Ag (A7 rfl <| Az rfl <| Ar rfl <| Ak rfl <| Az rfl <| As rfl hs6)) ?_
      refine Aa rfl (Bx (Al rfl <| Ae) (Ae)) ?_
      refine Ah <| Ab <| Aq (Ae) (by rw [er]; exact decide_eq_true (by omega)) ?_
      refine Ai fun ds => Aa rfl (Ac Ad) ?_
      refine Ah <| Bb <| Ab <| Ai fun ds => Aa rfl (Ag (A5 rfl <| Al rfl <| As rfl ht8)) ?_
      refine Aa rfl (Bp (Ae) Ad rfl (by omega) (by omega)) ?_
      refine Aa rfl (Ac (Ae)) ?_
      refine Ah <| Ab ⟨_, m2 - 1, Off.eq (Cq rfl <| Dy rfl <| Ba), by omega, ?_⟩
      exact ⟨i + 1, by omega, (Ae), ((Ar rfl <| Al rfl <| Ae)).trans (congrArg (Value.int .i64) (metI_yes hm1).symm), rfl⟩
     ·
      refine Au <| Ab <| Af <| A0 <| Af <| Ai fun ds => Aa rfl (Ao Bv (Az rfl <| Al rfl <| Ak rfl <| Az rfl <| Ak rfl <| Ar rfl <| Al rfl <| Ae)) ?_
      refine Aa rfl (Ap Bz (Ae) (Cell.own 0 rfl rfl)) ?_
      refine Aa rfl (Ag (Az rfl <| Ar rfl <| Al rfl <| As rfl ht8)) ?_
      refine Aa rfl (A9 (k := i) B7 (Al rfl <| Ae) hr.eds.plain (Ae) rfl hi) ?_
      refine Aa rfl (Bt Cf (Ae)) ?_
      refine Aa rfl (Ap B8 (Ae) (hr.eds.cell hi rfl)) ?_
      refine Aa rfl (Ag (A7 rfl <| Ar rfl <| Al rfl <| Ak rfl <| Az rfl <| Ak rfl <| Az rfl <| Aj rfl)) ?_
      refine Aa rfl (A9 (k := p) Be (Al rfl <| Ae) hri.plain (Ae) rfl hpi) ?_
      refine Aa rfl (Ap Bl (Ae) (hri.cell1 hpi rfl)) ?_
      refine Aa rfl (Ag (A7 rfl <| Az rfl <| Ar rfl <| Ak rfl <| Az rfl <| As rfl hs6)) ?_
      refine Aa rfl (Bx (Al rfl <| Ae) (Ae)) ?_
      refine Ah <| Ab <| Am (Ae) (by rw [er]; exact decide_eq_false (by omega)) ?_
      refine Au <| Bb <| Ab <| Ai fun ds => Aa rfl (Ag (A5 rfl <| As rfl ht8)) ?_
      refine Aa rfl (Bp (Ae) Ad rfl (by omega) (by omega)) ?_
      refine Aa rfl (Ac (Ae)) ?_
      refine Ah <| Ab ⟨_, m2 - 1, Off.eq (Cq rfl <| Eb rfl <| Df rfl <| Ba), by omega, ?_⟩
      exact ⟨i + 1, by omega, (Ae), ((A5 rfl <| Ar rfl <| Al rfl <| As rfl ht7)).trans (congrArg (Value.int .i64) (metI_no hm1).symm), rfl⟩
    ·
     refine Af <| Af <| Ai fun ds => Aa rfl (Ag (As rfl ht8)) ?_
     refine Aa rfl (Ao Bv (Al rfl <| Ak rfl <| Az rfl <| Ak rfl <| Ar rfl <| Al rfl <| Ae)) ?_
     refine Aa rfl (Ap Bz (Ae) (Cell.own 0 rfl rfl)) ?_
     refine Aa rfl (Bh B7 (Ae) hr.eds.plain) ?_
     refine Aa rfl (Br (Ar rfl <| Al rfl <| Ae) (Ae)) ?_
     refine Ah <| Ab <| Am (Ae) (by first | rfl | exact decide_eq_false (by omega)) ?_
     obtain rfl : i = s.editions.length := by omega
     have hmb := metI_bound (s := s) (p := p) (v := k + 1) (i := s.editions.length)
     have hkb := D8 (s := s) (p := p) k
     refine Bn ?_
     refine Bd <| Bd <| Bf <| Ab <| Ai fun ds => Aa rfl (Ag (Az rfl <| Al rfl <| Ak rfl <| Az rfl <| As rfl hs5)) ?_
     refine Aa rfl (Ag (Az rfl <| Ar rfl <| As rfl ht7)) ?_
     refine Aa rfl (Bp (Al rfl <| Ae) (Ae) rfl (by omega) (by omega)) ?_
     refine Aa rfl (Ac (Ae)) ?_
     refine Ah <| Bb <| Ab <| Ai fun ds => Aa rfl (Ag (A7 rfl <| Al rfl <| Ak rfl <| Az rfl <| As rfl hs6)) ?_
     refine Aa rfl (Bp (Ae) Ad rfl (by omega) (by omega)) ?_
     refine Aa rfl (Ac (Ae)) ?_
     refine Ah <| Ab ⟨_, m - 1, Off.eq (Di rfl <| Dy rfl <| Do rfl <| Dy rfl <| Ba), by omega, ?_⟩
     exact ⟨k + 1, by omega, ((Ae)).trans (congrArg (Value.int .i64) (by omega)), ((Ar rfl <| Al rfl <| Ae)).trans (congrArg (Value.int .i64) kindTo_up.symm), rfl⟩
  ·
   refine Af <| Af <| Ai fun ds => Aa rfl (Ag (As rfl hs6)) ?_
   refine Aa rfl (D0 (Ae) Ad) ?_
   refine Ah <| Ab <| Am (Ae) (decide_eq_false (by omega)) ?_
   obtain rfl : k = 3 := by omega
   refine Bn ?_
   refine Bd <| Bd <| Bf <| Ab <| Af <| Ai fun ds => Aa rfl (Ag (Ar rfl <| As rfl hs5)) ?_
   refine Aa rfl (Ac (Ae)) ?_
   refine Ah <| Ab <| A4 <| Ay rfl (.tmp (Ae) .nil) ?_
   rfl
set_option maxRecDepth 100000 in
theorem refUnclean_ok {F : Heap} {vp ve : Value} {ps : List (Value × Edn)} {s : Stm} (hr : StmR F vp ve ps s) (hv : ValidT s) {v : Value} {l : List Int} (hl : Ints F v l) (hll : l.length = s.editions.length) (ht : IsTree l) : Ok Try.prog 86 [.agg #[vp, ve], v].toArray F fun u F' => Nats F' u (uncleanL s l) := by
 refine Ok.intro Try.func86 rfl Try.ntmps86 rfl fun w0 => ?_
 have hL2 := hr.places.plain.lt
 have hnp := hv.np
 refine Af <| Ai fun ds => Bk rfl (B1 (Aj rfl) rfl fun b1 hb1 nb1 => ?_)
 refine Aa rfl (Ac Ad) ?_
 refine Ah <| Ab <| Af <| Ai fun ds => Aa rfl (Ac Ad) ?_
 refine Ah <| Ab <| Af <| Af <| Ai fun ds => Aa rfl (Ac Ad) ?_
 refine Ah <| Ab <| A0 <| Bs [5, 6, 7, 8, 9, 10, 11, 12, 13, 14, 15, 16, 17, 18, 19, 20, 21, 22, 23, 24, 25, 26, 27] (fun m e σ => ∃ p : Nat, m + p = s.places.length ∧ e 6 = .int .i64 (p : Int) ∧ ∃ v5 R5, e 5 = v5 ∧ Own 3 1 v5 (selN (uncleanB s l) p).length ((selN (uncleanB s l) p).flatMap natE) R5 ∧ σ = ⟨F, (b1, bx 25 [vp, ve]) :: R5⟩) (s.places.length) ?_ ?_
 · exact ⟨0, by omega, (Ae), _, _, (Al rfl <| Ae), Own.nil, rfl⟩
 ·
  rintro m e _ ⟨p, hm, hs6, v5, R5, hs5, ho, rfl⟩; have hsl := Dk (p := uncleanB s l) (k := p)
  by_cases hp : p < s.places.length
  ·
   have hkb := D8 (s := s) (p := p) 3
   have hkn : kindsN s p = kindTo s p 3 := rfl
   refine Af <| Af <| Ai fun ds => Aa rfl (Ag (As rfl hs6)) ?_
   refine Aa rfl (Ao Co (Al rfl <| Ak rfl <| Ar rfl <| Al rfl <| Ae)) ?_
   refine Aa rfl (Ap C2 (Ae) (Cell.own 0 rfl rfl)) ?_
   refine Aa rfl (Bh Da (Ae) hr.places.plain) ?_
   refine Aa rfl (Br (Ar rfl <| Al rfl <| Ae) (Ae)) ?_
   refine Ah <| Ab <| Aq (Ae) (by first | rfl | exact decide_eq_true (by omega)) ?_
   by_cases hub : uncleanB s l p = true
   ·
    refine Au <| Ab <| Af <| A0 <| Af <| Cp (.inl rfl) (fun _ _ h => h) (by kernel_rfl) (by kernel_rfl) fun ds => ?_
    refine Bi rfl (A8 Bw (Az rfl <| Al rfl <| Ak rfl <| Ar rfl <| Al rfl <| Ae) rfl rfl (A3 0 rfl)) ?_
    refine Bi rfl (Ag (Az rfl <| Ar rfl <| Ak rfl <| Az rfl <| Aj rfl)) ?_
    refine Bi rfl (Ag (Az rfl <| Ar rfl <| Al rfl <| As rfl hs6)) ?_
    refine WQ_c rfl (Bj bd_88 A1 (.cons (Ar rfl <| Ae) (.cons (Al rfl <| Ae) (.cons (Ae) .nil))) (refLeast_ok hr hv hl hll ht hp) (fun _ _ h => h)) ?_
    refine Bi rfl (A8 Bw (A7 rfl <| Al rfl <| Ak rfl <| Ar rfl <| Al rfl <| Ae) rfl rfl (A3 0 rfl)) ?_
    refine Bi rfl (Ag (A7 rfl <| Ar rfl <| As rfl hs6)) ?_
    refine WQ_c rfl (Bj bd_120 A1 (.cons (Al rfl <| Ae) (.cons (Ae) .nil)) (refKinds_ok hr hv hp) (fun _ _ h => h)) ?_
    refine Bi rfl (Ew (Ae) Ad rfl (by omega) (by omega)) ?_
    refine Bi rfl (q_max2 Ad (Ae)) ?_
    refine Bi rfl (By (Az rfl <| Al rfl <| Ae) (Ae)) ?_
    refine C3 ?_
    refine Ab <| Aq (Ae) hub ?_
    refine Ai fun ds => Aa rfl (Ag (A7 rfl <| Az rfl <| Ar rfl <| Al rfl <| As rfl hs5)) ?_
    refine Aa rfl (Ag (A5 rfl <| As rfl hs6)) ?_
    refine Bk rfl (B2 Be Db rfl (.cons (Ae) .nil) rfl rfl (by decide) (by simp [Value.oneCell']) fun b3 hb3 nb3 => ?_)
    refine Bk rfl (B4 Be el_3 (Ar rfl <| Ae) ho (Ae) (C6 (s := 1) 0 rfl rfl (by simp [Value.oneCell'])) (by omega) (by omega) (.s <| .s <| .z) .last fun v4 R5 ho6 => ?_)
    have ho2 := ho6.snoc (x := p) rfl rfl
    refine Aa rfl (Ac (Ae)) ?_
    refine Ah <| Bb <| Ab <| Cz (fun _ _ h => h.drop (.cons _ <| .cons_cons _ <| .refl _)) ?_
    refine Ai fun ds => Aa rfl (Ag (A5 rfl <| Az rfl <| As rfl hs6)) ?_
    refine Aa rfl (Bp (Ae) Ad rfl (by omega) (by omega)) ?_
    refine Aa rfl (Ac (Ae)) ?_
    refine Ah <| Ab ⟨_, m - 1, Off.eq (Cq rfl <| Dy rfl <| Eb rfl <| Df rfl <| Ba), by omega, ?_⟩
    exact ⟨p + 1, by omega, (Ae), _, _, (Ar rfl <| Al rfl <| Ae), by rw [Dh, if_pos hub]; exact ho2, rfl⟩
   ·
    replace hub : uncleanB s l p = false := by simpa using hub
    refine Au <| Ab <| Af <| A0 <| Af <| Cp (.inl rfl) (fun _ _ h => h) (by kernel_rfl) (by kernel_rfl) fun ds => ?_
    refine Bi rfl (A8 Bw (Az rfl <| Al rfl <| Ak rfl <| Ar rfl <| Al rfl <| Ae) rfl rfl (A3 0 rfl)) ?_
    refine Bi rfl (Ag (Az rfl <| Ar rfl <| Ak rfl <| Az rfl <| Aj rfl)) ?_
    refine Bi rfl (Ag (Az rfl <| Ar rfl <| Al rfl <| As rfl hs6)) ?_
    refine WQ_c rfl (Bj bd_88 A1 (.cons (Ar rfl <| Ae) (.cons (Al rfl <| Ae) (.cons (Ae) .nil))) (refLeast_ok hr hv hl hll ht hp) (fun _ _ h => h)) ?_
    refine Bi rfl (A8 Bw (A7 rfl <| Al rfl <| Ak rfl <| Ar rfl <| Al rfl <| Ae) rfl rfl (A3 0 rfl)) ?_
    refine Bi rfl (Ag (A7 rfl <| Ar rfl <| As rfl hs6)) ?_
    refine WQ_c rfl (Bj bd_120 A1 (.cons (Al rfl <| Ae) (.cons (Ae) .nil)) (refKinds_ok hr hv hp) (fun _ _ h => h)) ?_
    refine Bi rfl (Ew (Ae) Ad rfl (by omega) (by omega)) ?_
    refine Bi rfl (q_max2 Ad (Ae)) ?_
    refine Bi rfl (By (Az rfl <| Al rfl <| Ae) (Ae)) ?_
    refine C3 ?_
    refine Ab <| Am (Ae) hub ?_
    refine Au <| Bb <| Ab <| Ai fun ds => Aa rfl (Ag (A7 rfl <| Az rfl <| Ar rfl <| Al rfl <| As rfl hs6)) ?_
    refine Aa rfl (Bp (Ae) Ad rfl (by omega) (by omega)) ?_
    refine Aa rfl (Ac (Ae)) ?_
    refine Ah <| Ab ⟨_, m - 1, Off.eq (Cq rfl <| Eb rfl <| Ba), by omega, ?_⟩
    exact ⟨p + 1, by omega, (Ae), _, _, (A5 rfl <| Ar rfl <| As rfl hs5), by rw [Dh, if_neg (by rw [hub]; simp)]; exact ho, rfl⟩
  ·
   refine Af <| Af <| Ai fun ds => Aa rfl (Ag (As rfl hs6)) ?_
   refine Aa rfl (Ao Co (Al rfl <| Ak rfl <| Ar rfl <| Al rfl <| Ae)) ?_
   refine Aa rfl (Ap C2 (Ae) (Cell.own 0 rfl rfl)) ?_
   refine Aa rfl (Bh Da (Ae) hr.places.plain) ?_
   refine Aa rfl (Br (Ar rfl <| Al rfl <| Ae) (Ae)) ?_
   refine Ah <| Ab <| Am (Ae) (by first | rfl | exact decide_eq_false (by omega)) ?_
   obtain rfl : p = s.places.length := by omega
   refine Cn (σ := ⟨_, _⟩) (by rfl) ho (.s <| .z) .last fun F7 hF8 hz9 => ?_
   have hn5 := ho.sl (fun _ => rfl) hz9 (by omega)
   refine Bn ?_
   refine Bd <| Bd <| Bf <| Ab <| Af <| Ai fun ds => Aa rfl (Ag (Az rfl <| Al rfl <| As rfl hs5)) ?_
   refine Aa rfl (Ac (Ae)) ?_
   refine Ah <| Ab <| A4 <| Ay rfl (.tmp (Ae) .nil) ?_
   exact hn5
set_option maxRecDepth 100000 in
theorem refClean_ok {F : Heap} {vp ve : Value} {ps : List (Value × Edn)} {s : Stm} (hr : StmR F vp ve ps s) : Ok Try.prog 34 [.agg #[vp, ve]].toArray F fun u F' => NatsR F' u (cleanE s) := by
 have hle0 : F.le F := Heap.le_refl _
 refine Ok.intro Try.func34 rfl Try.ntmps34 rfl fun w0 => ?_
 have hlen := hr.len
 by_cases h0 : (checkT s).2.2 = 0
 ·
  have hv := C9 h0
  have hne := hv.ne
  have hnp := hv.np
  refine Af <| Ai fun ds => Bk rfl (B1 (Aj rfl) rfl fun b1 hb1 nb1 => ?_)
  refine Aa rfl (Ac Ad) ?_
  refine Aa rfl (Ac Ad) ?_
  refine Ah <| Ab <| Af <| Ai fun ds => Aa rfl (A8 Bw (Ar rfl <| Ae) rfl rfl (A3 0 rfl)) ?_
  refine B0 rfl (Bj bd_17 A1 (.cons (Ae) .nil) (D3 hr) (fun _ _ h => h)) ?_
  refine Aa rfl (Ag (Ae)) ?_
  refine Aa rfl (Ax (Ae) rfl) ?_
  refine Aa rfl (Ax (Al rfl <| Ae) rfl) ?_
  refine Aa rfl (Ax (Ar rfl <| Ae) rfl) ?_
  refine Aa rfl (Ac (Ar rfl <| Ae)) ?_
  refine Aa rfl (Ac (Ar rfl <| Ae)) ?_
  refine Aa rfl (Ac (Ar rfl <| Ae)) ?_
  refine Ah <| Ab <| Af <| Af <| Ai fun ds => Aa rfl (Ag (Ae)) ?_
  refine Aa rfl (By (Ae) Ad) ?_
  refine Ah <| Ab <| Am (Ae) (by rw [h0]; rfl) ?_
  by_cases hem : allTrees s = []
  ·
   refine Au <| Ab <| Af <| Ai fun ds => Aa rfl (A8 Bw (A7 rfl <| Az rfl <| Al rfl <| Ae) rfl rfl (A3 0 rfl)) ?_
   refine Bk rfl (B6 bd_85 A1 (.cons (Ae) .nil) (refAll_ok hr hv) fun v2 F3 hr4 hF5 => ?_)
   obtain ⟨zs, hzs, hza, hzm⟩ := hr4
   have hzl : zs.length ≤ 7776 := by rw [Cv hzm]; exact E2 hv
   have hzz := Cv hzm
   obtain ⟨v7, hv7⟩ : ∃ y, y = v2 := ⟨_, rfl⟩
   subst hv7
   refine Aa rfl (Ac (Ae)) ?_
   refine Ah <| Ab <| Af <| Af <| Ai fun ds => Aa rfl (Ag (Ae)) ?_
   refine Aa rfl (Bh Ce (Ae) hzs.plain) ?_
   refine Aa rfl (Bx (Ae) Ad) ?_
   refine Ah <| Ab <| Aq (Ae) (decide_eq_true (by rw [hzz, hem]; rfl)) ?_
   refine Af <| Ai fun ds => Aa rfl (Ac Ad) ?_
   refine Aa rfl (Ac Ad) ?_
   refine Ah <| Ab <| A4 <| Bc ?_
   refine Ay rfl (.tmp (Al rfl <| Ae) (.tmp (Ae) .nil)) ?_
   rw [cleanE_none h0 (by rw [hem]; rfl)]
   exact ⟨_, rfl, Sl.nil⟩
  ·
   have h0a : 0 < (allTrees s).length := List.length_pos_iff.2 hem
   refine Au <| Ab <| Af <| Ai fun ds => Aa rfl (A8 Bw (A7 rfl <| Az rfl <| Al rfl <| Ae) rfl rfl (A3 0 rfl)) ?_
   refine Bk rfl (B6 bd_85 A1 (.cons (Ae) .nil) (refAll_ok hr hv) fun v6 F7 hr8 hF9 => ?_)
   replace hr := hr.mono hF9
   replace hle0 := Heap.le_trans hle0 hF9
   obtain ⟨zs, hzs, hza, hzm⟩ := hr8
   have hzl : zs.length ≤ 7776 := by rw [Cv hzm]; exact E2 hv
   have hzz := Cv hzm
   obtain ⟨v7, hv7⟩ : ∃ y, y = v6 := ⟨_, rfl⟩
   subst hv7
   refine Aa rfl (Ac (Ae)) ?_
   refine Ah <| Ab <| Af <| Af <| Ai fun ds => Aa rfl (Ag (Ae)) ?_
   refine Aa rfl (Bh Ce (Ae) hzs.plain) ?_
   refine Aa rfl (Bx (Ae) Ad) ?_
   refine Ah <| Ab <| Am (Ae) (decide_eq_false (by omega)) ?_
   have hzz : Ints _ _ _ := hza _ (List.getElem_mem (show 0 < zs.length by omega))
   have hez : zs[0].2 = (allTrees s)[0] := by simp [← hzm]
   obtain ⟨hllz, htz, -⟩ := Dw.1 (show zs[0].2 ∈ allTrees s by rw [hez]; exact List.getElem_mem (by omega))
   refine Au <| Ab <| Af ?_
   have hleS := hle0
   refine Cu (.inl rfl) (fun _ _ h => h) (.cons_cons _ <| .refl _) [] (by kernel_rfl) fun ds => ?_
   refine A2 0 rfl (by kernel_rfl) (by kernel_rfl) (by kernel_rfl) (by kernel_rfl) rfl rfl (fun _ h => h.drop (.cons_cons _ <| .refl _)) (fun _ _ _ h => h) (A8 Bw (A5 rfl <| Ar rfl <| Al rfl <| Ae) rfl rfl (A3 0 rfl)) ?_
   refine A2 1 rfl (by kernel_rfl) (by kernel_rfl) (by kernel_rfl) (by kernel_rfl) rfl rfl (fun _ h => h.drop (.cons_cons _ <| .refl _)) (fun _ _ _ h => h) (Ag (Az rfl <| Ae)) ?_
   refine A2 2 rfl (by kernel_rfl) (by kernel_rfl) (by kernel_rfl) (by kernel_rfl) rfl rfl (fun _ h => h.drop (.cons_cons _ <| .refl _)) (fun _ _ _ h => h) (A9 (k := 0) Ce (Ae) hzs.plain Ad rfl (by omega)) ?_
   refine A2 3 rfl (by kernel_rfl) (by kernel_rfl) (by kernel_rfl) (by kernel_rfl) rfl rfl (fun _ h => h.drop (.cons_cons _ <| .refl _)) (fun _ _ _ h => h) (Ap B8 (Ae) (hzs.cell1 (by omega) rfl)) ?_
   refine Dr 4 rfl (by kernel_rfl) rfl (B6 bd_86 A1 (.cons (Ar rfl <| Al rfl <| Ae) (.cons (Ae) .nil)) (refUnclean_ok hr hv hzz hllz htz) fun v10 F11 hr12 hF13 => ⟨fun _ _ _ h => (h.drop (.cons_cons _ <| .refl _)).weak hF13 hleS, ?_⟩)
   replace hr := hr.mono hF13
   replace hle0 := Heap.le_trans hle0 hF13
   replace hzs := hzs.mono hF13
   replace hza := hza.mono hF13
   have hun := hr12
   rw [hez] at hun
   refine A2 5 rfl (by kernel_rfl) (by kernel_rfl) (by kernel_rfl) (by kernel_rfl) rfl rfl (fun _ h => (h.drop (.cons_cons _ <| .refl _)).weak hF13 hleS) (fun _ _ _ h => h) (Ac (Ae)) ?_
   refine Cr (by kernel_rfl) ?_ _
   refine Ab <| Af <| Af <| Ai fun ds => Aa rfl (Ac Ad) ?_
   refine Ah <| Ab <| A0 <| Bs [8, 9, 10, 30, 31, 32, 33, 34, 35, 36, 37, 38, 39, 40, 41, 42, 43, 44, 45, 46, 47, 48, 49, 50, 51, 52, 53, 54, 55, 56, 57, 58, 59] (fun m e σ => ∃ i : Nat, m + i = zs.length ∧ e 9 = .int .i64 (i : Int) ∧ ∃ G, F.le G ∧ StmR G vp ve ps s ∧ AllZ G zs ∧ Sl G v7 1 slZ zs ∧ ∃ (w : Value) (b : List Nat), e 8 = w ∧ Nats G w b ∧ cleanR s ((allTrees s).take i) = some b ∧ σ = ⟨G, [(b1, bx 25 [vp, ve])]⟩) (zs.length - 1) ?_ ?_
   · exact ⟨1, by omega, (Ae), _, hle0, hr, hza, hzs, _, _, (Al rfl <| Ae), hun, clean_start h0a, rfl⟩
   ·
    rintro m e _ ⟨i, hm, hs9, G, hle0, hr, hza, hzs, w, b, hs8, hbn, hb, rfl⟩; have hbl := hbn.plain.lt
    by_cases hi : i < zs.length
    ·
     have hia : i < (allTrees s).length := by omega
     have hzi : Ints _ _ _ := hza _ (List.getElem_mem (show i < zs.length by omega))
     have hei : zs[i].2 = (allTrees s)[i] := by simp [← hzm]
     obtain ⟨hlli, hti, -⟩ := Dw.1 (show zs[i].2 ∈ allTrees s by rw [hei]; exact List.getElem_mem (by omega))
     have hul := unclean_len (s := s) (l := (allTrees s)[i])
     refine Af <| Af <| Ai fun ds => Aa rfl (Ag (As rfl hs9)) ?_
     refine Aa rfl (Ag (Al rfl <| Ak rfl <| A7 rfl <| Ar rfl <| Ae)) ?_
     refine Aa rfl (Bh Ce (Ae) hzs.plain) ?_
     refine Aa rfl (Br (Ar rfl <| Ae) (Ae)) ?_
     refine Ah <| Ab <| Aq (Ae) (by first | rfl | exact decide_eq_true (by omega)) ?_
     by_cases h1 : (uncleanL s (allTrees s)[i]).length < b.length
     ·
      refine Au <| Ab <| Af <| A0 <| Af ?_
      have hleS := hle0
      refine Cu (.inl rfl) (fun _ _ h => h) (.cons_cons _ <| .refl _) [] (by kernel_rfl) fun ds => ?_
      refine A2 0 rfl (by kernel_rfl) (by kernel_rfl) (by kernel_rfl) (by kernel_rfl) rfl rfl (fun _ h => h.drop (.cons_cons _ <| .refl _)) (fun _ _ _ h => h) (A8 Bw (Az rfl <| Ak rfl <| A5 rfl <| A7 rfl <| Ar rfl <| Ae) rfl rfl (A3 0 rfl)) ?_
      refine A2 1 rfl (by kernel_rfl) (by kernel_rfl) (by kernel_rfl) (by kernel_rfl) rfl rfl (fun _ h => h.drop (.cons_cons _ <| .refl _)) (fun _ _ _ h => h) (Ag (Az rfl <| Al rfl <| Ak rfl <| A7 rfl <| Ar rfl <| Ae)) ?_
      refine A2 2 rfl (by kernel_rfl) (by kernel_rfl) (by kernel_rfl) (by kernel_rfl) rfl rfl (fun _ h => h.drop (.cons_cons _ <| .refl _)) (fun _ _ _ h => h) (Ag (Az rfl <| Ar rfl <| As rfl hs9)) ?_
      refine A2 3 rfl (by kernel_rfl) (by kernel_rfl) (by kernel_rfl) (by kernel_rfl) rfl rfl (fun _ h => h.drop (.cons_cons _ <| .refl _)) (fun _ _ _ h => h) (A9 (k := i) Ce (Al rfl <| Ae) hzs.plain (Ae) rfl hi) ?_
      refine A2 4 rfl (by kernel_rfl) (by kernel_rfl) (by kernel_rfl) (by kernel_rfl) rfl rfl (fun _ h => h.drop (.cons_cons _ <| .refl _)) (fun _ _ _ h => h) (Ap B8 (Ae) (hzs.cell1 hi rfl)) ?_
      refine Dr 5 rfl (by kernel_rfl) rfl (B6 bd_86 A1 (.cons (Az rfl <| Ae) (.cons (Ae) .nil)) (refUnclean_ok hr hv hzi hlli hti) fun v15 F16 hr17 hF18 => ⟨fun _ _ _ h => (h.drop (.cons_cons _ <| .refl _)).weak hF18 hleS, ?_⟩)
      replace hr := hr.mono hF18
      replace hza := hza.mono hF18
      replace hzs := hzs.mono hF18
      replace hbn := hbn.mono hF18
      replace hle0 := Heap.le_trans hle0 hF18
      have hun := hr17
      rw [hei] at hun
      refine A2 6 rfl (by kernel_rfl) (by kernel_rfl) (by kernel_rfl) (by kernel_rfl) rfl rfl (fun _ h => (h.drop (.cons_cons _ <| .refl _)).weak hF18 hleS) (fun _ _ _ h => h) (Ac (Ae)) ?_
      refine Cr (by kernel_rfl) ?_ _
      refine Ab <| Af <| Ai fun ds => Aa rfl (Ag (Ae)) ?_
      refine Aa rfl (Bh Be (Ae) hun.plain) ?_
      refine Aa rfl (Ag (A7 rfl <| Az rfl <| Al rfl <| As rfl hs8)) ?_
      refine Aa rfl (Bh Be (Ae) hbn.plain) ?_
      refine Aa rfl (Br (Ar rfl <| Ae) (Ae)) ?_
      refine Aa rfl (Ag (Ae)) ?_
      refine Aw rfl rfl (Ae) (.inl (congrArg Value.bool (decide_eq_true (by omega)))) rfl ?_
      refine Aw rfl rfl (Al rfl <| Ae) (.inl (congrArg Value.bool (decide_eq_true (by omega)))) rfl ?_
      refine Aw rfl rfl (Ar rfl <| Ae) (.inl (congrArg Value.bool (decide_eq_true (by omega)))) rfl ?_
      refine Aw rfl rfl (Ar rfl <| Al rfl <| Ae) (.inl (congrArg Value.bool (decide_eq_true (by omega)))) rfl ?_
      refine Aw rfl rfl (Az rfl <| Ae) (.inl (congrArg Value.bool (decide_eq_true (by omega)))) rfl ?_
      refine Aw rfl rfl (Az rfl <| Al rfl <| Ae) (.inl (congrArg Value.bool (decide_eq_true (by omega)))) rfl ?_
      refine Aw rfl rfl (Ae) (.inr rfl) rfl ?_
      refine Aw rfl rfl (Al rfl <| Ae) (.inr rfl) rfl ?_
      refine Aw rfl rfl (Ar rfl <| Ae) (.inr rfl) rfl ?_
      refine Aw rfl rfl (A7 rfl <| Al rfl <| Ae) (.inl (congrArg Value.bool (decide_eq_true (by omega)))) rfl ?_
      refine Aa rfl (A6 (A7 rfl <| Ar rfl <| Ae) (decide_eq_true (by omega)) Ad) ?_
      refine Ah <| Ab <| Aq (Ae) rfl ?_
      refine Ai fun ds => Aa rfl (Ag (A5 rfl <| Al rfl <| Ae)) ?_
      refine Aa rfl (Ac (Ae)) ?_
      refine Ah <| Bb <| Ab <| Ai fun ds => Aa rfl (Ag (A5 rfl <| A7 rfl <| Az rfl <| Ar rfl <| As rfl hs9)) ?_
      refine Aa rfl (Bp (Ae) Ad rfl (by omega) (by omega)) ?_
      refine Aa rfl (Ac (Ae)) ?_
      refine Ah <| Ab ⟨_, m - 1, Off.eq (ou32 rfl <| Df rfl <| Ba), by omega, ?_⟩
      exact ⟨i + 1, by omega, (Ae), _, hle0, hr, hza, hzs, _, _, (Ar rfl <| Al rfl <| Ae), hun, clean_yes hia hb (.inl h1), rfl⟩
     ·
      refine Au <| Ab <| Af <| A0 <| Af ?_
      have hleS := hle0
      refine Cu (.inl rfl) (fun _ _ h => h) (.cons_cons _ <| .refl _) [] (by kernel_rfl) fun ds => ?_
      refine A2 0 rfl (by kernel_rfl) (by kernel_rfl) (by kernel_rfl) (by kernel_rfl) rfl rfl (fun _ h => h.drop (.cons_cons _ <| .refl _)) (fun _ _ _ h => h) (A8 Bw (Az rfl <| Ak rfl <| A5 rfl <| A7 rfl <| Ar rfl <| Ae) rfl rfl (A3 0 rfl)) ?_
      refine A2 1 rfl (by kernel_rfl) (by kernel_rfl) (by kernel_rfl) (by kernel_rfl) rfl rfl (fun _ h => h.drop (.cons_cons _ <| .refl _)) (fun _ _ _ h => h) (Ag (Az rfl <| Al rfl <| Ak rfl <| A7 rfl <| Ar rfl <| Ae)) ?_
      refine A2 2 rfl (by kernel_rfl) (by kernel_rfl) (by kernel_rfl) (by kernel_rfl) rfl rfl (fun _ h => h.drop (.cons_cons _ <| .refl _)) (fun _ _ _ h => h) (Ag (Az rfl <| Ar rfl <| As rfl hs9)) ?_
      refine A2 3 rfl (by kernel_rfl) (by kernel_rfl) (by kernel_rfl) (by kernel_rfl) rfl rfl (fun _ h => h.drop (.cons_cons _ <| .refl _)) (fun _ _ _ h => h) (A9 (k := i) Ce (Al rfl <| Ae) hzs.plain (Ae) rfl hi) ?_
      refine A2 4 rfl (by kernel_rfl) (by kernel_rfl) (by kernel_rfl) (by kernel_rfl) rfl rfl (fun _ h => h.drop (.cons_cons _ <| .refl _)) (fun _ _ _ h => h) (Ap B8 (Ae) (hzs.cell1 hi rfl)) ?_
      refine Dr 5 rfl (by kernel_rfl) rfl (B6 bd_86 A1 (.cons (Az rfl <| Ae) (.cons (Ae) .nil)) (refUnclean_ok hr hv hzi hlli hti) fun v19 F20 hr21 hF22 => ⟨fun _ _ _ h => (h.drop (.cons_cons _ <| .refl _)).weak hF22 hleS, ?_⟩)
      replace hr := hr.mono hF22
      replace hza := hza.mono hF22
      replace hzs := hzs.mono hF22
      replace hbn := hbn.mono hF22
      replace hle0 := Heap.le_trans hle0 hF22
      have hun := hr21
      rw [hei] at hun
      refine A2 6 rfl (by kernel_rfl) (by kernel_rfl) (by kernel_rfl) (by kernel_rfl) rfl rfl (fun _ h => (h.drop (.cons_cons _ <| .refl _)).weak hF22 hleS) (fun _ _ _ h => h) (Ac (Ae)) ?_
      refine Cr (by kernel_rfl) ?_ _
      refine Ab <| Af <| Ai fun ds => Aa rfl (Ag (Ae)) ?_
      refine Aa rfl (Bh Be (Ae) hun.plain) ?_
      refine Aa rfl (Ag (A7 rfl <| Az rfl <| Al rfl <| As rfl hs8)) ?_
      refine Aa rfl (Bh Be (Ae) hbn.plain) ?_
      refine Aa rfl (Br (Ar rfl <| Ae) (Ae)) ?_
      refine Aa rfl (Ag (Ae)) ?_
      refine At rfl rfl (Ae) (decide_eq_false (by omega)) ?_
      refine Aa rfl (Ag (Az rfl <| Ar rfl <| Ae)) ?_
      refine At rfl rfl (Al rfl <| Ae) (decide_eq_false (by omega)) ?_
      refine Aa rfl (Bh Be (Ae) hun.plain) ?_
      refine At rfl rfl (Ar rfl <| Ae) (decide_eq_false (by omega)) ?_
      refine Aa rfl (Ag (A5 rfl <| Ar rfl <| Al rfl <| As rfl hs8)) ?_
      refine At rfl rfl (Ar rfl <| Al rfl <| Ae) (decide_eq_false (by omega)) ?_
      refine Aa rfl (Bh Be (Ae) hbn.plain) ?_
      refine At rfl rfl (Az rfl <| Ae) (decide_eq_false (by omega)) ?_
      refine Aa rfl (Bx (Ar rfl <| Ae) (Ae)) ?_
      refine At rfl rfl (Az rfl <| Al rfl <| Ae) (decide_eq_false (by omega)) ?_
      refine Aa rfl (Ag (Ae)) ?_
      by_cases h2 : (uncleanL s (allTrees s)[i]).length = b.length
      ·
       refine At rfl rfl (Ae) (decide_eq_true (by omega)) ?_
       refine Aa rfl (Ag (A7 rfl <| Az rfl <| Ae)) ?_
       refine At rfl rfl (Al rfl <| Ae) (decide_eq_true (by omega)) ?_
       refine Aa rfl (Ag (A5 rfl <| A7 rfl <| As rfl hs8)) ?_
       refine At rfl rfl (Ar rfl <| Ae) (decide_eq_true (by omega)) ?_
       refine B0 rfl (Bj bd_42 A1 (.cons (Al rfl <| Ae) (.cons (Ae) .nil)) (refBefore_ok hun hbn) (fun _ _ h => h)) ?_
       refine At rfl rfl (A7 rfl <| Al rfl <| Ae) (decide_eq_false (by omega)) ?_
       refine Aa rfl (A6 (Ar rfl <| Al rfl <| Ae) (decide_eq_true (by omega)) (Ae)) ?_
       refine Aa rfl (Bg (A7 rfl <| Ar rfl <| Ae) (decide_eq_false (by omega)) (Ae)) ?_
       refine Ah <| Ab ?_
       by_cases h3 : cmpL (uncleanL s (allTrees s)[i]) b < 0
       ·
        refine Aq (Ae) (decide_eq_true h3) ?_
        refine Ai fun ds => Aa rfl (Ag (A5 rfl <| Al rfl <| Ae)) ?_
        refine Aa rfl (Ac (Ae)) ?_
        refine Ah <| Bb <| Ab <| Ai fun ds => Aa rfl (Ag (A5 rfl <| A7 rfl <| Az rfl <| Ar rfl <| As rfl hs9)) ?_
        refine Aa rfl (Bp (Ae) Ad rfl (by omega) (by omega)) ?_
        refine Aa rfl (Ac (Ae)) ?_
        refine Ah <| Ab ⟨_, m - 1, Off.eq (ou32 rfl <| Df rfl <| Ba), by omega, ?_⟩
        exact ⟨i + 1, by omega, (Ae), _, hle0, hr, hza, hzs, _, _, (Ar rfl <| Al rfl <| Ae), hun, clean_yes hia hb (.inr ⟨h2, h3⟩), rfl⟩
       ·
        refine Am (Ae) (decide_eq_false h3) ?_
        refine Au <| Bb <| Ab <| Ai fun ds => Aa rfl (Ag (A5 rfl <| A7 rfl <| Az rfl <| As rfl hs9)) ?_
        refine Aa rfl (Bp (Ae) Ad rfl (by omega) (by omega)) ?_
        refine Aa rfl (Ac (Ae)) ?_
        refine Ah <| Ab ⟨_, m - 1, Off.eq (Cq rfl <| Di rfl <| Dy rfl <| Eb rfl <| Df rfl <| Ba), by omega, ?_⟩
        exact ⟨i + 1, by omega, (Ae), _, hle0, hr, hza, hzs, _, _, (A5 rfl <| A7 rfl <| Az rfl <| Ar rfl <| Al rfl <| As rfl hs8), hbn, clean_no hia hb (fun h => h.elim h1 fun h => h3 h.2), rfl⟩
      ·
       refine Aw rfl rfl (Ae) (.inl (congrArg Value.bool (decide_eq_false (by omega)))) rfl ?_
       refine Aw rfl rfl (Al rfl <| Ae) (.inl (congrArg Value.bool (decide_eq_false (by omega)))) rfl ?_
       refine Aw rfl rfl (Ar rfl <| Ae) (.inl (congrArg Value.bool (decide_eq_false (by omega)))) rfl ?_
       refine At rfl rfl (A7 rfl <| Al rfl <| Ae) (decide_eq_false (by omega)) ?_
       refine Aa rfl (Bg (Ar rfl <| Al rfl <| Ae) (decide_eq_false (by omega)) Ad) ?_
       refine Aa rfl (Bg (A7 rfl <| Ar rfl <| Ae) (decide_eq_false (by omega)) (Ae)) ?_
       refine Ah <| Ab <| Am (Ae) rfl ?_
       refine Au <| Bb <| Ab <| Ai fun ds => Aa rfl (Ag (A5 rfl <| A7 rfl <| Az rfl <| As rfl hs9)) ?_
       refine Aa rfl (Bp (Ae) Ad rfl (by omega) (by omega)) ?_
       refine Aa rfl (Ac (Ae)) ?_
       refine Ah <| Ab ⟨_, m - 1, Off.eq (Cq rfl <| Di rfl <| Dy rfl <| Eb rfl <| Df rfl <| Ba), by omega, ?_⟩
       exact ⟨i + 1, by omega, (Ae), _, hle0, hr, hza, hzs, _, _, (A5 rfl <| A7 rfl <| Az rfl <| Ar rfl <| Al rfl <| As rfl hs8), hbn, clean_no hia hb (fun h => h.elim h1 fun h => h2 h.1), rfl⟩
    ·
     refine Af <| Af <| Ai fun ds => Aa rfl (Ag (As rfl hs9)) ?_
     refine Aa rfl (Ag (Al rfl <| Ak rfl <| A7 rfl <| Ar rfl <| Ae)) ?_
     refine Aa rfl (Bh Ce (Ae) hzs.plain) ?_
     refine Aa rfl (Br (Ar rfl <| Ae) (Ae)) ?_
     refine Ah <| Ab <| Am (Ae) (by first | rfl | exact decide_eq_false (by omega)) ?_
     obtain rfl : i = zs.length := by omega
     rw [List.take_of_length_le (by omega)] at hb
     refine Bn ?_
     refine Bd <| Bd <| Bf <| Ab <| Af <| Ai fun ds => Aa rfl (Ag (Az rfl <| As rfl hs8)) ?_
     refine Aa rfl (Ac (Ae)) ?_
     refine Aa rfl (Ac Ad) ?_
     refine Ah <| Ab <| A4 <| Ay rfl (.tmp (Al rfl <| Ae) (.tmp (Ae) .nil)) ?_
     rw [cleanE_some h0 hb]
     exact ⟨_, rfl, hbn⟩
 ·
  refine Af <| Ai fun ds => Bk rfl (B1 (Aj rfl) rfl fun b23 hb23 nb23 => ?_)
  refine Aa rfl (Ac Ad) ?_
  refine Aa rfl (Ac Ad) ?_
  refine Ah <| Ab <| Af <| Ai fun ds => Aa rfl (A8 Bw (Ar rfl <| Ae) rfl rfl (A3 0 rfl)) ?_
  refine B0 rfl (Bj bd_17 A1 (.cons (Ae) .nil) (D3 hr) (fun _ _ h => h)) ?_
  refine Aa rfl (Ag (Ae)) ?_
  refine Aa rfl (Ax (Ae) rfl) ?_
  refine Aa rfl (Ax (Al rfl <| Ae) rfl) ?_
  refine Aa rfl (Ax (Ar rfl <| Ae) rfl) ?_
  refine Aa rfl (Ac (Ar rfl <| Ae)) ?_
  refine Aa rfl (Ac (Ar rfl <| Ae)) ?_
  refine Aa rfl (Ac (Ar rfl <| Ae)) ?_
  refine Ah <| Ab <| Af <| Af <| Ai fun ds => Aa rfl (Ag (Ae)) ?_
  refine Aa rfl (By (Ae) Ad) ?_
  refine Ah <| Ab <| Aq (Ae) (decide_eq_true h0) ?_
  refine Af <| Ai fun ds => Aa rfl (Ag (Ar rfl <| Ae)) ?_
  refine Aa rfl (Ac Ad) ?_
  refine Aa rfl (Ac (Al rfl <| Ae)) ?_
  refine Ah <| Ab <| A4 <| Bc ?_
  refine Ay rfl (.tmp (Al rfl <| Ae) (.tmp (Ae) .nil)) ?_
  rw [cleanE_bad h0]
  exact ⟨_, rfl, Sl.nil⟩
end Go.Proofs.Ytccogmkhijgelaa
namespace Go.Proofs.Ytccogmkhijgelaa
open Go.RowKit
theorem bd_28 : Body Try.prog 28 := Bo (by kernel_rfl)
theorem bd_30 : Body Try.prog 30 := Bo (by kernel_rfl)
theorem bd_32 : Body Try.prog 32 := Bo (by kernel_rfl)
theorem bd_34 : Body Try.prog 34 := Bo (by kernel_rfl)
set_option maxRecDepth 100000 in
theorem bestLaw_ok {F : Heap} {vp ve : Value} {ps : List (Value × Edn)} {s : Stm} (hr : StmR F vp ve ps s) (x0 x1 : Int) : Ok Try.prog 4 [.agg #[vp, ve], .agg #[.int .i64 x0, .int .i64 x1]].toArray F fun u _ => u = .bool true := by
 have hle0 : F.le F := Heap.le_refl _
 refine Ok.intro Try.func4 rfl Try.ntmps4 rfl fun w0 => ?_
 refine Af <| Ai fun ds => Bk rfl (B1 (Aj rfl) rfl fun b1 hb1 nb1 => ?_)
 refine Bk rfl (B1 (Al rfl <| Aj rfl) rfl fun b2 hb2 nb2 => ?_)
 refine Aa rfl (Ac Ad) ?_
 refine Ah <| Ab <| Af <| Ai fun ds => Aa rfl (A8 Bw (Ar rfl <| Ae) rfl rfl (A3 1 rfl)) ?_
 refine Bk rfl (B6 bd_27 A1 (.cons (Ae) .nil) (best_top_ok hr) fun v3 F4 hr5 hF6 => ?_)
 replace hr := hr.mono hF6
 obtain ⟨va, rfl, ha⟩ := hr5
 refine Aa rfl (Ag (Ae)) ?_
 refine Aa rfl (Ax (Ae) rfl) ?_
 refine Aa rfl (Ax (Al rfl <| Ae) rfl) ?_
 refine Aa rfl (Ax (Ar rfl <| Ae) rfl) ?_
 refine Aa rfl (Ax (Ar rfl <| Al rfl <| Ae) rfl) ?_
 refine Aa rfl (Ac (Ar rfl <| Al rfl <| Ae)) ?_
 refine Aa rfl (Ac (Ar rfl <| Al rfl <| Ae)) ?_
 refine Aa rfl (Ac (Ar rfl <| Al rfl <| Ae)) ?_
 refine Aa rfl (Ac (Ar rfl <| Al rfl <| Ae)) ?_
 refine Ah <| Ab <| Af <| Ai fun ds => Aa rfl (A8 Bw (A7 rfl <| Az rfl <| Al rfl <| Ae) rfl rfl (A3 1 rfl)) ?_
 refine Bk rfl (B6 bd_28 A1 (.cons (Ae) .nil) (refBest_ok hr) fun v7 F8 hr9 hF10 => ?_)
 replace hr := hr.mono hF10
 replace ha := ha.mono hF10
 obtain ⟨vb, rfl, hb⟩ := hr9
 refine Aa rfl (Ag (Ae)) ?_
 refine Aa rfl (Ax (Ae) rfl) ?_
 refine Aa rfl (Ax (Al rfl <| Ae) rfl) ?_
 refine Aa rfl (Ax (Ar rfl <| Ae) rfl) ?_
 refine Aa rfl (Ax (Ar rfl <| Al rfl <| Ae) rfl) ?_
 refine Aa rfl (Ac (Ar rfl <| Al rfl <| Ae)) ?_
 refine Aa rfl (Ac (Ar rfl <| Al rfl <| Ae)) ?_
 refine Aa rfl (Ac (Ar rfl <| Al rfl <| Ae)) ?_
 refine Aa rfl (Ac (Ar rfl <| Al rfl <| Ae)) ?_
 refine Ah <| Ab <| Af <| Af <| Ai fun ds => Aa rfl (Ag (A7 rfl <| Az rfl <| Ar rfl <| Ae)) ?_
 refine Aa rfl (Ag (Az rfl <| Ae)) ?_
 refine B0 rfl (Bj bd_20 A1 (.cons (Al rfl <| Ae) (.cons (Ae) .nil)) (Ej ha hb) (fun _ _ h => h)) ?_
 refine Aa rfl (Cm (Ae)) ?_
 refine Aa rfl (Ag (Ae)) ?_
 refine At rfl rfl (Ae) (by rw [decide_eq_true rfl]; first | done | rfl) ?_
 refine Aa rfl (Ag (A5 rfl <| Ar rfl <| Ae)) ?_
 refine At rfl rfl (Al rfl <| Ae) (by rw [decide_eq_true rfl]; first | done | rfl) ?_
 refine Aa rfl (Ag (A7 rfl <| Ae)) ?_
 refine At rfl rfl (Ar rfl <| Ae) (by rw [decide_eq_true rfl]; first | done | rfl) ?_
 refine Aa rfl (By (Al rfl <| Ae) (Ae)) ?_
 refine Aa rfl (Bg (Ar rfl <| Al rfl <| Ae) (by rw [decide_eq_true rfl]; first | done | rfl) (Ae)) ?_
 refine Aa rfl (Ag (Ae)) ?_
 refine At rfl rfl (Ae) (decide_eq_false (fun h => h rfl)) ?_
 refine Aa rfl (Ag (A5 rfl <| Az rfl <| Ar rfl <| Ae)) ?_
 refine At rfl rfl (Al rfl <| Ae) (decide_eq_false (fun h => h rfl)) ?_
 refine Aa rfl (Ag (A7 rfl <| Az rfl <| Ae)) ?_
 refine At rfl rfl (Ar rfl <| Ae) (decide_eq_false (fun h => h rfl)) ?_
 refine Aa rfl (By (Al rfl <| Ae) (Ae)) ?_
 refine Aa rfl (Bg (Ar rfl <| Al rfl <| Ae) (decide_eq_false (fun h => h rfl)) (Ae)) ?_
 refine Aa rfl (Ag (Ae)) ?_
 refine At rfl rfl (Ae) (decide_eq_false (fun h => h rfl)) ?_
 refine Aa rfl (Ag (A5 rfl <| A7 rfl <| Ar rfl <| Ae)) ?_
 refine At rfl rfl (Al rfl <| Ae) (decide_eq_false (fun h => h rfl)) ?_
 refine Aa rfl (Ag (A5 rfl <| Ae)) ?_
 refine At rfl rfl (Ar rfl <| Ae) (decide_eq_false (fun h => h rfl)) ?_
 refine Aa rfl (By (Al rfl <| Ae) (Ae)) ?_
 refine Aa rfl (Bg (Ar rfl <| Al rfl <| Ae) (decide_eq_false (fun h => h rfl)) (Ae)) ?_
 refine Ah <| Ab <| Am (Ae) (decide_eq_false (fun h => h rfl)) ?_
 refine Au <| Ab <| Af <| Ai fun ds => Aa rfl (A8 Bw (Bq rfl <| A7 rfl <| Ar rfl <| Al rfl <| Ae) rfl rfl (A3 1 rfl)) ?_
 refine Bk rfl (B6 bd_29 A1 (.cons (Ae) .nil) (first_top_ok hr) fun v11 F12 hr13 hF14 => ?_)
 replace hr := hr.mono hF14
 obtain ⟨vc, rfl, hc⟩ := hr13
 refine Aa rfl (Ag (Ae)) ?_
 refine Aa rfl (Ax (Ae) rfl) ?_
 refine Aa rfl (Ax (Al rfl <| Ae) rfl) ?_
 refine Aa rfl (Ac (Al rfl <| Ae)) ?_
 refine Aa rfl (Ac (Al rfl <| Ae)) ?_
 refine Ah <| Ab <| Af <| Ai fun ds => Aa rfl (A8 Bw (Bq rfl <| A5 rfl <| Ar rfl <| Ae) rfl rfl (A3 1 rfl)) ?_
 refine Bk rfl (B6 bd_30 A1 (.cons (Ae) .nil) (refFirst_ok hr) fun v15 F16 hr17 hF18 => ?_)
 replace hr := hr.mono hF18
 replace hc := hc.mono hF18
 obtain ⟨vd, rfl, hd⟩ := hr17
 refine Aa rfl (Ag (Ae)) ?_
 refine Aa rfl (Ax (Ae) rfl) ?_
 refine Aa rfl (Ax (Al rfl <| Ae) rfl) ?_
 refine Aa rfl (Ac (Al rfl <| Ae)) ?_
 refine Aa rfl (Ac (Al rfl <| Ae)) ?_
 refine Ah <| Ab <| Af <| Af <| Ai fun ds => Aa rfl (Ag (A7 rfl <| Ae)) ?_
 refine Aa rfl (Ag (Ar rfl <| Ae)) ?_
 refine B0 rfl (Bj bd_20 A1 (.cons (Al rfl <| Ae) (.cons (Ae) .nil)) (Ej (Nats.ints hc) (Nats.ints hd)) (fun _ _ h => h)) ?_
 refine Aa rfl (Cm (Ae)) ?_
 refine Aa rfl (Ag (Ae)) ?_
 refine At rfl rfl (Ae) (by rw [decide_eq_true rfl]; first | done | rfl) ?_
 refine Aa rfl (Ag (A7 rfl <| Az rfl <| Ae)) ?_
 refine At rfl rfl (Al rfl <| Ae) (by rw [decide_eq_true rfl]; first | done | rfl) ?_
 refine Aa rfl (Ag (Az rfl <| Ar rfl <| Ae)) ?_
 refine At rfl rfl (Ar rfl <| Ae) (by rw [decide_eq_true rfl]; first | done | rfl) ?_
 refine Aa rfl (By (Al rfl <| Ae) (Ae)) ?_
 refine Aa rfl (Bg (Ar rfl <| Al rfl <| Ae) (by rw [decide_eq_true rfl]; first | done | rfl) (Ae)) ?_
 refine Ah <| Ab <| Am (Ae) (decide_eq_false (fun h => h rfl)) ?_
 refine Au <| Ab <| Af <| Ai fun ds => Aa rfl (A8 Bw (Bq rfl <| Bq rfl <| Ar rfl <| Ae) rfl rfl (A3 1 rfl)) ?_
 refine Aa rfl (Bu (k := 0) ar_27 (Bq rfl <| Bq rfl <| Ar rfl <| Ae) Ad rfl (by decide)) ?_
 refine Aa rfl (Ap Bl (Ae) (Cell.own 0 rfl rfl)) ?_
 refine Aa rfl (Bu (k := 1) ar_27 (Bq rfl <| Bq rfl <| Az rfl <| Ae) Ad rfl (by decide)) ?_
 refine Aa rfl (Ap Bl (Ae) (Cell.own 0 rfl rfl)) ?_
 refine B0 rfl (Bj bd_31 A1 (.cons (Az rfl <| Ae) (.cons (Ar rfl <| Ae) (.cons (Ae) .nil))) (from_top_ok hr _ _) (fun _ _ h => h.trans (show fromV s x0 x1 = .tuple #[.int .i64 (fromE s x0 x1).1, .int .i64 (fromE s x0 x1).2] from rfl))) ?_
 refine Aa rfl (Ag (Ae)) ?_
 refine Aa rfl (Ax (Ae) rfl) ?_
 refine Aa rfl (Ax (Al rfl <| Ae) rfl) ?_
 refine Aa rfl (Ac (Al rfl <| Ae)) ?_
 refine Aa rfl (Ac (Al rfl <| Ae)) ?_
 refine Ah <| Ab <| Af <| Ai fun ds => Aa rfl (A8 Bw (Bq rfl <| Bq rfl <| A7 rfl <| Az rfl <| Al rfl <| Ae) rfl rfl (A3 1 rfl)) ?_
 refine Aa rfl (Bu (k := 0) ar_27 (Bq rfl <| Bq rfl <| A7 rfl <| Az rfl <| Al rfl <| Ae) Ad rfl (by decide)) ?_
 refine Aa rfl (Ap Bl (Ae) (Cell.own 0 rfl rfl)) ?_
 refine Aa rfl (Bu (k := 1) ar_27 (Bq rfl <| Bq rfl <| A7 rfl <| Az rfl <| Ar rfl <| Al rfl <| Ae) Ad rfl (by decide)) ?_
 refine Aa rfl (Ap Bl (Ae) (Cell.own 0 rfl rfl)) ?_
 refine B0 rfl (Bj bd_32 A1 (.cons (Az rfl <| Ae) (.cons (Ar rfl <| Ae) (.cons (Ae) .nil))) (refFrom_ok hr _ _) (fun _ _ h => h.trans (show fromV s x0 x1 = .tuple #[.int .i64 (fromE s x0 x1).1, .int .i64 (fromE s x0 x1).2] from rfl))) ?_
 refine Aa rfl (Ag (Ae)) ?_
 refine Aa rfl (Ax (Ae) rfl) ?_
 refine Aa rfl (Ax (Al rfl <| Ae) rfl) ?_
 refine Aa rfl (Ac (Al rfl <| Ae)) ?_
 refine Aa rfl (Ac (Al rfl <| Ae)) ?_
 refine Ah <| Ab <| Af <| Af <| Ai fun ds => Aa rfl (Ag (A7 rfl <| Az rfl <| Ae)) ?_
 refine Aa rfl (Ag (Ar rfl <| Ae)) ?_
 refine Aa rfl (By (Al rfl <| Ae) (Ae)) ?_
 refine Aa rfl (Ag (Ae)) ?_
 refine At rfl rfl (Ae) (decide_eq_false (fun h => h rfl)) ?_
 refine Aa rfl (Ag (A7 rfl <| Az rfl <| Ar rfl <| Al rfl <| Ae)) ?_
 refine At rfl rfl (Al rfl <| Ae) (decide_eq_false (fun h => h rfl)) ?_
 refine Aa rfl (Ag (Az rfl <| Al rfl <| Ae)) ?_
 refine At rfl rfl (Ar rfl <| Ae) (decide_eq_false (fun h => h rfl)) ?_
 refine Aa rfl (By (Al rfl <| Ae) (Ae)) ?_
 refine Aa rfl (Bg (Ar rfl <| Al rfl <| Ae) (decide_eq_false (fun h => h rfl)) (Ae)) ?_
 refine Ah <| Ab <| Am (Ae) (decide_eq_false (fun h => h rfl)) ?_
 refine Au <| Ab <| Af <| Ai fun ds => Aa rfl (A8 Bw (Bq rfl <| Bq rfl <| Bq rfl <| Ae) rfl rfl (A3 1 rfl)) ?_
 refine Bk rfl (B6 bd_33 A1 (.cons (Ae) .nil) (clean_top_ok hr) fun v19 F20 hr21 hF22 => ?_)
 replace hr := hr.mono hF22
 obtain ⟨vy, rfl, hy⟩ := hr21
 refine Aa rfl (Ag (Ae)) ?_
 refine Aa rfl (Ax (Ae) rfl) ?_
 refine Aa rfl (Ax (Al rfl <| Ae) rfl) ?_
 refine Aa rfl (Ac (Al rfl <| Ae)) ?_
 refine Aa rfl (Ac (Al rfl <| Ae)) ?_
 refine Ah <| Ab <| Af <| Ai fun ds => Aa rfl (A8 Bw (Bq rfl <| Bq rfl <| Bq rfl <| Az rfl <| Ar rfl <| Al rfl <| Ae) rfl rfl (A3 1 rfl)) ?_
 refine Bk rfl (B6 bd_34 A1 (.cons (Ae) .nil) (refClean_ok hr) fun v23 F24 hr25 hF26 => ?_)
 replace hy := hy.mono hF26
 obtain ⟨vz, rfl, hz⟩ := hr25
 refine Aa rfl (Ag (Ae)) ?_
 refine Aa rfl (Ax (Ae) rfl) ?_
 refine Aa rfl (Ax (Al rfl <| Ae) rfl) ?_
 refine Aa rfl (Ac (Al rfl <| Ae)) ?_
 refine Aa rfl (Ac (Al rfl <| Ae)) ?_
 refine Ah <| Ab <| Af <| Ai fun ds => Aa rfl (Ag (A7 rfl <| Ae)) ?_
 refine Aa rfl (Ag (Ar rfl <| Ae)) ?_
 refine B0 rfl (Bj bd_20 A1 (.cons (Al rfl <| Ae) (.cons (Ae) .nil)) (Ej (Nats.ints hy) (Nats.ints hz)) (fun _ _ h => h)) ?_
 refine Aa rfl (Ag (Ae)) ?_
 refine At rfl rfl (Ae) (decide_eq_true rfl) ?_
 refine Aa rfl (Ag (A7 rfl <| Ar rfl <| Al rfl <| Ae)) ?_
 refine At rfl rfl (Al rfl <| Ae) (decide_eq_true rfl) ?_
 refine Aa rfl (Ag (Az rfl <| Al rfl <| Ae)) ?_
 refine At rfl rfl (Ar rfl <| Ae) (decide_eq_true rfl) ?_
 refine Aa rfl (Bx (Al rfl <| Ae) (Ae)) ?_
 refine Aa rfl (A6 (Ar rfl <| Al rfl <| Ae) (decide_eq_true rfl) (Ae)) ?_
 refine Aa rfl (Ag (Ae)) ?_
 refine At rfl rfl (Ae) (decide_eq_true rfl) ?_
 refine B0 rfl (Bj bd_26 A1 .nil awake_ok (fun _ _ h => h)) ?_
 refine Aa rfl (A6 (Al rfl <| Ae) (decide_eq_true rfl) (Ae)) ?_
 refine Aa rfl (Ac (Ae)) ?_
 refine Ah <| Ab <| A4 <| Ay rfl (.tmp (Ae) .nil) ?_
 rfl
end Go.Proofs.Ytccogmkhijgelaa
namespace Go.Proofs.Ytccogmkhijgelaa
open Go.ChangeShapes Go.WideShapes Go.ChangeAt Go.RowKit
set_option maxRecDepth 100000 in
theorem stemBestLifted (os : Os) (started : os.Started) (H : Type) (enc : TypeId × Value → H) :
   ReturnsInHanded {} Try.checked os 4 .any (Rows.stemBestSpec.pre6 enc Try.prog Try.f4 Rows.stemBestRow.domain false) (Rows.stemBestSpec.post enc Try.prog Try.f4 false true false false) := by
 refine returnsInHanded_of_change_sized (C := Try.checked) ownKnob0 started (by kernel_rfl) Try.func4
   (ChangeSpec.witness6 (enc := enc) (C := Try.checked) false ⟨#[], #[.agg #[.slice none 0 0, .slice none 0 0], .agg #[.int .i64 0, .int .i64 0]], []⟩ 8 (by kernel_rfl) (by kernel_rfl) (by kernel_rfl) (by kernel_rfl)) ?_
 intro W base args ds gs before hval0 hW hcnd hsz _
 have hval : ∀ (j : Nat) t v, Try.f4.params[j]? = some t → args[j]? = some v → Value.okWide Try.prog W .any base t v := hval0
 have hW' := hW
 obtain ⟨p, q, hA0, hV, rfl, hfz, hnd⟩ := hW
 have hA : DataW.TrodAll enc Try.prog W 0 (fun _ => true) true Try.f4.params.toList args.toList ds p := hA0
 rw [Try.params4] at hA hval
 obtain ⟨v0, vs0, d0, ds0, p0, q0, hargs, rfl, rfl, h0, r0⟩ := trodAll_cons hA
 obtain ⟨v1, vs1, d1, ds1, p1, q1, rfl, rfl, rfl, h1, r1⟩ := trodAll_cons r0
 obtain ⟨rfl, rfl, rfl⟩ := trodAll_nil r1
 obtain rfl : args = #[v0, v1] := by cases args; simp_all
 obtain ⟨rfl, rfl⟩ := trodVars_none hV
 have hsz' : (DataW.weightsEach Try.prog (Try.f4.params.toList ++ []) ([d0, d1] ++ [])).all (· ≤ reachBytes) = true := hsz
 rw [Try.params4] at hsz'
 have k0 := h0
 have lt0 : ∀ x ∈ p0, x.block < W.heap.size := by obtain ⟨m, hm⟩ := k0; exact DataW.trod_lt m _ _ _ hm
 have k1 := h1
 have lt1 : ∀ x ∈ p1, x.block < W.heap.size := by obtain ⟨m, hm⟩ := k1; exact DataW.trod_lt m _ _ _ hm
 obtain ⟨vp, ve, ps, s, rfl, hr⟩ := arg_stem (hval 0 25 v0 rfl rfl) h0 (weights_at hsz' (j := 0) rfl rfl)
 obtain ⟨x0, x1, rfl⟩ := arg_pair (hval 1 27 v1 rfl rfl) h1 (weights_at hsz' (j := 1) rfl rfl)
 clear hA0 hval0
 refine (Ok.law (bestLaw_ok hr x0 x1)).mono fun e W' ⟨he, bel⟩ => ?_
 subst he
 exact ⟨_, rfl, _, _, _, [], _, [], hW', trodAll_mk1 (shut_bool Try.underlying4 _), (trodAll_cons_mk (Below.trod laidOut (by kernel_rfl) (of_decide_eq_true (by kernel_rfl)) k0 bel lt0) (trodAll_cons_mk (Below.trod laidOut (by kernel_rfl) (of_decide_eq_true (by kernel_rfl)) k1 bel lt1) trodAll_mk0)), rfl, bel.frame _, fun h => by cases h⟩
theorem stemBest : Rows.StemBestSaid :=
 OpenClaim.holds_of_wide 4 Try.f4 rfl rfl rfl rfl rfl rfl rfl ⟨rfl, rfl, rfl, rfl, rfl⟩ rfl rfl rfl rfl rfl (by kernel_rfl) Try.func4 (by kernel_rfl)
   (of_decide_eq_true (by kernel_rfl)) (by unfold Func.isWrapper; first | (rw [if_pos (by decide +kernel)]; kernel_rfl) | (rw [if_neg (by decide +kernel)]; exact ⟨rfl, rfl⟩))
   (fun os started H enc _ => stemBestLifted os started H enc)
#print axioms stemBest
end Go.Proofs.Ytccogmkhijgelaa
