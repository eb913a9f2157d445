/-
  StemReadings returns true of any stem, numbers, edition and place, and leaves what it is handed as it was. No conditions.
-/
import Derived.Test.YtccogmkhijgelaaPae
namespace Go.Proofs.Ytccogmkhijgelaa
open Go.RowKit
theorem bd_70 : Body Try.prog 70 := Bq (by kernel_rfl)
theorem bd_71 : Body Try.prog 71 := Bq (by kernel_rfl)
theorem bd_88 : Body Try.prog 88 := Bq (by kernel_rfl)
theorem bd_89 : Body Try.prog 89 := Bq (by kernel_rfl)
theorem bd_90 : Body Try.prog 90 := Bq (by kernel_rfl)
theorem bd_94 : Body Try.prog 94 := Bq (by kernel_rfl)
theorem el_26 : ElemT Try.prog 26 1 24 (.slice none 0 0) := elemT_of (by kernel_rfl) rfl (by decide)
theorem Ey : SliceT Try.prog 114 26 1 := Ep (by kernel_rfl)
set_option maxRecDepth 100000 in
theorem filled_zero {F : Heap} {vp ve : Value} {ps : List (Value × Edn)} {s : Stm} (hr : StmR F vp ve ps s) (hv : ValidT s) {p : Nat} (_hp : p < s.places.length) {v : Value} {b : List Int} (hb : Ints F v b) (hbl : b.length = s.editions.length) : Ok Try.prog 89 [.agg #[vp, ve], .int .i64 (p : Int), v].toArray F fun u F' => LstZ F' u (fillF s p 0 b) := by
 refine Ok.intro Try.func89 rfl Try.ntmps89 rfl fun w0 => ?_
 have hL := hb.plain.lt
 have hlen := hr.len
 have hL1 := hr.eds.plain.lt
 have hne := hv.ne
 refine Af <| Ai fun ds => Bm rfl (B2 (Aj rfl) rfl fun b1 hb1 nb1 => ?_)
 refine Aa rfl (Ae Ab) ?_
 refine Ah <| Ac <| Af <| Af <| Ai fun ds => Aa rfl (Ag (Ar rfl <| Aj rfl)) ?_
 refine Aa rfl (Bk Be (Ad) hb.plain) ?_
 refine Aa rfl (Ao Bv (Ar rfl <| Al rfl <| Ad)) ?_
 refine Aa rfl (Ap Bz (Ad) (Cell.own 0 rfl rfl)) ?_
 refine Aa rfl (Bk B5 (Ad) hr.eds.plain) ?_
 refine Aa rfl (Bs (Ar rfl <| Al rfl <| Ad) (Ad)) ?_
 refine Ah <| Ac <| Aq (Ad) (decide_eq_true (by omega)) ?_
 refine Af <| Ai fun ds => Aa rfl (Ag (A6 rfl <| Aj rfl)) ?_
 refine Bm rfl (B6 Ey zr_26 rfl (.cons (Ad) .nil) rfl rfl (by decide) (by intro u hu; simp only [List.mem_cons, List.not_mem_nil, or_false] at hu; subst hu; exact hb.plain.one) fun b2 hb2 nb2 => ?_)
 refine B8 (i := 0) rfl hb2 .here fun F3 hF4 hz5 => ?_
 replace hb := hb.mono hF4
 have hsl6 := lstz_box1 hz5
 refine Aa rfl (Ae (Ad)) ?_
 refine Ah <| Ac <| A4 <| Bg ?_
 refine Ax rfl (.tmp (Ad) .nil) ?_
 exact hsl6 _ hb
set_option maxRecDepth 100000 in
theorem filled_step {F : Heap} {vp ve : Value} {ps : List (Value × Edn)} {s : Stm} (hr : StmR F vp ve ps s) (hv : ValidT s) {p : Nat} (_hp : p < s.places.length) {v : Value} {b : List Int} (hb : Ints F v b) {r : Nat} (hbl : b.length + (r + 1) = s.editions.length) (ih : ∀ {G : Heap} {w : Value} {c : List Int}, StmR G vp ve ps s → Ints G w c → c.length + r = s.editions.length → Ok Try.prog 89 [.agg #[vp, ve], .int .i64 (p : Int), w].toArray G fun u G2 => LstZ G2 u (fillF s p r c)) : Ok Try.prog 89 [.agg #[vp, ve], .int .i64 (p : Int), v].toArray F fun u F' => LstZ F' u (fillF s p (r + 1) b) := by
 have hle0 : F.le F := Heap.le_refl _
 refine Ok.intro Try.func89 rfl Try.ntmps89 rfl fun w0 => ?_
 have hL := hb.plain.lt
 have hlen := hr.len
 have hL1 := hr.eds.plain.lt
 have hne := hv.ne
 have hxn : b.length < s.editions.length := by omega
 have hxp : b.length < ps.length := by omega
 have hrx := hr.rd hxp
 have hpx : p < (s.ed b.length).rd.length := by rw [hv.rdl _ hxn]; exact _hp
 have er := C3 hpx
 refine Af <| Ai fun ds => Bm rfl (B2 (Aj rfl) rfl fun b1 hb1 nb1 => ?_)
 refine Aa rfl (Ae Ab) ?_
 refine Ah <| Ac <| Af <| Af <| Ai fun ds => Aa rfl (Ag (Ar rfl <| Aj rfl)) ?_
 refine Aa rfl (Bk Be (Ad) hb.plain) ?_
 refine Aa rfl (Ao Bv (Ar rfl <| Al rfl <| Ad)) ?_
 refine Aa rfl (Ap Bz (Ad) (Cell.own 0 rfl rfl)) ?_
 refine Aa rfl (Bk B5 (Ad) hr.eds.plain) ?_
 refine Aa rfl (Bs (Ar rfl <| Al rfl <| Ad) (Ad)) ?_
 refine Ah <| Ac <| Am (Ad) (decide_eq_false (by omega)) ?_
 refine Aw <| Ac <| Af <| Ai fun ds => Aa rfl (Ae Ab) ?_
 refine Ah <| Ac <| Af <| Ai fun ds => Aa rfl (Ao Bv (A6 rfl <| Ad)) ?_
 refine Aa rfl (Ap Bz (Ad) (Cell.own 0 rfl rfl)) ?_
 refine Aa rfl (Ag (A6 rfl <| Ar rfl <| Al rfl <| Aj rfl)) ?_
 refine Aa rfl (Bk Be (Ad) hb.plain) ?_
 refine Aa rfl (A9 (k := b.length) B5 (Ar rfl <| Ad) hr.eds.plain (Ad) rfl hxp) ?_
 refine Aa rfl (Bo Ca (Ad)) ?_
 refine Aa rfl (Ap Cb (Ad) (hr.eds.cell hxp rfl)) ?_
 refine Aa rfl (Ag (A3 rfl <| Aj rfl)) ?_
 refine Aa rfl (A9 (k := p) Be (Al rfl <| Ad) hrx.plain (Ad) rfl hpx) ?_
 refine Aa rfl (Ap Bj (Ad) (hrx.cell1 hpx rfl)) ?_
 refine Aa rfl (Ae (Ad)) ?_
 refine Ah <| Ac <| Af <| Af <| Ai fun ds => Aa rfl (Ae Ab) ?_
 refine Ah <| Ac <| Az <| Bu [7, 9, 28, 29, 30, 31, 32, 33, 34, 35, 36, 37, 38, 39, 40, 41, 42, 43, 44, 45, 46, 47, 48, 49] (fun m e σ => ∃ G, F.le G ∧ StmR G vp ve ps s ∧ Ints G v b ∧ ∃ j : Nat, m + j = 3 ∧ e 9 = .int .i64 ((j : Int) + 1) ∧ ∃ v7 R7 qs, e 7 = v7 ∧ Own 26 1 v7 qs.length (qs.flatMap slZ) R7 ∧ AllZ G qs ∧ qs.map (·.2) = filTo s p r b j ∧ σ = ⟨G, (b1, bx 25 [vp, ve]) :: R7⟩) (3) ?_ ?_
 · exact ⟨_, hle0, hr, hb, 0, by omega, (Ad), _, _, [], (A6 rfl <| Ay rfl <| Ad), Own.nil, AllZ.nil, rfl, rfl⟩
 ·
  rintro m e _ ⟨G, hle0, hr, hb, j, hm, hs9, v7, R7, qs, hs7, ho, hqa, hqs, rfl⟩
  by_cases hlt : j < 3
  ·
   refine Af <| Af <| Ai fun ds => Aa rfl (Ag (As rfl hs9)) ?_
   refine Aa rfl (D7 (Ad) Ab) ?_
   refine Ah <| Ac <| Aq (Ad) (decide_eq_true (by omega)) ?_
   have hqb : qs.length ≤ 729 := by rw [D3 hqs]; exact filTo_len5 (by omega) (by omega)
   by_cases hz : s.r b.length p = 0
   ·
    have hfit : fitR s p b.length ((j : Int) + 1) := .inl hz
    refine Aw <| Ac <| Af <| Az <| Af <| Ai fun ds => Aa rfl (Ag (Ar rfl <| Ak rfl <| Al rfl <| Ad)) ?_
    refine Aa rfl (Bs (Ad) Ab) ?_
    refine Aa rfl (Ag (Ad)) ?_
    refine At rfl rfl (Ad) (.inl (congrArg Value.bool (by rw [er]; exact decide_eq_true hz))) rfl ?_
    refine At rfl rfl (Al rfl <| Ad) (.inl (congrArg Value.bool (by rw [er]; exact decide_eq_true hz))) rfl ?_
    refine At rfl rfl (Ar rfl <| Ad) (.inl (congrArg Value.bool (by rw [er]; exact decide_eq_true hz))) rfl ?_
    refine Aa rfl (A2 (Ar rfl <| Al rfl <| Ad) (by rw [er]; exact decide_eq_true hz) Ab) ?_
    refine Ah <| Ac <| Aq (Ad) rfl ?_
    have hleS := hle0
    refine Cv (.inl rfl) (fun _ _ h => h) (.cons_cons _ <| List.nil_sublist _) [] (by kernel_rfl) fun ds => ?_
    refine A5 0 rfl (by kernel_rfl) (by kernel_rfl) (by kernel_rfl) (by kernel_rfl) rfl rfl (fun _ h => h.drop (.cons_cons _ <| List.nil_sublist _)) (fun _ _ _ h => h) (Ag (A6 rfl <| Al rfl <| As rfl hs7)) ?_
    refine A5 1 rfl (by kernel_rfl) (by kernel_rfl) (by kernel_rfl) (by kernel_rfl) rfl rfl (fun _ h => h.drop (.cons_cons _ <| List.nil_sublist _)) (fun _ _ _ h => h) (Bf B0 (A6 rfl <| Ar rfl <| Ak rfl <| A3 rfl <| Ay rfl <| Ad) rfl rfl (A8 0 rfl)) ?_
    refine A5 2 rfl (by kernel_rfl) (by kernel_rfl) (by kernel_rfl) (by kernel_rfl) rfl rfl (fun _ h => h.drop (.cons_cons _ <| List.nil_sublist _)) (fun _ _ _ h => h) (Ag (A6 rfl <| Ar rfl <| Al rfl <| Ak rfl <| A3 rfl <| Ay rfl <| Al rfl <| Aj rfl)) ?_
    refine A5 4 rfl (by kernel_rfl) (by kernel_rfl) (by kernel_rfl) (by kernel_rfl) rfl rfl (fun _ h => h.drop (.cons_cons _ <| List.nil_sublist _)) (fun _ _ _ h => h) (Ag (A6 rfl <| Ay rfl <| Ak rfl <| A3 rfl <| Ay rfl <| Al rfl <| Aj rfl)) ?_
    refine A5 6 rfl (by kernel_rfl) (by kernel_rfl) (by kernel_rfl) (by kernel_rfl) rfl rfl (fun _ h => h.drop (.cons_cons _ <| List.nil_sublist _)) (fun _ _ _ h => h) (Ag (A6 rfl <| Ay rfl <| Al rfl <| As rfl hs9)) ?_
    refine WX_pick [3, 7] (by kernel_rfl) (by decide) (in2 ?_ ?_)
    ·
     refine WXop_x rfl rfl (x_build0 Be fun b3 hb3 nb3 => ⟨fun _ _ => (fun _ h => h.drop (.cons _ <| .cons_cons _ <| List.nil_sublist _)), ?_⟩)
     refine WX_pick [5, 7] (by kernel_rfl) (by decide) (in2 ?_ ?_)
     ·
      refine WXop_x rfl rfl (B9 Be el_3 (Ad) (E2 rfl) (Ar rfl <| Ad) hb.srcInt (by omega) (by omega) (.z) .box fun v4 R5 ho6 => ⟨fun _ _ => (fun _ h => h.drop (List.sublist_append_of_sublist_right <| .cons_cons _ <| List.nil_sublist _)), ?_⟩)
      have ho2 : Own 3 1 v4 b.length (b.flatMap intE) R5 := by simpa using ho6
      refine Dz 7 rfl (by kernel_rfl) rfl (B6 Be Da rfl (.cons (Ar rfl <| Ad) .nil) rfl rfl (by decide) (by simp [Value.oneCell']) fun b7 hb7 nb7 => ⟨fun _ _ => (fun _ h => h.drop (.cons _ <| List.sublist_append_of_sublist_right <| .cons_cons _ <| List.nil_sublist _)), ?_⟩)
      refine Dz 8 rfl (by kernel_rfl) rfl (B9 Be el_3 (Al rfl <| Ad) ho2 (Ad) (Dd (s := 1) 0 rfl rfl (by simp [Value.oneCell'])) (by omega) (by omega) (.s <| .z) .more fun v8 R9 ho10 => ⟨fun _ _ => (fun _ h => h.drop (.cons _ <| List.sublist_append_of_sublist_right <| .cons_cons _ <| List.nil_sublist _)), ?_⟩)
      have ho3 := ho10.snoc (x := (j : Int) + 1) rfl rfl
      refine WX_freezeR (σ := ⟨_, _⟩) (by rfl) ho3 (.s <| .z) .more fun F11 hF12 hz13 => ?_
      replace hr := hr.mono hF12
      replace hb := hb.mono hF12
      replace hqa := hqa.mono hF12
      replace hle0 := Heap.le_trans hle0 hF12
      have hn2 := ho3.sl (fun _ => rfl) hz13 (by simp only [List.length_append, List.length_singleton]; omega)
      refine Dz 9 rfl (by kernel_rfl) rfl (Ch bd_89 A0 (.cons (Ay rfl <| Ar rfl <| Al rfl <| Ad) (.cons (Ay rfl <| Ar rfl <| Ad) (.cons (Ad) .nil))) (ih hr hn2 (by simp only [List.length_append, List.length_singleton]; omega)) fun v14 F15 hr16 hF17 => ⟨fun _ _ _ h => (h.drop (.cons _ <| .cons_cons _ <| List.nil_sublist _)).weak (Heap.le_trans hF12 hF17) hleS, ?_⟩)
      replace hr := hr.mono hF17
      replace hb := hb.mono hF17
      replace hqa := hqa.mono hF17
      replace hle0 := Heap.le_trans hle0 hF17
      obtain ⟨zs, hzs, hza, hzm⟩ := hr16
      have hzl : zs.length ≤ 243 := by rw [D3 hzm]; exact Et (by omega)
      refine Dz 10 rfl (by kernel_rfl) rfl (B9 Ey el_26 (A6 rfl <| Al rfl <| Ad) ho (Ad) (hzs.srcM (fun _ => rfl) hza.one) (by omega) (by omega) (.s <| .s <| .z) .last fun v18 R19 ho20 => ⟨fun _ _ => (fun _ h => (h.drop (.cons _ <| .cons_cons _ <| List.nil_sublist _)).weak (Heap.le_trans hF12 hF17) hleS), ?_⟩)
      have ho6 := ho20
      refine A5 11 rfl (by kernel_rfl) (by kernel_rfl) (by kernel_rfl) (by kernel_rfl) rfl rfl (fun _ h => (h.drop (.cons _ <| .cons_cons _ <| List.nil_sublist _)).weak (Heap.le_trans hF12 hF17) hleS) (fun _ _ _ h => h) (Ae (Ad)) ?_
      refine Ct (by kernel_rfl) ?_ _
      refine Bb <| Ac <| C5 (fun _ _ h => h.drop (.cons _ <| .cons_cons _ <| .refl _)) ?_
      refine Ai fun ds => Aa rfl (Ag (A3 rfl <| Ay rfl <| Al rfl <| As rfl hs9)) ?_
      refine Aa rfl (Br (Ad) Ab rfl (by omega) (by omega)) ?_
      refine Aa rfl (Ae (Ad)) ?_
      refine Ah <| Ac ⟨_, m - 1, Off.eq (Cr rfl <| Dj rfl <| Bd), by omega, ?_⟩
      exact ⟨_, hle0, hr, hb, j + 1, by omega, ((Ad)).trans (congrArg (Value.int .i64) (by omega)), _, _, qs ++ zs, (Ar rfl <| Al rfl <| Ad), by rw [flat_sndZ, List.length_append]; exact ho6, hqa.add hza, by rw [List.map_append, hqs, hzm, filTo_yes hlt hfit], rfl⟩
     ·
      refine WXop_x rfl rfl (B6 Be Da rfl (.cons (Al rfl <| Ad) .nil) rfl rfl (by decide) (by simp [Value.oneCell']) fun b21 hb21 nb21 => ⟨fun _ _ => (fun _ h => h.drop (.cons _ <| .cons _ <| .cons_cons _ <| List.nil_sublist _)), ?_⟩)
      refine Dz 5 rfl (by kernel_rfl) rfl (B9 Be el_3 (Al rfl <| Ad) (E2 rfl) (Ar rfl <| Al rfl <| Ad) hb.srcInt (by omega) (by omega) (.s <| .z) .box fun v22 R23 ho24 => ⟨fun _ _ => (fun _ h => h.drop (.cons _ <| List.sublist_append_of_sublist_right <| .cons_cons _ <| List.nil_sublist _)), ?_⟩)
      have ho2 : Own 3 1 v22 b.length (b.flatMap intE) R23 := by simpa using ho24
      refine Dz 8 rfl (by kernel_rfl) rfl (B9 Be el_3 (Ad) ho2 (Al rfl <| Ad) (Dd (s := 1) 0 rfl rfl (by simp [Value.oneCell'])) (by omega) (by omega) (.s <| .z) .more fun v25 R26 ho27 => ⟨fun _ _ => (fun _ h => h.drop (.cons _ <| List.sublist_append_of_sublist_right <| .cons_cons _ <| List.nil_sublist _)), ?_⟩)
      have ho3 := ho27.snoc (x := (j : Int) + 1) rfl rfl
      refine WX_freezeR (σ := ⟨_, _⟩) (by rfl) ho3 (.s <| .z) .more fun F28 hF29 hz30 => ?_
      replace hr := hr.mono hF29
      replace hb := hb.mono hF29
      replace hqa := hqa.mono hF29
      replace hle0 := Heap.le_trans hle0 hF29
      have hn2 := ho3.sl (fun _ => rfl) hz30 (by simp only [List.length_append, List.length_singleton]; omega)
      refine Dz 9 rfl (by kernel_rfl) rfl (Ch bd_89 A0 (.cons (Ay rfl <| Ar rfl <| Al rfl <| Ad) (.cons (Ay rfl <| Ar rfl <| Ad) (.cons (Ad) .nil))) (ih hr hn2 (by simp only [List.length_append, List.length_singleton]; omega)) fun v31 F32 hr33 hF34 => ⟨fun _ _ _ h => (h.drop (.cons _ <| .cons_cons _ <| List.nil_sublist _)).weak (Heap.le_trans hF29 hF34) hleS, ?_⟩)
      replace hr := hr.mono hF34
      replace hb := hb.mono hF34
      replace hqa := hqa.mono hF34
      replace hle0 := Heap.le_trans hle0 hF34
      obtain ⟨zs, hzs, hza, hzm⟩ := hr33
      have hzl : zs.length ≤ 243 := by rw [D3 hzm]; exact Et (by omega)
      refine Dz 10 rfl (by kernel_rfl) rfl (B9 Ey el_26 (A6 rfl <| Al rfl <| Ad) ho (Ad) (hzs.srcM (fun _ => rfl) hza.one) (by omega) (by omega) (.s <| .s <| .z) .last fun v35 R36 ho37 => ⟨fun _ _ => (fun _ h => (h.drop (.cons _ <| .cons_cons _ <| List.nil_sublist _)).weak (Heap.le_trans hF29 hF34) hleS), ?_⟩)
      have ho6 := ho37
      refine A5 11 rfl (by kernel_rfl) (by kernel_rfl) (by kernel_rfl) (by kernel_rfl) rfl rfl (fun _ h => (h.drop (.cons _ <| .cons_cons _ <| List.nil_sublist _)).weak (Heap.le_trans hF29 hF34) hleS) (fun _ _ _ h => h) (Ae (Ad)) ?_
      refine Ct (by kernel_rfl) ?_ _
      refine Bb <| Ac <| C5 (fun _ _ h => h.drop (.cons _ <| .cons_cons _ <| .refl _)) ?_
      refine Ai fun ds => Aa rfl (Ag (A3 rfl <| Ay rfl <| Al rfl <| As rfl hs9)) ?_
      refine Aa rfl (Br (Ad) Ab rfl (by omega) (by omega)) ?_
      refine Aa rfl (Ae (Ad)) ?_
      refine Ah <| Ac ⟨_, m - 1, Off.eq (Cr rfl <| Dj rfl <| Bd), by omega, ?_⟩
      exact ⟨_, hle0, hr, hb, j + 1, by omega, ((Ad)).trans (congrArg (Value.int .i64) (by omega)), _, _, qs ++ zs, (Ar rfl <| Al rfl <| Ad), by rw [flat_sndZ, List.length_append]; exact ho6, hqa.add hza, by rw [List.map_append, hqs, hzm, filTo_yes hlt hfit], rfl⟩
    ·
     refine WXop_x rfl rfl (B6 Be Da rfl (.cons (Ad) .nil) rfl rfl (by decide) (by simp [Value.oneCell']) fun b38 hb38 nb38 => ⟨fun _ _ => (fun _ h => h.drop (.cons _ <| .cons_cons _ <| List.nil_sublist _)), ?_⟩)
     refine Dz 3 rfl (by kernel_rfl) rfl (x_build0 Be fun b39 hb39 nb39 => ⟨fun _ _ => (fun _ h => h.drop (.cons _ <| .cons _ <| .cons_cons _ <| List.nil_sublist _)), ?_⟩)
     refine Dz 5 rfl (by kernel_rfl) rfl (B9 Be el_3 (Ad) (E2 rfl) (Ar rfl <| Al rfl <| Ad) hb.srcInt (by omega) (by omega) (.z) .box fun v40 R41 ho42 => ⟨fun _ _ => (fun _ h => h.drop (List.sublist_append_of_sublist_right <| .cons _ <| .cons_cons _ <| List.nil_sublist _)), ?_⟩)
     have ho2 : Own 3 1 v40 b.length (b.flatMap intE) R41 := by simpa using ho42
     refine Dz 8 rfl (by kernel_rfl) rfl (B9 Be el_3 (Ad) ho2 (Ar rfl <| Ad) (src_boxM (s := 1) (List.mem_append_right _ <| .head _) rfl (by simp [Value.oneCell'])) (by omega) (by omega) (.z) .more fun v43 R44 ho45 => ⟨fun _ _ => (fun _ h => h.drop (List.sublist_append_of_sublist_right <| .cons _ <| .cons_cons _ <| List.nil_sublist _)), ?_⟩)
     have ho3 := ho45.snoc (x := (j : Int) + 1) rfl rfl
     refine WX_freezeR (σ := ⟨_, _⟩) (by rfl) ho3 (.z) .more fun F46 hF47 hz48 => ?_
     replace hr := hr.mono hF47
     replace hb := hb.mono hF47
     replace hqa := hqa.mono hF47
     replace hle0 := Heap.le_trans hle0 hF47
     have hn2 := ho3.sl (fun _ => rfl) hz48 (by simp only [List.length_append, List.length_singleton]; omega)
     refine Dz 9 rfl (by kernel_rfl) rfl (Ch bd_89 A0 (.cons (Ay rfl <| Ar rfl <| Al rfl <| Ad) (.cons (Ay rfl <| Ar rfl <| Ad) (.cons (Ad) .nil))) (ih hr hn2 (by simp only [List.length_append, List.length_singleton]; omega)) fun v49 F50 hr51 hF52 => ⟨fun _ _ _ h => (h.drop (.cons _ <| .cons_cons _ <| List.nil_sublist _)).weak (Heap.le_trans hF47 hF52) hleS, ?_⟩)
     replace hr := hr.mono hF52
     replace hb := hb.mono hF52
     replace hqa := hqa.mono hF52
     replace hle0 := Heap.le_trans hle0 hF52
     obtain ⟨zs, hzs, hza, hzm⟩ := hr51
     have hzl : zs.length ≤ 243 := by rw [D3 hzm]; exact Et (by omega)
     refine Dz 10 rfl (by kernel_rfl) rfl (B9 Ey el_26 (A6 rfl <| Al rfl <| Ad) ho (Ad) (hzs.srcM (fun _ => rfl) hza.one) (by omega) (by omega) (.s <| .s <| .z) .last fun v53 R54 ho55 => ⟨fun _ _ => (fun _ h => (h.drop (.cons _ <| .cons_cons _ <| List.nil_sublist _)).weak (Heap.le_trans hF47 hF52) hleS), ?_⟩)
     have ho6 := ho55
     refine A5 11 rfl (by kernel_rfl) (by kernel_rfl) (by kernel_rfl) (by kernel_rfl) rfl rfl (fun _ h => (h.drop (.cons _ <| .cons_cons _ <| List.nil_sublist _)).weak (Heap.le_trans hF47 hF52) hleS) (fun _ _ _ h => h) (Ae (Ad)) ?_
     refine Ct (by kernel_rfl) ?_ _
     refine Bb <| Ac <| C5 (fun _ _ h => h.drop (.cons _ <| .cons_cons _ <| .refl _)) ?_
     refine Ai fun ds => Aa rfl (Ag (A3 rfl <| Ay rfl <| Al rfl <| As rfl hs9)) ?_
     refine Aa rfl (Br (Ad) Ab rfl (by omega) (by omega)) ?_
     refine Aa rfl (Ae (Ad)) ?_
     refine Ah <| Ac ⟨_, m - 1, Off.eq (Cr rfl <| Dj rfl <| Bd), by omega, ?_⟩
     exact ⟨_, hle0, hr, hb, j + 1, by omega, ((Ad)).trans (congrArg (Value.int .i64) (by omega)), _, _, qs ++ zs, (Ar rfl <| Al rfl <| Ad), by rw [flat_sndZ, List.length_append]; exact ho6, hqa.add hza, by rw [List.map_append, hqs, hzm, filTo_yes hlt hfit], rfl⟩
   ·
    refine Aw <| Ac <| Af <| Az <| Af <| Ai fun ds => Aa rfl (Ag (Ar rfl <| Ak rfl <| Al rfl <| Ad)) ?_
    refine Aa rfl (Bs (Ad) Ab) ?_
    refine Aa rfl (Ag (Ad)) ?_
    refine Au rfl rfl (Ad) (by rw [er]; exact decide_eq_false hz) ?_
    refine Aa rfl (Ag (Ay rfl <| Al rfl <| Ak rfl <| Al rfl <| Ad)) ?_
    refine Au rfl rfl (Al rfl <| Ad) (by rw [er]; exact decide_eq_false hz) ?_
    refine Aa rfl (Ag (Ay rfl <| Ar rfl <| As rfl hs9)) ?_
    refine Au rfl rfl (Ar rfl <| Ad) (by rw [er]; exact decide_eq_false hz) ?_
    refine Aa rfl (Bs (Al rfl <| Ad) (Ad)) ?_
    refine Aa rfl (A7 (Ar rfl <| Al rfl <| Ad) (by rw [er]; exact decide_eq_false hz) (Ad)) ?_
    refine Ah <| Ac ?_
    by_cases heq : s.r b.length p = (j : Int) + 1
    ·
     have hfit : fitR s p b.length ((j : Int) + 1) := .inr heq
     refine Aq (Ad) (by rw [er]; exact decide_eq_true heq) ?_
     have hleS := hle0
     refine Cv (.inl rfl) (fun _ _ h => h) (.cons_cons _ <| List.nil_sublist _) [] (by kernel_rfl) fun ds => ?_
     refine A5 0 rfl (by kernel_rfl) (by kernel_rfl) (by kernel_rfl) (by kernel_rfl) rfl rfl (fun _ h => h.drop (.cons_cons _ <| List.nil_sublist _)) (fun _ _ _ h => h) (Ag (A6 rfl <| Al rfl <| As rfl hs7)) ?_
     refine A5 1 rfl (by kernel_rfl) (by kernel_rfl) (by kernel_rfl) (by kernel_rfl) rfl rfl (fun _ h => h.drop (.cons_cons _ <| List.nil_sublist _)) (fun _ _ _ h => h) (Bf B0 (A6 rfl <| Ar rfl <| Ak rfl <| A3 rfl <| Ay rfl <| Ad) rfl rfl (A8 0 rfl)) ?_
     refine A5 2 rfl (by kernel_rfl) (by kernel_rfl) (by kernel_rfl) (by kernel_rfl) rfl rfl (fun _ h => h.drop (.cons_cons _ <| List.nil_sublist _)) (fun _ _ _ h => h) (Ag (A6 rfl <| Ar rfl <| Al rfl <| Ak rfl <| A3 rfl <| Ay rfl <| Al rfl <| Aj rfl)) ?_
     refine A5 4 rfl (by kernel_rfl) (by kernel_rfl) (by kernel_rfl) (by kernel_rfl) rfl rfl (fun _ h => h.drop (.cons_cons _ <| List.nil_sublist _)) (fun _ _ _ h => h) (Ag (A6 rfl <| Ay rfl <| Ak rfl <| A3 rfl <| Ay rfl <| Al rfl <| Aj rfl)) ?_
     refine A5 6 rfl (by kernel_rfl) (by kernel_rfl) (by kernel_rfl) (by kernel_rfl) rfl rfl (fun _ h => h.drop (.cons_cons _ <| List.nil_sublist _)) (fun _ _ _ h => h) (Ag (A6 rfl <| Ay rfl <| Al rfl <| As rfl hs9)) ?_
     refine WX_pick [3, 7] (by kernel_rfl) (by decide) (in2 ?_ ?_)
     ·
      refine WXop_x rfl rfl (x_build0 Be fun b56 hb56 nb56 => ⟨fun _ _ => (fun _ h => h.drop (.cons _ <| .cons_cons _ <| List.nil_sublist _)), ?_⟩)
      refine WX_pick [5, 7] (by kernel_rfl) (by decide) (in2 ?_ ?_)
      ·
       refine WXop_x rfl rfl (B9 Be el_3 (Ad) (E2 rfl) (Ar rfl <| Ad) hb.srcInt (by omega) (by omega) (.z) .box fun v57 R58 ho59 => ⟨fun _ _ => (fun _ h => h.drop (List.sublist_append_of_sublist_right <| .cons_cons _ <| List.nil_sublist _)), ?_⟩)
       have ho2 : Own 3 1 v57 b.length (b.flatMap intE) R58 := by simpa using ho59
       refine Dz 7 rfl (by kernel_rfl) rfl (B6 Be Da rfl (.cons (Ar rfl <| Ad) .nil) rfl rfl (by decide) (by simp [Value.oneCell']) fun b60 hb60 nb60 => ⟨fun _ _ => (fun _ h => h.drop (.cons _ <| List.sublist_append_of_sublist_right <| .cons_cons _ <| List.nil_sublist _)), ?_⟩)
       refine Dz 8 rfl (by kernel_rfl) rfl (B9 Be el_3 (Al rfl <| Ad) ho2 (Ad) (Dd (s := 1) 0 rfl rfl (by simp [Value.oneCell'])) (by omega) (by omega) (.s <| .z) .more fun v61 R62 ho63 => ⟨fun _ _ => (fun _ h => h.drop (.cons _ <| List.sublist_append_of_sublist_right <| .cons_cons _ <| List.nil_sublist _)), ?_⟩)
       have ho3 := ho63.snoc (x := (j : Int) + 1) rfl rfl
       refine WX_freezeR (σ := ⟨_, _⟩) (by rfl) ho3 (.s <| .z) .more fun F64 hF65 hz66 => ?_
       replace hr := hr.mono hF65
       replace hb := hb.mono hF65
       replace hqa := hqa.mono hF65
       replace hle0 := Heap.le_trans hle0 hF65
       have hn2 := ho3.sl (fun _ => rfl) hz66 (by simp only [List.length_append, List.length_singleton]; omega)
       refine Dz 9 rfl (by kernel_rfl) rfl (Ch bd_89 A0 (.cons (Ay rfl <| Ar rfl <| Al rfl <| Ad) (.cons (Ay rfl <| Ar rfl <| Ad) (.cons (Ad) .nil))) (ih hr hn2 (by simp only [List.length_append, List.length_singleton]; omega)) fun v67 F68 hr69 hF70 => ⟨fun _ _ _ h => (h.drop (.cons _ <| .cons_cons _ <| List.nil_sublist _)).weak (Heap.le_trans hF65 hF70) hleS, ?_⟩)
       replace hr := hr.mono hF70
       replace hb := hb.mono hF70
       replace hqa := hqa.mono hF70
       replace hle0 := Heap.le_trans hle0 hF70
       obtain ⟨zs, hzs, hza, hzm⟩ := hr69
       have hzl : zs.length ≤ 243 := by rw [D3 hzm]; exact Et (by omega)
       refine Dz 10 rfl (by kernel_rfl) rfl (B9 Ey el_26 (A6 rfl <| Al rfl <| Ad) ho (Ad) (hzs.srcM (fun _ => rfl) hza.one) (by omega) (by omega) (.s <| .s <| .z) .last fun v71 R72 ho73 => ⟨fun _ _ => (fun _ h => (h.drop (.cons _ <| .cons_cons _ <| List.nil_sublist _)).weak (Heap.le_trans hF65 hF70) hleS), ?_⟩)
       have ho6 := ho73
       refine A5 11 rfl (by kernel_rfl) (by kernel_rfl) (by kernel_rfl) (by kernel_rfl) rfl rfl (fun _ h => (h.drop (.cons _ <| .cons_cons _ <| List.nil_sublist _)).weak (Heap.le_trans hF65 hF70) hleS) (fun _ _ _ h => h) (Ae (Ad)) ?_
       refine Ct (by kernel_rfl) ?_ _
       refine Bb <| Ac <| C5 (fun _ _ h => h.drop (.cons _ <| .cons_cons _ <| .refl _)) ?_
       refine Ai fun ds => Aa rfl (Ag (A3 rfl <| Ay rfl <| Al rfl <| As rfl hs9)) ?_
       refine Aa rfl (Br (Ad) Ab rfl (by omega) (by omega)) ?_
       refine Aa rfl (Ae (Ad)) ?_
       refine Ah <| Ac ⟨_, m - 1, Off.eq (Cr rfl <| Dj rfl <| Bd), by omega, ?_⟩
       exact ⟨_, hle0, hr, hb, j + 1, by omega, ((Ad)).trans (congrArg (Value.int .i64) (by omega)), _, _, qs ++ zs, (Ar rfl <| Al rfl <| Ad), by rw [flat_sndZ, List.length_append]; exact ho6, hqa.add hza, by rw [List.map_append, hqs, hzm, filTo_yes hlt hfit], rfl⟩
      ·
       refine WXop_x rfl rfl (B6 Be Da rfl (.cons (Al rfl <| Ad) .nil) rfl rfl (by decide) (by simp [Value.oneCell']) fun b74 hb74 nb74 => ⟨fun _ _ => (fun _ h => h.drop (.cons _ <| .cons _ <| .cons_cons _ <| List.nil_sublist _)), ?_⟩)
       refine Dz 5 rfl (by kernel_rfl) rfl (B9 Be el_3 (Al rfl <| Ad) (E2 rfl) (Ar rfl <| Al rfl <| Ad) hb.srcInt (by omega) (by omega) (.s <| .z) .box fun v75 R76 ho77 => ⟨fun _ _ => (fun _ h => h.drop (.cons _ <| List.sublist_append_of_sublist_right <| .cons_cons _ <| List.nil_sublist _)), ?_⟩)
       have ho2 : Own 3 1 v75 b.length (b.flatMap intE) R76 := by simpa using ho77
       refine Dz 8 rfl (by kernel_rfl) rfl (B9 Be el_3 (Ad) ho2 (Al rfl <| Ad) (Dd (s := 1) 0 rfl rfl (by simp [Value.oneCell'])) (by omega) (by omega) (.s <| .z) .more fun v78 R79 ho80 => ⟨fun _ _ => (fun _ h => h.drop (.cons _ <| List.sublist_append_of_sublist_right <| .cons_cons _ <| List.nil_sublist _)), ?_⟩)
       have ho3 := ho80.snoc (x := (j : Int) + 1) rfl rfl
       refine WX_freezeR (σ := ⟨_, _⟩) (by rfl) ho3 (.s <| .z) .more fun F81 hF82 hz83 => ?_
       replace hr := hr.mono hF82
       replace hb := hb.mono hF82
       replace hqa := hqa.mono hF82
       replace hle0 := Heap.le_trans hle0 hF82
       have hn2 := ho3.sl (fun _ => rfl) hz83 (by simp only [List.length_append, List.length_singleton]; omega)
       refine Dz 9 rfl (by kernel_rfl) rfl (Ch bd_89 A0 (.cons (Ay rfl <| Ar rfl <| Al rfl <| Ad) (.cons (Ay rfl <| Ar rfl <| Ad) (.cons (Ad) .nil))) (ih hr hn2 (by simp only [List.length_append, List.length_singleton]; omega)) fun v84 F85 hr86 hF87 => ⟨fun _ _ _ h => (h.drop (.cons _ <| .cons_cons _ <| List.nil_sublist _)).weak (Heap.le_trans hF82 hF87) hleS, ?_⟩)
       replace hr := hr.mono hF87
       replace hb := hb.mono hF87
       replace hqa := hqa.mono hF87
       replace hle0 := Heap.le_trans hle0 hF87
       obtain ⟨zs, hzs, hza, hzm⟩ := hr86
       have hzl : zs.length ≤ 243 := by rw [D3 hzm]; exact Et (by omega)
       refine Dz 10 rfl (by kernel_rfl) rfl (B9 Ey el_26 (A6 rfl <| Al rfl <| Ad) ho (Ad) (hzs.srcM (fun _ => rfl) hza.one) (by omega) (by omega) (.s <| .s <| .z) .last fun v88 R89 ho90 => ⟨fun _ _ => (fun _ h => (h.drop (.cons _ <| .cons_cons _ <| List.nil_sublist _)).weak (Heap.le_trans hF82 hF87) hleS), ?_⟩)
       have ho6 := ho90
       refine A5 11 rfl (by kernel_rfl) (by kernel_rfl) (by kernel_rfl) (by kernel_rfl) rfl rfl (fun _ h => (h.drop (.cons _ <| .cons_cons _ <| List.nil_sublist _)).weak (Heap.le_trans hF82 hF87) hleS) (fun _ _ _ h => h) (Ae (Ad)) ?_
       refine Ct (by kernel_rfl) ?_ _
       refine Bb <| Ac <| C5 (fun _ _ h => h.drop (.cons _ <| .cons_cons _ <| .refl _)) ?_
       refine Ai fun ds => Aa rfl (Ag (A3 rfl <| Ay rfl <| Al rfl <| As rfl hs9)) ?_
       refine Aa rfl (Br (Ad) Ab rfl (by omega) (by omega)) ?_
       refine Aa rfl (Ae (Ad)) ?_
       refine Ah <| Ac ⟨_, m - 1, Off.eq (Cr rfl <| Dj rfl <| Bd), by omega, ?_⟩
       exact ⟨_, hle0, hr, hb, j + 1, by omega, ((Ad)).trans (congrArg (Value.int .i64) (by omega)), _, _, qs ++ zs, (Ar rfl <| Al rfl <| Ad), by rw [flat_sndZ, List.length_append]; exact ho6, hqa.add hza, by rw [List.map_append, hqs, hzm, filTo_yes hlt hfit], rfl⟩
     ·
      refine WXop_x rfl rfl (B6 Be Da rfl (.cons (Ad) .nil) rfl rfl (by decide) (by simp [Value.oneCell']) fun b91 hb91 nb91 => ⟨fun _ _ => (fun _ h => h.drop (.cons _ <| .cons_cons _ <| List.nil_sublist _)), ?_⟩)
      refine Dz 3 rfl (by kernel_rfl) rfl (x_build0 Be fun b92 hb92 nb92 => ⟨fun _ _ => (fun _ h => h.drop (.cons _ <| .cons _ <| .cons_cons _ <| List.nil_sublist _)), ?_⟩)
      refine Dz 5 rfl (by kernel_rfl) rfl (B9 Be el_3 (Ad) (E2 rfl) (Ar rfl <| Al rfl <| Ad) hb.srcInt (by omega) (by omega) (.z) .box fun v93 R94 ho95 => ⟨fun _ _ => (fun _ h => h.drop (List.sublist_append_of_sublist_right <| .cons _ <| .cons_cons _ <| List.nil_sublist _)), ?_⟩)
      have ho2 : Own 3 1 v93 b.length (b.flatMap intE) R94 := by simpa using ho95
      refine Dz 8 rfl (by kernel_rfl) rfl (B9 Be el_3 (Ad) ho2 (Ar rfl <| Ad) (src_boxM (s := 1) (List.mem_append_right _ <| .head _) rfl (by simp [Value.oneCell'])) (by omega) (by omega) (.z) .more fun v96 R97 ho98 => ⟨fun _ _ => (fun _ h => h.drop (List.sublist_append_of_sublist_right <| .cons _ <| .cons_cons _ <| List.nil_sublist _)), ?_⟩)
      have ho3 := ho98.snoc (x := (j : Int) + 1) rfl rfl
      refine WX_freezeR (σ := ⟨_, _⟩) (by rfl) ho3 (.z) .more fun F99 hF100 hz101 => ?_
      replace hr := hr.mono hF100
      replace hb := hb.mono hF100
      replace hqa := hqa.mono hF100
      replace hle0 := Heap.le_trans hle0 hF100
      have hn2 := ho3.sl (fun _ => rfl) hz101 (by simp only [List.length_append, List.length_singleton]; omega)
      refine Dz 9 rfl (by kernel_rfl) rfl (Ch bd_89 A0 (.cons (Ay rfl <| Ar rfl <| Al rfl <| Ad) (.cons (Ay rfl <| Ar rfl <| Ad) (.cons (Ad) .nil))) (ih hr hn2 (by simp only [List.length_append, List.length_singleton]; omega)) fun v102 F103 hr104 hF105 => ⟨fun _ _ _ h => (h.drop (.cons _ <| .cons_cons _ <| List.nil_sublist _)).weak (Heap.le_trans hF100 hF105) hleS, ?_⟩)
      replace hr := hr.mono hF105
      replace hb := hb.mono hF105
      replace hqa := hqa.mono hF105
      replace hle0 := Heap.le_trans hle0 hF105
      obtain ⟨zs, hzs, hza, hzm⟩ := hr104
      have hzl : zs.length ≤ 243 := by rw [D3 hzm]; exact Et (by omega)
      refine Dz 10 rfl (by kernel_rfl) rfl (B9 Ey el_26 (A6 rfl <| Al rfl <| Ad) ho (Ad) (hzs.srcM (fun _ => rfl) hza.one) (by omega) (by omega) (.s <| .s <| .z) .last fun v106 R107 ho108 => ⟨fun _ _ => (fun _ h => (h.drop (.cons _ <| .cons_cons _ <| List.nil_sublist _)).weak (Heap.le_trans hF100 hF105) hleS), ?_⟩)
      have ho6 := ho108
      refine A5 11 rfl (by kernel_rfl) (by kernel_rfl) (by kernel_rfl) (by kernel_rfl) rfl rfl (fun _ h => (h.drop (.cons _ <| .cons_cons _ <| List.nil_sublist _)).weak (Heap.le_trans hF100 hF105) hleS) (fun _ _ _ h => h) (Ae (Ad)) ?_
      refine Ct (by kernel_rfl) ?_ _
      refine Bb <| Ac <| C5 (fun _ _ h => h.drop (.cons _ <| .cons_cons _ <| .refl _)) ?_
      refine Ai fun ds => Aa rfl (Ag (A3 rfl <| Ay rfl <| Al rfl <| As rfl hs9)) ?_
      refine Aa rfl (Br (Ad) Ab rfl (by omega) (by omega)) ?_
      refine Aa rfl (Ae (Ad)) ?_
      refine Ah <| Ac ⟨_, m - 1, Off.eq (Cr rfl <| Dj rfl <| Bd), by omega, ?_⟩
      exact ⟨_, hle0, hr, hb, j + 1, by omega, ((Ad)).trans (congrArg (Value.int .i64) (by omega)), _, _, qs ++ zs, (Ar rfl <| Al rfl <| Ad), by rw [flat_sndZ, List.length_append]; exact ho6, hqa.add hza, by rw [List.map_append, hqs, hzm, filTo_yes hlt hfit], rfl⟩
    ·
     refine Am (Ad) (by rw [er]; exact decide_eq_false heq) ?_
     refine Aw <| Bb <| Ac <| Ai fun ds => Aa rfl (Ag (A6 rfl <| Al rfl <| As rfl hs9)) ?_
     refine Aa rfl (Br (Ad) Ab rfl (by omega) (by omega)) ?_
     refine Aa rfl (Ae (Ad)) ?_
     refine Ah <| Ac ⟨_, m - 1, Off.eq (Dj rfl <| Dv rfl <| Bd), by omega, ?_⟩
     exact ⟨_, hle0, hr, hb, j + 1, by omega, ((Ad)).trans (congrArg (Value.int .i64) (by omega)), _, _, qs, (A6 rfl <| Ay rfl <| As rfl hs7), ho, hqa, by rw [hqs, filTo_no hlt (fun h => heq ((fitR_known hz).1 h))], rfl⟩
  ·
   refine Af <| Af <| Ai fun ds => Aa rfl (Ag (As rfl hs9)) ?_
   refine Aa rfl (D7 (Ad) Ab) ?_
   refine Ah <| Ac <| Am (Ad) (decide_eq_false (by omega)) ?_
   obtain rfl : j = 3 := by omega
   have hqb : qs.length ≤ 729 := by rw [D3 hqs]; exact filTo_len5 (by omega) (by omega)
   refine Cw (σ := ⟨_, _⟩) (by rfl) ho (.s <| .z) .last fun F109 hF110 hz111 => ?_
   replace hqa := hqa.mono hF110
   have hsp := ho.sl (fun _ => rfl) hz111 (by omega)
   refine Bn ?_
   refine Ba <| Ba <| Bh <| Ac <| Af <| Ai fun ds => Aa rfl (Ag (Ar rfl <| As rfl hs7)) ?_
   refine Aa rfl (Ae (Ad)) ?_
   refine Ah <| Ac <| A4 <| Ax rfl (.tmp (Ad) .nil) ?_
   exact ⟨qs, hsp, hqa, by rw [hqs]; exact filTo_end⟩
theorem refFilled_ok {vp ve : Value} {ps : List (Value × Edn)} {s : Stm} (hv : ValidT s) {p : Nat} (hp : p < s.places.length) : ∀ (r : Nat) {F : Heap} {v : Value} {b : List Int}, StmR F vp ve ps s → Ints F v b → b.length + r = s.editions.length → Ok Try.prog 89 [.agg #[vp, ve], .int .i64 (p : Int), v].toArray F fun u F' => LstZ F' u (fillF s p r b)
 | 0, _, _, _, hr, hb, h => filled_zero hr hv hp hb (by omega)
 | r + 1, _, _, _, hr, hb, h => filled_step hr hv hp hb (by omega) (fun h1 h2 h3 => refFilled_ok hv hp r h1 h2 h3)
set_option maxRecDepth 100000 in
theorem refCounted_ok {F : Heap} {vp ve : Value} {ps : List (Value × Edn)} {s : Stm} (hr : StmR F vp ve ps s) (hv : ValidT s) {v : Value} {l : List Int} (hl : Ints F v l) (hll : l.length = s.editions.length) (ht : IsTree l) {p : Nat} (hp : p < s.places.length) {w : Value} {xs : List Int} (hx : Ints F w xs) (hxl : xs.length = l.length) : Ok Try.prog 90 [.agg #[vp, ve], v, .int .i64 (p : Int), w].toArray F fun u _ => u = .int .i64 (countL s l p xs) := by
 refine Ok.intro Try.func90 rfl Try.ntmps90 rfl fun w0 => ?_
 have hL := hl.plain.lt
 have hlen := hr.len
 have hL2 := hr.places.plain.lt
 have hne := hv.ne
 refine Af <| Ai fun ds => Bm rfl (B2 (Aj rfl) rfl fun b1 hb1 nb1 => ?_)
 refine Aa rfl (Ae Ab) ?_
 refine Ah <| Ac <| Af <| Ai fun ds => Aa rfl (Ae Ab) ?_
 refine Ah <| Ac <| Af <| Af <| Ai fun ds => Aa rfl (Ae Ab) ?_
 refine Ah <| Ac <| Az <| Bu [8, 9, 10, 11, 12, 13, 14, 15, 16, 17, 18, 19, 20, 21, 22, 23, 24, 25, 26, 27, 28, 29, 30, 31, 32, 33, 34, 35, 36, 37, 38, 39, 40, 41, 42, 43, 44, 45, 46, 47, 48, 49, 50, 51] (fun m e σ => ∃ i : Nat, m + i = l.length ∧ e 10 = .int .i64 (i : Int) ∧ e 9 = .int .i64 (sumN i (chg l (upN xs))) ∧ (∀ j, j < i → possAt s l p (upN xs) j = true) ∧ σ = ⟨F, [(b1, bx 25 [vp, ve])]⟩) (l.length) ?_ ?_
 · exact ⟨0, by omega, (Ad), (Al rfl <| Ad), fun j h => absurd h (by omega), rfl⟩
 ·
  rintro m e _ ⟨i, hm, hs10, hs9, hno, rfl⟩
  by_cases hlt : i < l.length
  ·
   have hcb := sum_chg_bound (l := l) (g := upN xs) (k := i)
   refine Af <| Af <| Ai fun ds => Aa rfl (Ag (As rfl hs10)) ?_
   refine Aa rfl (Ag (Al rfl <| Ak rfl <| Ay rfl <| Aj rfl)) ?_
   refine Aa rfl (Bk Be (Ad) hl.plain) ?_
   refine Aa rfl (Bw (Ar rfl <| Ad) (Ad)) ?_
   refine Ah <| Ac <| Aq (Ad) (by first | rfl | exact decide_eq_true (by omega)) ?_
   by_cases hu : upN l i = -1
   ·
    refine Aw <| Ac <| Af <| Az <| Af <| Af <| Ai fun ds => Aa rfl (Ag (Ay rfl <| Ak rfl <| Ay rfl <| Aj rfl)) ?_
    refine Aa rfl (Ag (Ay rfl <| Al rfl <| As rfl hs10)) ?_
    refine Aa rfl (A9 (k := i) Be (Al rfl <| Ad) hl.plain (Ad) rfl hlt) ?_
    refine Aa rfl (Ap Bj (Ad) (hl.cell1 hlt rfl)) ?_
    refine Aa rfl (Bs (Ad) Ab) ?_
    refine Ah <| Ac <| Aq (Ad) (by rw [C8 hlt]; exact decide_eq_true hu) ?_
    refine Bn ?_
    refine Ba (Bh ?_)
    refine Ac <| Ai fun ds => Aa rfl (Ag (A6 rfl <| Al rfl <| As rfl hs10)) ?_
    refine Aa rfl (Br (Ad) Ab rfl (by omega) (by omega)) ?_
    refine Aa rfl (Ae (Ad)) ?_
    refine Ah <| Ac ⟨_, m - 1, Off.eq (Dj rfl <| Dv rfl <| Bd), by omega, ?_⟩
    exact ⟨i + 1, by omega, (Ad), ((A6 rfl <| Ay rfl <| As rfl hs9)).trans (congrArg (Value.int .i64) (show _ = sumN i _ + _ by rw [chg_root hu]; first | done | omega)), fun j hj => by rcases Nat.lt_succ_iff_lt_or_eq.1 hj with hj | rfl; exact hno j hj; exact poss_root hu, rfl⟩
   ·
    obtain ⟨k, hk, hkl⟩ := ht.in_.nat hlt hu
    have hlk : l[i] = (k : Int) := by rw [C8 hlt, hk]
    have hkx : k < xs.length := by omega
    have hix : i < xs.length := by omega
    have ex := C8 hkx
    have ey := C8 hix
    refine Aw <| Ac <| Af <| Az <| Af <| Af <| Ai fun ds => Aa rfl (Ag (Ay rfl <| Ak rfl <| Ay rfl <| Aj rfl)) ?_
    refine Aa rfl (Ag (Ay rfl <| Al rfl <| As rfl hs10)) ?_
    refine Aa rfl (A9 (k := i) Be (Al rfl <| Ad) hl.plain (Ad) rfl hlt) ?_
    refine Aa rfl (Ap Bj (Ad) (hl.cell1 hlt rfl)) ?_
    refine Aa rfl (Bs (Ad) Ab) ?_
    refine Ah <| Ac <| Am (Ad) (by rw [C8 hlt]; exact decide_eq_false hu) ?_
    by_cases hk1 : (s.pl p).kind = 1
    ·
     refine Aw <| Ac <| Af <| Cu (.inl rfl) (fun _ _ h => h) (by kernel_rfl) (by kernel_rfl) fun ds => ?_
     refine Bc rfl (Ag (A6 rfl <| Al rfl <| Ak rfl <| Ay rfl <| Aj rfl)) ?_
     refine Bc rfl (Ag (A6 rfl <| Ar rfl <| Ak rfl <| Ay rfl <| Aj rfl)) ?_
     refine Bc rfl (Ag (A6 rfl <| Ar rfl <| Al rfl <| As rfl hs10)) ?_
     refine Bc rfl (A9 (k := i) Be (Al rfl <| Ad) hl.plain (Ad) rfl hlt) ?_
     refine Bc rfl (Ap Bj (Ad) (hl.cell1 hlt rfl)) ?_
     refine Bc rfl (A9 (k := k) Be (Ay rfl <| Ad) hx.plain (Ad) hlk hkx) ?_
     refine Bc rfl (Ap Bj (Ad) (hx.cell1 hkx rfl)) ?_
     refine Bc rfl (Ag (A3 rfl <| Ak rfl <| Ay rfl <| Aj rfl)) ?_
     refine Bc rfl (Ag (A3 rfl <| Al rfl <| As rfl hs10)) ?_
     refine Bc rfl (A9 (k := i) Be (Al rfl <| Ad) hx.plain (Ad) rfl hix) ?_
     refine Bc rfl (Ap Bj (Ad) (hx.cell1 hix rfl)) ?_
     refine Bc rfl (Ae (Ay rfl <| Ad)) ?_
     refine Bc rfl (Ae (Al rfl <| Ad)) ?_
     refine C4 ?_
     refine Ac <| Af <| Af <| Ai fun ds => Aa rfl (Ao Co (A3 rfl <| Ay rfl <| Ar rfl <| Ak rfl <| Ar rfl <| Al rfl <| Ad)) ?_
     refine Aa rfl (Ap Cy (Ad) (Cell.own 0 rfl rfl)) ?_
     refine Aa rfl (Ag (A3 rfl <| A6 rfl <| Ak rfl <| Ay rfl <| Aj rfl)) ?_
     refine Aa rfl (A9 (k := p) C9 (Al rfl <| Ad) hr.places.plain (Ad) rfl hp) ?_
     refine Aa rfl (Bo fd_70_1 (Ad)) ?_
     refine Aa rfl (Ap Bj (Ad) (hr.places.cell hp rfl)) ?_
     refine Aa rfl (Bs (Ad) Ab) ?_
     refine Aa rfl (Ag (Ad)) ?_
     refine Au rfl rfl (Ad) (by rw [pl_at hp]; exact decide_eq_true hk1) ?_
     refine Aa rfl (Ag (A6 rfl <| Ad)) ?_
     refine Au rfl rfl (Al rfl <| Ad) (by rw [pl_at hp]; exact decide_eq_true hk1) ?_
     refine Aa rfl (Ag (A6 rfl <| Ar rfl <| Ad)) ?_
     refine Au rfl rfl (Ar rfl <| Ad) (by rw [pl_at hp]; exact decide_eq_true hk1) ?_
     refine Aa rfl (Bw (Al rfl <| Ad) (Ad)) ?_
     refine Aa rfl (A2 (Ar rfl <| Al rfl <| Ad) (by rw [pl_at hp]; exact decide_eq_true hk1) (Ad)) ?_
     refine Ah <| Ac ?_
     by_cases hlf : upN xs i < upN xs k
     ·
      refine Aq (Ad) (by rw [ex, ey]; exact decide_eq_true hlf) ?_
      refine Af <| Ai fun ds => Aa rfl (Ae Ab) ?_
      refine Ah <| Ac <| A4 <| Bg (Bl (Bg (Bg (Bl (Bg ?_)))))
      refine Ax rfl (.tmp (Ad) .nil) ?_
      show _ = _
      rw [possB_no hlt (poss_lt hk (free_no hk1) hlf)]; rfl
     ·
      refine Am (Ad) (by rw [ex, ey]; exact decide_eq_false hlf) ?_
      by_cases hne : upN xs k = upN xs i
      ·
       refine Aw <| Ac <| Af <| Ai fun ds => Aa rfl (Ag (A6 rfl <| Ay rfl <| Al rfl <| Ad)) ?_
       refine Aa rfl (Ag (A6 rfl <| Ay rfl <| Al rfl <| Ad)) ?_
       refine Aa rfl (By (Al rfl <| Ad) (Ad)) ?_
       refine Ah <| Ac <| Am (Ad) (by rw [ex, ey]; exact decide_eq_false (fun h => h hne)) ?_
       refine Aw <| Bb <| Ac <| Ai fun ds => Aa rfl (Ag (Bp rfl <| Ay rfl <| Al rfl <| As rfl hs10)) ?_
       refine Aa rfl (Br (Ad) Ab rfl (by omega) (by omega)) ?_
       refine Aa rfl (Ae (Ad)) ?_
       refine Ah <| Ac ⟨_, m - 1, Off.eq (ou32 rfl <| Dj rfl <| Bd), by omega, ?_⟩
       exact ⟨i + 1, by omega, (Ad), ((Bp rfl <| A6 rfl <| As rfl hs9)).trans (congrArg (Value.int .i64) (show _ = sumN i _ + _ by rw [chg_same hk hne]; first | done | omega)), fun j hj => by rcases Nat.lt_succ_iff_lt_or_eq.1 hj with hj | rfl; exact hno j hj; exact poss_ge hk hlf, rfl⟩
      ·
       refine Aw <| Ac <| Af <| Ai fun ds => Aa rfl (Ag (A6 rfl <| Ay rfl <| Al rfl <| Ad)) ?_
       refine Aa rfl (Ag (A6 rfl <| Ay rfl <| Al rfl <| Ad)) ?_
       refine Aa rfl (By (Al rfl <| Ad) (Ad)) ?_
       refine Ah <| Ac <| Aq (Ad) (by rw [ex, ey]; exact decide_eq_true hne) ?_
       refine Ai fun ds => Aa rfl (Ag (Bp rfl <| Ay rfl <| Al rfl <| As rfl hs9)) ?_
       refine Aa rfl (Br (Ad) Ab rfl (by omega) (by omega)) ?_
       refine Aa rfl (Ae (Ad)) ?_
       refine Ah <| Bb <| Ac <| Ai fun ds => Aa rfl (Ag (Bp rfl <| A6 rfl <| As rfl hs10)) ?_
       refine Aa rfl (Br (Ad) Ab rfl (by omega) (by omega)) ?_
       refine Aa rfl (Ae (Ad)) ?_
       refine Ah <| Ac ⟨_, m - 1, Off.eq (ou32 rfl <| Dj rfl <| ou2 rfl <| Dk rfl <| Bd), by omega, ?_⟩
       exact ⟨i + 1, by omega, (Ad), ((Ar rfl <| Al rfl <| Ad)).trans (congrArg (Value.int .i64) (show _ = sumN i _ + _ by rw [chg_not hk hne]; first | done | omega)), fun j hj => by rcases Nat.lt_succ_iff_lt_or_eq.1 hj with hj | rfl; exact hno j hj; exact poss_ge hk hlf, rfl⟩
    ·
     refine Aw <| Ac <| Af <| Cu (.inl rfl) (fun _ _ h => h) (by kernel_rfl) (by kernel_rfl) fun ds => ?_
     refine Bc rfl (Ag (A6 rfl <| Al rfl <| Ak rfl <| Ay rfl <| Aj rfl)) ?_
     refine Bc rfl (Ag (A6 rfl <| Ar rfl <| Ak rfl <| Ay rfl <| Aj rfl)) ?_
     refine Bc rfl (Ag (A6 rfl <| Ar rfl <| Al rfl <| As rfl hs10)) ?_
     refine Bc rfl (A9 (k := i) Be (Al rfl <| Ad) hl.plain (Ad) rfl hlt) ?_
     refine Bc rfl (Ap Bj (Ad) (hl.cell1 hlt rfl)) ?_
     refine Bc rfl (A9 (k := k) Be (Ay rfl <| Ad) hx.plain (Ad) hlk hkx) ?_
     refine Bc rfl (Ap Bj (Ad) (hx.cell1 hkx rfl)) ?_
     refine Bc rfl (Ag (A3 rfl <| Ak rfl <| Ay rfl <| Aj rfl)) ?_
     refine Bc rfl (Ag (A3 rfl <| Al rfl <| As rfl hs10)) ?_
     refine Bc rfl (A9 (k := i) Be (Al rfl <| Ad) hx.plain (Ad) rfl hix) ?_
     refine Bc rfl (Ap Bj (Ad) (hx.cell1 hix rfl)) ?_
     refine Bc rfl (Ae (Ay rfl <| Ad)) ?_
     refine Bc rfl (Ae (Al rfl <| Ad)) ?_
     refine C4 ?_
     refine Ac <| Af <| Af <| Ai fun ds => Aa rfl (Ao Co (A3 rfl <| Ay rfl <| Ar rfl <| Ak rfl <| Ar rfl <| Al rfl <| Ad)) ?_
     refine Aa rfl (Ap Cy (Ad) (Cell.own 0 rfl rfl)) ?_
     refine Aa rfl (Ag (A3 rfl <| A6 rfl <| Ak rfl <| Ay rfl <| Aj rfl)) ?_
     refine Aa rfl (A9 (k := p) C9 (Al rfl <| Ad) hr.places.plain (Ad) rfl hp) ?_
     refine Aa rfl (Bo fd_70_1 (Ad)) ?_
     refine Aa rfl (Ap Bj (Ad) (hr.places.cell hp rfl)) ?_
     refine Aa rfl (Bs (Ad) Ab) ?_
     refine Aa rfl (Ag (Ad)) ?_
     refine At rfl rfl (Ad) (.inl (congrArg Value.bool (by rw [pl_at hp]; exact decide_eq_false hk1))) rfl ?_
     refine At rfl rfl (Al rfl <| Ad) (.inl (congrArg Value.bool (by rw [pl_at hp]; exact decide_eq_false hk1))) rfl ?_
     refine At rfl rfl (Ar rfl <| Ad) (.inl (congrArg Value.bool (by rw [pl_at hp]; exact decide_eq_false hk1))) rfl ?_
     refine Aa rfl (A7 (Ar rfl <| Al rfl <| Ad) (by rw [pl_at hp]; exact decide_eq_false hk1) Ab) ?_
     refine Ah <| Ac <| Am (Ad) rfl ?_
     by_cases hne : upN xs k = upN xs i
     ·
      refine Aw <| Ac <| Af <| Ai fun ds => Aa rfl (Ag (A6 rfl <| Ay rfl <| Al rfl <| Ad)) ?_
      refine Aa rfl (Ag (A6 rfl <| Ay rfl <| Al rfl <| Ad)) ?_
      refine Aa rfl (By (Al rfl <| Ad) (Ad)) ?_
      refine Ah <| Ac <| Am (Ad) (by rw [ex, ey]; exact decide_eq_false (fun h => h hne)) ?_
      refine Aw <| Bb <| Ac <| Ai fun ds => Aa rfl (Ag (Bp rfl <| Ay rfl <| Al rfl <| As rfl hs10)) ?_
      refine Aa rfl (Br (Ad) Ab rfl (by omega) (by omega)) ?_
      refine Aa rfl (Ae (Ad)) ?_
      refine Ah <| Ac ⟨_, m - 1, Off.eq (ou32 rfl <| Dj rfl <| Bd), by omega, ?_⟩
      exact ⟨i + 1, by omega, (Ad), ((Bp rfl <| A6 rfl <| As rfl hs9)).trans (congrArg (Value.int .i64) (show _ = sumN i _ + _ by rw [chg_same hk hne]; first | done | omega)), fun j hj => by rcases Nat.lt_succ_iff_lt_or_eq.1 hj with hj | rfl; exact hno j hj; exact poss_free (free_yes hv hp hk1), rfl⟩
     ·
      refine Aw <| Ac <| Af <| Ai fun ds => Aa rfl (Ag (A6 rfl <| Ay rfl <| Al rfl <| Ad)) ?_
      refine Aa rfl (Ag (A6 rfl <| Ay rfl <| Al rfl <| Ad)) ?_
      refine Aa rfl (By (Al rfl <| Ad) (Ad)) ?_
      refine Ah <| Ac <| Aq (Ad) (by rw [ex, ey]; exact decide_eq_true hne) ?_
      refine Ai fun ds => Aa rfl (Ag (Bp rfl <| Ay rfl <| Al rfl <| As rfl hs9)) ?_
      refine Aa rfl (Br (Ad) Ab rfl (by omega) (by omega)) ?_
      refine Aa rfl (Ae (Ad)) ?_
      refine Ah <| Bb <| Ac <| Ai fun ds => Aa rfl (Ag (Bp rfl <| A6 rfl <| As rfl hs10)) ?_
      refine Aa rfl (Br (Ad) Ab rfl (by omega) (by omega)) ?_
      refine Aa rfl (Ae (Ad)) ?_
      refine Ah <| Ac ⟨_, m - 1, Off.eq (ou32 rfl <| Dj rfl <| ou2 rfl <| Dk rfl <| Bd), by omega, ?_⟩
      exact ⟨i + 1, by omega, (Ad), ((Ar rfl <| Al rfl <| Ad)).trans (congrArg (Value.int .i64) (show _ = sumN i _ + _ by rw [chg_not hk hne]; first | done | omega)), fun j hj => by rcases Nat.lt_succ_iff_lt_or_eq.1 hj with hj | rfl; exact hno j hj; exact poss_free (free_yes hv hp hk1), rfl⟩
  ·
   refine Af <| Af <| Ai fun ds => Aa rfl (Ag (As rfl hs10)) ?_
   refine Aa rfl (Ag (Al rfl <| Ak rfl <| Ay rfl <| Aj rfl)) ?_
   refine Aa rfl (Bk Be (Ad) hl.plain) ?_
   refine Aa rfl (Bw (Ar rfl <| Ad) (Ad)) ?_
   refine Ah <| Ac <| Am (Ad) (by first | rfl | exact decide_eq_false (by omega)) ?_
   obtain rfl : i = l.length := by omega
   refine Bn ?_
   refine Ba <| Ba <| Bh <| Ac <| Af <| Ai fun ds => Aa rfl (Ag (Ay rfl <| As rfl hs9)) ?_
   refine Aa rfl (Ae (Ad)) ?_
   refine Ah <| Ac <| A4 <| Ax rfl (.tmp (Ad) .nil) ?_
   show _ = _
   rw [possB_yes hno]; rfl
set_option maxRecDepth 100000 in
theorem refLeast_ok {F : Heap} {vp ve : Value} {ps : List (Value × Edn)} {s : Stm} (hr : StmR F vp ve ps s) (hv : ValidT s) {v : Value} {l : List Int} (hl : Ints F v l) (hll : l.length = s.editions.length) (ht : IsTree l) {p : Nat} (hp : p < s.places.length) : Ok Try.prog 88 [.agg #[vp, ve], v, .int .i64 (p : Int)].toArray F fun u _ => u = .int .i64 (leastL s l p) := by
 have hle0 : F.le F := Heap.le_refl _
 refine Ok.intro Try.func88 rfl Try.ntmps88 rfl fun w0 => ?_
 have hL := hl.plain.lt
 have hlen := hr.len
 have hne := hv.ne
 refine Af <| Ai fun ds => Bm rfl (B2 (Aj rfl) rfl fun b1 hb1 nb1 => ?_)
 refine Aa rfl (Ae Ab) ?_
 refine Ah <| Ac <| Af <| Ai fun ds => Aa rfl (Ae Ab) ?_
 refine Ah <| Ac <| Af <| Ai fun ds => Aa rfl (Bf B0 (Ar rfl <| Ad) rfl rfl (A8 0 rfl)) ?_
 refine Aa rfl (Ag (Ay rfl <| Aj rfl)) ?_
 refine Bm rfl (Ch bd_89 A0 (.cons (Al rfl <| Ad) (.cons (Ad) (.cons Ab .nil))) (refFilled_ok hv hp s.editions.length hr Sl.nil (by simp)) fun v2 F3 hr4 hF5 => ?_)
 replace hr := hr.mono hF5
 replace hl := hl.mono hF5
 obtain ⟨qs, hqs, hqa, hqm⟩ := hr4
 replace hqm : qs.map (·.2) = allFill s p := hqm
 have hql : qs.length ≤ 243 := by rw [D3 hqm]; exact Et (by have := hv.ne; omega)
 refine Aa rfl (Ae (Ad)) ?_
 refine Ah <| Ac <| Af <| Af <| Ai fun ds => Aa rfl (Ae Ab) ?_
 refine Ah <| Ac <| Az <| Bu [7, 9, 13, 14, 15, 16, 17, 18, 19, 20, 21, 22, 23, 24, 25, 26, 27, 28] (fun m e σ => ∃ i : Nat, m + i = qs.length ∧ e 9 = .int .i64 (i : Int) ∧ e 7 = .int .i64 (leastTo s l p i) ∧ σ = ⟨F3, [(b1, bx 25 [vp, ve])]⟩) (qs.length) ?_ ?_
 · exact ⟨0, by omega, (Ad), (Ay rfl <| Al rfl <| Ad), rfl⟩
 ·
  rintro m e _ ⟨i, hm, hs9, hs7, rfl⟩
  by_cases hlt : i < qs.length
  ·
   have hqi : Ints _ _ _ := hqa _ (List.getElem_mem hlt)
   have hil : i < (allFill s p).length := by rw [← D3 hqm]; exact hlt
   have hqe : qs[i].2 = (allFill s p)[i] := by simp [← hqm]
   have hxl : qs[i].2.length = l.length := by rw [hqe]; exact ((D9 hll).1 (List.getElem_mem hil)).1
   refine Af <| Af <| Ai fun ds => Aa rfl (Ag (As rfl hs9)) ?_
   refine Aa rfl (Ag (Al rfl <| Ak rfl <| Al rfl <| Ad)) ?_
   refine Aa rfl (Bk Ey (Ad) hqs.plain) ?_
   refine Aa rfl (Bw (Ar rfl <| Ad) (Ad)) ?_
   refine Ah <| Ac <| Aq (Ad) (by first | rfl | exact decide_eq_true (by omega)) ?_
   refine Aw <| Ac <| Af <| Az <| Cu (.inl rfl) (fun _ _ h => h) (by kernel_rfl) (by kernel_rfl) fun ds => ?_
   refine Bc rfl (Ag (Ay rfl <| As rfl hs7)) ?_
   refine Bc rfl (Bf B0 (Ay rfl <| Al rfl <| Ak rfl <| Ay rfl <| Ar rfl <| Al rfl <| Ad) rfl rfl (A8 0 rfl)) ?_
   refine Bc rfl (Ag (Ay rfl <| Ar rfl <| Ak rfl <| A6 rfl <| Aj rfl)) ?_
   refine Bc rfl (Ag (Ay rfl <| Ar rfl <| Al rfl <| Ak rfl <| A6 rfl <| Aj rfl)) ?_
   refine Bc rfl (Ag (A6 rfl <| Ak rfl <| Al rfl <| Ad)) ?_
   refine Bc rfl (Ag (A6 rfl <| Al rfl <| As rfl hs9)) ?_
   refine Bc rfl (A9 (k := i) Ey (Al rfl <| Ad) hqs.plain (Ad) rfl hlt) ?_
   refine Bc rfl (Ap Cb (Ad) (hqs.cell1 hlt rfl)) ?_
   refine WQ_c rfl (Bi bd_90 A0 (.cons (Ay rfl <| Ar rfl <| Ad) (.cons (Ay rfl <| Al rfl <| Ad) (.cons (Ay rfl <| Ad) (.cons (Ad) .nil)))) (refCounted_ok hr hv hl hll ht hp hqi hxl) (fun _ _ h => h)) ?_
   refine Bc rfl (q_min2 (A6 rfl <| Ad) (Ad)) ?_
   refine Bc rfl (Ae (Ad)) ?_
   refine C4 ?_
   refine Bb <| Ac <| Ai fun ds => Aa rfl (Ag (A6 rfl <| Ay rfl <| Ar rfl <| Al rfl <| As rfl hs9)) ?_
   refine Aa rfl (Br (Ad) Ab rfl (by omega) (by omega)) ?_
   refine Aa rfl (Ae (Ad)) ?_
   refine Ah <| Ac ⟨_, m - 1, Off.eq (Cr rfl <| ou2 rfl <| Bd), by omega, ?_⟩
   exact ⟨i + 1, by omega, (Ad), ((Ar rfl <| Al rfl <| Ad)).trans (congrArg (Value.int .i64) (by rw [leastTo_succ hil, hqe])), rfl⟩
  ·
   refine Af <| Af <| Ai fun ds => Aa rfl (Ag (As rfl hs9)) ?_
   refine Aa rfl (Ag (Al rfl <| Ak rfl <| Al rfl <| Ad)) ?_
   refine Aa rfl (Bk Ey (Ad) hqs.plain) ?_
   refine Aa rfl (Bw (Ar rfl <| Ad) (Ad)) ?_
   refine Ah <| Ac <| Am (Ad) (by first | rfl | exact decide_eq_false (by omega)) ?_
   obtain rfl : i = qs.length := by omega
   refine Bn ?_
   refine Ba <| Ba <| Bh <| Ac <| Af <| Ai fun ds => Aa rfl (Ag (Ay rfl <| As rfl hs7)) ?_
   refine Aa rfl (Ae (Ad)) ?_
   refine Ah <| Ac <| A4 <| Ax rfl (.tmp (Ad) .nil) ?_
   show _ = _
   rw [leastTo_end (by rw [D3 hqm]; exact Nat.le_refl _)]; rfl
set_option maxRecDepth 100000 in
theorem refCost_ok {F : Heap} {vp ve : Value} {ps : List (Value × Edn)} {s : Stm} (hr : StmR F vp ve ps s) (hv : ValidT s) {v : Value} {l : List Int} (hl : Ints F v l) (hll : l.length = s.editions.length) (ht : IsTree l) : Ok Try.prog 71 [.agg #[vp, ve], v].toArray F fun u _ => u = .int .i64 (costL s l) := by
 refine Ok.intro Try.func71 rfl Try.ntmps71 rfl fun w0 => ?_
 have hL := hl.plain.lt
 have hL2 := hr.places.plain.lt
 have hnp := hv.np
 by_cases hft : fitsT s l = true
 ·
  refine Af <| Ai fun ds => Bm rfl (B2 (Aj rfl) rfl fun b1 hb1 nb1 => ?_)
  refine Aa rfl (Ae Ab) ?_
  refine Ah <| Ac <| Af <| Af <| Ai fun ds => Aa rfl (Bf B0 (Al rfl <| Ad) rfl rfl (A8 0 rfl)) ?_
  refine Aa rfl (Ag (Ar rfl <| Al rfl <| Aj rfl)) ?_
  refine Bx rfl (Bi bd_94 A0 (.cons (Al rfl <| Ad) (.cons (Ad) .nil)) (refFits_ok hr hv hl hll ht) (fun _ _ h => h)) ?_
  refine Aa rfl (Ci (Ad)) ?_
  refine Ah <| Ac <| Am (Ad) (by rw [hft]; rfl) ?_
  refine Aw <| Ac <| Af <| Ai fun ds => Aa rfl (Ae Ab) ?_
  refine Ah <| Ac <| Af <| Af <| Ai fun ds => Aa rfl (Ae Ab) ?_
  refine Ah <| Ac <| Az <| Bu [5, 6, 11, 12, 13, 14, 15, 16, 17, 18, 19, 20, 21, 22, 23] (fun m e σ => ∃ p : Nat, m + p = s.places.length ∧ e 6 = .int .i64 (p : Int) ∧ e 5 = .int .i64 (sumN p (leastL s l)) ∧ σ = ⟨F, [(b1, bx 25 [vp, ve])]⟩) (s.places.length) ?_ ?_
  · exact ⟨0, by omega, (Ad), (Al rfl <| Ad), rfl⟩
  ·
   rintro m e _ ⟨p, hm, hs6, hs5, rfl⟩
   by_cases hlt : p < s.places.length
   ·
    have hsb := sum_least_bound (s := s) (l := l) (k := p)
    have hlb := Dh (s := s) (l := l) (p := p)
    refine Af <| Af <| Ai fun ds => Aa rfl (Ag (As rfl hs6)) ?_
    refine Aa rfl (Ao Co (Al rfl <| Ak rfl <| Ay rfl <| Ar rfl <| Al rfl <| Ad)) ?_
    refine Aa rfl (Ap Cy (Ad) (Cell.own 0 rfl rfl)) ?_
    refine Aa rfl (Bk C9 (Ad) hr.places.plain) ?_
    refine Aa rfl (Bw (Ar rfl <| Al rfl <| Ad) (Ad)) ?_
    refine Ah <| Ac <| Aq (Ad) (by first | rfl | exact decide_eq_true (by omega)) ?_
    refine Aw <| Ac <| Af <| Az <| Ai fun ds => Aa rfl (Ag (Ay rfl <| Al rfl <| As rfl hs5)) ?_
    refine Aa rfl (Bf B0 (Ay rfl <| Ar rfl <| Ak rfl <| Ay rfl <| Ar rfl <| Al rfl <| Ad) rfl rfl (A8 0 rfl)) ?_
    refine Aa rfl (Ag (Ay rfl <| Ar rfl <| Al rfl <| Ak rfl <| A6 rfl <| Aj rfl)) ?_
    refine Aa rfl (Ag (A6 rfl <| As rfl hs6)) ?_
    refine Bx rfl (Bi bd_88 A0 (.cons (Ar rfl <| Ad) (.cons (Al rfl <| Ad) (.cons (Ad) .nil))) (refLeast_ok hr hv hl hll ht hlt) (fun _ _ h => h)) ?_
    refine Aa rfl (Br (Ay rfl <| Ad) (Ad) rfl (by omega) (by omega)) ?_
    refine Aa rfl (Ae (Ad)) ?_
    refine Ah <| Bb <| Ac <| Ai fun ds => Aa rfl (Ag (A6 rfl <| Ay rfl <| As rfl hs6)) ?_
    refine Aa rfl (Br (Ad) Ab rfl (by omega) (by omega)) ?_
    refine Aa rfl (Ae (Ad)) ?_
    refine Ah <| Ac ⟨_, m - 1, Off.eq (Dj rfl <| Dv rfl <| ou2 rfl <| Dk rfl <| Bd), by omega, ?_⟩
    exact ⟨p + 1, by omega, (Ad), (Ar rfl <| Al rfl <| Ad), rfl⟩
   ·
    refine Af <| Af <| Ai fun ds => Aa rfl (Ag (As rfl hs6)) ?_
    refine Aa rfl (Ao Co (Al rfl <| Ak rfl <| Ay rfl <| Ar rfl <| Al rfl <| Ad)) ?_
    refine Aa rfl (Ap Cy (Ad) (Cell.own 0 rfl rfl)) ?_
    refine Aa rfl (Bk C9 (Ad) hr.places.plain) ?_
    refine Aa rfl (Bw (Ar rfl <| Al rfl <| Ad) (Ad)) ?_
    refine Ah <| Ac <| Am (Ad) (by first | rfl | exact decide_eq_false (by omega)) ?_
    obtain rfl : p = s.places.length := by omega
    refine Bn ?_
    refine Ba <| Ba <| Bh <| Ac <| Af <| Ai fun ds => Aa rfl (Ag (Ay rfl <| Al rfl <| As rfl hs5)) ?_
    refine Aa rfl (q_min2 (Ad) Ab) ?_
    refine Aa rfl (Ae (Ad)) ?_
    refine Ah <| Ac <| A4 <| Ax rfl (.tmp (Ad) .nil) ?_
    show _ = _
    rw [costL_fits hft]; rfl
 ·
  replace hft : fitsT s l = false := by simpa using hft
  refine Af <| Ai fun ds => Bm rfl (B2 (Aj rfl) rfl fun b3 hb3 nb3 => ?_)
  refine Aa rfl (Ae Ab) ?_
  refine Ah <| Ac <| Af <| Af <| Ai fun ds => Aa rfl (Bf B0 (Al rfl <| Ad) rfl rfl (A8 0 rfl)) ?_
  refine Aa rfl (Ag (Ar rfl <| Al rfl <| Aj rfl)) ?_
  refine Bx rfl (Bi bd_94 A0 (.cons (Al rfl <| Ad) (.cons (Ad) .nil)) (refFits_ok hr hv hl hll ht) (fun _ _ h => h)) ?_
  refine Aa rfl (Ci (Ad)) ?_
  refine Ah <| Ac <| Aq (Ad) (by rw [hft]; rfl) ?_
  refine Af <| Ai fun ds => Aa rfl (Ae Ab) ?_
  refine Ah <| Ac <| A4 <| Bg ?_
  refine Ax rfl (.tmp (Ad) .nil) ?_
  show _ = _
  rw [costL_no hft]; rfl
end Go.Proofs.Ytccogmkhijgelaa
namespace Go.Proofs.Ytccogmkhijgelaa
open Go.RowKit
section
variable {n d j : Nat} {b : List Int}
def InN (n : Nat) (b : List Int) : Prop := ∀ i, i < b.length → -1 ≤ upN b i ∧ upN b i < n
theorem InN.nil : InN n [] := fun i h => absurd h (by simp)
theorem InN.snoc (h : InN n b) {v : Int} (hv : -1 ≤ v ∧ v < n) : InN n (b ++ [v]) := fun i hi => by
 by_cases hb : i < b.length
 · rw [upN_left hb]; exact h i hb
 · rw [List.length_append, List.length_singleton] at hi
   obtain rfl : i = b.length := by omega
   have := upN_mid (b := b) (t := []) (v := v)
   rw [List.append_nil] at this
   rw [this]; exact hv
theorem InN.in_ (h : InN n b) (hl : b.length = n) : TreeIn b := fun i hi => by rw [hl]; exact h i hi
end
section
variable {s : Stm} {F : Heap} {zs : List (Value × List Int)} {i : Nat}
end
section
variable {s : Stm} {F : Heap} {u : Value}
def AskZ (F : Heap) (u : Value) (s : Stm) : Prop := ∃ v, u = .tuple #[v, .int .i64 (askedE s).2.1, .int .i64 (askedE s).2.2] ∧ LstZ F v (askedE s).1
theorem AskZ.ok (h : AskZ F u s) (h0 : askedT s = 0) : ∃ v, u = .tuple #[v, .int .i64 (bestsM s), .int .i64 0] ∧ LstZ F v (bestsL s) := by
 unfold AskZ at h; rw [askedE_ok h0] at h; exact h
theorem AskZ.bad (h : AskZ F u s) (h0 : askedT s ≠ 0) : ∃ v, u = .tuple #[v, .int .i64 0, .int .i64 (askedT s)] := by
 unfold AskZ at h; rw [askedE_bad h0] at h; obtain ⟨v, rfl, -⟩ := h; exact ⟨v, rfl⟩
end
end Go.Proofs.Ytccogmkhijgelaa
namespace Go.Proofs.Ytccogmkhijgelaa
section
variable {s s' : Stm} {l : List Int}
theorem least_mono {p p' : Nat} (hl : l.length = s.editions.length) (hl' : l.length = s'.editions.length) (hin : TreeIn l) (h : ∀ g, Filling s' l p' g → Possible s' l p' g → Filling s l p g ∧ Possible s l p g) : leastL s l p ≤ leastL s' l p' :=
 le_least Dh.2 hl' fun g h1 h2 => leastL_le hin hl (h g h1 h2).1 (h g h1 h2).2
end
section
variable {s : Stm} {l : List Int} {x p : Nat} {v : Int}
theorem filling_set (hv : ValidT s) (hx : x < s.editions.length) (hp : p < s.places.length) (hl : l.length = s.editions.length) (hv3 : 1 ≤ v) {g : Nat → Int} : Filling (setS s x p v) l p g ↔ ((∀ i, i < l.length → 1 ≤ g i ∧ g i ≤ 3) ∧ (∀ i, i < l.length → i ≠ x → fitR s p i (g i)) ∧ g x = v) := by
 have hpl : p < (s.ed x).rd.length := by rw [hv.rdl x hx]; exact hp
 have hr : ∀ i, (setS s x p v).r i p = if i = x then v else s.r i p := fun i => by rw [setS_r hx hpl]; simp
 constructor
 · intro h
   refine ⟨h.val, fun i hi hne => ?_, ?_⟩
   · have := h.fit i hi
     unfold fitR at this ⊢
     rw [hr, if_neg hne] at this
     exact this
   · have := h.fit x (by omega)
     unfold fitR at this
     rw [hr, if_pos rfl] at this
     omega
 · rintro ⟨h1, h2, h3⟩
   refine ⟨h1, fun i hi => ?_⟩
   unfold fitR
   rw [hr]
   by_cases h4 : i = x
   · rw [if_pos h4, h4]; exact .inr h3.symm
   · rw [if_neg h4]; exact h2 i hi h4
theorem least_set_le (hv : ValidT s) (hx : x < s.editions.length) (hp : p < s.places.length) (hl : l.length = s.editions.length) (hin : TreeIn l) (hv3 : 1 ≤ v) (hfit : fitR s p x v) : leastL s l p ≤ leastL (setS s x p v) l p :=
 least_mono hl (by rw [Dw]; exact hl) hin fun g h1 h2 => by
   obtain ⟨k1, k2, k3⟩ := (filling_set hv hx hp hl hv3).1 h1
   exact ⟨⟨k1, fun i hi => by by_cases h4 : i = x; · rw [h4, k3]; exact hfit
                              · exact k2 i hi h4⟩, h2⟩
/-- With that reading there are as many changes just if a best filling has it. -/
theorem least_set_eq (hv : ValidT s) (hx : x < s.editions.length) (hp : p < s.places.length) (hl : l.length = s.editions.length) (hin : TreeIn l) (hv3 : 1 ≤ v) (hfit : fitR s p x v) (hlt : leastL s l p < 1000) : leastL (setS s x p v) l p = leastL s l p ↔ ∃ g, Filling s l p g ∧ Possible s l p g ∧ g x = v ∧ changesOf l g = leastL s l p := by
 constructor
 · intro h
   obtain ⟨g, h1, h2, h3⟩ := least_some (s := setS s x p v) (by rw [Dw]; exact hl) (by rw [h]; exact hlt)
   obtain ⟨k1, k2, k3⟩ := (filling_set hv hx hp hl hv3).1 h1
   exact ⟨g, ⟨k1, fun i hi => by by_cases h4 : i = x; · rw [h4, k3]; exact hfit
                                 · exact k2 i hi h4⟩, h2, k3, by rw [h3, h]⟩
 · rintro ⟨g, h1, h2, h3, h4⟩
   refine Int.le_antisymm ?_ (least_set_le hv hx hp hl hin hv3 hfit)
   rw [← h4]
   exact leastL_le hin (by rw [Dw]; exact hl) ((filling_set hv hx hp hl hv3).2 ⟨h1.val, fun i hi _ => h1.fit i hi, h3⟩) h2
end
end Go.Proofs.Ytccogmkhijgelaa
namespace Go.Proofs.Ytccogmkhijgelaa
section
variable {s : Stm} {l : List Int} {x p : Nat}
theorem readB_iff (hv : ValidT s) (ht : IsTree l) (hl : l.length = s.editions.length) (hx : x < s.editions.length) (hp : p < s.places.length) (hc : costL s l < 1000) {n : Nat} (hn : n < 3) :
   readB s l x p n = true ↔ fitR s p x ((n : Int) + 1) ∧ leastL (setS s x p ((n : Int) + 1)) l p = leastL s l p := by
 have hvs := setS_valid (v := (n : Int) + 1) hv hx hp (by omega)
 have h1 := place_leastV (p := p) ht hv hl
 have h2 := place_leastV (s := setS s x p ((n : Int) + 1)) (p := p) ht hvs (by rw [Dw]; exact hl)
 have h3 := (cost_sum hc).2 p hp
 have h4 := Dh (s := setS s x p ((n : Int) + 1)) (l := l) (p := p)
 unfold readB fitR
 simp only [Bool.and_eq_true, Bool.or_eq_true, decide_eq_true_eq]
 rw [h1, h2, if_neg (show ¬ leastL s l p = 1000 by omega)]
 unfold never
 constructor
 · rintro ⟨h5, h6⟩; refine ⟨h5, ?_⟩; split at h6 <;> omega
 · rintro ⟨h5, h6⟩; refine ⟨h5, ?_⟩; split <;> omega
end
end Go.Proofs.Ytccogmkhijgelaa
namespace Go.Proofs.Ytccogmkhijgelaa
section
variable {s : Stm} {l : List Int} {x p n : Nat}
def hitB (s : Stm) (l : List Int) (p x n : Nat) (xs : List Int) : Bool := decide (upN xs x = (n : Int) + 1) && decide (countL s l p xs = leastL s l p)
def hitTo (s : Stm) (l : List Int) (p x n k : Nat) : Bool := ((allFill s p).take k).any (hitB s l p x n)
theorem hitTo_succ {k : Nat} (h : k < (allFill s p).length) : hitTo s l p x n (k + 1) = (hitTo s l p x n k || hitB s l p x n (allFill s p)[k]) := by
 unfold hitTo; rw [List.take_succ_eq_append_getElem h, List.any_append]; simp
theorem hitTo_end (hv : ValidT s) (ht : IsTree l) (hl : l.length = s.editions.length) (hx : x < s.editions.length) (hp : p < s.places.length) (hc : costL s l < 1000) (hn : n < 3) :
   hitTo s l p x n (allFill s p).length = readB s l x p n := by
 unfold hitTo
 rw [List.take_length, Bool.eq_iff_iff, readB_iff hv ht hl hx hp hc hn, List.any_eq_true]
 have hlt := (cost_sum hc).2 p hp
 unfold hitB
 simp only [Bool.and_eq_true, decide_eq_true_eq]
 constructor
 · rintro ⟨xs, hxs, h1, h2⟩
   obtain ⟨hlen, hfill⟩ := (D9 hl).1 hxs
   have hfit : fitR s p x ((n : Int) + 1) := by rw [← h1]; exact hfill.fit x (by omega)
   refine ⟨hfit, (least_set_eq hv hx hp hl ht.in_ (by omega) hfit hlt).2 ⟨upN xs, hfill, ?_, h1, ?_⟩⟩
   · refine possB_iff.1 ?_
     cases hb : possB s l p (upN xs) with
     | true => rfl
     | false => unfold countL at h2; rw [hb] at h2; simp at h2; omega
   · rw [← h2]
     unfold countL
     split
     · rfl
     · rename_i hb; unfold countL at h2; rw [if_neg hb] at h2; omega
 · rintro ⟨hfit, h2⟩
   obtain ⟨g, h3, h4, h5, h6⟩ := (least_set_eq hv hx hp hl ht.in_ (by omega) hfit hlt).1 h2
   refine ⟨(List.range l.length).map g, (D9 hl).2 ⟨by simp, h3.congr fun i hi => (upN_map hi).symm⟩, by rw [upN_map (by omega)]; exact h5, ?_⟩
   unfold countL
   rw [if_pos (possB_iff.2 (h4.congr ht.in_ fun i hi => (upN_map hi).symm)), ← h6]
   exact changesOf_congr ht.in_ fun i hi => upN_map hi
end
end Go.Proofs.Ytccogmkhijgelaa
namespace Go.Proofs.Ytccogmkhijgelaa
open Go.RowKit
theorem bd_49 : Body Try.prog 49 := Bq (by kernel_rfl)
theorem bd_50 : Body Try.prog 50 := Bq (by kernel_rfl)
set_option maxRecDepth 100000 in
theorem refReading_ok {F : Heap} {vp ve : Value} {ps : List (Value × Edn)} {s : Stm} (hr : StmR F vp ve ps s) {v : Value} {l : List Int} (hl : Ints F v l) (z q : Int) : Ok Try.prog 36 [.agg #[vp, ve], v, .int .i64 z, .int .i64 q].toArray F fun u F' => IntsR7 F' u (readE s l z q) := by
 have hle0 : F.le F := Heap.le_refl _
 refine Ok.intro Try.func36 rfl Try.ntmps36 rfl fun w0 => ?_
 have hL := hl.plain.lt
 have hlen := hr.len
 have hL1 := hr.eds.plain.lt
 have hL2 := hr.places.plain.lt
 by_cases hok : treeErr s l = 0
 ·
  obtain ⟨hv, hll, ht⟩ := tree_ok hok
  have hne := hv.ne
  have hnp := hv.np
  have hcb := costL_bound (s := s) (l := l)
  refine Af <| Ai fun ds => Bm rfl (B2 (Aj rfl) rfl fun b1 hb1 nb1 => ?_)
  refine Aa rfl (Ae Ab) ?_
  refine Aa rfl (Ae Ab) ?_
  refine Ah <| Ac <| Af <| Ai fun ds => Aa rfl (Bf B0 (Ar rfl <| Ad) rfl rfl (A8 0 rfl)) ?_
  refine Aa rfl (Ag (Ay rfl <| Aj rfl)) ?_
  refine Bx rfl (Bi bd_70 A0 (.cons (Al rfl <| Ad) (.cons (Ad) .nil)) (refTree_ok hr hl) (fun _ _ h => h)) ?_
  refine Aa rfl (Ae (Ad)) ?_
  refine Ah <| Ac <| Af <| Af <| Ai fun ds => Aa rfl (Ag (Ad)) ?_
  refine Aa rfl (Bs (Ad) Ab) ?_
  refine Aa rfl (Ag (Ad)) ?_
  refine Au rfl rfl (Ad) (by rw [hok]; rfl) ?_
  refine Aa rfl (Ag (A6 rfl <| Ar rfl <| Aj rfl)) ?_
  refine Au rfl rfl (Al rfl <| Ad) (by rw [hok]; rfl) ?_
  refine Aa rfl (Ao Bv (A6 rfl <| Ar rfl <| Ad)) ?_
  refine Au rfl rfl (Ar rfl <| Ad) (by rw [hok]; rfl) ?_
  refine Aa rfl (Ap Bz (Ad) (Cell.own 0 rfl rfl)) ?_
  refine Au rfl rfl (Ar rfl <| Al rfl <| Ad) (by rw [hok]; rfl) ?_
  refine Aa rfl (Bk B5 (Ad) hr.eds.plain) ?_
  refine Au rfl rfl (Ay rfl <| Ad) (by rw [hok]; rfl) ?_
  refine Aa rfl (D2 (Ad) Ab rfl (by omega) (by omega)) ?_
  refine Au rfl rfl (Ay rfl <| Al rfl <| Ad) (by rw [hok]; rfl) ?_
  refine Bx rfl (Bi Ew A0 (.cons (Ay rfl <| Ad) (.cons Ab (.cons (Ad) .nil))) (Dn _ _ _) (fun _ _ h => h)) ?_
  refine Au rfl rfl (Ay rfl <| Ar rfl <| Ad) (by rw [hok]; rfl) ?_
  refine Aa rfl (Ci (Ad)) ?_
  refine Au rfl rfl (Ay rfl <| Ar rfl <| Al rfl <| Ad) (by rw [hok]; rfl) ?_
  refine Aa rfl (Ag (Ad)) ?_
  by_cases h1 : inB 0 (s.editions.length - 1) z = true
  ·
   refine Au rfl rfl (Ad) (by simp [hlen, h1]) ?_
   refine Aa rfl (Ag (A3 rfl <| Ar rfl <| Aj rfl)) ?_
   refine Au rfl rfl (Al rfl <| Ad) (by simp [hlen, h1]) ?_
   refine Aa rfl (Ao Co (A3 rfl <| Ar rfl <| Ad)) ?_
   refine Au rfl rfl (Ar rfl <| Ad) (by simp [hlen, h1]) ?_
   refine Aa rfl (Ap Cy (Ad) (Cell.own 0 rfl rfl)) ?_
   refine Au rfl rfl (Ar rfl <| Al rfl <| Ad) (by simp [hlen, h1]) ?_
   refine Aa rfl (Bk C9 (Ad) hr.places.plain) ?_
   refine Au rfl rfl (Ay rfl <| Ad) (by simp [hlen, h1]) ?_
   refine Aa rfl (D2 (Ad) Ab rfl (by omega) (by omega)) ?_
   refine Au rfl rfl (Ay rfl <| Al rfl <| Ad) (by simp [hlen, h1]) ?_
   refine Bx rfl (Bi Ew A0 (.cons (Ay rfl <| Ad) (.cons Ab (.cons (Ad) .nil))) (Dn _ _ _) (fun _ _ h => h)) ?_
   refine Au rfl rfl (Ay rfl <| Ar rfl <| Ad) (by simp [hlen, h1]) ?_
   refine Aa rfl (Ci (Ad)) ?_
   refine Au rfl rfl (A6 rfl <| Ay rfl <| Ar rfl <| Al rfl <| Ad) (by rw [hok]; rfl) ?_
   refine Aa rfl (A7 (Ay rfl <| Ar rfl <| Al rfl <| Ad) (by simp [hlen, h1]) (Ad)) ?_
   refine Aa rfl (A2 (A3 rfl <| Ad) (by rw [hok]; rfl) (Ad)) ?_
   refine Ah <| Ac ?_
   by_cases h2 : inB 0 (s.places.length - 1) q = true
   ·
    have h12 : (inB 0 (s.editions.length - 1) z && inB 0 (s.places.length - 1) q) = true := by rw [h1, h2]; rfl
    refine Am (Ad) (by simp [h2]) ?_
    refine Aw <| Ac <| Af <| Af <| Ai fun ds => Aa rfl (Ag (A3 rfl <| Ay rfl <| Ad)) ?_
    refine Aa rfl (Bs (Ad) Ab) ?_
    refine Aa rfl (Ag (Ad)) ?_
    refine Au rfl rfl (Ad) (by rw [hok]; rfl) ?_
    refine Aa rfl (Bf B0 (A3 rfl <| A6 rfl <| Ay rfl <| Al rfl <| Ad) rfl rfl (A8 0 rfl)) ?_
    refine Au rfl rfl (Al rfl <| Ad) (by rw [hok]; rfl) ?_
    refine Aa rfl (Ag (A3 rfl <| A6 rfl <| Ay rfl <| Ar rfl <| Al rfl <| Aj rfl)) ?_
    refine Au rfl rfl (Ar rfl <| Ad) (by rw [hok]; rfl) ?_
    refine Bx rfl (Bi bd_71 A0 (.cons (Al rfl <| Ad) (.cons (Ad) .nil)) (refCost_ok hr hv hl hll ht) (fun _ _ h => h)) ?_
    refine Au rfl rfl (Ar rfl <| Al rfl <| Ad) (by rw [hok]; rfl) ?_
    refine Aa rfl (Bs (Ad) Ab) ?_
    refine Aa rfl (A2 (Ay rfl <| Ad) (by rw [hok]; rfl) (Ad)) ?_
    refine Ah <| Ac ?_
    by_cases hc : costL s l = 1000
    ·
     refine Aq (Ad) (decide_eq_true hc) ?_
     refine Ai fun ds => Aa rfl (Ae Ab) ?_
     refine Ah <| Ac <| Af <| Af <| Ai fun ds => Aa rfl (Ag (Ad)) ?_
     refine Aa rfl (By (Ad) Ab) ?_
     refine Ah <| Ac <| Aq (Ad) (by decide) ?_
     refine Af <| Ai fun ds => Aa rfl (Ag (Ar rfl <| Ad)) ?_
     refine Aa rfl (Ae Ab) ?_
     refine Aa rfl (Ae (Al rfl <| Ad)) ?_
     refine Ah <| Ac <| A4 <| Bg ?_
     refine Ax rfl (.tmp (Al rfl <| Ad) (.tmp (Ad) .nil)) ?_
     rw [Er (readErr_3 hok h12 hc) (by decide)]
     exact ⟨_, rfl, Sl.nil⟩
    ·
     obtain ⟨x, rfl, hx⟩ := inB_nat h1
     obtain ⟨p, rfl, hp⟩ := inB_nat h2
     have hclt : costL s l < 1000 := by omega
     refine Am (Ad) (decide_eq_false hc) ?_
     refine Aw <| Ac <| Af <| Af <| Ai fun ds => Aa rfl (Ag (A3 rfl <| A6 rfl <| Ay rfl <| Ad)) ?_
     refine Aa rfl (By (Ad) Ab) ?_
     refine Ah <| Ac <| Am (Ad) (by rw [hok]; rfl) ?_
     refine Aw <| Ac <| Af <| Ai fun ds => Aa rfl (Bf B0 (Bp rfl <| Ay rfl <| Ad) rfl rfl (A8 0 rfl)) ?_
     refine Aa rfl (Ag (Bp rfl <| Ay rfl <| Ar rfl <| Aj rfl)) ?_
     refine Aa rfl (Ag (Bp rfl <| Ay rfl <| Ar rfl <| Al rfl <| Aj rfl)) ?_
     refine Bx rfl (Bi bd_88 A0 (.cons (Ar rfl <| Ad) (.cons (Al rfl <| Ad) (.cons (Ad) .nil))) (refLeast_ok hr hv hl hll ht hp) (fun _ _ h => h)) ?_
     refine Aa rfl (Ae (Ad)) ?_
     refine Ah <| Ac <| Af <| Ai fun ds => Aa rfl (Bf B0 (Bp rfl <| A6 rfl <| Al rfl <| Ad) rfl rfl (A8 0 rfl)) ?_
     refine Aa rfl (Ag (Bp rfl <| A6 rfl <| Ar rfl <| Al rfl <| Aj rfl)) ?_
     refine Bm rfl (Ch bd_89 A0 (.cons (Al rfl <| Ad) (.cons (Ad) (.cons Ab .nil))) (refFilled_ok hv hp s.editions.length hr Sl.nil (by simp)) fun v2 F3 hr4 hF5 => ?_)
     replace hr := hr.mono hF5
     replace hl := hl.mono hF5
     obtain ⟨qs, hqs, hqa, hqm⟩ := hr4
     replace hqm : qs.map (·.2) = allFill s p := hqm
     have hql : qs.length ≤ 243 := by rw [D3 hqm]; exact Et (by have := hv.ne; omega)
     refine Aa rfl (Ae (Ad)) ?_
     refine Ah <| Ac <| Af <| Ai fun ds => Aa rfl (Ae Ab) ?_
     refine Ah <| Ac <| Af <| Af <| Ai fun ds => Aa rfl (Ae Ab) ?_
     refine Ah <| Ac <| Az <| Bu [13, 14, 15, 16, 58, 59, 60, 61, 62, 63, 64, 65, 66, 67, 68, 69, 70, 71, 72, 73, 74, 75, 76, 77, 78, 79, 80, 81, 82, 83, 84, 85, 86, 87, 88, 89, 90, 91, 92, 93, 94, 95, 96] (fun m e σ => ∃ k : Nat, m + k = 3 ∧ e 14 = .int .i64 ((k : Int) + 1) ∧ ∃ v13 R13, e 13 = v13 ∧ Own 3 1 v13 (readTo s l x p k).length ((readTo s l x p k).flatMap intE) R13 ∧ σ = ⟨F3, (b1, bx 25 [vp, ve]) :: R13⟩) (3) ?_ ?_
     · exact ⟨0, by omega, (Ad), _, _, (Al rfl <| Ad), El, rfl⟩
     ·
      rintro m e _ ⟨k, hm, hs14, v13, R13, hs13, ho, rfl⟩; have hsl := readTo_len (s := s) (l := l) (x := x) (p := p) (k := k)
      by_cases hlt : k < 3
      ·
       refine Af <| Af <| Ai fun ds => Aa rfl (Ag (As rfl hs14)) ?_
       refine Aa rfl (D7 (Ad) Ab) ?_
       refine Ah <| Ac <| Aq (Ad) (decide_eq_true (by omega)) ?_
       refine Aw <| Ac <| Af <| Az <| Af <| Ai fun ds => Aa rfl (Ae Ab) ?_
       refine Ah <| Ac <| Af <| Af <| Ai fun ds => Aa rfl (Ae Ab) ?_
       refine Ah <| Ac <| Az <| Bu [15, 16, 62, 63, 64, 65, 66, 67, 68, 69, 70, 71, 72, 73, 74, 75, 76, 77, 78, 79, 80, 81, 82, 83, 84, 85, 86, 87, 88, 89, 90, 91] (fun m e σ => ∃ i : Nat, m + i = qs.length ∧ e 16 = .int .i64 (i : Int) ∧ e 15 = .bool (hitTo s l p x k i) ∧ σ = ⟨F3, (b1, bx 25 [vp, ve]) :: R13⟩) (qs.length) ?_ ?_
       · exact ⟨0, by omega, (Ad), (Al rfl <| Ad), rfl⟩
       ·
        rintro m2 e2 _ ⟨i, hm2, ht16, ht15, rfl⟩
        by_cases hi : i < qs.length
        ·
         have hqi : Ints _ _ _ := hqa _ (List.getElem_mem hi)
         have hib : i < (allFill s p).length := by rw [← D3 hqm]; exact hi
         have hqe : qs[i].2 = (allFill s p)[i] := by simp [← hqm]
         have hxl2 : qs[i].2.length = l.length := by rw [hqe]; exact ((D9 hll).1 (List.getElem_mem hib)).1
         have hxq : x < qs[i].2.length := by omega
         have eq := C8 hxq
         refine Af <| Af <| Ai fun ds => Aa rfl (Ag (As rfl ht16)) ?_
         refine Aa rfl (Ag (Al rfl <| Ak rfl <| Ay rfl <| Ak rfl <| Ar rfl <| Ad)) ?_
         refine Aa rfl (Bk Ey (Ad) hqs.plain) ?_
         refine Aa rfl (Bw (Ar rfl <| Ad) (Ad)) ?_
         refine Ah <| Ac <| Aq (Ad) (by first | rfl | exact decide_eq_true (by omega)) ?_
         by_cases hf : hitTo s l p x k i = true
         ·
          refine Aw <| Ac <| Af <| Az <| Cu (.inl rfl) (fun _ _ h => h) (by kernel_rfl) (by kernel_rfl) fun ds => ?_
          refine Bc rfl (Ag (Ay rfl <| As rfl ht15)) ?_
          refine Bc rfl (Ag (Ad)) ?_
          refine B1 rfl rfl (Ad) (.inl (congrArg Value.bool hf)) rfl ?_
          refine B1 rfl rfl (Al rfl <| Ad) (.inl (congrArg Value.bool hf)) rfl ?_
          refine B1 rfl rfl (Ar rfl <| Ad) (.inl (congrArg Value.bool hf)) rfl ?_
          refine B1 rfl rfl (Ar rfl <| Al rfl <| Ad) (.inl (congrArg Value.bool hf)) rfl ?_
          refine B1 rfl rfl (Ay rfl <| Ad) (.inl (congrArg Value.bool hf)) rfl ?_
          refine B1 rfl rfl (Ay rfl <| Al rfl <| Ad) (.inl (congrArg Value.bool hf)) rfl ?_
          refine B1 rfl rfl (Ay rfl <| Ar rfl <| Ad) (.inl (congrArg Value.bool hf)) rfl ?_
          refine B1 rfl rfl (Ay rfl <| Ar rfl <| Al rfl <| Ad) (.inl (congrArg Value.bool hf)) rfl ?_
          refine B1 rfl rfl (A6 rfl <| Ad) (.inl (congrArg Value.bool hf)) rfl ?_
          refine B1 rfl rfl (A6 rfl <| Al rfl <| Ad) (.inl (congrArg Value.bool hf)) rfl ?_
          refine B1 rfl rfl (Ad) (.inr rfl) rfl ?_
          refine B1 rfl rfl (Al rfl <| Ad) (.inr rfl) rfl ?_
          refine B1 rfl rfl (Ar rfl <| Ad) (.inr rfl) rfl ?_
          refine B1 rfl rfl (Ar rfl <| Al rfl <| Ad) (.inr rfl) rfl ?_
          refine B1 rfl rfl (Ay rfl <| Ad) (.inr rfl) rfl ?_
          refine B1 rfl rfl (Ay rfl <| Al rfl <| Ad) (.inr rfl) rfl ?_
          refine B1 rfl rfl (Ay rfl <| Ar rfl <| Ad) (.inr rfl) rfl ?_
          refine B1 rfl rfl (Ay rfl <| Ar rfl <| Al rfl <| Ad) (.inr rfl) rfl ?_
          refine B1 rfl rfl (A6 rfl <| Ad) (.inr rfl) rfl ?_
          refine B1 rfl rfl (A6 rfl <| Al rfl <| Ad) (.inr rfl) rfl ?_
          refine B1 rfl rfl (A3 rfl <| Ay rfl <| Ad) (.inl (congrArg Value.bool hf)) rfl ?_
          refine Bc rfl (A2 (A3 rfl <| Ay rfl <| Al rfl <| Ad) hf Ab) ?_
          refine Bc rfl (Ae (Ad)) ?_
          refine C4 ?_
          refine Bb <| Ac <| Ai fun ds => Aa rfl (Ag (A3 rfl <| A6 rfl <| Ay rfl <| Al rfl <| As rfl ht16)) ?_
          refine Aa rfl (Br (Ad) Ab rfl (by omega) (by omega)) ?_
          refine Aa rfl (Ae (Ad)) ?_
          refine Ah <| Ac ⟨_, m2 - 1, Off.eq (ou32 rfl <| Bd), by omega, ?_⟩
          exact ⟨i + 1, by omega, (Ad), ((Ar rfl <| Al rfl <| Ad)).trans (congrArg Value.bool (by rw [hitTo_succ hib, ← hqe]; rw [hf]; rfl)), rfl⟩
         ·
          replace hf : hitTo s l p x k i = false := by simpa using hf
          refine Aw <| Ac <| Af <| Az <| Cu (.inl rfl) (fun _ _ h => h) (by kernel_rfl) (by kernel_rfl) fun ds => ?_
          refine Bc rfl (Ag (Ay rfl <| As rfl ht15)) ?_
          refine Bc rfl (Ag (Ad)) ?_
          refine B7 rfl rfl (Ad) hf ?_
          refine Bc rfl (Ag (Ay rfl <| Ar rfl <| Ak rfl <| Ay rfl <| Ak rfl <| Ar rfl <| Ad)) ?_
          refine B7 rfl rfl (Al rfl <| Ad) hf ?_
          refine Bc rfl (Ag (Ay rfl <| Ar rfl <| Al rfl <| As rfl ht16)) ?_
          refine B7 rfl rfl (Ar rfl <| Ad) hf ?_
          refine Bc rfl (A9 (k := i) Ey (Al rfl <| Ad) hqs.plain (Ad) rfl hi) ?_
          refine B7 rfl rfl (Ar rfl <| Al rfl <| Ad) hf ?_
          refine Bc rfl (Ap Cb (Ad) (hqs.cell1 hi rfl)) ?_
          refine B7 rfl rfl (Ay rfl <| Ad) hf ?_
          refine Bc rfl (Ag (A6 rfl <| Ar rfl <| Ak rfl <| Ay rfl <| Ak rfl <| Bp rfl <| A3 rfl <| Aj rfl)) ?_
          refine B7 rfl rfl (Ay rfl <| Al rfl <| Ad) hf ?_
          refine Bc rfl (A9 (k := x) Be (Al rfl <| Ad) hqi.plain (Ad) rfl hxq) ?_
          refine B7 rfl rfl (Ay rfl <| Ar rfl <| Ad) hf ?_
          refine Bc rfl (Ap Bj (Ad) (hqi.cell1 hxq rfl)) ?_
          refine B7 rfl rfl (Ay rfl <| Ar rfl <| Al rfl <| Ad) hf ?_
          refine Bc rfl (Ag (A6 rfl <| Ay rfl <| Al rfl <| Ak rfl <| Ay rfl <| As rfl hs14)) ?_
          refine B7 rfl rfl (A6 rfl <| Ad) hf ?_
          refine Bc rfl (Bs (Al rfl <| Ad) (Ad)) ?_
          refine B7 rfl rfl (A6 rfl <| Al rfl <| Ad) hf ?_
          refine Bc rfl (Ag (Ad)) ?_
          by_cases hv1 : upN qs[i].2 x = (k : Int) + 1
          ·
           refine B7 rfl rfl (Ad) (by rw [eq]; exact decide_eq_true hv1) ?_
           refine Bc rfl (Bf B0 (A3 rfl <| Ak rfl <| Ay rfl <| Ak rfl <| Bp rfl <| A6 rfl <| Ay rfl <| Ar rfl <| Al rfl <| Ad) rfl rfl (A8 0 rfl)) ?_
           refine B7 rfl rfl (Al rfl <| Ad) (by rw [eq]; exact decide_eq_true hv1) ?_
           refine Bc rfl (Ag (A3 rfl <| Al rfl <| Ak rfl <| Ay rfl <| Ak rfl <| Bp rfl <| A3 rfl <| Aj rfl)) ?_
           refine B7 rfl rfl (Ar rfl <| Ad) (by rw [eq]; exact decide_eq_true hv1) ?_
           refine Bc rfl (Ag (A3 rfl <| Ar rfl <| Ak rfl <| Ay rfl <| Ak rfl <| Bp rfl <| A3 rfl <| Aj rfl)) ?_
           refine B7 rfl rfl (Ar rfl <| Al rfl <| Ad) (by rw [eq]; exact decide_eq_true hv1) ?_
           refine Bc rfl (Ag (A3 rfl <| Ar rfl <| Al rfl <| Ak rfl <| Ay rfl <| Ak rfl <| Ar rfl <| Ad)) ?_
           refine B7 rfl rfl (Ay rfl <| Ad) (by rw [eq]; exact decide_eq_true hv1) ?_
           refine Bc rfl (Ag (A3 rfl <| Ay rfl <| As rfl ht16)) ?_
           refine B7 rfl rfl (Ay rfl <| Al rfl <| Ad) (by rw [eq]; exact decide_eq_true hv1) ?_
           refine Bc rfl (A9 (k := i) Ey (Al rfl <| Ad) hqs.plain (Ad) rfl hi) ?_
           refine B7 rfl rfl (Ay rfl <| Ar rfl <| Ad) (by rw [eq]; exact decide_eq_true hv1) ?_
           refine Bc rfl (Ap Cb (Ad) (hqs.cell1 hi rfl)) ?_
           refine B7 rfl rfl (Ay rfl <| Ar rfl <| Al rfl <| Ad) (by rw [eq]; exact decide_eq_true hv1) ?_
           refine WQ_c rfl (Bi bd_90 A0 (.cons (Ay rfl <| Ar rfl <| Ad) (.cons (Ay rfl <| Al rfl <| Ad) (.cons (Ay rfl <| Ad) (.cons (Ad) .nil)))) (refCounted_ok hr hv hl hll ht hp hqi hxl2) (fun _ _ h => h)) ?_
           refine B7 rfl rfl (A6 rfl <| Ad) (by rw [eq]; exact decide_eq_true hv1) ?_
           refine Bc rfl (Ag (A3 rfl <| A6 rfl <| Ak rfl <| Ay rfl <| Ak rfl <| Ay rfl <| Ar rfl <| Ad)) ?_
           refine B7 rfl rfl (A6 rfl <| Al rfl <| Ad) (by rw [eq]; exact decide_eq_true hv1) ?_
           refine Bc rfl (Bs (Al rfl <| Ad) (Ad)) ?_
           refine B7 rfl rfl (A3 rfl <| Ay rfl <| Ad) hf ?_
           refine Bc rfl (A2 (A6 rfl <| Ar rfl <| Ad) (by rw [eq]; exact decide_eq_true hv1) (Ad)) ?_
           refine Bc rfl (A7 (A3 rfl <| Ay rfl <| Al rfl <| Ad) hf (Ad)) ?_
           refine Bc rfl (Ae (Ad)) ?_
           refine C4 ?_
           refine Bb <| Ac <| Ai fun ds => Aa rfl (Ag (A3 rfl <| A6 rfl <| Ay rfl <| Al rfl <| As rfl ht16)) ?_
           refine Aa rfl (Br (Ad) Ab rfl (by omega) (by omega)) ?_
           refine Aa rfl (Ae (Ad)) ?_
           refine Ah <| Ac ⟨_, m2 - 1, Off.eq (ou32 rfl <| Bd), by omega, ?_⟩
           exact ⟨i + 1, by omega, (Ad), ((Ar rfl <| Al rfl <| Ad)).trans (congrArg Value.bool (by rw [hitTo_succ hib, ← hqe]; rw [hf]; unfold hitB; rw [decide_eq_true hv1]; rfl)), rfl⟩
          ·
           refine B1 rfl rfl (Ad) (.inl (congrArg Value.bool (by rw [eq]; exact decide_eq_false hv1))) rfl ?_
           refine B1 rfl rfl (Al rfl <| Ad) (.inl (congrArg Value.bool (by rw [eq]; exact decide_eq_false hv1))) rfl ?_
           refine B1 rfl rfl (Ar rfl <| Ad) (.inl (congrArg Value.bool (by rw [eq]; exact decide_eq_false hv1))) rfl ?_
           refine B1 rfl rfl (Ar rfl <| Al rfl <| Ad) (.inl (congrArg Value.bool (by rw [eq]; exact decide_eq_false hv1))) rfl ?_
           refine B1 rfl rfl (Ay rfl <| Ad) (.inl (congrArg Value.bool (by rw [eq]; exact decide_eq_false hv1))) rfl ?_
           refine B1 rfl rfl (Ay rfl <| Al rfl <| Ad) (.inl (congrArg Value.bool (by rw [eq]; exact decide_eq_false hv1))) rfl ?_
           refine B1 rfl rfl (Ay rfl <| Ar rfl <| Ad) (.inl (congrArg Value.bool (by rw [eq]; exact decide_eq_false hv1))) rfl ?_
           refine B1 rfl rfl (Ay rfl <| Ar rfl <| Al rfl <| Ad) (.inl (congrArg Value.bool (by rw [eq]; exact decide_eq_false hv1))) rfl ?_
           refine B1 rfl rfl (A6 rfl <| Ad) (.inl (congrArg Value.bool (by rw [eq]; exact decide_eq_false hv1))) rfl ?_
           refine B1 rfl rfl (A6 rfl <| Al rfl <| Ad) (.inl (congrArg Value.bool (by rw [eq]; exact decide_eq_false hv1))) rfl ?_
           refine B7 rfl rfl (A3 rfl <| Ay rfl <| Ad) hf ?_
           refine Bc rfl (A7 (A6 rfl <| Ar rfl <| Ad) (by rw [eq]; exact decide_eq_false hv1) Ab) ?_
           refine Bc rfl (A7 (A3 rfl <| Ay rfl <| Al rfl <| Ad) hf (Ad)) ?_
           refine Bc rfl (Ae (Ad)) ?_
           refine C4 ?_
           refine Bb <| Ac <| Ai fun ds => Aa rfl (Ag (A3 rfl <| A6 rfl <| Ay rfl <| Al rfl <| As rfl ht16)) ?_
           refine Aa rfl (Br (Ad) Ab rfl (by omega) (by omega)) ?_
           refine Aa rfl (Ae (Ad)) ?_
           refine Ah <| Ac ⟨_, m2 - 1, Off.eq (ou32 rfl <| Bd), by omega, ?_⟩
           exact ⟨i + 1, by omega, (Ad), ((Ar rfl <| Al rfl <| Ad)).trans (congrArg Value.bool (by rw [hitTo_succ hib, ← hqe]; rw [hf]; unfold hitB; rw [decide_eq_false hv1]; rfl)), rfl⟩
        ·
         refine Af <| Af <| Ai fun ds => Aa rfl (Ag (As rfl ht16)) ?_
         refine Aa rfl (Ag (Al rfl <| Ak rfl <| Ay rfl <| Ak rfl <| Ar rfl <| Ad)) ?_
         refine Aa rfl (Bk Ey (Ad) hqs.plain) ?_
         refine Aa rfl (Bw (Ar rfl <| Ad) (Ad)) ?_
         refine Ah <| Ac <| Am (Ad) (by first | rfl | exact decide_eq_false (by omega)) ?_
         obtain rfl : i = qs.length := by omega
         rw [D3 hqm, hitTo_end hv ht hll hx hp hclt (show k < 3 by omega)] at ht15
         by_cases hrb : readB s l x p k = true
         ·
          refine Bn ?_
          refine Ba <| Ba <| Bh <| Ac <| Af <| Ai fun ds => Aa rfl (Ag (Ay rfl <| As rfl ht15)) ?_
          refine Ah <| Ac <| Aq (Ad) hrb ?_
          refine Ai fun ds => Aa rfl (Ag (Ay rfl <| Al rfl <| Ak rfl <| Ay rfl <| As rfl hs13)) ?_
          refine Aa rfl (Ag (Ay rfl <| Ar rfl <| Ak rfl <| Ay rfl <| As rfl hs14)) ?_
          refine Bm rfl (B6 Be Da rfl (.cons (Ad) .nil) rfl rfl (by decide) (by simp [Value.oneCell']) fun b8 hb8 nb8 => ?_)
          refine Bm rfl (B9 Be el_3 (Ar rfl <| Ad) ho (Ad) (Dd (s := 1) 0 rfl rfl (by simp [Value.oneCell'])) (by omega) (by omega) (.s <| .s <| .z) .last fun v9 R10 ho11 => ?_)
          have ho2 := ho11.snoc (x := (k : Int) + 1) rfl rfl
          refine Aa rfl (Ae (Ad)) ?_
          refine Ah <| Bb <| Ac <| C5 (fun _ _ h => h.drop (.cons _ <| .cons_cons _ <| .refl _)) ?_
          refine Ai fun ds => Aa rfl (Ag (A6 rfl <| Ar rfl <| Ak rfl <| Ay rfl <| As rfl hs14)) ?_
          refine Aa rfl (Br (Ad) Ab rfl (by omega) (by omega)) ?_
          refine Aa rfl (Ae (Ad)) ?_
          refine Ah <| Ac ⟨_, m - 1, Off.eq (Dj rfl <| Dv rfl <| Dk rfl <| Ds rfl <| Dv rfl <| Bd), by omega, ?_⟩
          exact ⟨k + 1, by omega, ((Ad)).trans (congrArg (Value.int .i64) (by omega)), _, _, (Ar rfl <| Al rfl <| Ad), by rw [D5, if_pos hrb]; exact ho2, rfl⟩
         ·
          replace hrb : readB s l x p k = false := by simpa using hrb
          refine Bn ?_
          refine Ba <| Ba <| Bh <| Ac <| Af <| Ai fun ds => Aa rfl (Ag (Ay rfl <| As rfl ht15)) ?_
          refine Ah <| Ac <| Am (Ad) hrb ?_
          refine Aw <| Bb <| Ac <| Ai fun ds => Aa rfl (Ag (Ay rfl <| Al rfl <| Ak rfl <| Ay rfl <| As rfl hs14)) ?_
          refine Aa rfl (Br (Ad) Ab rfl (by omega) (by omega)) ?_
          refine Aa rfl (Ae (Ad)) ?_
          refine Ah <| Ac ⟨_, m - 1, Off.eq (Dj rfl <| Ds rfl <| Dv rfl <| Bd), by omega, ?_⟩
          exact ⟨k + 1, by omega, ((Ad)).trans (congrArg (Value.int .i64) (by omega)), _, _, (A6 rfl <| Ak rfl <| Ay rfl <| As rfl hs13), by rw [D5, if_neg (by rw [hrb]; simp)]; exact ho, rfl⟩
      ·
       refine Af <| Af <| Ai fun ds => Aa rfl (Ag (As rfl hs14)) ?_
       refine Aa rfl (D7 (Ad) Ab) ?_
       refine Ah <| Ac <| Am (Ad) (decide_eq_false (by omega)) ?_
       obtain rfl : k = 3 := by omega
       refine Cw (σ := ⟨_, _⟩) (by rfl) ho (.s <| .z) .last fun F12 hF13 hz14 => ?_
       have hrd := ho.sl (fun _ => rfl) hz14 (by omega)
       refine Bn ?_
       refine Ba <| Ba <| Bh <| Ac <| Af <| Ai fun ds => Aa rfl (Ag (Ar rfl <| As rfl hs13)) ?_
       refine Aa rfl (Ae (Ad)) ?_
       refine Aa rfl (Ae Ab) ?_
       refine Ah <| Ac <| A4 <| Ax rfl (.tmp (Al rfl <| Ad) (.tmp (Ad) .nil)) ?_
       rw [readE_ok (readErr_0 hok h12 hc), Int.toNat_natCast, Int.toNat_natCast]
       exact ⟨_, rfl, hrd⟩
   ·
    replace h2 : inB 0 (s.places.length - 1) q = false := by simpa using h2
    have h12 : (inB 0 (s.editions.length - 1) z && inB 0 (s.places.length - 1) q) = false := by rw [h1, h2]; rfl
    refine Aq (Ad) (by simp [h2]) ?_
    refine Ai fun ds => Aa rfl (Ae Ab) ?_
    refine Ah <| Ac <| Af <| Af <| Ai fun ds => Aa rfl (Ag (Ad)) ?_
    refine Aa rfl (Bs (Ad) Ab) ?_
    refine Aa rfl (Ag (Ad)) ?_
    refine At rfl rfl (Ad) (.inl (congrArg Value.bool (by decide))) rfl ?_
    refine At rfl rfl (Al rfl <| Ad) (.inl (congrArg Value.bool (by decide))) rfl ?_
    refine At rfl rfl (Ar rfl <| Ad) (.inl (congrArg Value.bool (by decide))) rfl ?_
    refine At rfl rfl (Ar rfl <| Al rfl <| Ad) (.inl (congrArg Value.bool (by decide))) rfl ?_
    refine Aa rfl (A7 (Ay rfl <| Ad) (by decide) Ab) ?_
    refine Ah <| Ac <| Am (Ad) rfl ?_
    refine Aw <| Ac <| Af <| Af <| Ai fun ds => Aa rfl (Ag (A6 rfl <| Ad)) ?_
    refine Aa rfl (By (Ad) Ab) ?_
    refine Ah <| Ac <| Aq (Ad) (by decide) ?_
    refine Af <| Ai fun ds => Aa rfl (Ag (A6 rfl <| Ar rfl <| Ad)) ?_
    refine Aa rfl (Ae Ab) ?_
    refine Aa rfl (Ae (Al rfl <| Ad)) ?_
    refine Ah <| Ac <| A4 <| Bg ?_
    refine Ax rfl (.tmp (Al rfl <| Ad) (.tmp (Ad) .nil)) ?_
    rw [Er (readErr_2 hok h12) (by decide)]
    exact ⟨_, rfl, Sl.nil⟩
  ·
   replace h1 : inB 0 (s.editions.length - 1) z = false := by simpa using h1
   have h12 : (inB 0 (s.editions.length - 1) z && inB 0 (s.places.length - 1) q) = false := by rw [h1]; rfl
   refine At rfl rfl (Ad) (.inl (congrArg Value.bool (by simp [hlen, h1]))) rfl ?_
   refine At rfl rfl (Al rfl <| Ad) (.inl (congrArg Value.bool (by simp [hlen, h1]))) rfl ?_
   refine At rfl rfl (Ar rfl <| Ad) (.inl (congrArg Value.bool (by simp [hlen, h1]))) rfl ?_
   refine At rfl rfl (Ar rfl <| Al rfl <| Ad) (.inl (congrArg Value.bool (by simp [hlen, h1]))) rfl ?_
   refine At rfl rfl (Ay rfl <| Ad) (.inl (congrArg Value.bool (by simp [hlen, h1]))) rfl ?_
   refine At rfl rfl (Ay rfl <| Al rfl <| Ad) (.inl (congrArg Value.bool (by simp [hlen, h1]))) rfl ?_
   refine At rfl rfl (Ay rfl <| Ar rfl <| Ad) (.inl (congrArg Value.bool (by simp [hlen, h1]))) rfl ?_
   refine Au rfl rfl (A6 rfl <| Ay rfl <| Ar rfl <| Al rfl <| Ad) (by rw [hok]; rfl) ?_
   refine Aa rfl (A2 (Ay rfl <| Ar rfl <| Al rfl <| Ad) (by simp [hlen, h1]) Ab) ?_
   refine Aa rfl (A2 (A3 rfl <| Ad) (by rw [hok]; rfl) (Ad)) ?_
   refine Ah <| Ac <| Aq (Ad) (by first | rfl | simp [hlen, h1]) ?_
   refine Ai fun ds => Aa rfl (Ae Ab) ?_
   refine Ah <| Ac <| Af <| Af <| Ai fun ds => Aa rfl (Ag (Ad)) ?_
   refine Aa rfl (Bs (Ad) Ab) ?_
   refine Aa rfl (Ag (Ad)) ?_
   refine At rfl rfl (Ad) (.inl (congrArg Value.bool (by decide))) rfl ?_
   refine At rfl rfl (Al rfl <| Ad) (.inl (congrArg Value.bool (by decide))) rfl ?_
   refine At rfl rfl (Ar rfl <| Ad) (.inl (congrArg Value.bool (by decide))) rfl ?_
   refine At rfl rfl (Ar rfl <| Al rfl <| Ad) (.inl (congrArg Value.bool (by decide))) rfl ?_
   refine Aa rfl (A7 (Ay rfl <| Ad) (by decide) Ab) ?_
   refine Ah <| Ac <| Am (Ad) rfl ?_
   refine Aw <| Ac <| Af <| Af <| Ai fun ds => Aa rfl (Ag (A6 rfl <| Ad)) ?_
   refine Aa rfl (By (Ad) Ab) ?_
   refine Ah <| Ac <| Aq (Ad) (by decide) ?_
   refine Af <| Ai fun ds => Aa rfl (Ag (A6 rfl <| Ar rfl <| Ad)) ?_
   refine Aa rfl (Ae Ab) ?_
   refine Aa rfl (Ae (Al rfl <| Ad)) ?_
   refine Ah <| Ac <| A4 <| Bg ?_
   refine Ax rfl (.tmp (Al rfl <| Ad) (.tmp (Ad) .nil)) ?_
   rw [Er (readErr_2 hok h12) (by decide)]
   exact ⟨_, rfl, Sl.nil⟩
 ·
  refine Af <| Ai fun ds => Bm rfl (B2 (Aj rfl) rfl fun b15 hb15 nb15 => ?_)
  refine Aa rfl (Ae Ab) ?_
  refine Aa rfl (Ae Ab) ?_
  refine Ah <| Ac <| Af <| Ai fun ds => Aa rfl (Bf B0 (Ar rfl <| Ad) rfl rfl (A8 0 rfl)) ?_
  refine Aa rfl (Ag (Ay rfl <| Aj rfl)) ?_
  refine Bx rfl (Bi bd_70 A0 (.cons (Al rfl <| Ad) (.cons (Ad) .nil)) (refTree_ok hr hl) (fun _ _ h => h)) ?_
  refine Aa rfl (Ae (Ad)) ?_
  refine Ah <| Ac <| Af <| Af <| Ai fun ds => Aa rfl (Ag (Ad)) ?_
  refine Aa rfl (Bs (Ad) Ab) ?_
  refine Aa rfl (Ag (Ad)) ?_
  refine At rfl rfl (Ad) (.inl (congrArg Value.bool (decide_eq_false hok))) rfl ?_
  refine At rfl rfl (Al rfl <| Ad) (.inl (congrArg Value.bool (decide_eq_false hok))) rfl ?_
  refine At rfl rfl (Ar rfl <| Ad) (.inl (congrArg Value.bool (decide_eq_false hok))) rfl ?_
  refine At rfl rfl (Ar rfl <| Al rfl <| Ad) (.inl (congrArg Value.bool (decide_eq_false hok))) rfl ?_
  refine At rfl rfl (Ay rfl <| Ad) (.inl (congrArg Value.bool (decide_eq_false hok))) rfl ?_
  refine At rfl rfl (Ay rfl <| Al rfl <| Ad) (.inl (congrArg Value.bool (decide_eq_false hok))) rfl ?_
  refine At rfl rfl (Ay rfl <| Ar rfl <| Ad) (.inl (congrArg Value.bool (decide_eq_false hok))) rfl ?_
  refine At rfl rfl (Ay rfl <| Ar rfl <| Al rfl <| Ad) (.inl (congrArg Value.bool (decide_eq_false hok))) rfl ?_
  refine At rfl rfl (Ad) (.inr rfl) rfl ?_
  refine At rfl rfl (Al rfl <| Ad) (.inr rfl) rfl ?_
  refine At rfl rfl (Ar rfl <| Ad) (.inr rfl) rfl ?_
  refine At rfl rfl (Ar rfl <| Al rfl <| Ad) (.inr rfl) rfl ?_
  refine At rfl rfl (Ay rfl <| Ad) (.inr rfl) rfl ?_
  refine At rfl rfl (Ay rfl <| Al rfl <| Ad) (.inr rfl) rfl ?_
  refine At rfl rfl (Ay rfl <| Ar rfl <| Ad) (.inr rfl) rfl ?_
  refine At rfl rfl (A6 rfl <| Ay rfl <| Ar rfl <| Al rfl <| Ad) (.inl (congrArg Value.bool (decide_eq_false hok))) rfl ?_
  refine Aa rfl (A7 (A3 rfl <| Ad) (decide_eq_false hok) Ab) ?_
  refine Ah <| Ac <| Am (Ad) rfl ?_
  refine Aw <| Ac <| Af <| Af <| Ai fun ds => Aa rfl (Ag (A3 rfl <| Ay rfl <| Ad)) ?_
  refine Aa rfl (Bs (Ad) Ab) ?_
  refine Aa rfl (Ag (Ad)) ?_
  refine At rfl rfl (Ad) (.inl (congrArg Value.bool (decide_eq_false hok))) rfl ?_
  refine At rfl rfl (Al rfl <| Ad) (.inl (congrArg Value.bool (decide_eq_false hok))) rfl ?_
  refine At rfl rfl (Ar rfl <| Ad) (.inl (congrArg Value.bool (decide_eq_false hok))) rfl ?_
  refine At rfl rfl (Ar rfl <| Al rfl <| Ad) (.inl (congrArg Value.bool (decide_eq_false hok))) rfl ?_
  refine Aa rfl (A7 (Ay rfl <| Ad) (decide_eq_false hok) Ab) ?_
  refine Ah <| Ac <| Am (Ad) rfl ?_
  refine Aw <| Ac <| Af <| Af <| Ai fun ds => Aa rfl (Ag (A3 rfl <| A6 rfl <| Ay rfl <| Ad)) ?_
  refine Aa rfl (By (Ad) Ab) ?_
  refine Ah <| Ac <| Aq (Ad) (decide_eq_true hok) ?_
  refine Af <| Ai fun ds => Aa rfl (Ag (A3 rfl <| A6 rfl <| Ay rfl <| Ar rfl <| Ad)) ?_
  refine Aa rfl (Ae Ab) ?_
  refine Aa rfl (Ae (Al rfl <| Ad)) ?_
  refine Ah <| Ac <| A4 <| Bg ?_
  refine Ax rfl (.tmp (Al rfl <| Ad) (.tmp (Ad) .nil)) ?_
  rw [Er (readErr_1 hok) hok]
  exact ⟨_, rfl, Sl.nil⟩
set_option maxRecDepth 100000 in
theorem refSecond_ok {F : Heap} {vp ve : Value} {ps : List (Value × Edn)} {s : Stm} (hr : StmR F vp ve ps s) {v : Value} {l : List Int} (hl : Ints F v l) (z : Int) : Ok Try.prog 38 [.agg #[vp, ve], v, .int .i64 z].toArray F fun u _ => u = secV s l z := by
 refine Ok.intro Try.func38 rfl Try.ntmps38 rfl fun w0 => ?_
 have hL := hl.plain.lt
 have hlen := hr.len
 have hL1 := hr.eds.plain.lt
 by_cases hok : treeErr s l = 0
 ·
  obtain ⟨hv, hll, ht⟩ := tree_ok hok
  have hne := hv.ne
  refine Af <| Ai fun ds => Bm rfl (B2 (Aj rfl) rfl fun b1 hb1 nb1 => ?_)
  refine Aa rfl (Ae Ab) ?_
  refine Aa rfl (Ae Ab) ?_
  refine Aa rfl (Ae Ab) ?_
  refine Ah <| Ac <| Af <| Ai fun ds => Aa rfl (Bf B0 (Ar rfl <| Al rfl <| Ad) rfl rfl (A8 0 rfl)) ?_
  refine Aa rfl (Ag (Ay rfl <| Al rfl <| Aj rfl)) ?_
  refine Bx rfl (Bi bd_70 A0 (.cons (Al rfl <| Ad) (.cons (Ad) .nil)) (refTree_ok hr hl) (fun _ _ h => h)) ?_
  refine Aa rfl (Ae (Ad)) ?_
  refine Ah <| Ac <| Af <| Af <| Ai fun ds => Aa rfl (Ag (Ad)) ?_
  refine Aa rfl (Bs (Ad) Ab) ?_
  refine Aa rfl (Ag (Ad)) ?_
  refine Au rfl rfl (Ad) (by rw [hok]; rfl) ?_
  refine Aa rfl (Ag (A6 rfl <| Ar rfl <| Al rfl <| Aj rfl)) ?_
  refine Au rfl rfl (Al rfl <| Ad) (by rw [hok]; rfl) ?_
  refine Aa rfl (Ao Bv (A6 rfl <| Ar rfl <| Al rfl <| Ad)) ?_
  refine Au rfl rfl (Ar rfl <| Ad) (by rw [hok]; rfl) ?_
  refine Aa rfl (Ap Bz (Ad) (Cell.own 0 rfl rfl)) ?_
  refine Au rfl rfl (Ar rfl <| Al rfl <| Ad) (by rw [hok]; rfl) ?_
  refine Aa rfl (Bk B5 (Ad) hr.eds.plain) ?_
  refine Au rfl rfl (Ay rfl <| Ad) (by rw [hok]; rfl) ?_
  refine Aa rfl (D2 (Ad) Ab rfl (by omega) (by omega)) ?_
  refine Au rfl rfl (Ay rfl <| Al rfl <| Ad) (by rw [hok]; rfl) ?_
  refine Bx rfl (Bi Ew A0 (.cons (Ay rfl <| Ad) (.cons Ab (.cons (Ad) .nil))) (Dn _ _ _) (fun _ _ h => h)) ?_
  refine Au rfl rfl (Ay rfl <| Ar rfl <| Ad) (by rw [hok]; rfl) ?_
  refine Aa rfl (Ci (Ad)) ?_
  refine Aa rfl (A2 (Ay rfl <| Ar rfl <| Al rfl <| Ad) (by rw [hok]; rfl) (Ad)) ?_
  refine Ah <| Ac ?_
  by_cases h1 : inB 0 (s.editions.length - 1) z = true
  ·
   obtain ⟨x, rfl, hx⟩ := inB_nat h1
   have hxl : x < l.length := by omega
   have eu := C8 hxl
   refine Am (Ad) (by simp [hlen, h1]) ?_
   refine Aw <| Ac <| Af <| Af <| Ai fun ds => Aa rfl (Ag (A6 rfl <| Ar rfl <| Al rfl <| Ad)) ?_
   refine Aa rfl (Bs (Ad) Ab) ?_
   refine Aa rfl (Ag (Ad)) ?_
   refine Au rfl rfl (Ad) (by rw [hok]; rfl) ?_
   refine Aa rfl (Bf B0 (A3 rfl <| Ay rfl <| Al rfl <| Ad) rfl rfl (A8 0 rfl)) ?_
   refine Au rfl rfl (Al rfl <| Ad) (by rw [hok]; rfl) ?_
   refine Aa rfl (Ag (A3 rfl <| Ay rfl <| Ar rfl <| Al rfl <| Aj rfl)) ?_
   refine Au rfl rfl (Ar rfl <| Ad) (by rw [hok]; rfl) ?_
   refine Bx rfl (Bi bd_94 A0 (.cons (Al rfl <| Ad) (.cons (Ad) .nil)) (refFits_ok hr hv hl hll ht) (fun _ _ h => h)) ?_
   refine Au rfl rfl (Ar rfl <| Al rfl <| Ad) (by rw [hok]; rfl) ?_
   refine Aa rfl (Ci (Ad)) ?_
   refine Aa rfl (A2 (Ay rfl <| Ad) (by rw [hok]; rfl) (Ad)) ?_
   refine Ah <| Ac ?_
   by_cases hft : fitsT s l = true
   ·
    refine Am (Ad) (by rw [hft]; rfl) ?_
    refine Aw <| Ac <| Af <| Af <| Ai fun ds => Aa rfl (Ag (A3 rfl <| Ar rfl <| Al rfl <| Ad)) ?_
    refine Aa rfl (Bs (Ad) Ab) ?_
    refine Aa rfl (Ag (Ad)) ?_
    refine Au rfl rfl (Ad) (by rw [hok]; rfl) ?_
    refine Aa rfl (Ag (A3 rfl <| A6 rfl <| Ay rfl <| Ar rfl <| Aj rfl)) ?_
    refine Au rfl rfl (Al rfl <| Ad) (by rw [hok]; rfl) ?_
    refine Aa rfl (Ag (A3 rfl <| A6 rfl <| Ay rfl <| Ar rfl <| Al rfl <| Aj rfl)) ?_
    refine Au rfl rfl (Ar rfl <| Ad) (by rw [hok]; rfl) ?_
    refine Aa rfl (A9 (k := x) Be (Al rfl <| Ad) hl.plain (Ad) rfl hxl) ?_
    refine Au rfl rfl (Ar rfl <| Al rfl <| Ad) (by rw [hok]; rfl) ?_
    refine Aa rfl (Ap Bj (Ad) (hl.cell1 hxl rfl)) ?_
    refine Au rfl rfl (Ay rfl <| Ad) (by rw [hok]; rfl) ?_
    refine Aa rfl (Bs (Ad) Ab) ?_
    refine Aa rfl (A2 (Ay rfl <| Al rfl <| Ad) (by rw [hok]; rfl) (Ad)) ?_
    refine Ah <| Ac ?_
    by_cases hu : upN l x = -1
    ·
     refine Aq (Ad) (by rw [eu]; exact decide_eq_true hu) ?_
     refine Ai fun ds => Aa rfl (Ae Ab) ?_
     refine Ah <| Ac <| Af <| Af <| Ai fun ds => Aa rfl (Ag (Ad)) ?_
     refine Aa rfl (By (Ad) Ab) ?_
     refine Ah <| Ac <| Aq (Ad) (by decide) ?_
     refine Af <| Ai fun ds => Aa rfl (Ag (Ar rfl <| Ad)) ?_
     refine Aa rfl (Ae Ab) ?_
     refine Aa rfl (Ae Ab) ?_
     refine Aa rfl (Ae (Ar rfl <| Ad)) ?_
     refine Ah <| Ac <| A4 <| Bg ?_
     refine Ax rfl (.tmp (Ar rfl <| Ad) (.tmp (Al rfl <| Ad) (.tmp (Ad) .nil))) ?_
     show _ = _
     rw [secE_bad (secErr_4 hok h1 hft hu) (by decide)]; rfl
    ·
     have hse := secErr_0 hok h1 hft hu
     refine Am (Ad) (by rw [eu]; exact decide_eq_false hu) ?_
     refine Aw <| Ac <| Af <| Af <| Ai fun ds => Aa rfl (Ag (A3 rfl <| A6 rfl <| Ay rfl <| Ad)) ?_
     refine Aa rfl (By (Ad) Ab) ?_
     refine Ah <| Ac <| Am (Ad) (by rw [hok]; rfl) ?_
     refine Aw <| Ac <| Af <| Ai fun ds => Aa rfl (Ae Ab) ?_
     refine Aa rfl (Ae Ab) ?_
     refine Ah <| Ac <| Af <| Af <| Ai fun ds => Aa rfl (Ae Ab) ?_
     refine Ah <| Ac <| Az <| Bu [10, 11, 12, 47, 48, 49, 50, 51, 52, 53, 54, 55, 56, 57, 58, 59, 60, 61, 62, 63, 64, 65, 66, 67, 68, 69, 70, 71, 72] (fun m e σ => ∃ k : Nat, m + k = l.length ∧ e 12 = .int .i64 (k : Int) ∧ e 10 = .int .i64 (secTo s l x k).1 ∧ e 11 = .int .i64 (secTo s l x k).2 ∧ σ = ⟨F, [(b1, bx 25 [vp, ve])]⟩) (l.length) ?_ ?_
     · exact ⟨0, by omega, (Ad), (Ar rfl <| Ad), (Al rfl <| Ad), rfl⟩
     ·
      rintro m e _ ⟨k, hm, hs12, hs10, hs11, rfl⟩
      by_cases hk : k < l.length
      ·
       refine Af <| Af <| Ai fun ds => Aa rfl (Ag (As rfl hs12)) ?_
       refine Aa rfl (Ag (Al rfl <| Ak rfl <| Bp rfl <| A6 rfl <| Al rfl <| Aj rfl)) ?_
       refine Aa rfl (Bk Be (Ad) hl.plain) ?_
       refine Aa rfl (Bw (Ar rfl <| Ad) (Ad)) ?_
       refine Ah <| Ac <| Aq (Ad) (by first | rfl | exact decide_eq_true (by omega)) ?_
       by_cases hcan : canT s l x k = true
       ·
        refine Aw <| Ac <| Af <| Az <| Af <| Ai fun ds => Aa rfl (Bf B0 (Ay rfl <| Ak rfl <| Bp rfl <| A6 rfl <| Ad) rfl rfl (A8 0 rfl)) ?_
        refine Aa rfl (Ag (Ay rfl <| Al rfl <| Ak rfl <| Bp rfl <| A6 rfl <| Al rfl <| Aj rfl)) ?_
        refine Aa rfl (Ag (Ay rfl <| Ar rfl <| Ak rfl <| Bp rfl <| A6 rfl <| Al rfl <| Aj rfl)) ?_
        refine Aa rfl (Ag (Ay rfl <| Ar rfl <| Al rfl <| As rfl hs12)) ?_
        refine Bx rfl (Bi bd_49 A0 (.cons (Ar rfl <| Al rfl <| Ad) (.cons (Ar rfl <| Ad) (.cons (Al rfl <| Ad) (.cons (Ad) .nil)))) (refCan_ok hr hv hl hll ht hxl hk) (fun _ _ h => h)) ?_
        refine Aa rfl (Ag (Ad)) ?_
        refine Au rfl rfl (Ad) hcan ?_
        refine Aa rfl (Bf B0 (A6 rfl <| Ar rfl <| Ak rfl <| Bp rfl <| A6 rfl <| Ad) rfl rfl (A8 0 rfl)) ?_
        refine Au rfl rfl (Al rfl <| Ad) hcan ?_
        refine Aa rfl (Ag (A6 rfl <| Ar rfl <| Al rfl <| Ak rfl <| Bp rfl <| A6 rfl <| Al rfl <| Aj rfl)) ?_
        refine Au rfl rfl (Ar rfl <| Ad) hcan ?_
        refine Aa rfl (Ag (A6 rfl <| Ay rfl <| Ak rfl <| Bp rfl <| A6 rfl <| Al rfl <| Aj rfl)) ?_
        refine Au rfl rfl (Ar rfl <| Al rfl <| Ad) hcan ?_
        refine Aa rfl (Ag (A6 rfl <| Ay rfl <| Al rfl <| As rfl hs12)) ?_
        refine Au rfl rfl (Ay rfl <| Ad) hcan ?_
        refine Bx rfl (Bi bd_50 A0 (.cons (Ar rfl <| Al rfl <| Ad) (.cons (Ar rfl <| Ad) (.cons (Al rfl <| Ad) (.cons (Ad) .nil)))) (refSaves_ok hr hv hl hll ht hxl hk hu) (fun _ _ h => h)) ?_
        refine Au rfl rfl (Ay rfl <| Al rfl <| Ad) hcan ?_
        refine Aa rfl (Ag (A6 rfl <| Ay rfl <| Ar rfl <| Al rfl <| As rfl hs11)) ?_
        refine Au rfl rfl (Ay rfl <| Ar rfl <| Ad) hcan ?_
        refine Aa rfl (De (Al rfl <| Ad) (Ad)) ?_
        refine Aa rfl (A2 (Ay rfl <| Ar rfl <| Al rfl <| Ad) hcan (Ad)) ?_
        refine Ah <| Ac ?_
        by_cases hgt : (secTo s l x k).2 < savesN s l x k
        ·
         refine Aq (Ad) (decide_eq_true hgt) ?_
         refine Ai fun ds => Aa rfl (Ag (A3 rfl <| Ar rfl <| As rfl hs12)) ?_
         refine Aa rfl (Bf B0 (A3 rfl <| Ar rfl <| Al rfl <| Ak rfl <| Bp rfl <| A6 rfl <| Ad) rfl rfl (A8 0 rfl)) ?_
         refine Aa rfl (Ag (A3 rfl <| Ay rfl <| Ak rfl <| Bp rfl <| A6 rfl <| Al rfl <| Aj rfl)) ?_
         refine Aa rfl (Ag (A3 rfl <| Ay rfl <| Al rfl <| Ak rfl <| Bp rfl <| A6 rfl <| Al rfl <| Aj rfl)) ?_
         refine Aa rfl (Ag (A3 rfl <| Ay rfl <| Ar rfl <| As rfl hs12)) ?_
         refine Bx rfl (Bi bd_50 A0 (.cons (Ar rfl <| Al rfl <| Ad) (.cons (Ar rfl <| Ad) (.cons (Al rfl <| Ad) (.cons (Ad) .nil)))) (refSaves_ok hr hv hl hll ht hxl hk hu) (fun _ _ h => h)) ?_
         refine Aa rfl (Ae (Ay rfl <| Al rfl <| Ad)) ?_
         refine Aa rfl (Ae (Al rfl <| Ad)) ?_
         refine Ah <| Bb <| Ac <| Ai fun ds => Aa rfl (Ag (A3 rfl <| A6 rfl <| Ar rfl <| As rfl hs12)) ?_
         refine Aa rfl (Br (Ad) Ab rfl (by omega) (by omega)) ?_
         refine Aa rfl (Ae (Ad)) ?_
         refine Ah <| Ac ⟨_, m - 1, Off.eq (Cr rfl <| Dj rfl <| Dv rfl <| Dk rfl <| Bd), by omega, ?_⟩
         refine ⟨k + 1, by omega, (Ad), ((Ay rfl <| Ad)).trans (by rw [secTo_yes hcan hgt]), ((Ar rfl <| Al rfl <| Ad)).trans (by rw [secTo_yes hcan hgt]), rfl⟩
        ·
         refine Am (Ad) (decide_eq_false hgt) ?_
         refine Aw <| Bb <| Ac <| Ai fun ds => Aa rfl (Ag (A3 rfl <| Ar rfl <| As rfl hs12)) ?_
         refine Aa rfl (Br (Ad) Ab rfl (by omega) (by omega)) ?_
         refine Aa rfl (Ae (Ad)) ?_
         refine Ah <| Ac ⟨_, m - 1, Off.eq (Cr rfl <| Dv rfl <| Dk rfl <| Bd), by omega, ?_⟩
         refine ⟨k + 1, by omega, (Ad), ((A3 rfl <| Ay rfl <| Al rfl <| As rfl hs10)).trans (by rw [Dx (fun h => hgt h.2)]), ((A3 rfl <| Ay rfl <| Al rfl <| As rfl hs11)).trans (by rw [Dx (fun h => hgt h.2)]), rfl⟩
       ·
        replace hcan : canT s l x k = false := by simpa using hcan
        refine Aw <| Ac <| Af <| Az <| Af <| Ai fun ds => Aa rfl (Bf B0 (Ay rfl <| Ak rfl <| Bp rfl <| A6 rfl <| Ad) rfl rfl (A8 0 rfl)) ?_
        refine Aa rfl (Ag (Ay rfl <| Al rfl <| Ak rfl <| Bp rfl <| A6 rfl <| Al rfl <| Aj rfl)) ?_
        refine Aa rfl (Ag (Ay rfl <| Ar rfl <| Ak rfl <| Bp rfl <| A6 rfl <| Al rfl <| Aj rfl)) ?_
        refine Aa rfl (Ag (Ay rfl <| Ar rfl <| Al rfl <| As rfl hs12)) ?_
        refine Bx rfl (Bi bd_49 A0 (.cons (Ar rfl <| Al rfl <| Ad) (.cons (Ar rfl <| Ad) (.cons (Al rfl <| Ad) (.cons (Ad) .nil)))) (refCan_ok hr hv hl hll ht hxl hk) (fun _ _ h => h)) ?_
        refine Aa rfl (Ag (Ad)) ?_
        refine At rfl rfl (Ad) (.inl (congrArg Value.bool hcan)) rfl ?_
        refine At rfl rfl (Al rfl <| Ad) (.inl (congrArg Value.bool hcan)) rfl ?_
        refine At rfl rfl (Ar rfl <| Ad) (.inl (congrArg Value.bool hcan)) rfl ?_
        refine At rfl rfl (Ar rfl <| Al rfl <| Ad) (.inl (congrArg Value.bool hcan)) rfl ?_
        refine At rfl rfl (Ay rfl <| Ad) (.inl (congrArg Value.bool hcan)) rfl ?_
        refine At rfl rfl (Ay rfl <| Al rfl <| Ad) (.inl (congrArg Value.bool hcan)) rfl ?_
        refine At rfl rfl (Ay rfl <| Ar rfl <| Ad) (.inl (congrArg Value.bool hcan)) rfl ?_
        refine Aa rfl (A7 (Ay rfl <| Ar rfl <| Al rfl <| Ad) hcan Ab) ?_
        refine Ah <| Ac <| Am (Ad) rfl ?_
        refine Aw <| Bb <| Ac <| Ai fun ds => Aa rfl (Ag (A3 rfl <| Ar rfl <| As rfl hs12)) ?_
        refine Aa rfl (Br (Ad) Ab rfl (by omega) (by omega)) ?_
        refine Aa rfl (Ae (Ad)) ?_
        refine Ah <| Ac ⟨_, m - 1, Off.eq (Cr rfl <| Dv rfl <| Dk rfl <| Bd), by omega, ?_⟩
        refine ⟨k + 1, by omega, (Ad), ((A3 rfl <| Ay rfl <| Al rfl <| As rfl hs10)).trans (by rw [Dx (fun h => by rw [hcan] at h; exact absurd h.1 (by decide))]), ((A3 rfl <| Ay rfl <| Al rfl <| As rfl hs11)).trans (by rw [Dx (fun h => by rw [hcan] at h; exact absurd h.1 (by decide))]), rfl⟩
      ·
       refine Af <| Af <| Ai fun ds => Aa rfl (Ag (As rfl hs12)) ?_
       refine Aa rfl (Ag (Al rfl <| Ak rfl <| Bp rfl <| A6 rfl <| Al rfl <| Aj rfl)) ?_
       refine Aa rfl (Bk Be (Ad) hl.plain) ?_
       refine Aa rfl (Bw (Ar rfl <| Ad) (Ad)) ?_
       refine Ah <| Ac <| Am (Ad) (by first | rfl | exact decide_eq_false (by omega)) ?_
       obtain rfl : k = l.length := by omega
       rw [hll] at hs10 hs11
       by_cases hz0 : (secTo s l x s.editions.length).2 = 0
       ·
        refine Bn ?_
        refine Ba <| Ba <| Bh <| Ac <| Af <| Af <| Ai fun ds => Aa rfl (Ag (Ay rfl <| As rfl hs11)) ?_
        refine Aa rfl (Bs (Ad) Ab) ?_
        refine Ah <| Ac <| Aq (Ad) (decide_eq_true hz0) ?_
        refine Af <| Ai fun ds => Aa rfl (Ae Ab) ?_
        refine Aa rfl (Ae Ab) ?_
        refine Aa rfl (Ae Ab) ?_
        refine Ah <| Ac <| A4 <| Bg ?_
        refine Ax rfl (.tmp (Ar rfl <| Ad) (.tmp (Al rfl <| Ad) (.tmp (Ad) .nil))) ?_
        show _ = _
        rw [secE_zero hse hz0]; rfl
       ·
        refine Bn ?_
        refine Ba <| Ba <| Bh <| Ac <| Af <| Af <| Ai fun ds => Aa rfl (Ag (Ay rfl <| As rfl hs11)) ?_
        refine Aa rfl (Bs (Ad) Ab) ?_
        refine Ah <| Ac <| Am (Ad) (decide_eq_false hz0) ?_
        refine Aw <| Ac <| Af <| Ai fun ds => Aa rfl (Ag (Ay rfl <| Ar rfl <| As rfl hs10)) ?_
        refine Aa rfl (Ag (Ay rfl <| Ar rfl <| Al rfl <| As rfl hs11)) ?_
        refine Aa rfl (Ae (Al rfl <| Ad)) ?_
        refine Aa rfl (Ae (Al rfl <| Ad)) ?_
        refine Aa rfl (Ae Ab) ?_
        refine Ah <| Ac <| A4 <| Ax rfl (.tmp (Ar rfl <| Ad) (.tmp (Al rfl <| Ad) (.tmp (Ad) .nil))) ?_
        show _ = _
        rw [secE_ok hse hz0]; rfl
   ·
    replace hft : fitsT s l = false := by simpa using hft
    refine Aq (Ad) (by rw [hft]; rfl) ?_
    refine Ai fun ds => Aa rfl (Ae Ab) ?_
    refine Ah <| Ac <| Af <| Af <| Ai fun ds => Aa rfl (Ag (Ad)) ?_
    refine Aa rfl (Bs (Ad) Ab) ?_
    refine Aa rfl (Ag (Ad)) ?_
    refine At rfl rfl (Ad) (.inl (congrArg Value.bool (by decide))) rfl ?_
    refine At rfl rfl (Al rfl <| Ad) (.inl (congrArg Value.bool (by decide))) rfl ?_
    refine At rfl rfl (Ar rfl <| Ad) (.inl (congrArg Value.bool (by decide))) rfl ?_
    refine At rfl rfl (Ar rfl <| Al rfl <| Ad) (.inl (congrArg Value.bool (by decide))) rfl ?_
    refine At rfl rfl (Ay rfl <| Ad) (.inl (congrArg Value.bool (by decide))) rfl ?_
    refine Aa rfl (A7 (Ay rfl <| Al rfl <| Ad) (by decide) Ab) ?_
    refine Ah <| Ac <| Am (Ad) rfl ?_
    refine Aw <| Ac <| Af <| Af <| Ai fun ds => Aa rfl (Ag (A6 rfl <| Al rfl <| Ad)) ?_
    refine Aa rfl (By (Ad) Ab) ?_
    refine Ah <| Ac <| Aq (Ad) (by decide) ?_
    refine Af <| Ai fun ds => Aa rfl (Ag (A6 rfl <| Ar rfl <| Al rfl <| Ad)) ?_
    refine Aa rfl (Ae Ab) ?_
    refine Aa rfl (Ae Ab) ?_
    refine Aa rfl (Ae (Ar rfl <| Ad)) ?_
    refine Ah <| Ac <| A4 <| Bg ?_
    refine Ax rfl (.tmp (Ar rfl <| Ad) (.tmp (Al rfl <| Ad) (.tmp (Ad) .nil))) ?_
    show _ = _
    rw [secE_bad (secErr_3 hok h1 hft) (by decide)]; rfl
  ·
   replace h1 : inB 0 (s.editions.length - 1) z = false := by simpa using h1
   refine Aq (Ad) (by simp [hlen, h1]) ?_
   refine Ai fun ds => Aa rfl (Ae Ab) ?_
   refine Ah <| Ac <| Af <| Af <| Ai fun ds => Aa rfl (Ag (Ad)) ?_
   refine Aa rfl (Bs (Ad) Ab) ?_
   refine Aa rfl (Ag (Ad)) ?_
   refine At rfl rfl (Ad) (.inl (congrArg Value.bool (by decide))) rfl ?_
   refine At rfl rfl (Al rfl <| Ad) (.inl (congrArg Value.bool (by decide))) rfl ?_
   refine At rfl rfl (Ar rfl <| Ad) (.inl (congrArg Value.bool (by decide))) rfl ?_
   refine At rfl rfl (Ar rfl <| Al rfl <| Ad) (.inl (congrArg Value.bool (by decide))) rfl ?_
   refine Aa rfl (A7 (Ay rfl <| Ad) (by decide) Ab) ?_
   refine Ah <| Ac <| Am (Ad) rfl ?_
   refine Aw <| Ac <| Af <| Af <| Ai fun ds => Aa rfl (Ag (A6 rfl <| Ad)) ?_
   refine Aa rfl (Bs (Ad) Ab) ?_
   refine Aa rfl (Ag (Ad)) ?_
   refine At rfl rfl (Ad) (.inl (congrArg Value.bool (by decide))) rfl ?_
   refine At rfl rfl (Al rfl <| Ad) (.inl (congrArg Value.bool (by decide))) rfl ?_
   refine At rfl rfl (Ar rfl <| Ad) (.inl (congrArg Value.bool (by decide))) rfl ?_
   refine At rfl rfl (Ar rfl <| Al rfl <| Ad) (.inl (congrArg Value.bool (by decide))) rfl ?_
   refine At rfl rfl (Ay rfl <| Ad) (.inl (congrArg Value.bool (by decide))) rfl ?_
   refine Aa rfl (A7 (Ay rfl <| Al rfl <| Ad) (by decide) Ab) ?_
   refine Ah <| Ac <| Am (Ad) rfl ?_
   refine Aw <| Ac <| Af <| Af <| Ai fun ds => Aa rfl (Ag (A3 rfl <| Al rfl <| Ad)) ?_
   refine Aa rfl (By (Ad) Ab) ?_
   refine Ah <| Ac <| Aq (Ad) (by decide) ?_
   refine Af <| Ai fun ds => Aa rfl (Ag (A3 rfl <| Ar rfl <| Al rfl <| Ad)) ?_
   refine Aa rfl (Ae Ab) ?_
   refine Aa rfl (Ae Ab) ?_
   refine Aa rfl (Ae (Ar rfl <| Ad)) ?_
   refine Ah <| Ac <| A4 <| Bg ?_
   refine Ax rfl (.tmp (Ar rfl <| Ad) (.tmp (Al rfl <| Ad) (.tmp (Ad) .nil))) ?_
   show _ = _
   rw [secE_bad (secErr_2 hok h1) (by decide)]; rfl
 ·
  refine Af <| Ai fun ds => Bm rfl (B2 (Aj rfl) rfl fun b3 hb3 nb3 => ?_)
  refine Aa rfl (Ae Ab) ?_
  refine Aa rfl (Ae Ab) ?_
  refine Aa rfl (Ae Ab) ?_
  refine Ah <| Ac <| Af <| Ai fun ds => Aa rfl (Bf B0 (Ar rfl <| Al rfl <| Ad) rfl rfl (A8 0 rfl)) ?_
  refine Aa rfl (Ag (Ay rfl <| Al rfl <| Aj rfl)) ?_
  refine Bx rfl (Bi bd_70 A0 (.cons (Al rfl <| Ad) (.cons (Ad) .nil)) (refTree_ok hr hl) (fun _ _ h => h)) ?_
  refine Aa rfl (Ae (Ad)) ?_
  refine Ah <| Ac <| Af <| Af <| Ai fun ds => Aa rfl (Ag (Ad)) ?_
  refine Aa rfl (Bs (Ad) Ab) ?_
  refine Aa rfl (Ag (Ad)) ?_
  refine At rfl rfl (Ad) (.inl (congrArg Value.bool (decide_eq_false hok))) rfl ?_
  refine At rfl rfl (Al rfl <| Ad) (.inl (congrArg Value.bool (decide_eq_false hok))) rfl ?_
  refine At rfl rfl (Ar rfl <| Ad) (.inl (congrArg Value.bool (decide_eq_false hok))) rfl ?_
  refine At rfl rfl (Ar rfl <| Al rfl <| Ad) (.inl (congrArg Value.bool (decide_eq_false hok))) rfl ?_
  refine At rfl rfl (Ay rfl <| Ad) (.inl (congrArg Value.bool (decide_eq_false hok))) rfl ?_
  refine At rfl rfl (Ay rfl <| Al rfl <| Ad) (.inl (congrArg Value.bool (decide_eq_false hok))) rfl ?_
  refine At rfl rfl (Ay rfl <| Ar rfl <| Ad) (.inl (congrArg Value.bool (decide_eq_false hok))) rfl ?_
  refine Aa rfl (A7 (Ay rfl <| Ar rfl <| Al rfl <| Ad) (decide_eq_false hok) Ab) ?_
  refine Ah <| Ac <| Am (Ad) rfl ?_
  refine Aw <| Ac <| Af <| Af <| Ai fun ds => Aa rfl (Ag (A6 rfl <| Ar rfl <| Al rfl <| Ad)) ?_
  refine Aa rfl (Bs (Ad) Ab) ?_
  refine Aa rfl (Ag (Ad)) ?_
  refine At rfl rfl (Ad) (.inl (congrArg Value.bool (decide_eq_false hok))) rfl ?_
  refine At rfl rfl (Al rfl <| Ad) (.inl (congrArg Value.bool (decide_eq_false hok))) rfl ?_
  refine At rfl rfl (Ar rfl <| Ad) (.inl (congrArg Value.bool (decide_eq_false hok))) rfl ?_
  refine At rfl rfl (Ar rfl <| Al rfl <| Ad) (.inl (congrArg Value.bool (decide_eq_false hok))) rfl ?_
  refine Aa rfl (A7 (Ay rfl <| Ad) (decide_eq_false hok) Ab) ?_
  refine Ah <| Ac <| Am (Ad) rfl ?_
  refine Aw <| Ac <| Af <| Af <| Ai fun ds => Aa rfl (Ag (A3 rfl <| Ar rfl <| Al rfl <| Ad)) ?_
  refine Aa rfl (Bs (Ad) Ab) ?_
  refine Aa rfl (Ag (Ad)) ?_
  refine At rfl rfl (Ad) (.inl (congrArg Value.bool (decide_eq_false hok))) rfl ?_
  refine At rfl rfl (Al rfl <| Ad) (.inl (congrArg Value.bool (decide_eq_false hok))) rfl ?_
  refine At rfl rfl (Ar rfl <| Ad) (.inl (congrArg Value.bool (decide_eq_false hok))) rfl ?_
  refine At rfl rfl (Ar rfl <| Al rfl <| Ad) (.inl (congrArg Value.bool (decide_eq_false hok))) rfl ?_
  refine At rfl rfl (Ay rfl <| Ad) (.inl (congrArg Value.bool (decide_eq_false hok))) rfl ?_
  refine Aa rfl (A7 (Ay rfl <| Al rfl <| Ad) (decide_eq_false hok) Ab) ?_
  refine Ah <| Ac <| Am (Ad) rfl ?_
  refine Aw <| Ac <| Af <| Af <| Ai fun ds => Aa rfl (Ag (A3 rfl <| A6 rfl <| Ay rfl <| Ad)) ?_
  refine Aa rfl (By (Ad) Ab) ?_
  refine Ah <| Ac <| Aq (Ad) (decide_eq_true hok) ?_
  refine Af <| Ai fun ds => Aa rfl (Ag (A3 rfl <| A6 rfl <| Ay rfl <| Ar rfl <| Ad)) ?_
  refine Aa rfl (Ae Ab) ?_
  refine Aa rfl (Ae Ab) ?_
  refine Aa rfl (Ae (Ar rfl <| Ad)) ?_
  refine Ah <| Ac <| A4 <| Bg ?_
  refine Ax rfl (.tmp (Ar rfl <| Ad) (.tmp (Al rfl <| Ad) (.tmp (Ad) .nil))) ?_
  show _ = _
  rw [secE_bad (secErr_1 hok) hok]; rfl
end Go.Proofs.Ytccogmkhijgelaa
namespace Go.Proofs.Ytccogmkhijgelaa
open Go.RowKit
theorem bd_36 : Body Try.prog 36 := Bq (by kernel_rfl)
theorem bd_38 : Body Try.prog 38 := Bq (by kernel_rfl)
set_option maxRecDepth 100000 in
theorem readingsLaw_ok {F : Heap} {vp ve : Value} {ps : List (Value × Edn)} {s : Stm} (hr : StmR F vp ve ps s) {v : Value} {l : List Int} (hl : Ints F v l) (x0 x1 : Int) : Ok Try.prog 5 [.agg #[vp, ve], v, .agg #[.int .i64 x0, .int .i64 x1]].toArray F fun u _ => u = .bool true := by
 have hle0 : F.le F := Heap.le_refl _
 refine Ok.intro Try.func5 rfl Try.ntmps5 rfl fun w0 => ?_
 refine Af <| Ai fun ds => Bm rfl (B2 (Aj rfl) rfl fun b1 hb1 nb1 => ?_)
 refine Bm rfl (B2 (Al rfl <| Aj rfl) rfl fun b2 hb2 nb2 => ?_)
 refine Aa rfl (Ae Ab) ?_
 refine Ah <| Ac <| Af <| Ai fun ds => Aa rfl (Bf B0 (Ar rfl <| Ad) rfl rfl (A8 1 rfl)) ?_
 refine Aa rfl (Ag (Ay rfl <| Aj rfl)) ?_
 refine Aa rfl (Bt (k := 0) ar_27 (Ar rfl <| Al rfl <| Ad) Ab rfl (by decide)) ?_
 refine Aa rfl (Ap Bj (Ad) (Cell.own 0 rfl rfl)) ?_
 refine Aa rfl (Bt (k := 1) ar_27 (Ay rfl <| Al rfl <| Ad) Ab rfl (by decide)) ?_
 refine Aa rfl (Ap Bj (Ad) (Cell.own 0 rfl rfl)) ?_
 refine Bm rfl (Ch bd_35 A0 (.cons (Ay rfl <| Al rfl <| Ad) (.cons (Ay rfl <| Ad) (.cons (Ar rfl <| Ad) (.cons (Ad) .nil)))) (reading_top_ok hr hl _ _) fun v3 F4 hr5 hF6 => ?_)
 replace hr := hr.mono hF6
 replace hl := hl.mono hF6
 obtain ⟨va, rfl, ha⟩ := hr5
 refine Aa rfl (Ag (Ad)) ?_
 refine Aa rfl (A1 (Ad) rfl) ?_
 refine Aa rfl (A1 (Al rfl <| Ad) rfl) ?_
 refine Aa rfl (Ae (Al rfl <| Ad)) ?_
 refine Aa rfl (Ae (Al rfl <| Ad)) ?_
 refine Ah <| Ac <| Af <| Ai fun ds => Aa rfl (Bf B0 (A6 rfl <| Ay rfl <| Ar rfl <| Ad) rfl rfl (A8 1 rfl)) ?_
 refine Aa rfl (Ag (A3 rfl <| Aj rfl)) ?_
 refine Aa rfl (Bt (k := 0) ar_27 (A6 rfl <| Ay rfl <| Ar rfl <| Al rfl <| Ad) Ab rfl (by decide)) ?_
 refine Aa rfl (Ap Bj (Ad) (Cell.own 0 rfl rfl)) ?_
 refine Aa rfl (Bt (k := 1) ar_27 (A3 rfl <| Al rfl <| Ad) Ab rfl (by decide)) ?_
 refine Aa rfl (Ap Bj (Ad) (Cell.own 0 rfl rfl)) ?_
 refine Bm rfl (Ch bd_36 A0 (.cons (Ay rfl <| Al rfl <| Ad) (.cons (Ay rfl <| Ad) (.cons (Ar rfl <| Ad) (.cons (Ad) .nil)))) (refReading_ok hr hl _ _) fun v7 F8 hr9 hF10 => ?_)
 replace hr := hr.mono hF10
 replace hl := hl.mono hF10
 replace ha := ha.mono hF10
 obtain ⟨vb, rfl, hb⟩ := hr9
 refine Aa rfl (Ag (Ad)) ?_
 refine Aa rfl (A1 (Ad) rfl) ?_
 refine Aa rfl (A1 (Al rfl <| Ad) rfl) ?_
 refine Aa rfl (Ae (Al rfl <| Ad)) ?_
 refine Aa rfl (Ae (Al rfl <| Ad)) ?_
 refine Ah <| Ac <| Af <| Af <| Ai fun ds => Aa rfl (Ag (A6 rfl <| Ay rfl <| Al rfl <| Ad)) ?_
 refine Aa rfl (Ag (Ar rfl <| Ad)) ?_
 refine Bx rfl (Bi bd_20 A0 (.cons (Al rfl <| Ad) (.cons (Ad) .nil)) (refInts_ok ha hb) (fun _ _ h => h)) ?_
 refine Aa rfl (Ci (Ad)) ?_
 refine Aa rfl (Ag (Ad)) ?_
 refine Au rfl rfl (Ad) (by rw [decide_eq_true rfl]; first | done | rfl) ?_
 refine Aa rfl (Ag (A3 rfl <| Al rfl <| Ad)) ?_
 refine Au rfl rfl (Al rfl <| Ad) (by rw [decide_eq_true rfl]; first | done | rfl) ?_
 refine Aa rfl (Ag (Ay rfl <| Ar rfl <| Ad)) ?_
 refine Au rfl rfl (Ar rfl <| Ad) (by rw [decide_eq_true rfl]; first | done | rfl) ?_
 refine Aa rfl (By (Al rfl <| Ad) (Ad)) ?_
 refine Aa rfl (A7 (Ar rfl <| Al rfl <| Ad) (by rw [decide_eq_true rfl]; first | done | rfl) (Ad)) ?_
 refine Ah <| Ac <| Am (Ad) (decide_eq_false (fun h => h rfl)) ?_
 refine Aw <| Ac <| Af <| Ai fun ds => Aa rfl (Bf B0 (Bp rfl <| Ar rfl <| Al rfl <| Ad) rfl rfl (A8 1 rfl)) ?_
 refine Aa rfl (Ag (Bp rfl <| Ay rfl <| Al rfl <| Aj rfl)) ?_
 refine Aa rfl (Bt (k := 0) ar_27 (Bp rfl <| Ay rfl <| Ad) Ab rfl (by decide)) ?_
 refine Aa rfl (Ap Bj (Ad) (Cell.own 0 rfl rfl)) ?_
 refine Bx rfl (Bi bd_37 A0 (.cons (Ar rfl <| Al rfl <| Ad) (.cons (Ar rfl <| Ad) (.cons (Ad) .nil))) (second_top_ok hr hl _) (fun _ _ h => h.trans (show secV s l x0 = .tuple #[.int .i64 (secE s l x0).1, .int .i64 (secE s l x0).2.1, .int .i64 (secE s l x0).2.2] from rfl))) ?_
 refine Aa rfl (Ag (Ad)) ?_
 refine Aa rfl (A1 (Ad) rfl) ?_
 refine Aa rfl (A1 (Al rfl <| Ad) rfl) ?_
 refine Aa rfl (A1 (Ar rfl <| Ad) rfl) ?_
 refine Aa rfl (Ae (Ar rfl <| Ad)) ?_
 refine Aa rfl (Ae (Ar rfl <| Ad)) ?_
 refine Aa rfl (Ae (Ar rfl <| Ad)) ?_
 refine Ah <| Ac <| Af <| Ai fun ds => Aa rfl (Bf B0 (Bp rfl <| A6 rfl <| Ay rfl <| Ar rfl <| Al rfl <| Ad) rfl rfl (A8 1 rfl)) ?_
 refine Aa rfl (Ag (Bp rfl <| A3 rfl <| Al rfl <| Aj rfl)) ?_
 refine Aa rfl (Bt (k := 0) ar_27 (Bp rfl <| A3 rfl <| Ad) Ab rfl (by decide)) ?_
 refine Aa rfl (Ap Bj (Ad) (Cell.own 0 rfl rfl)) ?_
 refine Bx rfl (Bi bd_38 A0 (.cons (Ar rfl <| Al rfl <| Ad) (.cons (Ar rfl <| Ad) (.cons (Ad) .nil))) (refSecond_ok hr hl _) (fun _ _ h => h.trans (show secV s l x0 = .tuple #[.int .i64 (secE s l x0).1, .int .i64 (secE s l x0).2.1, .int .i64 (secE s l x0).2.2] from rfl))) ?_
 refine Aa rfl (Ag (Ad)) ?_
 refine Aa rfl (A1 (Ad) rfl) ?_
 refine Aa rfl (A1 (Al rfl <| Ad) rfl) ?_
 refine Aa rfl (A1 (Ar rfl <| Ad) rfl) ?_
 refine Aa rfl (Ae (Ar rfl <| Ad)) ?_
 refine Aa rfl (Ae (Ar rfl <| Ad)) ?_
 refine Aa rfl (Ae (Ar rfl <| Ad)) ?_
 refine Ah <| Ac <| Af <| Ai fun ds => Aa rfl (Ag (A6 rfl <| Ay rfl <| Ar rfl <| Ad)) ?_
 refine Aa rfl (Ag (Ar rfl <| Al rfl <| Ad)) ?_
 refine Aa rfl (Bs (Al rfl <| Ad) (Ad)) ?_
 refine Aa rfl (Ag (Ad)) ?_
 refine Au rfl rfl (Ad) (decide_eq_true rfl) ?_
 refine Aa rfl (Ag (A3 rfl <| Al rfl <| Ad)) ?_
 refine Au rfl rfl (Al rfl <| Ad) (decide_eq_true rfl) ?_
 refine Aa rfl (Ag (Ay rfl <| Ar rfl <| Ad)) ?_
 refine Au rfl rfl (Ar rfl <| Ad) (decide_eq_true rfl) ?_
 refine Aa rfl (Bs (Al rfl <| Ad) (Ad)) ?_
 refine Aa rfl (A2 (Ar rfl <| Al rfl <| Ad) (decide_eq_true rfl) (Ad)) ?_
 refine Aa rfl (Ag (Ad)) ?_
 refine Au rfl rfl (Ad) (decide_eq_true rfl) ?_
 refine Aa rfl (Ag (A3 rfl <| Ay rfl <| Al rfl <| Ad)) ?_
 refine Au rfl rfl (Al rfl <| Ad) (decide_eq_true rfl) ?_
 refine Aa rfl (Ag (A6 rfl <| Ar rfl <| Ad)) ?_
 refine Au rfl rfl (Ar rfl <| Ad) (decide_eq_true rfl) ?_
 refine Aa rfl (Bs (Al rfl <| Ad) (Ad)) ?_
 refine Aa rfl (A2 (Ar rfl <| Al rfl <| Ad) (decide_eq_true rfl) (Ad)) ?_
 refine Aa rfl (Ag (Ad)) ?_
 refine Au rfl rfl (Ad) (decide_eq_true rfl) ?_
 refine Bx rfl (Bi bd_26 A0 .nil awake_ok (fun _ _ h => h)) ?_
 refine Aa rfl (A2 (Al rfl <| Ad) (decide_eq_true rfl) (Ad)) ?_
 refine Aa rfl (Ae (Ad)) ?_
 refine Ah <| Ac <| A4 <| Ax rfl (.tmp (Ad) .nil) ?_
 rfl
end Go.Proofs.Ytccogmkhijgelaa
namespace Go.Proofs.Ytccogmkhijgelaa
open Go.ChangeShapes Go.WideShapes Go.ChangeAt Go.RowKit
set_option maxRecDepth 100000 in
theorem stemReadingsLifted (os : Os) (started : os.Started) (H : Type) (enc : TypeId × Value → H) :
   ReturnsInHanded {} Try.checked os 5 .any (Rows.stemReadingsSpec.pre6 enc Try.prog Try.f5 Rows.stemReadingsRow.domain false) (Rows.stemReadingsSpec.post enc Try.prog Try.f5 false true false false) := by
 refine returnsInHanded_of_change_sized (C := Try.checked) ownKnob0 started (by kernel_rfl) Try.func5
   (ChangeSpec.witness6 (enc := enc) (C := Try.checked) false ⟨#[], #[.agg #[.slice none 0 0, .slice none 0 0], .slice none 0 0, .agg #[.int .i64 0, .int .i64 0]], []⟩ 8 (by kernel_rfl) (by kernel_rfl) (by kernel_rfl) (by kernel_rfl)) ?_
 intro W base args ds gs before hval0 hW hcnd hsz _
 have hval : ∀ (j : Nat) t v, Try.f5.params[j]? = some t → args[j]? = some v → Value.okWide Try.prog W .any base t v := hval0
 have hW' := hW
 obtain ⟨p, q, hA0, hV, rfl, hfz, hnd⟩ := hW
 have hA : DataW.TrodAll enc Try.prog W 0 (fun _ => true) true Try.f5.params.toList args.toList ds p := hA0
 rw [Try.params5] at hA hval
 obtain ⟨v0, vs0, d0, ds0, p0, q0, hargs, rfl, rfl, h0, r0⟩ := trodAll_cons hA
 obtain ⟨v1, vs1, d1, ds1, p1, q1, rfl, rfl, rfl, h1, r1⟩ := trodAll_cons r0
 obtain ⟨v2, vs2, d2, ds2, p2, q2, rfl, rfl, rfl, h2, r2⟩ := trodAll_cons r1
 obtain ⟨rfl, rfl, rfl⟩ := trodAll_nil r2
 obtain rfl : args = #[v0, v1, v2] := by cases args; simp_all
 obtain ⟨rfl, rfl⟩ := trodVars_none hV
 have hsz' : (DataW.weightsEach Try.prog (Try.f5.params.toList ++ []) ([d0, d1, d2] ++ [])).all (· ≤ reachBytes) = true := hsz
 rw [Try.params5] at hsz'
 have k0 := h0
 have lt0 : ∀ x ∈ p0, x.block < W.heap.size := by obtain ⟨m, hm⟩ := k0; exact DataW.trod_lt m _ _ _ hm
 have k1 := h1
 have lt1 : ∀ x ∈ p1, x.block < W.heap.size := by obtain ⟨m, hm⟩ := k1; exact DataW.trod_lt m _ _ _ hm
 have k2 := h2
 have lt2 : ∀ x ∈ p2, x.block < W.heap.size := by obtain ⟨m, hm⟩ := k2; exact DataW.trod_lt m _ _ _ hm
 obtain ⟨vp, ve, ps, s, rfl, hr⟩ := arg_stem (hval 0 25 v0 rfl rfl) h0 (weights_at hsz' (j := 0) rfl rfl)
 obtain ⟨l, hl, -⟩ := arg_ints (hval 1 26 v1 rfl rfl) h1 (weights_at hsz' (j := 1) rfl rfl)
 obtain ⟨x0, x1, rfl⟩ := arg_pair (hval 2 27 v2 rfl rfl) h2 (weights_at hsz' (j := 2) rfl rfl)
 clear hA0 hval0
 refine (Ok.law (readingsLaw_ok hr hl x0 x1)).mono fun e W' ⟨he, bel⟩ => ?_
 subst he
 exact ⟨_, rfl, _, _, _, [], _, [], hW', trodAll_mk1 (shut_bool Try.underlying4 _), (trodAll_cons_mk (Below.trod laidOut (by kernel_rfl) (of_decide_eq_true (by kernel_rfl)) k0 bel lt0) (trodAll_cons_mk (Below.trod laidOut (by kernel_rfl) (of_decide_eq_true (by kernel_rfl)) k1 bel lt1) (trodAll_cons_mk (Below.trod laidOut (by kernel_rfl) (of_decide_eq_true (by kernel_rfl)) k2 bel lt2) trodAll_mk0))), rfl, bel.frame _, fun h => by cases h⟩
theorem stemReadings : Rows.StemReadingsSaid :=
 OpenClaim.holds_of_wide 5 Try.f5 rfl rfl rfl rfl rfl rfl rfl ⟨rfl, rfl, rfl, rfl, rfl⟩ rfl rfl rfl rfl rfl (by kernel_rfl) Try.func5 (by kernel_rfl)
   (of_decide_eq_true (by kernel_rfl)) (by unfold Func.isWrapper; first | (rw [if_pos (by decide +kernel)]; kernel_rfl) | (rw [if_neg (by decide +kernel)]; exact ⟨rfl, rfl⟩))
   (fun os started H enc _ => stemReadingsLifted os started H enc)
#print axioms stemReadings
end Go.Proofs.Ytccogmkhijgelaa
