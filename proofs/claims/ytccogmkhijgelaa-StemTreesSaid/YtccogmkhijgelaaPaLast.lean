/-
  StemTrees returns true of any stem, numbers and editions, and leaves what it is handed as it was. No conditions.
-/
import Derived.Test.YtccogmkhijgelaaPae
namespace Go.Proofs.Ytccogmkhijgelaa
open Go.RowKit
theorem bd_70 : Body Try.prog 70 := Bq (by kernel_rfl)
theorem bd_71 : Body Try.prog 71 := Bq (by kernel_rfl)
theorem bd_88 : Body Try.prog 88 := Bq (by kernel_rfl)
theorem bd_89 : Body Try.prog 89 := Bq (by kernel_rfl)
theorem bd_90 : Body Try.prog 90 := Bq (by kernel_rfl)
theorem bd_94 : Body Try.prog 94 := Bq (by kernel_rfl)
theorem el_26 : ElemT Try.prog 26 1 24 (.slice none 0 0) := elemT_of (by kernel_rfl) rfl (by decide)
theorem sl_114 : SliceT Try.prog 114 26 1 := Ep (by kernel_rfl)
set_option maxRecDepth 100000 in
theorem filled_zero {F : Heap} {vp ve : Value} {ps : List (Value × Edn)} {s : Stm} (hr : StmR F vp ve ps s) (hv : ValidT s) {p : Nat} (_hp : p < s.places.length) {v : Value} {b : List Int} (hb : Ints F v b) (hbl : b.length = s.editions.length) : Ok Try.prog 89 [.agg #[vp, ve], .int .i64 (p : Int), v].toArray F fun u F' => LstZ F' u (fillF s p 0 b) := by
 refine Ok.intro Try.func89 rfl Try.ntmps89 rfl fun w0 => ?_
 have hL := hb.plain.lt
 have hlen := hr.len
 have hL1 := hr.eds.plain.lt
 have hne := hv.ne
 refine Af <| Ai fun ds => Bl rfl (B1 (Aj rfl) rfl fun b1 hb1 nb1 => ?_)
 refine Aa rfl (Ae Ac) ?_
 refine Ah <| Ab <| Af <| Af <| Ai fun ds => Aa rfl (Ag (Ar rfl <| Aj rfl)) ?_
 refine Aa rfl (Bi Bc (Ad) hb.plain) ?_
 refine Aa rfl (Ao Bu (Ar rfl <| Al rfl <| Ad)) ?_
 refine Aa rfl (Ap B0 (Ad) (Cell.own 0 rfl rfl)) ?_
 refine Aa rfl (Bi B4 (Ad) hr.eds.plain) ?_
 refine Aa rfl (Bw (Ar rfl <| Al rfl <| Ad) (Ad)) ?_
 refine Ah <| Ab <| Aq (Ad) (decide_eq_true (by omega)) ?_
 refine Af <| Ai fun ds => Aa rfl (Ag (A7 rfl <| Aj rfl)) ?_
 refine Bl rfl (B5 sl_114 zr_26 rfl (.cons (Ad) .nil) rfl rfl (by decide) (by intro u hu; simp only [List.mem_cons, List.not_mem_nil, or_false] at hu; subst hu; exact hb.plain.one) fun b2 hb2 nb2 => ?_)
 refine B7 (i := 0) rfl hb2 .here fun F3 hF4 hz5 => ?_
 replace hb := hb.mono hF4
 have hsl6 := lstz_box1 hz5
 refine Aa rfl (Ae (Ad)) ?_
 refine Ah <| Ab <| A3 <| Be ?_
 refine Ax rfl (.tmp (Ad) .nil) ?_
 exact hsl6 _ hb
set_option maxRecDepth 100000 in
theorem filled_step {F : Heap} {vp ve : Value} {ps : List (Value × Edn)} {s : Stm} (hr : StmR F vp ve ps s) (hv : ValidT s) {p : Nat} (_hp : p < s.places.length) {v : Value} {b : List Int} (hb : Ints F v b) {r : Nat} (hbl : b.length + (r + 1) = s.editions.length) (ih : ∀ {G : Heap} {w : Value} {c : List Int}, StmR G vp ve ps s → Ints G w c → c.length + r = s.editions.length → Ok Try.prog 89 [.agg #[vp, ve], .int .i64 (p : Int), w].toArray G fun u G2 => LstZ G2 u (fillF s p r c)) : Ok Try.prog 89 [.agg #[vp, ve], .int .i64 (p : Int), v].toArray F fun u F' => LstZ F' u (fillF s p (r + 1) b) := by
 have hle0 : F.le F := Heap.le_refl _
 refine Ok.intro Try.func89 rfl Try.ntmps89 rfl fun w0 => ?_
 have hL := hb.plain.lt
 have hlen := hr.len
 have hL1 := hr.eds.plain.lt
 have hne := hv.ne
 have hxn : b.length < s.editions.length := by omega
 have hxp : b.length < ps.length := by omega
 have hrx := hr.rd hxp
 have hpx : p < (s.ed b.length).rd.length := by rw [hv.rdl _ hxn]; exact _hp
 have er := C6 hpx
 refine Af <| Ai fun ds => Bl rfl (B1 (Aj rfl) rfl fun b1 hb1 nb1 => ?_)
 refine Aa rfl (Ae Ac) ?_
 refine Ah <| Ab <| Af <| Af <| Ai fun ds => Aa rfl (Ag (Ar rfl <| Aj rfl)) ?_
 refine Aa rfl (Bi Bc (Ad) hb.plain) ?_
 refine Aa rfl (Ao Bu (Ar rfl <| Al rfl <| Ad)) ?_
 refine Aa rfl (Ap B0 (Ad) (Cell.own 0 rfl rfl)) ?_
 refine Aa rfl (Bi B4 (Ad) hr.eds.plain) ?_
 refine Aa rfl (Bw (Ar rfl <| Al rfl <| Ad) (Ad)) ?_
 refine Ah <| Ab <| Am (Ad) (decide_eq_false (by omega)) ?_
 refine Aw <| Ab <| Af <| Ai fun ds => Aa rfl (Ae Ac) ?_
 refine Ah <| Ab <| Af <| Ai fun ds => Aa rfl (Ao Bu (A7 rfl <| Ad)) ?_
 refine Aa rfl (Ap B0 (Ad) (Cell.own 0 rfl rfl)) ?_
 refine Aa rfl (Ag (A7 rfl <| Ar rfl <| Al rfl <| Aj rfl)) ?_
 refine Aa rfl (Bi Bc (Ad) hb.plain) ?_
 refine Aa rfl (A8 (k := b.length) B4 (Ar rfl <| Ad) hr.eds.plain (Ad) rfl hxp) ?_
 refine Aa rfl (Bp B8 (Ad)) ?_
 refine Aa rfl (Ap Ce (Ad) (hr.eds.cell hxp rfl)) ?_
 refine Aa rfl (Ag (A4 rfl <| Aj rfl)) ?_
 refine Aa rfl (A8 (k := p) Bc (Al rfl <| Ad) hrx.plain (Ad) rfl hpx) ?_
 refine Aa rfl (Ap Bk (Ad) (hrx.cell1 hpx rfl)) ?_
 refine Aa rfl (Ae (Ad)) ?_
 refine Ah <| Ab <| Af <| Af <| Ai fun ds => Aa rfl (Ae Ac) ?_
 refine Ah <| Ab <| Az <| Bs [7, 9, 28, 29, 30, 31, 32, 33, 34, 35, 36, 37, 38, 39, 40, 41, 42, 43, 44, 45, 46, 47, 48, 49] (fun m e σ => ∃ G, F.le G ∧ StmR G vp ve ps s ∧ Ints G v b ∧ ∃ j : Nat, m + j = 3 ∧ e 9 = .int .i64 ((j : Int) + 1) ∧ ∃ v7 R7 qs, e 7 = v7 ∧ Own 26 1 v7 qs.length (qs.flatMap slZ) R7 ∧ AllZ G qs ∧ qs.map (·.2) = filTo s p r b j ∧ σ = ⟨G, (b1, bx 25 [vp, ve]) :: R7⟩) (3) ?_ ?_
 · exact ⟨_, hle0, hr, hb, 0, by omega, (Ad), _, _, [], (A7 rfl <| Ay rfl <| Ad), Own.nil, AllZ.nil, rfl, rfl⟩
 ·
  rintro m e _ ⟨G, hle0, hr, hb, j, hm, hs9, v7, R7, qs, hs7, ho, hqa, hqs, rfl⟩
  by_cases hlt : j < 3
  ·
   refine Af <| Af <| Ai fun ds => Aa rfl (Ag (As rfl hs9)) ?_
   refine Aa rfl (Ef (Ad) Ac) ?_
   refine Ah <| Ab <| Aq (Ad) (decide_eq_true (by omega)) ?_
   have hqb : qs.length ≤ 729 := by rw [Ey hqs]; exact filTo_len5 (by omega) (by omega)
   by_cases hz : s.r b.length p = 0
   ·
    have hfit : fitR s p b.length ((j : Int) + 1) := .inl hz
    refine Aw <| Ab <| Af <| Az <| Af <| Ai fun ds => Aa rfl (Ag (Ar rfl <| Ak rfl <| Al rfl <| Ad)) ?_
    refine Aa rfl (Bw (Ad) Ac) ?_
    refine Aa rfl (Ag (Ad)) ?_
    refine Au rfl rfl (Ad) (.inl (congrArg Value.bool (by rw [er]; exact decide_eq_true hz))) rfl ?_
    refine Au rfl rfl (Al rfl <| Ad) (.inl (congrArg Value.bool (by rw [er]; exact decide_eq_true hz))) rfl ?_
    refine Au rfl rfl (Ar rfl <| Ad) (.inl (congrArg Value.bool (by rw [er]; exact decide_eq_true hz))) rfl ?_
    refine Aa rfl (A5 (Ar rfl <| Al rfl <| Ad) (by rw [er]; exact decide_eq_true hz) Ac) ?_
    refine Ah <| Ab <| Aq (Ad) rfl ?_
    have hleS := hle0
    refine Ct (.inl rfl) (fun _ _ h => h) (.cons_cons _ <| List.nil_sublist _) [] (by kernel_rfl) fun ds => ?_
    refine A2 0 rfl (by kernel_rfl) (by kernel_rfl) (by kernel_rfl) (by kernel_rfl) rfl rfl (fun _ h => h.drop (.cons_cons _ <| List.nil_sublist _)) (fun _ _ _ h => h) (Ag (A7 rfl <| Al rfl <| As rfl hs7)) ?_
    refine A2 1 rfl (by kernel_rfl) (by kernel_rfl) (by kernel_rfl) (by kernel_rfl) rfl rfl (fun _ h => h.drop (.cons_cons _ <| List.nil_sublist _)) (fun _ _ _ h => h) (A9 Bz (A7 rfl <| Ar rfl <| Ak rfl <| A4 rfl <| Ay rfl <| Ad) rfl rfl (A6 0 rfl)) ?_
    refine A2 2 rfl (by kernel_rfl) (by kernel_rfl) (by kernel_rfl) (by kernel_rfl) rfl rfl (fun _ h => h.drop (.cons_cons _ <| List.nil_sublist _)) (fun _ _ _ h => h) (Ag (A7 rfl <| Ar rfl <| Al rfl <| Ak rfl <| A4 rfl <| Ay rfl <| Al rfl <| Aj rfl)) ?_
    refine A2 4 rfl (by kernel_rfl) (by kernel_rfl) (by kernel_rfl) (by kernel_rfl) rfl rfl (fun _ h => h.drop (.cons_cons _ <| List.nil_sublist _)) (fun _ _ _ h => h) (Ag (A7 rfl <| Ay rfl <| Ak rfl <| A4 rfl <| Ay rfl <| Al rfl <| Aj rfl)) ?_
    refine A2 6 rfl (by kernel_rfl) (by kernel_rfl) (by kernel_rfl) (by kernel_rfl) rfl rfl (fun _ h => h.drop (.cons_cons _ <| List.nil_sublist _)) (fun _ _ _ h => h) (Ag (A7 rfl <| Ay rfl <| Al rfl <| As rfl hs9)) ?_
    refine WX_pick [3, 7] (by kernel_rfl) (by decide) (in2 ?_ ?_)
    ·
     refine WXop_x rfl rfl (x_build0 Bc fun b3 hb3 nb3 => ⟨fun _ _ => (fun _ h => h.drop (.cons _ <| .cons_cons _ <| List.nil_sublist _)), ?_⟩)
     refine WX_pick [5, 7] (by kernel_rfl) (by decide) (in2 ?_ ?_)
     ·
      refine WXop_x rfl rfl (B6 Bc el_3 (Ad) (Ex rfl) (Ar rfl <| Ad) hb.srcInt (by omega) (by omega) (.z) .box fun v4 R5 ho6 => ⟨fun _ _ => (fun _ h => h.drop (List.sublist_append_of_sublist_right <| .cons_cons _ <| List.nil_sublist _)), ?_⟩)
      have ho2 : Own 3 1 v4 b.length (b.flatMap intE) R5 := by simpa using ho6
      refine Dv 7 rfl (by kernel_rfl) rfl (B5 Bc C9 rfl (.cons (Ar rfl <| Ad) .nil) rfl rfl (by decide) (by simp [Value.oneCell']) fun b7 hb7 nb7 => ⟨fun _ _ => (fun _ h => h.drop (.cons _ <| List.sublist_append_of_sublist_right <| .cons_cons _ <| List.nil_sublist _)), ?_⟩)
      refine Dv 8 rfl (by kernel_rfl) rfl (B6 Bc el_3 (Al rfl <| Ad) ho2 (Ad) (Db (s := 1) 0 rfl rfl (by simp [Value.oneCell'])) (by omega) (by omega) (.s <| .z) .more fun v8 R9 ho10 => ⟨fun _ _ => (fun _ h => h.drop (.cons _ <| List.sublist_append_of_sublist_right <| .cons_cons _ <| List.nil_sublist _)), ?_⟩)
      have ho3 := ho10.snoc (x := (j : Int) + 1) rfl rfl
      refine WX_freezeR (σ := ⟨_, _⟩) (by rfl) ho3 (.s <| .z) .more fun F11 hF12 hz13 => ?_
      replace hr := hr.mono hF12
      replace hb := hb.mono hF12
      replace hqa := hqa.mono hF12
      replace hle0 := Heap.le_trans hle0 hF12
      have hn2 := ho3.sl (fun _ => rfl) hz13 (by simp only [List.length_append, List.length_singleton]; omega)
      refine Dv 9 rfl (by kernel_rfl) rfl (Cd bd_89 A1 (.cons (Ay rfl <| Ar rfl <| Al rfl <| Ad) (.cons (Ay rfl <| Ar rfl <| Ad) (.cons (Ad) .nil))) (ih hr hn2 (by simp only [List.length_append, List.length_singleton]; omega)) fun v14 F15 hr16 hF17 => ⟨fun _ _ _ h => (h.drop (.cons _ <| .cons_cons _ <| List.nil_sublist _)).weak (Heap.le_trans hF12 hF17) hleS, ?_⟩)
      replace hr := hr.mono hF17
      replace hb := hb.mono hF17
      replace hqa := hqa.mono hF17
      replace hle0 := Heap.le_trans hle0 hF17
      obtain ⟨zs, hzs, hza, hzm⟩ := hr16
      have hzl : zs.length ≤ 243 := by rw [Ey hzm]; exact fill_len5 (by omega)
      refine Dv 10 rfl (by kernel_rfl) rfl (B6 sl_114 el_26 (A7 rfl <| Al rfl <| Ad) ho (Ad) (hzs.srcM (fun _ => rfl) hza.one) (by omega) (by omega) (.s <| .s <| .z) .last fun v18 R19 ho20 => ⟨fun _ _ => (fun _ h => (h.drop (.cons _ <| .cons_cons _ <| List.nil_sublist _)).weak (Heap.le_trans hF12 hF17) hleS), ?_⟩)
      have ho6 := ho20
      refine A2 11 rfl (by kernel_rfl) (by kernel_rfl) (by kernel_rfl) (by kernel_rfl) rfl rfl (fun _ h => (h.drop (.cons _ <| .cons_cons _ <| List.nil_sublist _)).weak (Heap.le_trans hF12 hF17) hleS) (fun _ _ _ h => h) (Ae (Ad)) ?_
      refine Cq (by kernel_rfl) ?_ _
      refine Bd <| Ab <| C1 (fun _ _ h => h.drop (.cons _ <| .cons_cons _ <| .refl _)) ?_
      refine Ai fun ds => Aa rfl (Ag (A4 rfl <| Ay rfl <| Al rfl <| As rfl hs9)) ?_
      refine Aa rfl (Br (Ad) Ac rfl (by omega) (by omega)) ?_
      refine Aa rfl (Ae (Ad)) ?_
      refine Ah <| Ab ⟨_, m - 1, Off.eq (Cu rfl <| Dn rfl <| Bf), by omega, ?_⟩
      exact ⟨_, hle0, hr, hb, j + 1, by omega, ((Ad)).trans (congrArg (Value.int .i64) (by omega)), _, _, qs ++ zs, (Ar rfl <| Al rfl <| Ad), by rw [flat_sndZ, List.length_append]; exact ho6, hqa.add hza, by rw [List.map_append, hqs, hzm, filTo_yes hlt hfit], rfl⟩
     ·
      refine WXop_x rfl rfl (B5 Bc C9 rfl (.cons (Al rfl <| Ad) .nil) rfl rfl (by decide) (by simp [Value.oneCell']) fun b21 hb21 nb21 => ⟨fun _ _ => (fun _ h => h.drop (.cons _ <| .cons _ <| .cons_cons _ <| List.nil_sublist _)), ?_⟩)
      refine Dv 5 rfl (by kernel_rfl) rfl (B6 Bc el_3 (Al rfl <| Ad) (Ex rfl) (Ar rfl <| Al rfl <| Ad) hb.srcInt (by omega) (by omega) (.s <| .z) .box fun v22 R23 ho24 => ⟨fun _ _ => (fun _ h => h.drop (.cons _ <| List.sublist_append_of_sublist_right <| .cons_cons _ <| List.nil_sublist _)), ?_⟩)
      have ho2 : Own 3 1 v22 b.length (b.flatMap intE) R23 := by simpa using ho24
      refine Dv 8 rfl (by kernel_rfl) rfl (B6 Bc el_3 (Ad) ho2 (Al rfl <| Ad) (Db (s := 1) 0 rfl rfl (by simp [Value.oneCell'])) (by omega) (by omega) (.s <| .z) .more fun v25 R26 ho27 => ⟨fun _ _ => (fun _ h => h.drop (.cons _ <| List.sublist_append_of_sublist_right <| .cons_cons _ <| List.nil_sublist _)), ?_⟩)
      have ho3 := ho27.snoc (x := (j : Int) + 1) rfl rfl
      refine WX_freezeR (σ := ⟨_, _⟩) (by rfl) ho3 (.s <| .z) .more fun F28 hF29 hz30 => ?_
      replace hr := hr.mono hF29
      replace hb := hb.mono hF29
      replace hqa := hqa.mono hF29
      replace hle0 := Heap.le_trans hle0 hF29
      have hn2 := ho3.sl (fun _ => rfl) hz30 (by simp only [List.length_append, List.length_singleton]; omega)
      refine Dv 9 rfl (by kernel_rfl) rfl (Cd bd_89 A1 (.cons (Ay rfl <| Ar rfl <| Al rfl <| Ad) (.cons (Ay rfl <| Ar rfl <| Ad) (.cons (Ad) .nil))) (ih hr hn2 (by simp only [List.length_append, List.length_singleton]; omega)) fun v31 F32 hr33 hF34 => ⟨fun _ _ _ h => (h.drop (.cons _ <| .cons_cons _ <| List.nil_sublist _)).weak (Heap.le_trans hF29 hF34) hleS, ?_⟩)
      replace hr := hr.mono hF34
      replace hb := hb.mono hF34
      replace hqa := hqa.mono hF34
      replace hle0 := Heap.le_trans hle0 hF34
      obtain ⟨zs, hzs, hza, hzm⟩ := hr33
      have hzl : zs.length ≤ 243 := by rw [Ey hzm]; exact fill_len5 (by omega)
      refine Dv 10 rfl (by kernel_rfl) rfl (B6 sl_114 el_26 (A7 rfl <| Al rfl <| Ad) ho (Ad) (hzs.srcM (fun _ => rfl) hza.one) (by omega) (by omega) (.s <| .s <| .z) .last fun v35 R36 ho37 => ⟨fun _ _ => (fun _ h => (h.drop (.cons _ <| .cons_cons _ <| List.nil_sublist _)).weak (Heap.le_trans hF29 hF34) hleS), ?_⟩)
      have ho6 := ho37
      refine A2 11 rfl (by kernel_rfl) (by kernel_rfl) (by kernel_rfl) (by kernel_rfl) rfl rfl (fun _ h => (h.drop (.cons _ <| .cons_cons _ <| List.nil_sublist _)).weak (Heap.le_trans hF29 hF34) hleS) (fun _ _ _ h => h) (Ae (Ad)) ?_
      refine Cq (by kernel_rfl) ?_ _
      refine Bd <| Ab <| C1 (fun _ _ h => h.drop (.cons _ <| .cons_cons _ <| .refl _)) ?_
      refine Ai fun ds => Aa rfl (Ag (A4 rfl <| Ay rfl <| Al rfl <| As rfl hs9)) ?_
      refine Aa rfl (Br (Ad) Ac rfl (by omega) (by omega)) ?_
      refine Aa rfl (Ae (Ad)) ?_
      refine Ah <| Ab ⟨_, m - 1, Off.eq (Cu rfl <| Dn rfl <| Bf), by omega, ?_⟩
      exact ⟨_, hle0, hr, hb, j + 1, by omega, ((Ad)).trans (congrArg (Value.int .i64) (by omega)), _, _, qs ++ zs, (Ar rfl <| Al rfl <| Ad), by rw [flat_sndZ, List.length_append]; exact ho6, hqa.add hza, by rw [List.map_append, hqs, hzm, filTo_yes hlt hfit], rfl⟩
    ·
     refine WXop_x rfl rfl (B5 Bc C9 rfl (.cons (Ad) .nil) rfl rfl (by decide) (by simp [Value.oneCell']) fun b38 hb38 nb38 => ⟨fun _ _ => (fun _ h => h.drop (.cons _ <| .cons_cons _ <| List.nil_sublist _)), ?_⟩)
     refine Dv 3 rfl (by kernel_rfl) rfl (x_build0 Bc fun b39 hb39 nb39 => ⟨fun _ _ => (fun _ h => h.drop (.cons _ <| .cons _ <| .cons_cons _ <| List.nil_sublist _)), ?_⟩)
     refine Dv 5 rfl (by kernel_rfl) rfl (B6 Bc el_3 (Ad) (Ex rfl) (Ar rfl <| Al rfl <| Ad) hb.srcInt (by omega) (by omega) (.z) .box fun v40 R41 ho42 => ⟨fun _ _ => (fun _ h => h.drop (List.sublist_append_of_sublist_right <| .cons _ <| .cons_cons _ <| List.nil_sublist _)), ?_⟩)
     have ho2 : Own 3 1 v40 b.length (b.flatMap intE) R41 := by simpa using ho42
     refine Dv 8 rfl (by kernel_rfl) rfl (B6 Bc el_3 (Ad) ho2 (Ar rfl <| Ad) (src_boxM (s := 1) (List.mem_append_right _ <| .head _) rfl (by simp [Value.oneCell'])) (by omega) (by omega) (.z) .more fun v43 R44 ho45 => ⟨fun _ _ => (fun _ h => h.drop (List.sublist_append_of_sublist_right <| .cons _ <| .cons_cons _ <| List.nil_sublist _)), ?_⟩)
     have ho3 := ho45.snoc (x := (j : Int) + 1) rfl rfl
     refine WX_freezeR (σ := ⟨_, _⟩) (by rfl) ho3 (.z) .more fun F46 hF47 hz48 => ?_
     replace hr := hr.mono hF47
     replace hb := hb.mono hF47
     replace hqa := hqa.mono hF47
     replace hle0 := Heap.le_trans hle0 hF47
     have hn2 := ho3.sl (fun _ => rfl) hz48 (by simp only [List.length_append, List.length_singleton]; omega)
     refine Dv 9 rfl (by kernel_rfl) rfl (Cd bd_89 A1 (.cons (Ay rfl <| Ar rfl <| Al rfl <| Ad) (.cons (Ay rfl <| Ar rfl <| Ad) (.cons (Ad) .nil))) (ih hr hn2 (by simp only [List.length_append, List.length_singleton]; omega)) fun v49 F50 hr51 hF52 => ⟨fun _ _ _ h => (h.drop (.cons _ <| .cons_cons _ <| List.nil_sublist _)).weak (Heap.le_trans hF47 hF52) hleS, ?_⟩)
     replace hr := hr.mono hF52
     replace hb := hb.mono hF52
     replace hqa := hqa.mono hF52
     replace hle0 := Heap.le_trans hle0 hF52
     obtain ⟨zs, hzs, hza, hzm⟩ := hr51
     have hzl : zs.length ≤ 243 := by rw [Ey hzm]; exact fill_len5 (by omega)
     refine Dv 10 rfl (by kernel_rfl) rfl (B6 sl_114 el_26 (A7 rfl <| Al rfl <| Ad) ho (Ad) (hzs.srcM (fun _ => rfl) hza.one) (by omega) (by omega) (.s <| .s <| .z) .last fun v53 R54 ho55 => ⟨fun _ _ => (fun _ h => (h.drop (.cons _ <| .cons_cons _ <| List.nil_sublist _)).weak (Heap.le_trans hF47 hF52) hleS), ?_⟩)
     have ho6 := ho55
     refine A2 11 rfl (by kernel_rfl) (by kernel_rfl) (by kernel_rfl) (by kernel_rfl) rfl rfl (fun _ h => (h.drop (.cons _ <| .cons_cons _ <| List.nil_sublist _)).weak (Heap.le_trans hF47 hF52) hleS) (fun _ _ _ h => h) (Ae (Ad)) ?_
     refine Cq (by kernel_rfl) ?_ _
     refine Bd <| Ab <| C1 (fun _ _ h => h.drop (.cons _ <| .cons_cons _ <| .refl _)) ?_
     refine Ai fun ds => Aa rfl (Ag (A4 rfl <| Ay rfl <| Al rfl <| As rfl hs9)) ?_
     refine Aa rfl (Br (Ad) Ac rfl (by omega) (by omega)) ?_
     refine Aa rfl (Ae (Ad)) ?_
     refine Ah <| Ab ⟨_, m - 1, Off.eq (Cu rfl <| Dn rfl <| Bf), by omega, ?_⟩
     exact ⟨_, hle0, hr, hb, j + 1, by omega, ((Ad)).trans (congrArg (Value.int .i64) (by omega)), _, _, qs ++ zs, (Ar rfl <| Al rfl <| Ad), by rw [flat_sndZ, List.length_append]; exact ho6, hqa.add hza, by rw [List.map_append, hqs, hzm, filTo_yes hlt hfit], rfl⟩
   ·
    refine Aw <| Ab <| Af <| Az <| Af <| Ai fun ds => Aa rfl (Ag (Ar rfl <| Ak rfl <| Al rfl <| Ad)) ?_
    refine Aa rfl (Bw (Ad) Ac) ?_
    refine Aa rfl (Ag (Ad)) ?_
    refine At rfl rfl (Ad) (by rw [er]; exact decide_eq_false hz) ?_
    refine Aa rfl (Ag (Ay rfl <| Al rfl <| Ak rfl <| Al rfl <| Ad)) ?_
    refine At rfl rfl (Al rfl <| Ad) (by rw [er]; exact decide_eq_false hz) ?_
    refine Aa rfl (Ag (Ay rfl <| Ar rfl <| As rfl hs9)) ?_
    refine At rfl rfl (Ar rfl <| Ad) (by rw [er]; exact decide_eq_false hz) ?_
    refine Aa rfl (Bw (Al rfl <| Ad) (Ad)) ?_
    refine Aa rfl (Bb (Ar rfl <| Al rfl <| Ad) (by rw [er]; exact decide_eq_false hz) (Ad)) ?_
    refine Ah <| Ab ?_
    by_cases heq : s.r b.length p = (j : Int) + 1
    ·
     have hfit : fitR s p b.length ((j : Int) + 1) := .inr heq
     refine Aq (Ad) (by rw [er]; exact decide_eq_true heq) ?_
     have hleS := hle0
     refine Ct (.inl rfl) (fun _ _ h => h) (.cons_cons _ <| List.nil_sublist _) [] (by kernel_rfl) fun ds => ?_
     refine A2 0 rfl (by kernel_rfl) (by kernel_rfl) (by kernel_rfl) (by kernel_rfl) rfl rfl (fun _ h => h.drop (.cons_cons _ <| List.nil_sublist _)) (fun _ _ _ h => h) (Ag (A7 rfl <| Al rfl <| As rfl hs7)) ?_
     refine A2 1 rfl (by kernel_rfl) (by kernel_rfl) (by kernel_rfl) (by kernel_rfl) rfl rfl (fun _ h => h.drop (.cons_cons _ <| List.nil_sublist _)) (fun _ _ _ h => h) (A9 Bz (A7 rfl <| Ar rfl <| Ak rfl <| A4 rfl <| Ay rfl <| Ad) rfl rfl (A6 0 rfl)) ?_
     refine A2 2 rfl (by kernel_rfl) (by kernel_rfl) (by kernel_rfl) (by kernel_rfl) rfl rfl (fun _ h => h.drop (.cons_cons _ <| List.nil_sublist _)) (fun _ _ _ h => h) (Ag (A7 rfl <| Ar rfl <| Al rfl <| Ak rfl <| A4 rfl <| Ay rfl <| Al rfl <| Aj rfl)) ?_
     refine A2 4 rfl (by kernel_rfl) (by kernel_rfl) (by kernel_rfl) (by kernel_rfl) rfl rfl (fun _ h => h.drop (.cons_cons _ <| List.nil_sublist _)) (fun _ _ _ h => h) (Ag (A7 rfl <| Ay rfl <| Ak rfl <| A4 rfl <| Ay rfl <| Al rfl <| Aj rfl)) ?_
     refine A2 6 rfl (by kernel_rfl) (by kernel_rfl) (by kernel_rfl) (by kernel_rfl) rfl rfl (fun _ h => h.drop (.cons_cons _ <| List.nil_sublist _)) (fun _ _ _ h => h) (Ag (A7 rfl <| Ay rfl <| Al rfl <| As rfl hs9)) ?_
     refine WX_pick [3, 7] (by kernel_rfl) (by decide) (in2 ?_ ?_)
     ·
      refine WXop_x rfl rfl (x_build0 Bc fun b56 hb56 nb56 => ⟨fun _ _ => (fun _ h => h.drop (.cons _ <| .cons_cons _ <| List.nil_sublist _)), ?_⟩)
      refine WX_pick [5, 7] (by kernel_rfl) (by decide) (in2 ?_ ?_)
      ·
       refine WXop_x rfl rfl (B6 Bc el_3 (Ad) (Ex rfl) (Ar rfl <| Ad) hb.srcInt (by omega) (by omega) (.z) .box fun v57 R58 ho59 => ⟨fun _ _ => (fun _ h => h.drop (List.sublist_append_of_sublist_right <| .cons_cons _ <| List.nil_sublist _)), ?_⟩)
       have ho2 : Own 3 1 v57 b.length (b.flatMap intE) R58 := by simpa using ho59
       refine Dv 7 rfl (by kernel_rfl) rfl (B5 Bc C9 rfl (.cons (Ar rfl <| Ad) .nil) rfl rfl (by decide) (by simp [Value.oneCell']) fun b60 hb60 nb60 => ⟨fun _ _ => (fun _ h => h.drop (.cons _ <| List.sublist_append_of_sublist_right <| .cons_cons _ <| List.nil_sublist _)), ?_⟩)
       refine Dv 8 rfl (by kernel_rfl) rfl (B6 Bc el_3 (Al rfl <| Ad) ho2 (Ad) (Db (s := 1) 0 rfl rfl (by simp [Value.oneCell'])) (by omega) (by omega) (.s <| .z) .more fun v61 R62 ho63 => ⟨fun _ _ => (fun _ h => h.drop (.cons _ <| List.sublist_append_of_sublist_right <| .cons_cons _ <| List.nil_sublist _)), ?_⟩)
       have ho3 := ho63.snoc (x := (j : Int) + 1) rfl rfl
       refine WX_freezeR (σ := ⟨_, _⟩) (by rfl) ho3 (.s <| .z) .more fun F64 hF65 hz66 => ?_
       replace hr := hr.mono hF65
       replace hb := hb.mono hF65
       replace hqa := hqa.mono hF65
       replace hle0 := Heap.le_trans hle0 hF65
       have hn2 := ho3.sl (fun _ => rfl) hz66 (by simp only [List.length_append, List.length_singleton]; omega)
       refine Dv 9 rfl (by kernel_rfl) rfl (Cd bd_89 A1 (.cons (Ay rfl <| Ar rfl <| Al rfl <| Ad) (.cons (Ay rfl <| Ar rfl <| Ad) (.cons (Ad) .nil))) (ih hr hn2 (by simp only [List.length_append, List.length_singleton]; omega)) fun v67 F68 hr69 hF70 => ⟨fun _ _ _ h => (h.drop (.cons _ <| .cons_cons _ <| List.nil_sublist _)).weak (Heap.le_trans hF65 hF70) hleS, ?_⟩)
       replace hr := hr.mono hF70
       replace hb := hb.mono hF70
       replace hqa := hqa.mono hF70
       replace hle0 := Heap.le_trans hle0 hF70
       obtain ⟨zs, hzs, hza, hzm⟩ := hr69
       have hzl : zs.length ≤ 243 := by rw [Ey hzm]; exact fill_len5 (by omega)
       refine Dv 10 rfl (by kernel_rfl) rfl (B6 sl_114 el_26 (A7 rfl <| Al rfl <| Ad) ho (Ad) (hzs.srcM (fun _ => rfl) hza.one) (by omega) (by omega) (.s <| .s <| .z) .last fun v71 R72 ho73 => ⟨fun _ _ => (fun _ h => (h.drop (.cons _ <| .cons_cons _ <| List.nil_sublist _)).weak (Heap.le_trans hF65 hF70) hleS), ?_⟩)
       have ho6 := ho73
       refine A2 11 rfl (by kernel_rfl) (by kernel_rfl) (by kernel_rfl) (by kernel_rfl) rfl rfl (fun _ h => (h.drop (.cons _ <| .cons_cons _ <| List.nil_sublist _)).weak (Heap.le_trans hF65 hF70) hleS) (fun _ _ _ h => h) (Ae (Ad)) ?_
       refine Cq (by kernel_rfl) ?_ _
       refine Bd <| Ab <| C1 (fun _ _ h => h.drop (.cons _ <| .cons_cons _ <| .refl _)) ?_
       refine Ai fun ds => Aa rfl (Ag (A4 rfl <| Ay rfl <| Al rfl <| As rfl hs9)) ?_
       refine Aa rfl (Br (Ad) Ac rfl (by omega) (by omega)) ?_
       refine Aa rfl (Ae (Ad)) ?_
       refine Ah <| Ab ⟨_, m - 1, Off.eq (Cu rfl <| Dn rfl <| Bf), by omega, ?_⟩
       exact ⟨_, hle0, hr, hb, j + 1, by omega, ((Ad)).trans (congrArg (Value.int .i64) (by omega)), _, _, qs ++ zs, (Ar rfl <| Al rfl <| Ad), by rw [flat_sndZ, List.length_append]; exact ho6, hqa.add hza, by rw [List.map_append, hqs, hzm, filTo_yes hlt hfit], rfl⟩
      ·
       refine WXop_x rfl rfl (B5 Bc C9 rfl (.cons (Al rfl <| Ad) .nil) rfl rfl (by decide) (by simp [Value.oneCell']) fun b74 hb74 nb74 => ⟨fun _ _ => (fun _ h => h.drop (.cons _ <| .cons _ <| .cons_cons _ <| List.nil_sublist _)), ?_⟩)
       refine Dv 5 rfl (by kernel_rfl) rfl (B6 Bc el_3 (Al rfl <| Ad) (Ex rfl) (Ar rfl <| Al rfl <| Ad) hb.srcInt (by omega) (by omega) (.s <| .z) .box fun v75 R76 ho77 => ⟨fun _ _ => (fun _ h => h.drop (.cons _ <| List.sublist_append_of_sublist_right <| .cons_cons _ <| List.nil_sublist _)), ?_⟩)
       have ho2 : Own 3 1 v75 b.length (b.flatMap intE) R76 := by simpa using ho77
       refine Dv 8 rfl (by kernel_rfl) rfl (B6 Bc el_3 (Ad) ho2 (Al rfl <| Ad) (Db (s := 1) 0 rfl rfl (by simp [Value.oneCell'])) (by omega) (by omega) (.s <| .z) .more fun v78 R79 ho80 => ⟨fun _ _ => (fun _ h => h.drop (.cons _ <| List.sublist_append_of_sublist_right <| .cons_cons _ <| List.nil_sublist _)), ?_⟩)
       have ho3 := ho80.snoc (x := (j : Int) + 1) rfl rfl
       refine WX_freezeR (σ := ⟨_, _⟩) (by rfl) ho3 (.s <| .z) .more fun F81 hF82 hz83 => ?_
       replace hr := hr.mono hF82
       replace hb := hb.mono hF82
       replace hqa := hqa.mono hF82
       replace hle0 := Heap.le_trans hle0 hF82
       have hn2 := ho3.sl (fun _ => rfl) hz83 (by simp only [List.length_append, List.length_singleton]; omega)
       refine Dv 9 rfl (by kernel_rfl) rfl (Cd bd_89 A1 (.cons (Ay rfl <| Ar rfl <| Al rfl <| Ad) (.cons (Ay rfl <| Ar rfl <| Ad) (.cons (Ad) .nil))) (ih hr hn2 (by simp only [List.length_append, List.length_singleton]; omega)) fun v84 F85 hr86 hF87 => ⟨fun _ _ _ h => (h.drop (.cons _ <| .cons_cons _ <| List.nil_sublist _)).weak (Heap.le_trans hF82 hF87) hleS, ?_⟩)
       replace hr := hr.mono hF87
       replace hb := hb.mono hF87
       replace hqa := hqa.mono hF87
       replace hle0 := Heap.le_trans hle0 hF87
       obtain ⟨zs, hzs, hza, hzm⟩ := hr86
       have hzl : zs.length ≤ 243 := by rw [Ey hzm]; exact fill_len5 (by omega)
       refine Dv 10 rfl (by kernel_rfl) rfl (B6 sl_114 el_26 (A7 rfl <| Al rfl <| Ad) ho (Ad) (hzs.srcM (fun _ => rfl) hza.one) (by omega) (by omega) (.s <| .s <| .z) .last fun v88 R89 ho90 => ⟨fun _ _ => (fun _ h => (h.drop (.cons _ <| .cons_cons _ <| List.nil_sublist _)).weak (Heap.le_trans hF82 hF87) hleS), ?_⟩)
       have ho6 := ho90
       refine A2 11 rfl (by kernel_rfl) (by kernel_rfl) (by kernel_rfl) (by kernel_rfl) rfl rfl (fun _ h => (h.drop (.cons _ <| .cons_cons _ <| List.nil_sublist _)).weak (Heap.le_trans hF82 hF87) hleS) (fun _ _ _ h => h) (Ae (Ad)) ?_
       refine Cq (by kernel_rfl) ?_ _
       refine Bd <| Ab <| C1 (fun _ _ h => h.drop (.cons _ <| .cons_cons _ <| .refl _)) ?_
       refine Ai fun ds => Aa rfl (Ag (A4 rfl <| Ay rfl <| Al rfl <| As rfl hs9)) ?_
       refine Aa rfl (Br (Ad) Ac rfl (by omega) (by omega)) ?_
       refine Aa rfl (Ae (Ad)) ?_
       refine Ah <| Ab ⟨_, m - 1, Off.eq (Cu rfl <| Dn rfl <| Bf), by omega, ?_⟩
       exact ⟨_, hle0, hr, hb, j + 1, by omega, ((Ad)).trans (congrArg (Value.int .i64) (by omega)), _, _, qs ++ zs, (Ar rfl <| Al rfl <| Ad), by rw [flat_sndZ, List.length_append]; exact ho6, hqa.add hza, by rw [List.map_append, hqs, hzm, filTo_yes hlt hfit], rfl⟩
     ·
      refine WXop_x rfl rfl (B5 Bc C9 rfl (.cons (Ad) .nil) rfl rfl (by decide) (by simp [Value.oneCell']) fun b91 hb91 nb91 => ⟨fun _ _ => (fun _ h => h.drop (.cons _ <| .cons_cons _ <| List.nil_sublist _)), ?_⟩)
      refine Dv 3 rfl (by kernel_rfl) rfl (x_build0 Bc fun b92 hb92 nb92 => ⟨fun _ _ => (fun _ h => h.drop (.cons _ <| .cons _ <| .cons_cons _ <| List.nil_sublist _)), ?_⟩)
      refine Dv 5 rfl (by kernel_rfl) rfl (B6 Bc el_3 (Ad) (Ex rfl) (Ar rfl <| Al rfl <| Ad) hb.srcInt (by omega) (by omega) (.z) .box fun v93 R94 ho95 => ⟨fun _ _ => (fun _ h => h.drop (List.sublist_append_of_sublist_right <| .cons _ <| .cons_cons _ <| List.nil_sublist _)), ?_⟩)
      have ho2 : Own 3 1 v93 b.length (b.flatMap intE) R94 := by simpa using ho95
      refine Dv 8 rfl (by kernel_rfl) rfl (B6 Bc el_3 (Ad) ho2 (Ar rfl <| Ad) (src_boxM (s := 1) (List.mem_append_right _ <| .head _) rfl (by simp [Value.oneCell'])) (by omega) (by omega) (.z) .more fun v96 R97 ho98 => ⟨fun _ _ => (fun _ h => h.drop (List.sublist_append_of_sublist_right <| .cons _ <| .cons_cons _ <| List.nil_sublist _)), ?_⟩)
      have ho3 := ho98.snoc (x := (j : Int) + 1) rfl rfl
      refine WX_freezeR (σ := ⟨_, _⟩) (by rfl) ho3 (.z) .more fun F99 hF100 hz101 => ?_
      replace hr := hr.mono hF100
      replace hb := hb.mono hF100
      replace hqa := hqa.mono hF100
      replace hle0 := Heap.le_trans hle0 hF100
      have hn2 := ho3.sl (fun _ => rfl) hz101 (by simp only [List.length_append, List.length_singleton]; omega)
      refine Dv 9 rfl (by kernel_rfl) rfl (Cd bd_89 A1 (.cons (Ay rfl <| Ar rfl <| Al rfl <| Ad) (.cons (Ay rfl <| Ar rfl <| Ad) (.cons (Ad) .nil))) (ih hr hn2 (by simp only [List.length_append, List.length_singleton]; omega)) fun v102 F103 hr104 hF105 => ⟨fun _ _ _ h => (h.drop (.cons _ <| .cons_cons _ <| List.nil_sublist _)).weak (Heap.le_trans hF100 hF105) hleS, ?_⟩)
      replace hr := hr.mono hF105
      replace hb := hb.mono hF105
      replace hqa := hqa.mono hF105
      replace hle0 := Heap.le_trans hle0 hF105
      obtain ⟨zs, hzs, hza, hzm⟩ := hr104
      have hzl : zs.length ≤ 243 := by rw [Ey hzm]; exact fill_len5 (by omega)
      refine Dv 10 rfl (by kernel_rfl) rfl (B6 sl_114 el_26 (A7 rfl <| Al rfl <| Ad) ho (Ad) (hzs.srcM (fun _ => rfl) hza.one) (by omega) (by omega) (.s <| .s <| .z) .last fun v106 R107 ho108 => ⟨fun _ _ => (fun _ h => (h.drop (.cons _ <| .cons_cons _ <| List.nil_sublist _)).weak (Heap.le_trans hF100 hF105) hleS), ?_⟩)
      have ho6 := ho108
      refine A2 11 rfl (by kernel_rfl) (by kernel_rfl) (by kernel_rfl) (by kernel_rfl) rfl rfl (fun _ h => (h.drop (.cons _ <| .cons_cons _ <| List.nil_sublist _)).weak (Heap.le_trans hF100 hF105) hleS) (fun _ _ _ h => h) (Ae (Ad)) ?_
      refine Cq (by kernel_rfl) ?_ _
      refine Bd <| Ab <| C1 (fun _ _ h => h.drop (.cons _ <| .cons_cons _ <| .refl _)) ?_
      refine Ai fun ds => Aa rfl (Ag (A4 rfl <| Ay rfl <| Al rfl <| As rfl hs9)) ?_
      refine Aa rfl (Br (Ad) Ac rfl (by omega) (by omega)) ?_
      refine Aa rfl (Ae (Ad)) ?_
      refine Ah <| Ab ⟨_, m - 1, Off.eq (Cu rfl <| Dn rfl <| Bf), by omega, ?_⟩
      exact ⟨_, hle0, hr, hb, j + 1, by omega, ((Ad)).trans (congrArg (Value.int .i64) (by omega)), _, _, qs ++ zs, (Ar rfl <| Al rfl <| Ad), by rw [flat_sndZ, List.length_append]; exact ho6, hqa.add hza, by rw [List.map_append, hqs, hzm, filTo_yes hlt hfit], rfl⟩
    ·
     refine Am (Ad) (by rw [er]; exact decide_eq_false heq) ?_
     refine Aw <| Bd <| Ab <| Ai fun ds => Aa rfl (Ag (A7 rfl <| Al rfl <| As rfl hs9)) ?_
     refine Aa rfl (Br (Ad) Ac rfl (by omega) (by omega)) ?_
     refine Aa rfl (Ae (Ad)) ?_
     refine Ah <| Ab ⟨_, m - 1, Off.eq (Dn rfl <| Dz rfl <| Bf), by omega, ?_⟩
     exact ⟨_, hle0, hr, hb, j + 1, by omega, ((Ad)).trans (congrArg (Value.int .i64) (by omega)), _, _, qs, (A7 rfl <| Ay rfl <| As rfl hs7), ho, hqa, by rw [hqs, filTo_no hlt (fun h => heq ((fitR_known hz).1 h))], rfl⟩
  ·
   refine Af <| Af <| Ai fun ds => Aa rfl (Ag (As rfl hs9)) ?_
   refine Aa rfl (Ef (Ad) Ac) ?_
   refine Ah <| Ab <| Am (Ad) (decide_eq_false (by omega)) ?_
   obtain rfl : j = 3 := by omega
   have hqb : qs.length ≤ 729 := by rw [Ey hqs]; exact filTo_len5 (by omega) (by omega)
   refine Cw (σ := ⟨_, _⟩) (by rfl) ho (.s <| .z) .last fun F109 hF110 hz111 => ?_
   replace hqa := hqa.mono hF110
   have hsp := ho.sl (fun _ => rfl) hz111 (by omega)
   refine Bn ?_
   refine Ba <| Ba <| Bg <| Ab <| Af <| Ai fun ds => Aa rfl (Ag (Ar rfl <| As rfl hs7)) ?_
   refine Aa rfl (Ae (Ad)) ?_
   refine Ah <| Ab <| A3 <| Ax rfl (.tmp (Ad) .nil) ?_
   exact ⟨qs, hsp, hqa, by rw [hqs]; exact filTo_end⟩
theorem refFilled_ok {vp ve : Value} {ps : List (Value × Edn)} {s : Stm} (hv : ValidT s) {p : Nat} (hp : p < s.places.length) : ∀ (r : Nat) {F : Heap} {v : Value} {b : List Int}, StmR F vp ve ps s → Ints F v b → b.length + r = s.editions.length → Ok Try.prog 89 [.agg #[vp, ve], .int .i64 (p : Int), v].toArray F fun u F' => LstZ F' u (fillF s p r b)
 | 0, _, _, _, hr, hb, h => filled_zero hr hv hp hb (by omega)
 | r + 1, _, _, _, hr, hb, h => filled_step hr hv hp hb (by omega) (fun h1 h2 h3 => refFilled_ok hv hp r h1 h2 h3)
set_option maxRecDepth 100000 in
theorem refCounted_ok {F : Heap} {vp ve : Value} {ps : List (Value × Edn)} {s : Stm} (hr : StmR F vp ve ps s) (hv : ValidT s) {v : Value} {l : List Int} (hl : Ints F v l) (hll : l.length = s.editions.length) (ht : IsTree l) {p : Nat} (hp : p < s.places.length) {w : Value} {xs : List Int} (hx : Ints F w xs) (hxl : xs.length = l.length) : Ok Try.prog 90 [.agg #[vp, ve], v, .int .i64 (p : Int), w].toArray F fun u _ => u = .int .i64 (countL s l p xs) := by
 refine Ok.intro Try.func90 rfl Try.ntmps90 rfl fun w0 => ?_
 have hL := hl.plain.lt
 have hlen := hr.len
 have hL2 := hr.places.plain.lt
 have hne := hv.ne
 refine Af <| Ai fun ds => Bl rfl (B1 (Aj rfl) rfl fun b1 hb1 nb1 => ?_)
 refine Aa rfl (Ae Ac) ?_
 refine Ah <| Ab <| Af <| Ai fun ds => Aa rfl (Ae Ac) ?_
 refine Ah <| Ab <| Af <| Af <| Ai fun ds => Aa rfl (Ae Ac) ?_
 refine Ah <| Ab <| Az <| Bs [8, 9, 10, 11, 12, 13, 14, 15, 16, 17, 18, 19, 20, 21, 22, 23, 24, 25, 26, 27, 28, 29, 30, 31, 32, 33, 34, 35, 36, 37, 38, 39, 40, 41, 42, 43, 44, 45, 46, 47, 48, 49, 50, 51] (fun m e σ => ∃ i : Nat, m + i = l.length ∧ e 10 = .int .i64 (i : Int) ∧ e 9 = .int .i64 (sumN i (chg l (upN xs))) ∧ (∀ j, j < i → possAt s l p (upN xs) j = true) ∧ σ = ⟨F, [(b1, bx 25 [vp, ve])]⟩) (l.length) ?_ ?_
 · exact ⟨0, by omega, (Ad), (Al rfl <| Ad), fun j h => absurd h (by omega), rfl⟩
 ·
  rintro m e _ ⟨i, hm, hs10, hs9, hno, rfl⟩
  by_cases hlt : i < l.length
  ·
   have hcb := sum_chg_bound (l := l) (g := upN xs) (k := i)
   refine Af <| Af <| Ai fun ds => Aa rfl (Ag (As rfl hs10)) ?_
   refine Aa rfl (Ag (Al rfl <| Ak rfl <| Ay rfl <| Aj rfl)) ?_
   refine Aa rfl (Bi Bc (Ad) hl.plain) ?_
   refine Aa rfl (Bv (Ar rfl <| Ad) (Ad)) ?_
   refine Ah <| Ab <| Aq (Ad) (by first | rfl | exact decide_eq_true (by omega)) ?_
   by_cases hu : upN l i = -1
   ·
    refine Aw <| Ab <| Af <| Az <| Af <| Af <| Ai fun ds => Aa rfl (Ag (Ay rfl <| Ak rfl <| Ay rfl <| Aj rfl)) ?_
    refine Aa rfl (Ag (Ay rfl <| Al rfl <| As rfl hs10)) ?_
    refine Aa rfl (A8 (k := i) Bc (Al rfl <| Ad) hl.plain (Ad) rfl hlt) ?_
    refine Aa rfl (Ap Bk (Ad) (hl.cell1 hlt rfl)) ?_
    refine Aa rfl (Bw (Ad) Ac) ?_
    refine Ah <| Ab <| Aq (Ad) (by rw [C8 hlt]; exact decide_eq_true hu) ?_
    refine Bn ?_
    refine Ba (Bg ?_)
    refine Ab <| Ai fun ds => Aa rfl (Ag (A7 rfl <| Al rfl <| As rfl hs10)) ?_
    refine Aa rfl (Br (Ad) Ac rfl (by omega) (by omega)) ?_
    refine Aa rfl (Ae (Ad)) ?_
    refine Ah <| Ab ⟨_, m - 1, Off.eq (Dn rfl <| Dz rfl <| Bf), by omega, ?_⟩
    exact ⟨i + 1, by omega, (Ad), ((A7 rfl <| Ay rfl <| As rfl hs9)).trans (congrArg (Value.int .i64) (show _ = sumN i _ + _ by rw [chg_root hu]; first | done | omega)), fun j hj => by rcases Nat.lt_succ_iff_lt_or_eq.1 hj with hj | rfl; exact hno j hj; exact poss_root hu, rfl⟩
   ·
    obtain ⟨k, hk, hkl⟩ := ht.in_.nat hlt hu
    have hlk : l[i] = (k : Int) := by rw [C8 hlt, hk]
    have hkx : k < xs.length := by omega
    have hix : i < xs.length := by omega
    have ex := C8 hkx
    have ey := C8 hix
    refine Aw <| Ab <| Af <| Az <| Af <| Af <| Ai fun ds => Aa rfl (Ag (Ay rfl <| Ak rfl <| Ay rfl <| Aj rfl)) ?_
    refine Aa rfl (Ag (Ay rfl <| Al rfl <| As rfl hs10)) ?_
    refine Aa rfl (A8 (k := i) Bc (Al rfl <| Ad) hl.plain (Ad) rfl hlt) ?_
    refine Aa rfl (Ap Bk (Ad) (hl.cell1 hlt rfl)) ?_
    refine Aa rfl (Bw (Ad) Ac) ?_
    refine Ah <| Ab <| Am (Ad) (by rw [C8 hlt]; exact decide_eq_false hu) ?_
    by_cases hk1 : (s.pl p).kind = 1
    ·
     refine Aw <| Ab <| Af <| C2 (.inl rfl) (fun _ _ h => h) (by kernel_rfl) (by kernel_rfl) fun ds => ?_
     refine Bj rfl (Ag (A7 rfl <| Al rfl <| Ak rfl <| Ay rfl <| Aj rfl)) ?_
     refine Bj rfl (Ag (A7 rfl <| Ar rfl <| Ak rfl <| Ay rfl <| Aj rfl)) ?_
     refine Bj rfl (Ag (A7 rfl <| Ar rfl <| Al rfl <| As rfl hs10)) ?_
     refine Bj rfl (A8 (k := i) Bc (Al rfl <| Ad) hl.plain (Ad) rfl hlt) ?_
     refine Bj rfl (Ap Bk (Ad) (hl.cell1 hlt rfl)) ?_
     refine Bj rfl (A8 (k := k) Bc (Ay rfl <| Ad) hx.plain (Ad) hlk hkx) ?_
     refine Bj rfl (Ap Bk (Ad) (hx.cell1 hkx rfl)) ?_
     refine Bj rfl (Ag (A4 rfl <| Ak rfl <| Ay rfl <| Aj rfl)) ?_
     refine Bj rfl (Ag (A4 rfl <| Al rfl <| As rfl hs10)) ?_
     refine Bj rfl (A8 (k := i) Bc (Al rfl <| Ad) hx.plain (Ad) rfl hix) ?_
     refine Bj rfl (Ap Bk (Ad) (hx.cell1 hix rfl)) ?_
     refine Bj rfl (Ae (Ay rfl <| Ad)) ?_
     refine Bj rfl (Ae (Al rfl <| Ad)) ?_
     refine De ?_
     refine Ab <| Af <| Af <| Ai fun ds => Aa rfl (Ao Cn (A4 rfl <| Ay rfl <| Ar rfl <| Ak rfl <| Ar rfl <| Al rfl <| Ad)) ?_
     refine Aa rfl (Ap Cz (Ad) (Cell.own 0 rfl rfl)) ?_
     refine Aa rfl (Ag (A4 rfl <| A7 rfl <| Ak rfl <| Ay rfl <| Aj rfl)) ?_
     refine Aa rfl (A8 (k := p) C5 (Al rfl <| Ad) hr.places.plain (Ad) rfl hp) ?_
     refine Aa rfl (Bp fd_70_1 (Ad)) ?_
     refine Aa rfl (Ap Bk (Ad) (hr.places.cell hp rfl)) ?_
     refine Aa rfl (Bw (Ad) Ac) ?_
     refine Aa rfl (Ag (Ad)) ?_
     refine At rfl rfl (Ad) (by rw [pl_at hp]; exact decide_eq_true hk1) ?_
     refine Aa rfl (Ag (A7 rfl <| Ad)) ?_
     refine At rfl rfl (Al rfl <| Ad) (by rw [pl_at hp]; exact decide_eq_true hk1) ?_
     refine Aa rfl (Ag (A7 rfl <| Ar rfl <| Ad)) ?_
     refine At rfl rfl (Ar rfl <| Ad) (by rw [pl_at hp]; exact decide_eq_true hk1) ?_
     refine Aa rfl (Bv (Al rfl <| Ad) (Ad)) ?_
     refine Aa rfl (A5 (Ar rfl <| Al rfl <| Ad) (by rw [pl_at hp]; exact decide_eq_true hk1) (Ad)) ?_
     refine Ah <| Ab ?_
     by_cases hlf : upN xs i < upN xs k
     ·
      refine Aq (Ad) (by rw [ex, ey]; exact decide_eq_true hlf) ?_
      refine Af <| Ai fun ds => Aa rfl (Ae Ac) ?_
      refine Ah <| Ab <| A3 <| Be (Bm (Be (Be (Bm (Be ?_)))))
      refine Ax rfl (.tmp (Ad) .nil) ?_
      show _ = _
      rw [possB_no hlt (poss_lt hk (free_no hk1) hlf)]; rfl
     ·
      refine Am (Ad) (by rw [ex, ey]; exact decide_eq_false hlf) ?_
      by_cases hne : upN xs k = upN xs i
      ·
       refine Aw <| Ab <| Af <| Ai fun ds => Aa rfl (Ag (A7 rfl <| Ay rfl <| Al rfl <| Ad)) ?_
       refine Aa rfl (Ag (A7 rfl <| Ay rfl <| Al rfl <| Ad)) ?_
       refine Aa rfl (By (Al rfl <| Ad) (Ad)) ?_
       refine Ah <| Ab <| Am (Ad) (by rw [ex, ey]; exact decide_eq_false (fun h => h hne)) ?_
       refine Aw <| Bd <| Ab <| Ai fun ds => Aa rfl (Ag (Bo rfl <| Ay rfl <| Al rfl <| As rfl hs10)) ?_
       refine Aa rfl (Br (Ad) Ac rfl (by omega) (by omega)) ?_
       refine Aa rfl (Ae (Ad)) ?_
       refine Ah <| Ab ⟨_, m - 1, Off.eq (ou32 rfl <| Dn rfl <| Bf), by omega, ?_⟩
       exact ⟨i + 1, by omega, (Ad), ((Bo rfl <| A7 rfl <| As rfl hs9)).trans (congrArg (Value.int .i64) (show _ = sumN i _ + _ by rw [chg_same hk hne]; first | done | omega)), fun j hj => by rcases Nat.lt_succ_iff_lt_or_eq.1 hj with hj | rfl; exact hno j hj; exact poss_ge hk hlf, rfl⟩
      ·
       refine Aw <| Ab <| Af <| Ai fun ds => Aa rfl (Ag (A7 rfl <| Ay rfl <| Al rfl <| Ad)) ?_
       refine Aa rfl (Ag (A7 rfl <| Ay rfl <| Al rfl <| Ad)) ?_
       refine Aa rfl (By (Al rfl <| Ad) (Ad)) ?_
       refine Ah <| Ab <| Aq (Ad) (by rw [ex, ey]; exact decide_eq_true hne) ?_
       refine Ai fun ds => Aa rfl (Ag (Bo rfl <| Ay rfl <| Al rfl <| As rfl hs9)) ?_
       refine Aa rfl (Br (Ad) Ac rfl (by omega) (by omega)) ?_
       refine Aa rfl (Ae (Ad)) ?_
       refine Ah <| Bd <| Ab <| Ai fun ds => Aa rfl (Ag (Bo rfl <| A7 rfl <| As rfl hs10)) ?_
       refine Aa rfl (Br (Ad) Ac rfl (by omega) (by omega)) ?_
       refine Aa rfl (Ae (Ad)) ?_
       refine Ah <| Ab ⟨_, m - 1, Off.eq (ou32 rfl <| Dn rfl <| ou2 rfl <| Dr rfl <| Bf), by omega, ?_⟩
       exact ⟨i + 1, by omega, (Ad), ((Ar rfl <| Al rfl <| Ad)).trans (congrArg (Value.int .i64) (show _ = sumN i _ + _ by rw [chg_not hk hne]; first | done | omega)), fun j hj => by rcases Nat.lt_succ_iff_lt_or_eq.1 hj with hj | rfl; exact hno j hj; exact poss_ge hk hlf, rfl⟩
    ·
     refine Aw <| Ab <| Af <| C2 (.inl rfl) (fun _ _ h => h) (by kernel_rfl) (by kernel_rfl) fun ds => ?_
     refine Bj rfl (Ag (A7 rfl <| Al rfl <| Ak rfl <| Ay rfl <| Aj rfl)) ?_
     refine Bj rfl (Ag (A7 rfl <| Ar rfl <| Ak rfl <| Ay rfl <| Aj rfl)) ?_
     refine Bj rfl (Ag (A7 rfl <| Ar rfl <| Al rfl <| As rfl hs10)) ?_
     refine Bj rfl (A8 (k := i) Bc (Al rfl <| Ad) hl.plain (Ad) rfl hlt) ?_
     refine Bj rfl (Ap Bk (Ad) (hl.cell1 hlt rfl)) ?_
     refine Bj rfl (A8 (k := k) Bc (Ay rfl <| Ad) hx.plain (Ad) hlk hkx) ?_
     refine Bj rfl (Ap Bk (Ad) (hx.cell1 hkx rfl)) ?_
     refine Bj rfl (Ag (A4 rfl <| Ak rfl <| Ay rfl <| Aj rfl)) ?_
     refine Bj rfl (Ag (A4 rfl <| Al rfl <| As rfl hs10)) ?_
     refine Bj rfl (A8 (k := i) Bc (Al rfl <| Ad) hx.plain (Ad) rfl hix) ?_
     refine Bj rfl (Ap Bk (Ad) (hx.cell1 hix rfl)) ?_
     refine Bj rfl (Ae (Ay rfl <| Ad)) ?_
     refine Bj rfl (Ae (Al rfl <| Ad)) ?_
     refine De ?_
     refine Ab <| Af <| Af <| Ai fun ds => Aa rfl (Ao Cn (A4 rfl <| Ay rfl <| Ar rfl <| Ak rfl <| Ar rfl <| Al rfl <| Ad)) ?_
     refine Aa rfl (Ap Cz (Ad) (Cell.own 0 rfl rfl)) ?_
     refine Aa rfl (Ag (A4 rfl <| A7 rfl <| Ak rfl <| Ay rfl <| Aj rfl)) ?_
     refine Aa rfl (A8 (k := p) C5 (Al rfl <| Ad) hr.places.plain (Ad) rfl hp) ?_
     refine Aa rfl (Bp fd_70_1 (Ad)) ?_
     refine Aa rfl (Ap Bk (Ad) (hr.places.cell hp rfl)) ?_
     refine Aa rfl (Bw (Ad) Ac) ?_
     refine Aa rfl (Ag (Ad)) ?_
     refine Au rfl rfl (Ad) (.inl (congrArg Value.bool (by rw [pl_at hp]; exact decide_eq_false hk1))) rfl ?_
     refine Au rfl rfl (Al rfl <| Ad) (.inl (congrArg Value.bool (by rw [pl_at hp]; exact decide_eq_false hk1))) rfl ?_
     refine Au rfl rfl (Ar rfl <| Ad) (.inl (congrArg Value.bool (by rw [pl_at hp]; exact decide_eq_false hk1))) rfl ?_
     refine Aa rfl (Bb (Ar rfl <| Al rfl <| Ad) (by rw [pl_at hp]; exact decide_eq_false hk1) Ac) ?_
     refine Ah <| Ab <| Am (Ad) rfl ?_
     by_cases hne : upN xs k = upN xs i
     ·
      refine Aw <| Ab <| Af <| Ai fun ds => Aa rfl (Ag (A7 rfl <| Ay rfl <| Al rfl <| Ad)) ?_
      refine Aa rfl (Ag (A7 rfl <| Ay rfl <| Al rfl <| Ad)) ?_
      refine Aa rfl (By (Al rfl <| Ad) (Ad)) ?_
      refine Ah <| Ab <| Am (Ad) (by rw [ex, ey]; exact decide_eq_false (fun h => h hne)) ?_
      refine Aw <| Bd <| Ab <| Ai fun ds => Aa rfl (Ag (Bo rfl <| Ay rfl <| Al rfl <| As rfl hs10)) ?_
      refine Aa rfl (Br (Ad) Ac rfl (by omega) (by omega)) ?_
      refine Aa rfl (Ae (Ad)) ?_
      refine Ah <| Ab ⟨_, m - 1, Off.eq (ou32 rfl <| Dn rfl <| Bf), by omega, ?_⟩
      exact ⟨i + 1, by omega, (Ad), ((Bo rfl <| A7 rfl <| As rfl hs9)).trans (congrArg (Value.int .i64) (show _ = sumN i _ + _ by rw [chg_same hk hne]; first | done | omega)), fun j hj => by rcases Nat.lt_succ_iff_lt_or_eq.1 hj with hj | rfl; exact hno j hj; exact poss_free (free_yes hv hp hk1), rfl⟩
     ·
      refine Aw <| Ab <| Af <| Ai fun ds => Aa rfl (Ag (A7 rfl <| Ay rfl <| Al rfl <| Ad)) ?_
      refine Aa rfl (Ag (A7 rfl <| Ay rfl <| Al rfl <| Ad)) ?_
      refine Aa rfl (By (Al rfl <| Ad) (Ad)) ?_
      refine Ah <| Ab <| Aq (Ad) (by rw [ex, ey]; exact decide_eq_true hne) ?_
      refine Ai fun ds => Aa rfl (Ag (Bo rfl <| Ay rfl <| Al rfl <| As rfl hs9)) ?_
      refine Aa rfl (Br (Ad) Ac rfl (by omega) (by omega)) ?_
      refine Aa rfl (Ae (Ad)) ?_
      refine Ah <| Bd <| Ab <| Ai fun ds => Aa rfl (Ag (Bo rfl <| A7 rfl <| As rfl hs10)) ?_
      refine Aa rfl (Br (Ad) Ac rfl (by omega) (by omega)) ?_
      refine Aa rfl (Ae (Ad)) ?_
      refine Ah <| Ab ⟨_, m - 1, Off.eq (ou32 rfl <| Dn rfl <| ou2 rfl <| Dr rfl <| Bf), by omega, ?_⟩
      exact ⟨i + 1, by omega, (Ad), ((Ar rfl <| Al rfl <| Ad)).trans (congrArg (Value.int .i64) (show _ = sumN i _ + _ by rw [chg_not hk hne]; first | done | omega)), fun j hj => by rcases Nat.lt_succ_iff_lt_or_eq.1 hj with hj | rfl; exact hno j hj; exact poss_free (free_yes hv hp hk1), rfl⟩
  ·
   refine Af <| Af <| Ai fun ds => Aa rfl (Ag (As rfl hs10)) ?_
   refine Aa rfl (Ag (Al rfl <| Ak rfl <| Ay rfl <| Aj rfl)) ?_
   refine Aa rfl (Bi Bc (Ad) hl.plain) ?_
   refine Aa rfl (Bv (Ar rfl <| Ad) (Ad)) ?_
   refine Ah <| Ab <| Am (Ad) (by first | rfl | exact decide_eq_false (by omega)) ?_
   obtain rfl : i = l.length := by omega
   refine Bn ?_
   refine Ba <| Ba <| Bg <| Ab <| Af <| Ai fun ds => Aa rfl (Ag (Ay rfl <| As rfl hs9)) ?_
   refine Aa rfl (Ae (Ad)) ?_
   refine Ah <| Ab <| A3 <| Ax rfl (.tmp (Ad) .nil) ?_
   show _ = _
   rw [possB_yes hno]; rfl
set_option maxRecDepth 100000 in
theorem refLeast_ok {F : Heap} {vp ve : Value} {ps : List (Value × Edn)} {s : Stm} (hr : StmR F vp ve ps s) (hv : ValidT s) {v : Value} {l : List Int} (hl : Ints F v l) (hll : l.length = s.editions.length) (ht : IsTree l) {p : Nat} (hp : p < s.places.length) : Ok Try.prog 88 [.agg #[vp, ve], v, .int .i64 (p : Int)].toArray F fun u _ => u = .int .i64 (leastL s l p) := by
 have hle0 : F.le F := Heap.le_refl _
 refine Ok.intro Try.func88 rfl Try.ntmps88 rfl fun w0 => ?_
 have hL := hl.plain.lt
 have hlen := hr.len
 have hne := hv.ne
 refine Af <| Ai fun ds => Bl rfl (B1 (Aj rfl) rfl fun b1 hb1 nb1 => ?_)
 refine Aa rfl (Ae Ac) ?_
 refine Ah <| Ab <| Af <| Ai fun ds => Aa rfl (Ae Ac) ?_
 refine Ah <| Ab <| Af <| Ai fun ds => Aa rfl (A9 Bz (Ar rfl <| Ad) rfl rfl (A6 0 rfl)) ?_
 refine Aa rfl (Ag (Ay rfl <| Aj rfl)) ?_
 refine Bl rfl (Cd bd_89 A1 (.cons (Al rfl <| Ad) (.cons (Ad) (.cons Ac .nil))) (refFilled_ok hv hp s.editions.length hr Sl.nil (by simp)) fun v2 F3 hr4 hF5 => ?_)
 replace hr := hr.mono hF5
 replace hl := hl.mono hF5
 obtain ⟨qs, hqs, hqa, hqm⟩ := hr4
 replace hqm : qs.map (·.2) = allFill s p := hqm
 have hql : qs.length ≤ 243 := by rw [Ey hqm]; exact fill_len5 (by have := hv.ne; omega)
 refine Aa rfl (Ae (Ad)) ?_
 refine Ah <| Ab <| Af <| Af <| Ai fun ds => Aa rfl (Ae Ac) ?_
 refine Ah <| Ab <| Az <| Bs [7, 9, 13, 14, 15, 16, 17, 18, 19, 20, 21, 22, 23, 24, 25, 26, 27, 28] (fun m e σ => ∃ i : Nat, m + i = qs.length ∧ e 9 = .int .i64 (i : Int) ∧ e 7 = .int .i64 (leastTo s l p i) ∧ σ = ⟨F3, [(b1, bx 25 [vp, ve])]⟩) (qs.length) ?_ ?_
 · exact ⟨0, by omega, (Ad), (Ay rfl <| Al rfl <| Ad), rfl⟩
 ·
  rintro m e _ ⟨i, hm, hs9, hs7, rfl⟩
  by_cases hlt : i < qs.length
  ·
   have hqi : Ints _ _ _ := hqa _ (List.getElem_mem hlt)
   have hil : i < (allFill s p).length := by rw [← Ey hqm]; exact hlt
   have hqe : qs[i].2 = (allFill s p)[i] := by simp [← hqm]
   have hxl : qs[i].2.length = l.length := by rw [hqe]; exact ((allFill_mem hll).1 (List.getElem_mem hil)).1
   refine Af <| Af <| Ai fun ds => Aa rfl (Ag (As rfl hs9)) ?_
   refine Aa rfl (Ag (Al rfl <| Ak rfl <| Al rfl <| Ad)) ?_
   refine Aa rfl (Bi sl_114 (Ad) hqs.plain) ?_
   refine Aa rfl (Bv (Ar rfl <| Ad) (Ad)) ?_
   refine Ah <| Ab <| Aq (Ad) (by first | rfl | exact decide_eq_true (by omega)) ?_
   refine Aw <| Ab <| Af <| Az <| C2 (.inl rfl) (fun _ _ h => h) (by kernel_rfl) (by kernel_rfl) fun ds => ?_
   refine Bj rfl (Ag (Ay rfl <| As rfl hs7)) ?_
   refine Bj rfl (A9 Bz (Ay rfl <| Al rfl <| Ak rfl <| Ay rfl <| Ar rfl <| Al rfl <| Ad) rfl rfl (A6 0 rfl)) ?_
   refine Bj rfl (Ag (Ay rfl <| Ar rfl <| Ak rfl <| A7 rfl <| Aj rfl)) ?_
   refine Bj rfl (Ag (Ay rfl <| Ar rfl <| Al rfl <| Ak rfl <| A7 rfl <| Aj rfl)) ?_
   refine Bj rfl (Ag (A7 rfl <| Ak rfl <| Al rfl <| Ad)) ?_
   refine Bj rfl (Ag (A7 rfl <| Al rfl <| As rfl hs9)) ?_
   refine Bj rfl (A8 (k := i) sl_114 (Al rfl <| Ad) hqs.plain (Ad) rfl hlt) ?_
   refine Bj rfl (Ap Ce (Ad) (hqs.cell1 hlt rfl)) ?_
   refine WQ_c rfl (Bh bd_90 A1 (.cons (Ay rfl <| Ar rfl <| Ad) (.cons (Ay rfl <| Al rfl <| Ad) (.cons (Ay rfl <| Ad) (.cons (Ad) .nil)))) (refCounted_ok hr hv hl hll ht hp hqi hxl) (fun _ _ h => h)) ?_
   refine Bj rfl (q_min2 (A7 rfl <| Ad) (Ad)) ?_
   refine Bj rfl (Ae (Ad)) ?_
   refine De ?_
   refine Bd <| Ab <| Ai fun ds => Aa rfl (Ag (A7 rfl <| Ay rfl <| Ar rfl <| Al rfl <| As rfl hs9)) ?_
   refine Aa rfl (Br (Ad) Ac rfl (by omega) (by omega)) ?_
   refine Aa rfl (Ae (Ad)) ?_
   refine Ah <| Ab ⟨_, m - 1, Off.eq (Cu rfl <| ou2 rfl <| Bf), by omega, ?_⟩
   exact ⟨i + 1, by omega, (Ad), ((Ar rfl <| Al rfl <| Ad)).trans (congrArg (Value.int .i64) (by rw [leastTo_succ hil, hqe])), rfl⟩
  ·
   refine Af <| Af <| Ai fun ds => Aa rfl (Ag (As rfl hs9)) ?_
   refine Aa rfl (Ag (Al rfl <| Ak rfl <| Al rfl <| Ad)) ?_
   refine Aa rfl (Bi sl_114 (Ad) hqs.plain) ?_
   refine Aa rfl (Bv (Ar rfl <| Ad) (Ad)) ?_
   refine Ah <| Ab <| Am (Ad) (by first | rfl | exact decide_eq_false (by omega)) ?_
   obtain rfl : i = qs.length := by omega
   refine Bn ?_
   refine Ba <| Ba <| Bg <| Ab <| Af <| Ai fun ds => Aa rfl (Ag (Ay rfl <| As rfl hs7)) ?_
   refine Aa rfl (Ae (Ad)) ?_
   refine Ah <| Ab <| A3 <| Ax rfl (.tmp (Ad) .nil) ?_
   show _ = _
   rw [leastTo_end (by rw [Ey hqm]; exact Nat.le_refl _)]; rfl
set_option maxRecDepth 100000 in
theorem refCost_ok {F : Heap} {vp ve : Value} {ps : List (Value × Edn)} {s : Stm} (hr : StmR F vp ve ps s) (hv : ValidT s) {v : Value} {l : List Int} (hl : Ints F v l) (hll : l.length = s.editions.length) (ht : IsTree l) : Ok Try.prog 71 [.agg #[vp, ve], v].toArray F fun u _ => u = .int .i64 (costL s l) := by
 refine Ok.intro Try.func71 rfl Try.ntmps71 rfl fun w0 => ?_
 have hL := hl.plain.lt
 have hL2 := hr.places.plain.lt
 have hnp := hv.np
 by_cases hft : fitsT s l = true
 ·
  refine Af <| Ai fun ds => Bl rfl (B1 (Aj rfl) rfl fun b1 hb1 nb1 => ?_)
  refine Aa rfl (Ae Ac) ?_
  refine Ah <| Ab <| Af <| Af <| Ai fun ds => Aa rfl (A9 Bz (Al rfl <| Ad) rfl rfl (A6 0 rfl)) ?_
  refine Aa rfl (Ag (Ar rfl <| Al rfl <| Aj rfl)) ?_
  refine Bx rfl (Bh bd_94 A1 (.cons (Al rfl <| Ad) (.cons (Ad) .nil)) (refFits_ok hr hv hl hll ht) (fun _ _ h => h)) ?_
  refine Aa rfl (Cg (Ad)) ?_
  refine Ah <| Ab <| Am (Ad) (by rw [hft]; rfl) ?_
  refine Aw <| Ab <| Af <| Ai fun ds => Aa rfl (Ae Ac) ?_
  refine Ah <| Ab <| Af <| Af <| Ai fun ds => Aa rfl (Ae Ac) ?_
  refine Ah <| Ab <| Az <| Bs [5, 6, 11, 12, 13, 14, 15, 16, 17, 18, 19, 20, 21, 22, 23] (fun m e σ => ∃ p : Nat, m + p = s.places.length ∧ e 6 = .int .i64 (p : Int) ∧ e 5 = .int .i64 (sumN p (leastL s l)) ∧ σ = ⟨F, [(b1, bx 25 [vp, ve])]⟩) (s.places.length) ?_ ?_
  · exact ⟨0, by omega, (Ad), (Al rfl <| Ad), rfl⟩
  ·
   rintro m e _ ⟨p, hm, hs6, hs5, rfl⟩
   by_cases hlt : p < s.places.length
   ·
    have hsb := sum_least_bound (s := s) (l := l) (k := p)
    have hlb := Er (s := s) (l := l) (p := p)
    refine Af <| Af <| Ai fun ds => Aa rfl (Ag (As rfl hs6)) ?_
    refine Aa rfl (Ao Cn (Al rfl <| Ak rfl <| Ay rfl <| Ar rfl <| Al rfl <| Ad)) ?_
    refine Aa rfl (Ap Cz (Ad) (Cell.own 0 rfl rfl)) ?_
    refine Aa rfl (Bi C5 (Ad) hr.places.plain) ?_
    refine Aa rfl (Bv (Ar rfl <| Al rfl <| Ad) (Ad)) ?_
    refine Ah <| Ab <| Aq (Ad) (by first | rfl | exact decide_eq_true (by omega)) ?_
    refine Aw <| Ab <| Af <| Az <| Ai fun ds => Aa rfl (Ag (Ay rfl <| Al rfl <| As rfl hs5)) ?_
    refine Aa rfl (A9 Bz (Ay rfl <| Ar rfl <| Ak rfl <| Ay rfl <| Ar rfl <| Al rfl <| Ad) rfl rfl (A6 0 rfl)) ?_
    refine Aa rfl (Ag (Ay rfl <| Ar rfl <| Al rfl <| Ak rfl <| A7 rfl <| Aj rfl)) ?_
    refine Aa rfl (Ag (A7 rfl <| As rfl hs6)) ?_
    refine Bx rfl (Bh bd_88 A1 (.cons (Ar rfl <| Ad) (.cons (Al rfl <| Ad) (.cons (Ad) .nil))) (refLeast_ok hr hv hl hll ht hlt) (fun _ _ h => h)) ?_
    refine Aa rfl (Br (Ay rfl <| Ad) (Ad) rfl (by omega) (by omega)) ?_
    refine Aa rfl (Ae (Ad)) ?_
    refine Ah <| Bd <| Ab <| Ai fun ds => Aa rfl (Ag (A7 rfl <| Ay rfl <| As rfl hs6)) ?_
    refine Aa rfl (Br (Ad) Ac rfl (by omega) (by omega)) ?_
    refine Aa rfl (Ae (Ad)) ?_
    refine Ah <| Ab ⟨_, m - 1, Off.eq (Dn rfl <| Dz rfl <| ou2 rfl <| Dr rfl <| Bf), by omega, ?_⟩
    exact ⟨p + 1, by omega, (Ad), (Ar rfl <| Al rfl <| Ad), rfl⟩
   ·
    refine Af <| Af <| Ai fun ds => Aa rfl (Ag (As rfl hs6)) ?_
    refine Aa rfl (Ao Cn (Al rfl <| Ak rfl <| Ay rfl <| Ar rfl <| Al rfl <| Ad)) ?_
    refine Aa rfl (Ap Cz (Ad) (Cell.own 0 rfl rfl)) ?_
    refine Aa rfl (Bi C5 (Ad) hr.places.plain) ?_
    refine Aa rfl (Bv (Ar rfl <| Al rfl <| Ad) (Ad)) ?_
    refine Ah <| Ab <| Am (Ad) (by first | rfl | exact decide_eq_false (by omega)) ?_
    obtain rfl : p = s.places.length := by omega
    refine Bn ?_
    refine Ba <| Ba <| Bg <| Ab <| Af <| Ai fun ds => Aa rfl (Ag (Ay rfl <| Al rfl <| As rfl hs5)) ?_
    refine Aa rfl (q_min2 (Ad) Ac) ?_
    refine Aa rfl (Ae (Ad)) ?_
    refine Ah <| Ab <| A3 <| Ax rfl (.tmp (Ad) .nil) ?_
    show _ = _
    rw [costL_fits hft]; rfl
 ·
  replace hft : fitsT s l = false := by simpa using hft
  refine Af <| Ai fun ds => Bl rfl (B1 (Aj rfl) rfl fun b3 hb3 nb3 => ?_)
  refine Aa rfl (Ae Ac) ?_
  refine Ah <| Ab <| Af <| Af <| Ai fun ds => Aa rfl (A9 Bz (Al rfl <| Ad) rfl rfl (A6 0 rfl)) ?_
  refine Aa rfl (Ag (Ar rfl <| Al rfl <| Aj rfl)) ?_
  refine Bx rfl (Bh bd_94 A1 (.cons (Al rfl <| Ad) (.cons (Ad) .nil)) (refFits_ok hr hv hl hll ht) (fun _ _ h => h)) ?_
  refine Aa rfl (Cg (Ad)) ?_
  refine Ah <| Ab <| Aq (Ad) (by rw [hft]; rfl) ?_
  refine Af <| Ai fun ds => Aa rfl (Ae Ac) ?_
  refine Ah <| Ab <| A3 <| Be ?_
  refine Ax rfl (.tmp (Ad) .nil) ?_
  show _ = _
  rw [costL_no hft]; rfl
set_option maxRecDepth 100000 in
theorem refChanges_ok {F : Heap} {vp ve : Value} {ps : List (Value × Edn)} {s : Stm} (hr : StmR F vp ve ps s) {v : Value} {l : List Int} (hl : Ints F v l) : Ok Try.prog 22 [.agg #[vp, ve], v].toArray F fun u _ => u = changesEV s l := by
 refine Ok.intro Try.func22 rfl Try.ntmps22 rfl fun w0 => ?_
 by_cases h : treeErr s l = 0
 ·
  obtain ⟨hv, hll, ht⟩ := tree_ok h
  refine Af <| Ai fun ds => Bl rfl (B1 (Aj rfl) rfl fun b1 hb1 nb1 => ?_)
  refine Aa rfl (Ae Ac) ?_
  refine Aa rfl (Ae Ac) ?_
  refine Ah <| Ab <| Af <| Ai fun ds => Aa rfl (A9 Bz (Ar rfl <| Ad) rfl rfl (A6 0 rfl)) ?_
  refine Aa rfl (Ag (Ay rfl <| Aj rfl)) ?_
  refine Bx rfl (Bh bd_70 A1 (.cons (Al rfl <| Ad) (.cons (Ad) .nil)) (refTree_ok hr hl) (fun _ _ h => h)) ?_
  refine Aa rfl (Ae (Ad)) ?_
  refine Ah <| Ab <| Af <| Af <| Ai fun ds => Aa rfl (Ag (Ad)) ?_
  refine Aa rfl (By (Ad) Ac) ?_
  refine Ah <| Ab <| Am (Ad) (by rw [h]; rfl) ?_
  by_cases hc : costL s l = 1000
  ·
   refine Aw <| Ab <| Af <| Ai fun ds => Aa rfl (A9 Bz (A7 rfl <| Ad) rfl rfl (A6 0 rfl)) ?_
   refine Aa rfl (Ag (A7 rfl <| Ar rfl <| Aj rfl)) ?_
   refine Bx rfl (Bh bd_71 A1 (.cons (Al rfl <| Ad) (.cons (Ad) .nil)) (refCost_ok hr hv hl hll ht) (fun _ _ h => h)) ?_
   refine Aa rfl (Ae (Ad)) ?_
   refine Ah <| Ab <| Af <| Af <| Ai fun ds => Aa rfl (Ag (Ad)) ?_
   refine Aa rfl (Bw (Ad) Ac) ?_
   refine Ah <| Ab <| Aq (Ad) (decide_eq_true hc) ?_
   refine Af <| Ai fun ds => Aa rfl (Ae Ac) ?_
   refine Aa rfl (Ae Ac) ?_
   refine Ah <| Ab <| A3 <| Be ?_
   refine Ax rfl (.tmp (Al rfl <| Ad) (.tmp (Ad) .nil)) ?_
   show _ = _
   unfold changesEV; rw [changesE_down h hc]; rfl
  ·
   refine Aw <| Ab <| Af <| Ai fun ds => Aa rfl (A9 Bz (A7 rfl <| Ad) rfl rfl (A6 0 rfl)) ?_
   refine Aa rfl (Ag (A7 rfl <| Ar rfl <| Aj rfl)) ?_
   refine Bx rfl (Bh bd_71 A1 (.cons (Al rfl <| Ad) (.cons (Ad) .nil)) (refCost_ok hr hv hl hll ht) (fun _ _ h => h)) ?_
   refine Aa rfl (Ae (Ad)) ?_
   refine Ah <| Ab <| Af <| Af <| Ai fun ds => Aa rfl (Ag (Ad)) ?_
   refine Aa rfl (Bw (Ad) Ac) ?_
   refine Ah <| Ab <| Am (Ad) (decide_eq_false hc) ?_
   refine Aw <| Ab <| Af <| Ai fun ds => Aa rfl (Ag (Ar rfl <| Ad)) ?_
   refine Aa rfl (Ae (Ad)) ?_
   refine Aa rfl (Ae Ac) ?_
   refine Ah <| Ab <| A3 <| Ax rfl (.tmp (Al rfl <| Ad) (.tmp (Ad) .nil)) ?_
   show _ = _
   unfold changesEV; rw [changesE_ok h hc]; rfl
 ·
  refine Af <| Ai fun ds => Bl rfl (B1 (Aj rfl) rfl fun b2 hb2 nb2 => ?_)
  refine Aa rfl (Ae Ac) ?_
  refine Aa rfl (Ae Ac) ?_
  refine Ah <| Ab <| Af <| Ai fun ds => Aa rfl (A9 Bz (Ar rfl <| Ad) rfl rfl (A6 0 rfl)) ?_
  refine Aa rfl (Ag (Ay rfl <| Aj rfl)) ?_
  refine Bx rfl (Bh bd_70 A1 (.cons (Al rfl <| Ad) (.cons (Ad) .nil)) (refTree_ok hr hl) (fun _ _ h => h)) ?_
  refine Aa rfl (Ae (Ad)) ?_
  refine Ah <| Ab <| Af <| Af <| Ai fun ds => Aa rfl (Ag (Ad)) ?_
  refine Aa rfl (By (Ad) Ac) ?_
  refine Ah <| Ab <| Aq (Ad) (decide_eq_true h) ?_
  refine Af <| Ai fun ds => Aa rfl (Ag (Ar rfl <| Ad)) ?_
  refine Aa rfl (Ae Ac) ?_
  refine Aa rfl (Ae (Al rfl <| Ad)) ?_
  refine Ah <| Ab <| A3 <| Be ?_
  refine Ax rfl (.tmp (Al rfl <| Ad) (.tmp (Ad) .nil)) ?_
  show _ = _
  unfold changesEV; rw [changesE_bad h]; rfl
end Go.Proofs.Ytccogmkhijgelaa
namespace Go.Proofs.Ytccogmkhijgelaa
open Go.RowKit
set_option maxRecDepth 100000 in
theorem refYears_ok {F : Heap} {vp ve : Value} {ps : List (Value × Edn)} {s : Stm} (hr : StmR F vp ve ps s) {v : Value} {l : List Int} (hl : Ints F v l) : Ok Try.prog 24 [.agg #[vp, ve], v].toArray F fun u F' => SpnsR F' u (yearsE s l) := by
 have hle0 : F.le F := Heap.le_refl _
 refine Ok.intro Try.func24 rfl Try.ntmps24 rfl fun w0 => ?_
 have hL := hl.plain.lt
 have hlen := hr.len
 have hL1 := hr.eds.plain.lt
 by_cases h : treeErr s l = 0
 ·
  obtain ⟨hv, hll, ht⟩ := tree_ok h
  have hne := hv.ne
  have hd : Dag s.editions.length (treeE l) := by rw [← hll]; exact ht.dag
  by_cases hft : fitsE s (treeE l) = true
  ·
   refine Af <| Ai fun ds => Bl rfl (B1 (Aj rfl) rfl fun b1 hb1 nb1 => ?_)
   refine Aa rfl (Ae Ac) ?_
   refine Aa rfl (Ae Ac) ?_
   refine Ah <| Ab <| Af <| Ai fun ds => Aa rfl (A9 Bz (Ar rfl <| Ad) rfl rfl (A6 0 rfl)) ?_
   refine Aa rfl (Ag (Ay rfl <| Aj rfl)) ?_
   refine Bx rfl (Bh bd_70 A1 (.cons (Al rfl <| Ad) (.cons (Ad) .nil)) (refTree_ok hr hl) (fun _ _ h => h)) ?_
   refine Aa rfl (Ae (Ad)) ?_
   refine Ah <| Ab <| Af <| Af <| Ai fun ds => Aa rfl (Ag (Ad)) ?_
   refine Aa rfl (By (Ad) Ac) ?_
   refine Ah <| Ab <| Am (Ad) (by rw [h]; rfl) ?_
   refine Aw <| Ab <| Af <| Ai fun ds => Aa rfl (A9 Bz (A7 rfl <| Ad) rfl rfl (A6 0 rfl)) ?_
   refine Aa rfl (Ag (A7 rfl <| Ar rfl <| Aj rfl)) ?_
   refine Bl rfl (Cd bd_74 A1 (.cons (Al rfl <| Ad) (.cons (Ad) (.cons Ac .nil))) (earliest_ok hr hv hl hll ht (vm := .slice none 0 0) (M := []) Sl.nil (by rw [List.append_nil, ← hll]; exact ht.dag)) fun v2 F3 hr4 hF5 => ?_)
   replace hr := hr.mono hF5
   replace hl := hl.mono hF5
   replace hle0 := Heap.le_trans hle0 hF5
   have her := hr4
   rw [List.append_nil] at her
   obtain ⟨a9, k9, c9, hu9, hn9⟩ := her.nil (by omega)
   have h8 : a9.isNone = !(fitsE s (treeE l)) := by rw [← hn9]; cases a9 <;> rfl
   rw [hft] at h8
   replace her := (her.resolve_right (fun h => by rw [hft] at h; cases h.1)).2
   rw [hu9] at her
   subst hu9
   refine Aa rfl (Ae (Ad)) ?_
   refine Ah <| Ab <| Af <| Af <| Ai fun ds => Aa rfl (Ag (Ad)) ?_
   refine Aa rfl (Eg Try.underlying26 (Ad) Ac) ?_
   refine Ah <| Ab <| Am (Ad) h8 ?_
   refine Aw <| Ab <| Af <| Ai fun ds => Aa rfl (Ae Ac) ?_
   refine Ah <| Ab <| Af <| Af <| Ai fun ds => Aa rfl (Ae Ac) ?_
   refine Ah <| Ab <| Az <| Bs [8, 9, 25, 26, 27, 28, 29, 30, 31, 32, 33, 34, 35, 36, 37, 38, 39, 40] (fun m e σ => ∃ k : Nat, m + k = l.length ∧ e 9 = .int .i64 (k : Int) ∧ ∃ v8 R8, e 8 = v8 ∧ Own 3 1 v8 (iL (hiS s) k).length ((iL (hiS s) k).flatMap intE) R8 ∧ σ = ⟨F3, (b1, bx 25 [vp, ve]) :: R8⟩) (l.length) ?_ ?_
   · exact ⟨0, by omega, (Ad), _, _, (Al rfl <| Ad), D9, rfl⟩
   ·
    rintro m e _ ⟨k, hm, hs9, v8, R8, hs8, ho, rfl⟩; have hil9 := Ck (f := hiS s) (n := k)
    by_cases hlt : k < l.length
    ·
     have hkp : k < ps.length := by omega
     have e1 := hr.at hkp
     refine Af <| Af <| Ai fun ds => Aa rfl (Ag (As rfl hs9)) ?_
     refine Aa rfl (Ag (Al rfl <| Ak rfl <| A4 rfl <| Al rfl <| Aj rfl)) ?_
     refine Aa rfl (Bi Bc (Ad) hl.plain) ?_
     refine Aa rfl (Bv (Ar rfl <| Ad) (Ad)) ?_
     refine Ah <| Ab <| Aq (Ad) (by first | rfl | exact decide_eq_true (by omega)) ?_
     refine Aw <| Ab <| Af <| Az <| Ai fun ds => Aa rfl (Ag (Ay rfl <| As rfl hs8)) ?_
     refine Aa rfl (Ao Bu (Ay rfl <| Al rfl <| Ak rfl <| A4 rfl <| Ad)) ?_
     refine Aa rfl (Ap B0 (Ad) (Cell.own 0 rfl rfl)) ?_
     refine Aa rfl (Ag (Ay rfl <| Ar rfl <| Al rfl <| As rfl hs9)) ?_
     refine Aa rfl (A8 (k := k) B4 (Al rfl <| Ad) hr.eds.plain (Ad) rfl hkp) ?_
     refine Aa rfl (Bp Dj (Ad)) ?_
     refine Aa rfl (Bp Dk (Ad)) ?_
     refine Aa rfl (Ap Bk (Ad) (hr.eds.cell (j := 1 + 1) hkp rfl)) ?_
     refine Bl rfl (B5 Bc C9 rfl (.cons (Ad) .nil) rfl rfl (by decide) (by simp [Value.oneCell']) fun b7 hb7 nb7 => ?_)
     refine Bl rfl (B6 Bc el_3 (A7 rfl <| Ad) ho (Ad) (Db (s := 1) 0 rfl rfl (by simp [Value.oneCell'])) (by omega) (by omega) (.s <| .s <| .z) .last fun v8 R9 ho10 => ?_)
     have ho2 : Own 3 1 v8 (iL (hiS s) (k + 1)).length ((iL (hiS s) (k + 1)).flatMap intE) R9 := by have h9 := ho10; rw [iL_succ]; exact h9.snoc (x := hiS s k) rfl (by unfold hiS; rw [← e1]; rfl)
     refine Aa rfl (Ae (Ad)) ?_
     refine Ah <| Bd <| Ab <| C1 (fun _ _ h => h.drop (.cons _ <| .cons_cons _ <| .refl _)) ?_
     refine Ai fun ds => Aa rfl (Ag (A7 rfl <| Ay rfl <| Ar rfl <| Al rfl <| As rfl hs9)) ?_
     refine Aa rfl (Br (Ad) Ac rfl (by omega) (by omega)) ?_
     refine Aa rfl (Ae (Ad)) ?_
     refine Ah <| Ab ⟨_, m - 1, Off.eq (Cu rfl <| ou2 rfl <| Bf), by omega, ?_⟩
     exact ⟨k + 1, by omega, (Ad), _, _, (Ar rfl <| Al rfl <| Ad), ho2, rfl⟩
    ·
     refine Af <| Af <| Ai fun ds => Aa rfl (Ag (As rfl hs9)) ?_
     refine Aa rfl (Ag (Al rfl <| Ak rfl <| A4 rfl <| Al rfl <| Aj rfl)) ?_
     refine Aa rfl (Bi Bc (Ad) hl.plain) ?_
     refine Aa rfl (Bv (Ar rfl <| Ad) (Ad)) ?_
     refine Ah <| Ab <| Am (Ad) (by first | rfl | exact decide_eq_false (by omega)) ?_
     obtain rfl : k = s.editions.length := by omega
     replace ho := ho.to Ck
     refine Bn ?_
     refine Ba <| Ba <| Bg <| Ab <| Af <| Af <| Ai fun ds => Aa rfl (Ae Ac) ?_
     refine Ah <| Ab <| Az <| Bs [10, 11, 41, 42, 43, 44, 45, 46, 47, 48, 49, 50, 51, 52, 53, 54, 55, 56, 57, 58, 59, 60, 61, 62, 63, 64, 65, 66, 67, 68, 69, 70, 71, 72, 73, 74, 75, 76] (fun m e σ => ∃ r : Nat, m + r = l.length ∧ e 10 = .int .i64 (r : Int) ∧ ∃ lo hi R8, Own 3 1 v8 s.editions.length ((iL hi s.editions.length).flatMap intE) R8 ∧ YrI s (treeE l) r (fun _ _ => False) lo hi ∧ σ = ⟨F3, (b1, bx 25 [vp, ve]) :: R8⟩) (l.length) ?_ ?_
     · exact ⟨0, by omega, (Ad), _, _, _, ho, YrI.start, rfl⟩
     ·
      rintro m2 e2 _ ⟨r, hm2, ht10, lo, hi, R8, ho, hI, rfl⟩
      by_cases hlr : r < l.length
      ·
       refine Af <| Af <| Ai fun ds => Aa rfl (Ag (As rfl ht10)) ?_
       refine Aa rfl (Ag (Al rfl <| Ak rfl <| Ay rfl <| Al rfl <| Ak rfl <| A4 rfl <| Al rfl <| Aj rfl)) ?_
       refine Aa rfl (Bi Bc (Ad) hl.plain) ?_
       refine Aa rfl (Bv (Ar rfl <| Ad) (Ad)) ?_
       refine Ah <| Ab <| Aq (Ad) (by first | rfl | exact decide_eq_true (by omega)) ?_
       refine Aw <| Ab <| Af <| Az <| Af <| Ai fun ds => Aa rfl (Ae Ac) ?_
       refine Ah <| Ab <| Az <| Bs [11, 47, 48, 49, 50, 51, 52, 53, 54, 55, 56, 57, 58, 59, 60, 61, 62, 63, 64, 65, 66, 67, 68, 69, 70, 71, 72, 73, 74, 75, 76] (fun m e σ => ∃ i : Nat, m + i = l.length ∧ e 11 = .int .i64 (i : Int) ∧ ∃ lo hi R8, Own 3 1 v8 s.editions.length ((iL hi s.editions.length).flatMap intE) R8 ∧ YrI s (treeE l) r (DoneL l i) lo hi ∧ σ = ⟨F3, (b1, bx 25 [vp, ve]) :: R8⟩) (l.length) ?_ ?_
       · exact ⟨0, by omega, (Ad), _, _, _, ho, yr_none hI, rfl⟩
       ·
        rintro m3 e3 _ ⟨i, hm3, hu11, lo, hi, R8, ho, hI, rfl⟩
        by_cases hlt : i < l.length
        ·
         have hin : i < s.editions.length := by omega
         refine Af <| Af <| Ai fun ds => Aa rfl (Ag (As rfl hu11)) ?_
         refine Aa rfl (Ag (Al rfl <| Ak rfl <| Ay rfl <| Al rfl <| Ak rfl <| Ay rfl <| Al rfl <| Ak rfl <| A4 rfl <| Al rfl <| Aj rfl)) ?_
         refine Aa rfl (Bi Bc (Ad) hl.plain) ?_
         refine Aa rfl (Bv (Ar rfl <| Ad) (Ad)) ?_
         refine Ah <| Ab <| Aq (Ad) (by first | rfl | exact decide_eq_true (by omega)) ?_
         by_cases hu : upN l i = -1
         ·
          refine Aw <| Ab <| Af <| Az <| Af <| Ai fun ds => Aa rfl (Ag (Ay rfl <| Ak rfl <| Ay rfl <| Al rfl <| Ak rfl <| Ay rfl <| Al rfl <| Ak rfl <| A4 rfl <| Al rfl <| Aj rfl)) ?_
          refine Aa rfl (Ag (Ay rfl <| Al rfl <| As rfl hu11)) ?_
          refine Aa rfl (A8 (k := i) Bc (Al rfl <| Ad) hl.plain (Ad) rfl hlt) ?_
          refine Aa rfl (Ap Bk (Ad) (hl.cell1 hlt rfl)) ?_
          refine Aa rfl (By (Ad) Ac) ?_
          refine Ah <| Ab <| Am (Ad) (by rw [C8 hlt]; exact decide_eq_false (fun h => h hu)) ?_
          refine Aw <| Bd <| Ab <| Ai fun ds => Aa rfl (Ag (A7 rfl <| Al rfl <| As rfl hu11)) ?_
          refine Aa rfl (Br (Ad) Ac rfl (by omega) (by omega)) ?_
          refine Aa rfl (Ae (Ad)) ?_
          refine Ah <| Ab ⟨_, m3 - 1, Off.eq (Dn rfl <| Dz rfl <| Bf), by omega, ?_⟩
          exact ⟨i + 1, by omega, (Ad), _, _, _, ho, yr_root hI hu, rfl⟩
         ·
          obtain ⟨k, hk, hkl⟩ := ht.in_.nat hlt hu
          have hkn : k < s.editions.length := by omega
          have hlk : l[i] = (k : Int) := by rw [C8 hlt, hk]
          have hb1 := hI.bound hv hd.1 hin
          have hb2 := hI.bound hv hd.1 hkn
          refine Aw <| Ab <| Af <| Az <| Af <| Ai fun ds => Aa rfl (Ag (Ay rfl <| Ak rfl <| Ay rfl <| Al rfl <| Ak rfl <| Ay rfl <| Al rfl <| Ak rfl <| A4 rfl <| Al rfl <| Aj rfl)) ?_
          refine Aa rfl (Ag (Ay rfl <| Al rfl <| As rfl hu11)) ?_
          refine Aa rfl (A8 (k := i) Bc (Al rfl <| Ad) hl.plain (Ad) rfl hlt) ?_
          refine Aa rfl (Ap Bk (Ad) (hl.cell1 hlt rfl)) ?_
          refine Aa rfl (By (Ad) Ac) ?_
          refine Ah <| Ab <| Aq (Ad) (by rw [C8 hlt]; exact decide_eq_true hu) ?_
          have hleS := hle0
          refine Ct (.inl rfl) (fun _ _ h => h) (.cons_cons _ <| .refl _) [19] (by kernel_rfl) fun ds => ?_
          refine A2 0 rfl (by kernel_rfl) (by kernel_rfl) (by kernel_rfl) (by kernel_rfl) rfl rfl (fun _ h => h.drop (.cons_cons _ <| .refl _)) (fun _ _ _ h => h) (Ag (A7 rfl <| Al rfl <| Ak rfl <| Ay rfl <| Al rfl <| Ak rfl <| Ay rfl <| Al rfl <| As rfl hs8)) ?_
          refine A2 1 rfl (by kernel_rfl) (by kernel_rfl) (by kernel_rfl) (by kernel_rfl) rfl rfl (fun _ h => h.drop (.cons_cons _ <| .refl _)) (fun _ _ _ h => h) (Ag (A7 rfl <| Ar rfl <| Ak rfl <| Ay rfl <| Al rfl <| Ak rfl <| Ay rfl <| Al rfl <| Ak rfl <| A4 rfl <| Al rfl <| Aj rfl)) ?_
          refine A2 2 rfl (by kernel_rfl) (by kernel_rfl) (by kernel_rfl) (by kernel_rfl) rfl rfl (fun _ h => h.drop (.cons_cons _ <| .refl _)) (fun _ _ _ h => h) (Ag (A7 rfl <| Ar rfl <| Al rfl <| As rfl hu11)) ?_
          refine A2 3 rfl (by kernel_rfl) (by kernel_rfl) (by kernel_rfl) (by kernel_rfl) rfl rfl (fun _ h => h.drop (.cons_cons _ <| .refl _)) (fun _ _ _ h => h) (A8 (k := i) Bc (Al rfl <| Ad) hl.plain (Ad) rfl hlt) ?_
          refine A2 4 rfl (by kernel_rfl) (by kernel_rfl) (by kernel_rfl) (by kernel_rfl) rfl rfl (fun _ h => h.drop (.cons_cons _ <| .refl _)) (fun _ _ _ h => h) (Ap Bk (Ad) (hl.cell1 hlt rfl)) ?_
          refine A2 5 rfl (by kernel_rfl) (by kernel_rfl) (by kernel_rfl) (by kernel_rfl) rfl rfl (fun _ h => h.drop (.cons_cons _ <| .refl _)) (fun _ _ _ h => h) (Ag (A7 rfl <| Ay rfl <| Ar rfl <| Ak rfl <| Ay rfl <| Al rfl <| Ak rfl <| Ay rfl <| Al rfl <| As rfl hs8)) ?_
          refine A2 6 rfl (by kernel_rfl) (by kernel_rfl) (by kernel_rfl) (by kernel_rfl) rfl rfl (fun _ h => h.drop (.cons_cons _ <| .refl _)) (fun _ _ _ h => h) (Ag (A7 rfl <| Ay rfl <| Ar rfl <| Al rfl <| Ak rfl <| Ay rfl <| Al rfl <| Ak rfl <| Ay rfl <| Al rfl <| Ak rfl <| A4 rfl <| Al rfl <| Aj rfl)) ?_
          refine A2 7 rfl (by kernel_rfl) (by kernel_rfl) (by kernel_rfl) (by kernel_rfl) rfl rfl (fun _ h => h.drop (.cons_cons _ <| .refl _)) (fun _ _ _ h => h) (Ag (A4 rfl <| As rfl hu11)) ?_
          refine A2 8 rfl (by kernel_rfl) (by kernel_rfl) (by kernel_rfl) (by kernel_rfl) rfl rfl (fun _ h => h.drop (.cons_cons _ <| .refl _)) (fun _ _ _ h => h) (A8 (k := i) Bc (Al rfl <| Ad) hl.plain (Ad) rfl hlt) ?_
          refine A2 9 rfl (by kernel_rfl) (by kernel_rfl) (by kernel_rfl) (by kernel_rfl) rfl rfl (fun _ h => h.drop (.cons_cons _ <| .refl _)) (fun _ _ _ h => h) (Ap Bk (Ad) (hl.cell1 hlt rfl)) ?_
          refine A2 10 rfl (by kernel_rfl) (by kernel_rfl) (by kernel_rfl) (by kernel_rfl) rfl rfl (fun _ h => h.drop (.cons_cons _ <| .refl _)) (fun _ _ _ h => h) (A8 (k := k) Bc (Ay rfl <| Ad) (ho.plain (by omega)) (Ad) hlk hkn) ?_
          refine A2 11 rfl (by kernel_rfl) (by kernel_rfl) (by kernel_rfl) (by kernel_rfl) rfl rfl (fun _ h => h.drop (.cons_cons _ <| .refl _)) (fun _ _ _ h => h) (Ap Bk (Ad) (Di ho (fun p hp => .tail _ (hp)) (iL_get hkn))) ?_
          refine A2 12 rfl (by kernel_rfl) (by kernel_rfl) (by kernel_rfl) (by kernel_rfl) rfl rfl (fun _ h => h.drop (.cons_cons _ <| .refl _)) (fun _ _ _ h => h) (Ag (A4 rfl <| Ay rfl <| Al rfl <| Ak rfl <| Ay rfl <| Al rfl <| Ak rfl <| Ay rfl <| Al rfl <| As rfl hs8)) ?_
          refine A2 13 rfl (by kernel_rfl) (by kernel_rfl) (by kernel_rfl) (by kernel_rfl) rfl rfl (fun _ h => h.drop (.cons_cons _ <| .refl _)) (fun _ _ _ h => h) (Ag (A4 rfl <| Ay rfl <| Ar rfl <| As rfl hu11)) ?_
          refine A2 14 rfl (by kernel_rfl) (by kernel_rfl) (by kernel_rfl) (by kernel_rfl) rfl rfl (fun _ h => h.drop (.cons_cons _ <| .refl _)) (fun _ _ _ h => h) (A8 (k := i) Bc (Al rfl <| Ad) (ho.plain (by omega)) (Ad) rfl hin) ?_
          refine A2 15 rfl (by kernel_rfl) (by kernel_rfl) (by kernel_rfl) (by kernel_rfl) rfl rfl (fun _ h => h.drop (.cons_cons _ <| .refl _)) (fun _ _ _ h => h) (Ap Bk (Ad) (Di ho (fun p hp => .tail _ (hp)) (iL_get hin))) ?_
          refine A2 16 rfl (by kernel_rfl) (by kernel_rfl) (by kernel_rfl) (by kernel_rfl) rfl rfl (fun _ h => h.drop (.cons_cons _ <| .refl _)) (fun _ _ _ h => h) (Do (Ad) Ac rfl (by omega) (by omega)) ?_
          refine A2 17 rfl (by kernel_rfl) (by kernel_rfl) (by kernel_rfl) (by kernel_rfl) rfl rfl (fun _ h => h.drop (.cons_cons _ <| .refl _)) (fun _ _ _ h => h) (q_min2 (Ay rfl <| Al rfl <| Ad) (Ad)) ?_
          refine A2 18 rfl (by kernel_rfl) (by kernel_rfl) (by kernel_rfl) (by kernel_rfl) rfl rfl (fun _ h => h.drop (.cons_cons _ <| .refl _)) (fun _ _ _ h => h) (A8 (k := k) Bc (A4 rfl <| Al rfl <| Ad) (ho.plain (by omega)) (A7 rfl <| Ay rfl <| Al rfl <| Ad) hlk hkn) ?_
          refine WX_x0 19 rfl (by kernel_rfl) (Eu sz_3 (Ad) (Al rfl <| Ad) ho (by rw [iL_len1]; omega) rfl (.s <| .z) .last fun R13 ho14 => ⟨(fun h => nomatch h), ?_⟩)
          have ho3 := ho14
          rw [iL_set hkn] at ho3
          refine Cq (by kernel_rfl) ?_ _
          refine Bd <| Ab <| Ai fun ds => Aa rfl (Ag (A4 rfl <| A7 rfl <| Ay rfl <| As rfl hu11)) ?_
          refine Aa rfl (Br (Ad) Ac rfl (by omega) (by omega)) ?_
          refine Aa rfl (Ae (Ad)) ?_
          refine Ah <| Ab ⟨_, m3 - 1, Off.eq (Cu rfl <| Dn rfl <| Dz rfl <| ou2 rfl <| Dr rfl <| Bf), by omega, ?_⟩
          exact ⟨i + 1, by omega, (Ad), _, _, _, ho3, yr_tree hI hd hlt hk, rfl⟩
        ·
         refine Af <| Af <| Ai fun ds => Aa rfl (Ag (As rfl hu11)) ?_
         refine Aa rfl (Ag (Al rfl <| Ak rfl <| Ay rfl <| Al rfl <| Ak rfl <| Ay rfl <| Al rfl <| Ak rfl <| A4 rfl <| Al rfl <| Aj rfl)) ?_
         refine Aa rfl (Bi Bc (Ad) hl.plain) ?_
         refine Aa rfl (Bv (Ar rfl <| Ad) (Ad)) ?_
         refine Ah <| Ab <| Am (Ad) (by first | rfl | exact decide_eq_false (by omega)) ?_
         obtain rfl : i = l.length := by omega
         refine Bn ?_
         refine Ba <| Ba <| Bg <| Bd <| Ab <| Ai fun ds => Aa rfl (Ag (Ay rfl <| Ak rfl <| Ay rfl <| Al rfl <| As rfl ht10)) ?_
         refine Aa rfl (Br (Ad) Ac rfl (by omega) (by omega)) ?_
         refine Aa rfl (Ae (Ad)) ?_
         refine Ah <| Ab ⟨_, m2 - 1, Off.eq (Dz rfl <| ou2 rfl <| Dr rfl <| D0 rfl <| Dz rfl <| Dr rfl <| Bf), by omega, ?_⟩
         exact ⟨r + 1, by omega, (Ad), _, _, _, ho, yr_round hI, rfl⟩
      ·
       refine Af <| Af <| Ai fun ds => Aa rfl (Ag (As rfl ht10)) ?_
       refine Aa rfl (Ag (Al rfl <| Ak rfl <| Ay rfl <| Al rfl <| Ak rfl <| A4 rfl <| Al rfl <| Aj rfl)) ?_
       refine Aa rfl (Bi Bc (Ad) hl.plain) ?_
       refine Aa rfl (Bv (Ar rfl <| Ad) (Ad)) ?_
       refine Ah <| Ab <| Am (Ad) (by first | rfl | exact decide_eq_false (by omega)) ?_
       rw [yr_hi hI (by omega)] at ho
       replace ho := ho.to (Ck (f := (lastY s (treeE l)))).symm
       refine Cw (σ := ⟨_, _⟩) (by rfl) ho (.s <| .z) .last fun F15 hF16 hz17 => ?_
       replace hl := hl.mono hF16
       replace hle0 := Heap.le_trans hle0 hF16
       replace her := her.mono hF16
       have hhi := ho.sl (fun _ => rfl) hz17 (by rw [Ck]; omega)
       refine Bn ?_
       refine Ba <| Ba <| Bg <| Ab <| Af <| Ai fun ds => Aa rfl (Ae Ac) ?_
       refine Ah <| Ab <| Af <| Af <| Ai fun ds => Aa rfl (Ae Ac) ?_
       refine Ah <| Ab <| Az <| Bs [12, 13, 77, 78, 79, 80, 81, 82, 83, 84, 85, 86, 87, 88, 89, 90, 91, 92, 93, 94] (fun m e σ => ∃ i : Nat, m + i = l.length ∧ e 13 = .int .i64 (i : Int) ∧ ∃ v12 R12, e 12 = v12 ∧ Own 60 2 v12 (spL (firstY s (treeE l)) (lastY s (treeE l)) i).length ((spL (firstY s (treeE l)) (lastY s (treeE l)) i).flatMap spanE) R12 ∧ σ = ⟨F15, (b1, bx 25 [vp, ve]) :: R12⟩) (l.length) ?_ ?_
       · exact ⟨0, by omega, (Ad), _, _, (Al rfl <| Ad), D9, rfl⟩
       ·
        rintro m4 e4 _ ⟨i, hm4, hw13, v12, R12, hw12, ho12, rfl⟩; have hsl9 := Dl (lo := (firstY s (treeE l))) (hi := (lastY s (treeE l))) (n := i)
        by_cases hlt : i < l.length
        ·
         have hil : i < (iL (firstY s (treeE l)) s.editions.length).length := by rw [Ck]; omega
         have hih : i < (iL (lastY s (treeE l)) s.editions.length).length := by rw [Ck]; omega
         have ea := iL_at hil
         have eb := iL_at hih
         refine Af <| Af <| Ai fun ds => Aa rfl (Ag (As rfl hw13)) ?_
         refine Aa rfl (Ag (Al rfl <| Ak rfl <| Ay rfl <| Ar rfl <| Ak rfl <| Ay rfl <| Al rfl <| Ak rfl <| A4 rfl <| Al rfl <| Aj rfl)) ?_
         refine Aa rfl (Bi Bc (Ad) hl.plain) ?_
         refine Aa rfl (Bv (Ar rfl <| Ad) (Ad)) ?_
         refine Ah <| Ab <| Aq (Ad) (by first | rfl | exact decide_eq_true (by omega)) ?_
         refine Aw <| Ab <| Af <| Az ?_
         have hleS := hle0
         refine Ct (.inl rfl) (fun _ _ h => h) (.cons_cons _ <| List.nil_sublist _) [] (by kernel_rfl) fun ds => ?_
         refine A2 0 rfl (by kernel_rfl) (by kernel_rfl) (by kernel_rfl) (by kernel_rfl) rfl rfl (fun _ h => h.drop (.cons_cons _ <| List.nil_sublist _)) (fun _ _ _ h => h) (Ag (Ay rfl <| As rfl hw12)) ?_
         refine A2 1 rfl (by kernel_rfl) (by kernel_rfl) (by kernel_rfl) (by kernel_rfl) rfl rfl (fun _ h => h.drop (.cons_cons _ <| List.nil_sublist _)) (fun _ _ _ h => h) (Ag (Ay rfl <| Al rfl <| Ak rfl <| Ay rfl <| Ar rfl <| Ak rfl <| Ay rfl <| Al rfl <| Ak rfl <| Ay rfl <| Ad)) ?_
         refine A2 2 rfl (by kernel_rfl) (by kernel_rfl) (by kernel_rfl) (by kernel_rfl) rfl rfl (fun _ h => h.drop (.cons_cons _ <| List.nil_sublist _)) (fun _ _ _ h => h) (Ag (Ay rfl <| Ar rfl <| As rfl hw13)) ?_
         refine A2 3 rfl (by kernel_rfl) (by kernel_rfl) (by kernel_rfl) (by kernel_rfl) rfl rfl (fun _ h => h.drop (.cons_cons _ <| List.nil_sublist _)) (fun _ _ _ h => h) (A8 (k := i) Bc (Al rfl <| Ad) her.plain (Ad) rfl hil) ?_
         refine A2 4 rfl (by kernel_rfl) (by kernel_rfl) (by kernel_rfl) (by kernel_rfl) rfl rfl (fun _ h => h.drop (.cons_cons _ <| List.nil_sublist _)) (fun _ _ _ h => h) (Ap Bk (Ad) (her.cell1 hil rfl)) ?_
         refine A2 5 rfl (by kernel_rfl) (by kernel_rfl) (by kernel_rfl) (by kernel_rfl) rfl rfl (fun _ h => h.drop (.cons_cons _ <| List.nil_sublist _)) (fun _ _ _ h => h) (Ag (A7 rfl <| Al rfl <| Ak rfl <| Ay rfl <| Ar rfl <| Ak rfl <| Ay rfl <| Al rfl <| As rfl hs8)) ?_
         refine A2 6 rfl (by kernel_rfl) (by kernel_rfl) (by kernel_rfl) (by kernel_rfl) rfl rfl (fun _ h => h.drop (.cons_cons _ <| List.nil_sublist _)) (fun _ _ _ h => h) (Ag (A7 rfl <| Ar rfl <| As rfl hw13)) ?_
         refine A2 7 rfl (by kernel_rfl) (by kernel_rfl) (by kernel_rfl) (by kernel_rfl) rfl rfl (fun _ h => h.drop (.cons_cons _ <| List.nil_sublist _)) (fun _ _ _ h => h) (A8 (k := i) Bc (Al rfl <| Ad) hhi.plain (Ad) rfl hih) ?_
         refine A2 8 rfl (by kernel_rfl) (by kernel_rfl) (by kernel_rfl) (by kernel_rfl) rfl rfl (fun _ h => h.drop (.cons_cons _ <| List.nil_sublist _)) (fun _ _ _ h => h) (Ap Bk (Ad) (hhi.cell1 hih rfl)) ?_
         refine A2 9 rfl (by kernel_rfl) (by kernel_rfl) (by kernel_rfl) (by kernel_rfl) rfl rfl (fun _ h => h.drop (.cons_cons _ <| List.nil_sublist _)) (fun _ _ _ h => h) (Ek bt_60 (.cons (Ay rfl <| Ad) rfl (.cons (Ad) rfl .nil)) (.cons rfl rfl (Nat.le_of_ble_eq_true rfl) (.cons (.here) .nil) (.cons rfl rfl (Nat.le_of_ble_eq_true rfl) (.cons (.next <| .here) .nil) .nil))) ?_
         refine Dv 10 rfl (by kernel_rfl) rfl (x_buildN (offs := [(0, 2)]) (zl := [.int .i64 0, .int .i64 0]) Ee zr_60 rfl (.cons (Ad) rfl .nil) (by intro i p h; rcases i with _ | i <;> simp at h <;> subst h <;> rfl) (.cons rfl rfl (Nat.le_of_ble_eq_true rfl) (.cons (.here) (.cons (.next <| .here) .nil)) .nil) (by decide) (by decide) fun b19 hb19 nb19 => ⟨fun _ _ => (fun _ h => h.drop (.cons _ <| .cons_cons _ <| List.nil_sublist _)), ?_⟩)
         refine Dv 11 rfl (by kernel_rfl) rfl (B6 Ee el_60 (A7 rfl <| Ar rfl <| Ad) ho12 (Ad) (Db (s := 2) 0 rfl rfl (by simp [Value.oneCell'])) (by omega) (by omega) (.s <| .s <| .z) .last fun v20 R21 ho22 => ⟨fun _ _ => (fun _ h => h.drop (.cons _ <| .cons_cons _ <| List.nil_sublist _)), ?_⟩)
         have ho13 : Own 60 2 v20 (spL (firstY s (treeE l)) (lastY s (treeE l)) (i + 1)).length ((spL (firstY s (treeE l)) (lastY s (treeE l)) (i + 1)).flatMap spanE) R21 := by have h9 := ho22; rw [spL_succ, List.length_append, List.flatMap_append, show [(firstY s (treeE l) i, lastY s (treeE l) i)].flatMap spanE = [.int .i64 (iL (firstY s (treeE l)) s.editions.length)[i], .int .i64 (iL (lastY s (treeE l)) s.editions.length)[i]] by rw [ea, eb]; rfl]; exact h9
         refine A2 12 rfl (by kernel_rfl) (by kernel_rfl) (by kernel_rfl) (by kernel_rfl) rfl rfl (fun _ h => h.drop (.cons _ <| .cons_cons _ <| List.nil_sublist _)) (fun _ _ _ h => h) (Ae (Ad)) ?_
         refine Cq (by kernel_rfl) ?_ _
         refine Bd <| Ab <| C1 (fun _ _ h => h.drop (.cons _ <| .cons_cons _ <| .refl _)) ?_
         refine Ai fun ds => Aa rfl (Ag (A4 rfl <| Al rfl <| As rfl hw13)) ?_
         refine Aa rfl (Br (Ad) Ac rfl (by omega) (by omega)) ?_
         refine Aa rfl (Ae (Ad)) ?_
         refine Ah <| Ab ⟨_, m4 - 1, Off.eq (Cu rfl <| Dz rfl <| Bf), by omega, ?_⟩
         exact ⟨i + 1, by omega, (Ad), _, _, (Ar rfl <| Al rfl <| Ad), ho13, rfl⟩
        ·
         refine Af <| Af <| Ai fun ds => Aa rfl (Ag (As rfl hw13)) ?_
         refine Aa rfl (Ag (Al rfl <| Ak rfl <| Ay rfl <| Ar rfl <| Ak rfl <| Ay rfl <| Al rfl <| Ak rfl <| A4 rfl <| Al rfl <| Aj rfl)) ?_
         refine Aa rfl (Bi Bc (Ad) hl.plain) ?_
         refine Aa rfl (Bv (Ar rfl <| Ad) (Ad)) ?_
         refine Ah <| Ab <| Am (Ad) (by first | rfl | exact decide_eq_false (by omega)) ?_
         obtain rfl : i = l.length := by omega
         refine Cw (σ := ⟨_, _⟩) (by rfl) ho12 (.s <| .z) .last fun F23 hF24 hz25 => ?_
         have hsp := ho12.sl (fun _ => rfl) hz25 (by omega)
         refine Bn ?_
         refine Ba <| Ba <| Bg <| Ab <| Af <| Ai fun ds => Aa rfl (Ag (Ay rfl <| As rfl hw12)) ?_
         refine Aa rfl (Ae (Ad)) ?_
         refine Aa rfl (Ae Ac) ?_
         refine Ah <| Ab <| A3 <| Ax rfl (.tmp (Al rfl <| Ad) (.tmp (Ad) .nil)) ?_
         exact ⟨_, by rw [yearsE_ok h hft]; rfl, by rw [yearsE_ok h hft, ← hll]; exact hsp⟩
  ·
   replace hft : fitsE s (treeE l) = false := by simpa using hft
   refine Af <| Ai fun ds => Bl rfl (B1 (Aj rfl) rfl fun b26 hb26 nb26 => ?_)
   refine Aa rfl (Ae Ac) ?_
   refine Aa rfl (Ae Ac) ?_
   refine Ah <| Ab <| Af <| Ai fun ds => Aa rfl (A9 Bz (Ar rfl <| Ad) rfl rfl (A6 0 rfl)) ?_
   refine Aa rfl (Ag (Ay rfl <| Aj rfl)) ?_
   refine Bx rfl (Bh bd_70 A1 (.cons (Al rfl <| Ad) (.cons (Ad) .nil)) (refTree_ok hr hl) (fun _ _ h => h)) ?_
   refine Aa rfl (Ae (Ad)) ?_
   refine Ah <| Ab <| Af <| Af <| Ai fun ds => Aa rfl (Ag (Ad)) ?_
   refine Aa rfl (By (Ad) Ac) ?_
   refine Ah <| Ab <| Am (Ad) (by rw [h]; rfl) ?_
   refine Aw <| Ab <| Af <| Ai fun ds => Aa rfl (A9 Bz (A7 rfl <| Ad) rfl rfl (A6 0 rfl)) ?_
   refine Aa rfl (Ag (A7 rfl <| Ar rfl <| Aj rfl)) ?_
   refine Bl rfl (Cd bd_74 A1 (.cons (Al rfl <| Ad) (.cons (Ad) (.cons Ac .nil))) (earliest_ok hr hv hl hll ht (vm := .slice none 0 0) (M := []) Sl.nil (by rw [List.append_nil, ← hll]; exact ht.dag)) fun v27 F28 hr29 hF30 => ?_)
   have her := hr29
   rw [List.append_nil] at her
   obtain ⟨a9, k9, c9, hu9, hn9⟩ := her.nil (by omega)
   have h8 : a9.isNone = !(fitsE s (treeE l)) := by rw [← hn9]; cases a9 <;> rfl
   rw [hft] at h8
   subst hu9
   refine Aa rfl (Ae (Ad)) ?_
   refine Ah <| Ab <| Af <| Af <| Ai fun ds => Aa rfl (Ag (Ad)) ?_
   refine Aa rfl (Eg Try.underlying26 (Ad) Ac) ?_
   refine Ah <| Ab <| Aq (Ad) h8 ?_
   refine Af <| Ai fun ds => Aa rfl (Ae Ac) ?_
   refine Aa rfl (Ae Ac) ?_
   refine Ah <| Ab <| A3 <| Be ?_
   refine Ax rfl (.tmp (Al rfl <| Ad) (.tmp (Ad) .nil)) ?_
   exact ⟨_, by rw [yearsE_down h hft]; rfl, by rw [yearsE_down h hft]; exact Sl.nil⟩
 ·
  refine Af <| Ai fun ds => Bl rfl (B1 (Aj rfl) rfl fun b31 hb31 nb31 => ?_)
  refine Aa rfl (Ae Ac) ?_
  refine Aa rfl (Ae Ac) ?_
  refine Ah <| Ab <| Af <| Ai fun ds => Aa rfl (A9 Bz (Ar rfl <| Ad) rfl rfl (A6 0 rfl)) ?_
  refine Aa rfl (Ag (Ay rfl <| Aj rfl)) ?_
  refine Bx rfl (Bh bd_70 A1 (.cons (Al rfl <| Ad) (.cons (Ad) .nil)) (refTree_ok hr hl) (fun _ _ h => h)) ?_
  refine Aa rfl (Ae (Ad)) ?_
  refine Ah <| Ab <| Af <| Af <| Ai fun ds => Aa rfl (Ag (Ad)) ?_
  refine Aa rfl (By (Ad) Ac) ?_
  refine Ah <| Ab <| Aq (Ad) (decide_eq_true h) ?_
  refine Af <| Ai fun ds => Aa rfl (Ag (Ar rfl <| Ad)) ?_
  refine Aa rfl (Ae Ac) ?_
  refine Aa rfl (Ae (Al rfl <| Ad)) ?_
  refine Ah <| Ab <| A3 <| Be ?_
  refine Ax rfl (.tmp (Al rfl <| Ad) (.tmp (Ad) .nil)) ?_
  exact ⟨_, by rw [yearsE_bad h]; rfl, by rw [yearsE_bad h]; exact Sl.nil⟩
end Go.Proofs.Ytccogmkhijgelaa
namespace Go.Proofs.Ytccogmkhijgelaa
open Go.RowKit
section
variable {n d j : Nat} {b : List Int}
def InN (n : Nat) (b : List Int) : Prop := ∀ i, i < b.length → -1 ≤ upN b i ∧ upN b i < n
theorem InN.nil : InN n [] := fun i h => absurd h (by simp)
theorem InN.snoc (h : InN n b) {v : Int} (hv : -1 ≤ v ∧ v < n) : InN n (b ++ [v]) := fun i hi => by
 by_cases hb : i < b.length
 · rw [upN_left hb]; exact h i hb
 · rw [List.length_append, List.length_singleton] at hi
   obtain rfl : i = b.length := by omega
   have := upN_mid (b := b) (t := []) (v := v)
   rw [List.append_nil] at this
   rw [this]; exact hv
theorem InN.in_ (h : InN n b) (hl : b.length = n) : TreeIn b := fun i hi => by rw [hl]; exact h i hi
end
section
variable {s : Stm} {F : Heap} {zs : List (Value × List Int)} {i : Nat}
end
section
variable {s : Stm} {F : Heap} {u : Value}
def AskZ (F : Heap) (u : Value) (s : Stm) : Prop := ∃ v, u = .tuple #[v, .int .i64 (askedE s).2.1, .int .i64 (askedE s).2.2] ∧ LstZ F v (askedE s).1
theorem AskZ.ok (h : AskZ F u s) (h0 : askedT s = 0) : ∃ v, u = .tuple #[v, .int .i64 (bestsM s), .int .i64 0] ∧ LstZ F v (bestsL s) := by
 unfold AskZ at h; rw [askedE_ok h0] at h; exact h
theorem AskZ.bad (h : AskZ F u s) (h0 : askedT s ≠ 0) : ∃ v, u = .tuple #[v, .int .i64 0, .int .i64 (askedT s)] := by
 unfold AskZ at h; rw [askedE_bad h0] at h; obtain ⟨v, rfl, -⟩ := h; exact ⟨v, rfl⟩
end
end Go.Proofs.Ytccogmkhijgelaa
namespace Go.Proofs.Ytccogmkhijgelaa
open Go.RowKit
theorem bd_19 : Body Try.prog 19 := Bq (by kernel_rfl)
theorem bd_22 : Body Try.prog 22 := Bq (by kernel_rfl)
theorem bd_24 : Body Try.prog 24 := Bq (by kernel_rfl)
set_option maxRecDepth 100000 in
theorem treesLaw_ok {F : Heap} {vp ve : Value} {ps : List (Value × Edn)} {s : Stm} (hr : StmR F vp ve ps s) {v : Value} {l : List Int} (hl : Ints F v l) (x0 x1 : Int) : Ok Try.prog 3 [.agg #[vp, ve], v, .agg #[.int .i64 x0, .int .i64 x1]].toArray F fun u _ => u = .bool true := by
 have hle0 : F.le F := Heap.le_refl _
 refine Ok.intro Try.func3 rfl Try.ntmps3 rfl fun w0 => ?_
 refine Af <| Ai fun ds => Bl rfl (B1 (Aj rfl) rfl fun b1 hb1 nb1 => ?_)
 refine Bl rfl (B1 (Al rfl <| Aj rfl) rfl fun b2 hb2 nb2 => ?_)
 refine Aa rfl (Ae Ac) ?_
 refine Ah <| Ab <| Af <| Ai fun ds => Aa rfl (A9 Bz (Ar rfl <| Ad) rfl rfl (A6 1 rfl)) ?_
 refine Bx rfl (Bh bd_16 A1 (.cons (Ad) .nil) (checkT_ok hr) (fun _ _ h => h.trans (show checkTV s = .tuple #[.int .i64 (checkT s).1, .int .i64 (checkT s).2.1, .int .i64 (checkT s).2.2] from rfl))) ?_
 refine Aa rfl (Ag (Ad)) ?_
 refine Aa rfl (A0 (Ad) rfl) ?_
 refine Aa rfl (A0 (Al rfl <| Ad) rfl) ?_
 refine Aa rfl (A0 (Ar rfl <| Ad) rfl) ?_
 refine Aa rfl (Ae (Ar rfl <| Ad)) ?_
 refine Aa rfl (Ae (Ar rfl <| Ad)) ?_
 refine Aa rfl (Ae (Ar rfl <| Ad)) ?_
 refine Ah <| Ab <| Af <| Ai fun ds => Aa rfl (A9 Bz (A7 rfl <| Ar rfl <| Al rfl <| Ad) rfl rfl (A6 1 rfl)) ?_
 refine Bx rfl (Bh bd_17 A1 (.cons (Ad) .nil) (Ds hr) (fun _ _ h => h.trans (show checkTV s = .tuple #[.int .i64 (checkT s).1, .int .i64 (checkT s).2.1, .int .i64 (checkT s).2.2] from rfl))) ?_
 refine Aa rfl (Ag (Ad)) ?_
 refine Aa rfl (A0 (Ad) rfl) ?_
 refine Aa rfl (A0 (Al rfl <| Ad) rfl) ?_
 refine Aa rfl (A0 (Ar rfl <| Ad) rfl) ?_
 refine Aa rfl (Ae (Ar rfl <| Ad)) ?_
 refine Aa rfl (Ae (Ar rfl <| Ad)) ?_
 refine Aa rfl (Ae (Ar rfl <| Ad)) ?_
 refine Ah <| Ab <| Af <| Af <| Ai fun ds => Aa rfl (Ag (A7 rfl <| Ar rfl <| Al rfl <| Ad)) ?_
 refine Aa rfl (Ag (Ar rfl <| Al rfl <| Ad)) ?_
 refine Aa rfl (By (Al rfl <| Ad) (Ad)) ?_
 refine Aa rfl (Ag (Ad)) ?_
 refine At rfl rfl (Ad) (decide_eq_false (fun h => h rfl)) ?_
 refine Aa rfl (Ag (A7 rfl <| Ay rfl <| Ar rfl <| Ad)) ?_
 refine At rfl rfl (Al rfl <| Ad) (decide_eq_false (fun h => h rfl)) ?_
 refine Aa rfl (Ag (Ay rfl <| Ar rfl <| Ad)) ?_
 refine At rfl rfl (Ar rfl <| Ad) (decide_eq_false (fun h => h rfl)) ?_
 refine Aa rfl (By (Al rfl <| Ad) (Ad)) ?_
 refine Aa rfl (Bb (Ar rfl <| Al rfl <| Ad) (decide_eq_false (fun h => h rfl)) (Ad)) ?_
 refine Aa rfl (Ag (Ad)) ?_
 refine At rfl rfl (Ad) (decide_eq_false (fun h => h rfl)) ?_
 refine Aa rfl (Ag (A4 rfl <| Ar rfl <| Ad)) ?_
 refine At rfl rfl (Al rfl <| Ad) (decide_eq_false (fun h => h rfl)) ?_
 refine Aa rfl (Ag (A7 rfl <| Ar rfl <| Ad)) ?_
 refine At rfl rfl (Ar rfl <| Ad) (decide_eq_false (fun h => h rfl)) ?_
 refine Aa rfl (By (Al rfl <| Ad) (Ad)) ?_
 refine Aa rfl (Bb (Ar rfl <| Al rfl <| Ad) (decide_eq_false (fun h => h rfl)) (Ad)) ?_
 refine Ah <| Ab <| Am (Ad) (decide_eq_false (fun h => h rfl)) ?_
 refine Aw <| Ab <| Af <| Ai fun ds => Aa rfl (A9 Bz (Bo rfl <| Al rfl <| Ad) rfl rfl (A6 1 rfl)) ?_
 refine Aa rfl (Bt (k := 0) ar_27 (Bo rfl <| Al rfl <| Ad) Ac rfl (by decide)) ?_
 refine Aa rfl (Ap Bk (Ad) (Cell.own 0 rfl rfl)) ?_
 refine Aa rfl (Bt (k := 1) ar_27 (Bo rfl <| Ar rfl <| Al rfl <| Ad) Ac rfl (by decide)) ?_
 refine Aa rfl (Ap Bk (Ad) (Cell.own 0 rfl rfl)) ?_
 refine Bl rfl (Cd bd_18 A1 (.cons (Ay rfl <| Ad) (.cons (Ar rfl <| Ad) (.cons (Ad) .nil))) (apart_top_ok hr _ _) fun v3 F4 hr5 hF6 => ?_)
 replace hr := hr.mono hF6
 replace hl := hl.mono hF6
 obtain ⟨va, rfl, ha⟩ := hr5
 refine Aa rfl (Ag (Ad)) ?_
 refine Aa rfl (A0 (Ad) rfl) ?_
 refine Aa rfl (A0 (Al rfl <| Ad) rfl) ?_
 refine Aa rfl (Ae (Al rfl <| Ad)) ?_
 refine Aa rfl (Ae (Al rfl <| Ad)) ?_
 refine Ah <| Ab <| Af <| Ai fun ds => Aa rfl (A9 Bz (Bo rfl <| A7 rfl <| Ay rfl <| Ad) rfl rfl (A6 1 rfl)) ?_
 refine Aa rfl (Bt (k := 0) ar_27 (Bo rfl <| A7 rfl <| Ay rfl <| Ad) Ac rfl (by decide)) ?_
 refine Aa rfl (Ap Bk (Ad) (Cell.own 0 rfl rfl)) ?_
 refine Aa rfl (Bt (k := 1) ar_27 (Bo rfl <| A7 rfl <| Ay rfl <| Ar rfl <| Ad) Ac rfl (by decide)) ?_
 refine Aa rfl (Ap Bk (Ad) (Cell.own 0 rfl rfl)) ?_
 refine Bl rfl (Cd bd_19 A1 (.cons (Ay rfl <| Ad) (.cons (Ar rfl <| Ad) (.cons (Ad) .nil))) (refApart_ok hr _ _) fun v7 F8 hr9 hF10 => ?_)
 replace hr := hr.mono hF10
 replace hl := hl.mono hF10
 replace ha := ha.mono hF10
 obtain ⟨vb, rfl, hb⟩ := hr9
 refine Aa rfl (Ag (Ad)) ?_
 refine Aa rfl (A0 (Ad) rfl) ?_
 refine Aa rfl (A0 (Al rfl <| Ad) rfl) ?_
 refine Aa rfl (Ae (Al rfl <| Ad)) ?_
 refine Aa rfl (Ae (Al rfl <| Ad)) ?_
 refine Ah <| Ab <| Af <| Af <| Ai fun ds => Aa rfl (Ag (A7 rfl <| Ay rfl <| Ad)) ?_
 refine Aa rfl (Ag (Ar rfl <| Ad)) ?_
 refine Bx rfl (Bh bd_20 A1 (.cons (Al rfl <| Ad) (.cons (Ad) .nil)) (refInts_ok (Nats.ints ha) (Nats.ints hb)) (fun _ _ h => h)) ?_
 refine Aa rfl (Cg (Ad)) ?_
 refine Aa rfl (Ag (Ad)) ?_
 refine At rfl rfl (Ad) (by rw [decide_eq_true rfl]; first | done | rfl) ?_
 refine Aa rfl (Ag (A4 rfl <| Ad)) ?_
 refine At rfl rfl (Al rfl <| Ad) (by rw [decide_eq_true rfl]; first | done | rfl) ?_
 refine Aa rfl (Ag (Ay rfl <| Ar rfl <| Ad)) ?_
 refine At rfl rfl (Ar rfl <| Ad) (by rw [decide_eq_true rfl]; first | done | rfl) ?_
 refine Aa rfl (By (Al rfl <| Ad) (Ad)) ?_
 refine Aa rfl (Bb (Ar rfl <| Al rfl <| Ad) (by rw [decide_eq_true rfl]; first | done | rfl) (Ad)) ?_
 refine Ah <| Ab <| Am (Ad) (decide_eq_false (fun h => h rfl)) ?_
 refine Aw <| Ab <| Af <| Ai fun ds => Aa rfl (A9 Bz (Bo rfl <| Bo rfl <| Ad) rfl rfl (A6 1 rfl)) ?_
 refine Aa rfl (Ag (Bo rfl <| Bo rfl <| Ar rfl <| Aj rfl)) ?_
 refine Bx rfl (Bh bd_21 A1 (.cons (Al rfl <| Ad) (.cons (Ad) .nil)) (changes_top_ok hr hl) (fun _ _ h => h.trans (show changesEV s l = .tuple #[.int .i64 (changesE s l).1, .int .i64 (changesE s l).2] from rfl))) ?_
 refine Aa rfl (Ag (Ad)) ?_
 refine Aa rfl (A0 (Ad) rfl) ?_
 refine Aa rfl (A0 (Al rfl <| Ad) rfl) ?_
 refine Aa rfl (Ae (Al rfl <| Ad)) ?_
 refine Aa rfl (Ae (Al rfl <| Ad)) ?_
 refine Ah <| Ab <| Af <| Ai fun ds => Aa rfl (A9 Bz (Bo rfl <| Bo rfl <| A7 rfl <| Ad) rfl rfl (A6 1 rfl)) ?_
 refine Aa rfl (Ag (Bo rfl <| Bo rfl <| A7 rfl <| Ar rfl <| Aj rfl)) ?_
 refine Bx rfl (Bh bd_22 A1 (.cons (Al rfl <| Ad) (.cons (Ad) .nil)) (refChanges_ok hr hl) (fun _ _ h => h.trans (show changesEV s l = .tuple #[.int .i64 (changesE s l).1, .int .i64 (changesE s l).2] from rfl))) ?_
 refine Aa rfl (Ag (Ad)) ?_
 refine Aa rfl (A0 (Ad) rfl) ?_
 refine Aa rfl (A0 (Al rfl <| Ad) rfl) ?_
 refine Aa rfl (Ae (Al rfl <| Ad)) ?_
 refine Aa rfl (Ae (Al rfl <| Ad)) ?_
 refine Ah <| Ab <| Af <| Af <| Ai fun ds => Aa rfl (Ag (A7 rfl <| Al rfl <| Ad)) ?_
 refine Aa rfl (Ag (Ar rfl <| Ad)) ?_
 refine Aa rfl (By (Al rfl <| Ad) (Ad)) ?_
 refine Aa rfl (Ag (Ad)) ?_
 refine At rfl rfl (Ad) (decide_eq_false (fun h => h rfl)) ?_
 refine Aa rfl (Ag (A7 rfl <| Ay rfl <| Ad)) ?_
 refine At rfl rfl (Al rfl <| Ad) (decide_eq_false (fun h => h rfl)) ?_
 refine Aa rfl (Ag (Ay rfl <| Al rfl <| Ad)) ?_
 refine At rfl rfl (Ar rfl <| Ad) (decide_eq_false (fun h => h rfl)) ?_
 refine Aa rfl (By (Al rfl <| Ad) (Ad)) ?_
 refine Aa rfl (Bb (Ar rfl <| Al rfl <| Ad) (decide_eq_false (fun h => h rfl)) (Ad)) ?_
 refine Ah <| Ab <| Am (Ad) (decide_eq_false (fun h => h rfl)) ?_
 refine Aw <| Ab <| Af <| Ai fun ds => Aa rfl (A9 Bz (Bo rfl <| Bo rfl <| A4 rfl <| A7 rfl <| Ad) rfl rfl (A6 1 rfl)) ?_
 refine Aa rfl (Ag (Bo rfl <| Bo rfl <| A4 rfl <| A7 rfl <| Ar rfl <| Aj rfl)) ?_
 refine Bl rfl (Cd bd_23 A1 (.cons (Al rfl <| Ad) (.cons (Ad) .nil)) (years_top_ok hr hl) fun v11 F12 hr13 hF14 => ?_)
 replace hr := hr.mono hF14
 replace hl := hl.mono hF14
 obtain ⟨vy, rfl, hy⟩ := hr13
 refine Aa rfl (Ag (Ad)) ?_
 refine Aa rfl (A0 (Ad) rfl) ?_
 refine Aa rfl (A0 (Al rfl <| Ad) rfl) ?_
 refine Aa rfl (Ae (Al rfl <| Ad)) ?_
 refine Aa rfl (Ae (Al rfl <| Ad)) ?_
 refine Ah <| Ab <| Af <| Ai fun ds => Aa rfl (A9 Bz (Bo rfl <| Bo rfl <| Bo rfl <| Ad) rfl rfl (A6 1 rfl)) ?_
 refine Aa rfl (Ag (Bo rfl <| Bo rfl <| Bo rfl <| Ar rfl <| Aj rfl)) ?_
 refine Bl rfl (Cd bd_24 A1 (.cons (Al rfl <| Ad) (.cons (Ad) .nil)) (refYears_ok hr hl) fun v15 F16 hr17 hF18 => ?_)
 replace hy := hy.mono hF18
 obtain ⟨vz, rfl, hz⟩ := hr17
 refine Aa rfl (Ag (Ad)) ?_
 refine Aa rfl (A0 (Ad) rfl) ?_
 refine Aa rfl (A0 (Al rfl <| Ad) rfl) ?_
 refine Aa rfl (Ae (Al rfl <| Ad)) ?_
 refine Aa rfl (Ae (Al rfl <| Ad)) ?_
 refine Ah <| Ab <| Af <| Ai fun ds => Aa rfl (Ag (A7 rfl <| Al rfl <| Ad)) ?_
 refine Aa rfl (Ag (Ar rfl <| Ad)) ?_
 refine Bx rfl (Bh bd_25 A1 (.cons (Al rfl <| Ad) (.cons (Ad) .nil)) (refSpans_ok hy hz) (fun _ _ h => h)) ?_
 refine Aa rfl (Ag (Ad)) ?_
 refine At rfl rfl (Ad) (decide_eq_true rfl) ?_
 refine Aa rfl (Ag (A7 rfl <| Ay rfl <| Ad)) ?_
 refine At rfl rfl (Al rfl <| Ad) (decide_eq_true rfl) ?_
 refine Aa rfl (Ag (Ay rfl <| Al rfl <| Ad)) ?_
 refine At rfl rfl (Ar rfl <| Ad) (decide_eq_true rfl) ?_
 refine Aa rfl (Bw (Al rfl <| Ad) (Ad)) ?_
 refine Aa rfl (A5 (Ar rfl <| Al rfl <| Ad) (decide_eq_true rfl) (Ad)) ?_
 refine Aa rfl (Ag (Ad)) ?_
 refine At rfl rfl (Ad) (decide_eq_true rfl) ?_
 refine Bx rfl (Bh bd_26 A1 .nil awake_ok (fun _ _ h => h)) ?_
 refine Aa rfl (A5 (Al rfl <| Ad) (decide_eq_true rfl) (Ad)) ?_
 refine Aa rfl (Ae (Ad)) ?_
 refine Ah <| Ab <| A3 <| Ax rfl (.tmp (Ad) .nil) ?_
 rfl
end Go.Proofs.Ytccogmkhijgelaa
namespace Go.Proofs.Ytccogmkhijgelaa
open Go.ChangeShapes Go.WideShapes Go.ChangeAt Go.RowKit
set_option maxRecDepth 100000 in
theorem stemTreesLifted (os : Os) (started : os.Started) (H : Type) (enc : TypeId × Value → H) :
   ReturnsInHanded {} Try.checked os 3 .any (Rows.stemTreesSpec.pre6 enc Try.prog Try.f3 Rows.stemTreesRow.domain false) (Rows.stemTreesSpec.post enc Try.prog Try.f3 false true false false) := by
 refine returnsInHanded_of_change_sized (C := Try.checked) ownKnob0 started (by kernel_rfl) Try.func3
   (ChangeSpec.witness6 (enc := enc) (C := Try.checked) false ⟨#[], #[.agg #[.slice none 0 0, .slice none 0 0], .slice none 0 0, .agg #[.int .i64 0, .int .i64 0]], []⟩ 8 (by kernel_rfl) (by kernel_rfl) (by kernel_rfl) (by kernel_rfl)) ?_
 intro W base args ds gs before hval0 hW hcnd hsz _
 have hval : ∀ (j : Nat) t v, Try.f3.params[j]? = some t → args[j]? = some v → Value.okWide Try.prog W .any base t v := hval0
 have hW' := hW
 obtain ⟨p, q, hA0, hV, rfl, hfz, hnd⟩ := hW
 have hA : DataW.TrodAll enc Try.prog W 0 (fun _ => true) true Try.f3.params.toList args.toList ds p := hA0
 rw [Try.params3] at hA hval
 obtain ⟨v0, vs0, d0, ds0, p0, q0, hargs, rfl, rfl, h0, r0⟩ := trodAll_cons hA
 obtain ⟨v1, vs1, d1, ds1, p1, q1, rfl, rfl, rfl, h1, r1⟩ := trodAll_cons r0
 obtain ⟨v2, vs2, d2, ds2, p2, q2, rfl, rfl, rfl, h2, r2⟩ := trodAll_cons r1
 obtain ⟨rfl, rfl, rfl⟩ := trodAll_nil r2
 obtain rfl : args = #[v0, v1, v2] := by cases args; simp_all
 obtain ⟨rfl, rfl⟩ := trodVars_none hV
 have hsz' : (DataW.weightsEach Try.prog (Try.f3.params.toList ++ []) ([d0, d1, d2] ++ [])).all (· ≤ reachBytes) = true := hsz
 rw [Try.params3] at hsz'
 have k0 := h0
 have lt0 : ∀ x ∈ p0, x.block < W.heap.size := by obtain ⟨m, hm⟩ := k0; exact DataW.trod_lt m _ _ _ hm
 have k1 := h1
 have lt1 : ∀ x ∈ p1, x.block < W.heap.size := by obtain ⟨m, hm⟩ := k1; exact DataW.trod_lt m _ _ _ hm
 have k2 := h2
 have lt2 : ∀ x ∈ p2, x.block < W.heap.size := by obtain ⟨m, hm⟩ := k2; exact DataW.trod_lt m _ _ _ hm
 obtain ⟨vp, ve, ps, s, rfl, hr⟩ := arg_stem (hval 0 25 v0 rfl rfl) h0 (weights_at hsz' (j := 0) rfl rfl)
 obtain ⟨l, hl, -⟩ := arg_ints (hval 1 26 v1 rfl rfl) h1 (weights_at hsz' (j := 1) rfl rfl)
 obtain ⟨x0, x1, rfl⟩ := arg_pair (hval 2 27 v2 rfl rfl) h2 (weights_at hsz' (j := 2) rfl rfl)
 clear hA0 hval0
 refine (Ok.law (treesLaw_ok hr hl x0 x1)).mono fun e W' ⟨he, bel⟩ => ?_
 subst he
 exact ⟨_, rfl, _, _, _, [], _, [], hW', trodAll_mk1 (shut_bool Try.underlying4 _), (trodAll_cons_mk (Below.trod laidOut (by kernel_rfl) (of_decide_eq_true (by kernel_rfl)) k0 bel lt0) (trodAll_cons_mk (Below.trod laidOut (by kernel_rfl) (of_decide_eq_true (by kernel_rfl)) k1 bel lt1) (trodAll_cons_mk (Below.trod laidOut (by kernel_rfl) (of_decide_eq_true (by kernel_rfl)) k2 bel lt2) trodAll_mk0))), rfl, bel.frame _, fun h => by cases h⟩
theorem stemTrees : Rows.StemTreesSaid :=
 OpenClaim.holds_of_wide 3 Try.f3 rfl rfl rfl rfl rfl rfl rfl ⟨rfl, rfl, rfl, rfl, rfl⟩ rfl rfl rfl rfl rfl (by kernel_rfl) Try.func3 (by kernel_rfl)
   (of_decide_eq_true (by kernel_rfl)) (by unfold Func.isWrapper; first | (rw [if_pos (by decide +kernel)]; kernel_rfl) | (rw [if_neg (by decide +kernel)]; exact ⟨rfl, rfl⟩))
   (fun os started H enc _ => stemTreesLifted os started H enc)
#print axioms stemTrees
end Go.Proofs.Ytccogmkhijgelaa
