/-
  SaleRings returns true of any sale and catalogue, and leaves what it is handed as it was. No conditions.
-/
import Derived.Test.YtaikojfonleccaaPaf
namespace Go.Proofs.Ytaikojfonleccaa
open Go.RowKit
theorem bd_17 : Body Try.prog 17 := Bq (by kernel_rfl)
theorem bd_19 : Body Try.prog 19 := Bq (by kernel_rfl)
theorem bd_21 : Body Try.prog 21 := Bq (by kernel_rfl)
theorem bd_23 : Body Try.prog 23 := Bq (by kernel_rfl)
theorem bd_26 : Body Try.prog 26 := Bq (by kernel_rfl)
theorem bd_30 : Body Try.prog 30 := Bq (by kernel_rfl)
theorem bd_31 : Body Try.prog 31 := Bq (by kernel_rfl)
theorem bd_33 : Body Try.prog 33 := Bq (by kernel_rfl)
theorem bd_35 : Body Try.prog 35 := Bq (by kernel_rfl)
theorem bd_36 : Body Try.prog 36 := Bq (by kernel_rfl)
theorem bd_37 : Body Try.prog 37 := Bq (by kernel_rfl)
theorem bt_77 : BuildT Try.prog 77 [.int .i64 0, .int .i64 0] [(0, 1), (1, 1)] := E2 zr_77 (by kernel_rfl) (by decide)
theorem n13_box2 {F : Heap} {b T : Nat} (h : F b = some (bx T [.int .i64 1, .int .i64 3])) : Nats F (.slice (some ⟨b, 0, none⟩) 2 2) [1, 3] :=
 D8 (xs := ([1, 3] : List Nat)) h rfl rfl (fun _ => rfl) (by decide)
theorem n013_box3 {F : Heap} {b T : Nat} (h : F b = some (bx T [.int .i64 0, .int .i64 1, .int .i64 3])) : Nats F (.slice (some ⟨b, 0, none⟩) 3 3) [0, 1, 3] :=
 D8 (xs := ([0, 1, 3] : List Nat)) h rfl rfl (fun _ => rfl) (by decide)
theorem n123_box3 {F : Heap} {b T : Nat} (h : F b = some (bx T [.int .i64 1, .int .i64 2, .int .i64 3])) : Nats F (.slice (some ⟨b, 0, none⟩) 3 3) [1, 2, 3] :=
 D8 (xs := ([1, 2, 3] : List Nat)) h rfl rfl (fun _ => rfl) (by decide)
theorem n02_box2 {F : Heap} {b T : Nat} (h : F b = some (bx T [.int .i64 0, .int .i64 2])) : Nats F (.slice (some ⟨b, 0, none⟩) 2 2) [0, 2] :=
 D8 (xs := ([0, 2] : List Nat)) h rfl rfl (fun _ => rfl) (by decide)
theorem n0123_box4 {F : Heap} {b T : Nat} (h : F b = some (bx T [.int .i64 0, .int .i64 1, .int .i64 2, .int .i64 3])) : Nats F (.slice (some ⟨b, 0, none⟩) 4 4) [0, 1, 2, 3] :=
 D8 (xs := ([0, 1, 2, 3] : List Nat)) h rfl rfl (fun _ => rfl) (by decide)
theorem entA_box2 {F : Heap} {b T : Nat} (h : F b = some (bx T [.int .i64 0, .bool true, .int .i64 60, .int .i64 60, .int .i64 1, .bool true, .int .i64 48, .int .i64 48])) : Sl F (.slice (some ⟨b, 0, none⟩) 2 2) 4 Ent.enc [ent1 0 60 60, ent1 1 48 48] :=
 D8 (xs := [ent1 0 60 60, ent1 1 48 48]) h rfl rfl (fun _ => rfl) (by decide)
theorem entB_box1 {F : Heap} {b T : Nat} (h : F b = some (bx T [.int .i64 0, .bool true, .int .i64 20, .int .i64 50])) : Sl F (.slice (some ⟨b, 0, none⟩) 1 1) 4 Ent.enc [ent1 0 20 50] :=
 D8 (xs := [ent1 0 20 50]) h rfl rfl (fun _ => rfl) (by decide)
theorem entC_box3 {F : Heap} {b T : Nat} (h : F b = some (bx T [.int .i64 0, .bool true, .int .i64 45, .int .i64 45, .int .i64 1, .bool true, .int .i64 48, .int .i64 48, .int .i64 2, .bool true, .int .i64 30, .int .i64 30])) : Sl F (.slice (some ⟨b, 0, none⟩) 3 3) 4 Ent.enc [ent1 0 45 45, ent1 1 48 48, ent1 2 30 30] :=
 D8 (xs := [ent1 0 45 45, ent1 1 48 48, ent1 2 30 30]) h rfl rfl (fun _ => rfl) (by decide)
theorem entD_box1 {F : Heap} {b T : Nat} (h : F b = some (bx T [.int .i64 2, .bool true, .int .i64 30, .int .i64 30])) : Sl F (.slice (some ⟨b, 0, none⟩) 1 1) 4 Ent.enc [ent1 2 30 30] :=
 D8 (xs := [ent1 2 30 30]) h rfl rfl (fun _ => rfl) (by decide)
theorem resA_box3 {F : Heap} {b T : Nat} (h : F b = some (bx T [.int .i64 (0), .int .i64 60, .int .i64 (1), .int .i64 73, .int .i64 (-1), .int .i64 0])) : Sl F (.slice (some ⟨b, 0, none⟩) 3 3) 2 Res.enc [⟨0, 60⟩, ⟨1, 73⟩, ⟨-1, 0⟩] :=
 D8 (xs := ([⟨0, 60⟩, ⟨1, 73⟩, ⟨-1, 0⟩] : List Res)) h rfl rfl (fun _ => rfl) (by decide)
theorem resB_box3 {F : Heap} {b T : Nat} (h : F b = some (bx T [.int .i64 (0), .int .i64 20, .int .i64 (1), .int .i64 73, .int .i64 (-1), .int .i64 0])) : Sl F (.slice (some ⟨b, 0, none⟩) 3 3) 2 Res.enc [⟨0, 20⟩, ⟨1, 73⟩, ⟨-1, 0⟩] :=
 D8 (xs := ([⟨0, 20⟩, ⟨1, 73⟩, ⟨-1, 0⟩] : List Res)) h rfl rfl (fun _ => rfl) (by decide)
theorem backA_box1 {F : Heap} {b T : Nat} (h : F b = some (bx T [.int .i64 0, .int .i64 14])) : Sl F (.slice (some ⟨b, 0, none⟩) 1 1) 2 Back.enc (back1 14) :=
 D8 (xs := back1 14) h rfl rfl (fun _ => rfl) (by decide)
theorem backB_box1 {F : Heap} {b T : Nat} (h : F b = some (bx T [.int .i64 0, .int .i64 15])) : Sl F (.slice (some ⟨b, 0, none⟩) 1 1) 2 Back.enc (back1 15) :=
 D8 (xs := back1 15) h rfl rfl (fun _ => rfl) (by decide)
theorem ints_box3 {F : Heap} {b T : Nat} {x y z : Int} (h : F b = some (bx T [.int .i64 x, .int .i64 y, .int .i64 z])) : Ints F (.slice (some ⟨b, 0, none⟩) 3 3) [x, y, z] :=
 D8 (xs := [x, y, z]) h rfl rfl (fun _ => rfl) (by decide)
theorem ints_box4 {F : Heap} {b T : Nat} {x y z w : Int} (h : F b = some (bx T [.int .i64 x, .int .i64 y, .int .i64 z, .int .i64 w])) : Ints F (.slice (some ⟨b, 0, none⟩) 4 4) [x, y, z, w] :=
 D8 (xs := [x, y, z, w]) h rfl rfl (fun _ => rfl) (by decide)
def valE (v : Value) : List Value := [v]
theorem vals_box3 {F : Heap} {b T : Nat} {x y z : Value} (h : F b = some (bx T [x, y, z])) : Sl F (.slice (some ⟨b, 0, none⟩) 3 3) 1 valE [x, y, z] :=
 D8 (xs := [x, y, z]) h rfl rfl (fun _ => rfl) (by decide)
theorem Sl.val {F : Heap} {v : Value} {ps : List (Value × List Nat)} (h : Sl F v 1 valE (ps.map (·.1))) : Sl F v 1 slE ps := by
 refine ⟨by simpa using h.plain, fun i hi j u hu => h.cells i (by simpa using hi) j u ?_⟩
 simpa [valE, slE] using hu
theorem lsts3 {F : Heap} {v x y z : Value} {a b c : List Nat} (h : Sl F v 1 valE [x, y, z]) (h1 : Nats F x a) (h2 : Nats F y b) (h3 : Nats F z c) : Lsts F v [a, b, c] :=
 ⟨[(x, a), (y, b), (z, c)], Sl.val h, by simp [h1, h2, h3], rfl⟩
def tupA (v : Value) (i : Nat) : Value := match v with
 | .tuple a => a.toList[i]?.getD v
 | _ => v
theorem LstsR.ans {F : Heap} {u : Value} {p q : List (List Nat) × Int} (h : LstsR F u p) (e : p = q) : u = .tuple #[tupA u 0, .int .i64 q.2] ∧ Lsts F (tupA u 0) q.1 := by
 subst e; obtain ⟨v, rfl, h⟩ := h; exact ⟨rfl, h⟩
theorem NatsR.ans {F : Heap} {u : Value} {p q : List Nat × Int} (h : NatsR F u p) (e : p = q) : u = .tuple #[tupA u 0, .int .i64 q.2] ∧ Nats F (tupA u 0) q.1 := by
 subst e; obtain ⟨v, rfl, h⟩ := h; exact ⟨rfl, h⟩
theorem MemR.ans {F : Heap} {u : Value} {p q : Mem} (h : MemR F u p) (e : p = q) : u = .tuple #[tupA u 0, tupA u 1, .int .i64 q.2.2] ∧ Nats F (tupA u 0) q.1 ∧ Nats F (tupA u 1) q.2.1 := by
 subst e; obtain ⟨v, w, rfl, h1, h2⟩ := h; exact ⟨rfl, h1, h2⟩
set_option maxRecDepth 100000 in
theorem awake_ok {F : Heap} : Ok Try.prog 22 [].toArray F fun u _ => u = .bool true := by
 refine Ok.intro Try.func22 rfl Try.ntmps22 rfl fun w0 => ?_
 refine Ag <| Ai fun ds => Aa rfl (Ae Ac) ?_
 refine Ah <| Ad <| Ag <| Ai fun ds => Bm rfl (Ck bd_35 A0 .nil sale_ok fun v1 F2 hr3 hF4 => ?_)
 obtain ⟨vs, vb, vl, vn, vd, rfl, hr⟩ := hr3
 refine Bm rfl (B5 zr_27 rfl fun b5 hb5 nb5 => ?_)
 refine Cm (B4 sz_27 (Ab) (Al rfl <| Ab) (i := 0) rfl rfl rfl rfl hr.ones (.here) ?_)
 refine Ah <| Ad <| Ag <| Ai fun ds => Aa rfl (Bg B8 (Ab) rfl rfl (Bl 0 rfl)) ?_
 refine Bw rfl (Bc bd_17 A0 (.cons (Ab) (.cons Ac .nil)) (next_ok hr 50) (fun _ _ h => h.trans (show _ = Value.tuple #[.int .i64 60, .int .i64 0] by rw [ev_n1]))) ?_
 refine Aa rfl (Af (Ab)) ?_
 refine Aa rfl (A2 (Ab) rfl) ?_
 refine Aa rfl (A2 (Al rfl <| Ab) rfl) ?_
 refine Aa rfl (Ae (Al rfl <| Ab)) ?_
 refine Aa rfl (Ae (Al rfl <| Ab)) ?_
 refine Ah <| Ad <| Ag <| Ai fun ds => Aa rfl (Bg B8 (Ay rfl <| Ap rfl <| Al rfl <| Ab) rfl rfl (Bl 0 rfl)) ?_
 refine Bm rfl (Ck bd_19 A0 (.cons (Ab) (.cons Ac .nil)) ((sellTop_ok hr Sl.nil).mono fun u F2 _ h => (by rw [ev_s1] at h; exact h : ∃ ws0, u = .tuple #[ws0, .int .i64 0] ∧ Sl F2 ws0 2 Res.enc [⟨0, 60⟩, ⟨1, 73⟩, ⟨-1, 0⟩])) fun v6 F7 hr8 hF9 => ?_)
 replace hr := hr.mono hF9
 obtain ⟨hq1_, rfl, hq1⟩ := hr8
 refine Aa rfl (Af (Ab)) ?_
 refine Aa rfl (A2 (Ab) rfl) ?_
 refine Aa rfl (A2 (Al rfl <| Ab) rfl) ?_
 refine Aa rfl (Ae (Al rfl <| Ab)) ?_
 refine Aa rfl (Ae (Al rfl <| Ab)) ?_
 refine Ah <| Ad <| Ag <| Ai fun ds => Aa rfl (Bg B8 (A9 rfl <| Ay rfl <| Ap rfl <| Ab) rfl rfl (Bl 0 rfl)) ?_
 refine Bm rfl (Bz Bs C6 rfl (.cons Ac (.cons Ac (.cons Ac .nil))) rfl rfl (by decide) (by simp [Value.oneCell']) fun b10 hb10 nb10 => ?_)
 refine Bu (i := 0) rfl hb10 .here fun F11 hF12 hz13 => ?_
 replace hr := hr.mono hF12
 replace hq1 := hq1.mono hF12
 have hsl14 := ints_box3 hz13
 refine Bm rfl (Ck bd_19 A0 (.cons (Al rfl <| Ab) (.cons (Ab) .nil)) ((sellTop_ok hr hsl14).mono fun u F2 _ h => (by rw [ev_s2] at h; exact h : ∃ ws0, u = .tuple #[ws0, .int .i64 0] ∧ Sl F2 ws0 2 Res.enc [⟨0, 20⟩, ⟨1, 73⟩, ⟨-1, 0⟩])) fun v15 F16 hr17 hF18 => ?_)
 replace hr := hr.mono hF18
 replace hq1 := hq1.mono hF18
 obtain ⟨hq2_, rfl, hq2⟩ := hr17
 refine Aa rfl (Af (Ab)) ?_
 refine Aa rfl (A2 (Ab) rfl) ?_
 refine Aa rfl (A2 (Al rfl <| Ab) rfl) ?_
 refine Aa rfl (Ae (Al rfl <| Ab)) ?_
 refine Aa rfl (Ae (Al rfl <| Ab)) ?_
 refine Ah <| Ad <| Ag <| Ai fun ds => Aa rfl (Bg B8 (Ba rfl <| Ay rfl <| Ap rfl <| Ab) rfl rfl (Bl 0 rfl)) ?_
 refine Bm rfl (Bz Bs C6 rfl (.cons Ac (.cons Ac .nil)) rfl rfl (by decide) (by simp [Value.oneCell']) fun b19 hb19 nb19 => ?_)
 refine Bu (i := 0) rfl hb19 .here fun F20 hF21 hz22 => ?_
 replace hr := hr.mono hF21
 replace hq1 := hq1.mono hF21
 replace hq2 := hq2.mono hF21
 have hsl23 := D1 hz22
 refine Aa rfl (C9 bt_77 (.cons Ac rfl (.cons Ac rfl .nil)) (.cons rfl rfl (Nat.le_of_ble_eq_true rfl) (.cons (.here) .nil) (.cons rfl rfl (Nat.le_of_ble_eq_true rfl) (.cons (.next <| .here) .nil) .nil))) ?_
 refine Bm rfl (Dr (offs := [(0, 2)]) (zl := [.int .i64 0, .int .i64 0]) sl_40 zr_77 rfl (.cons (Ab) rfl .nil) (by intro i p h; rcases i with _ | i <;> simp at h <;> subst h <;> rfl) (.cons rfl rfl (Nat.le_of_ble_eq_true rfl) (.cons (.here) (.cons (.next <| .here) .nil)) .nil) (by decide) (by decide) fun b24 hb24 nb24 => ?_)
 refine Bu (i := 0) rfl hb24 .here fun F25 hF26 hz27 => ?_
 replace hr := hr.mono hF26
 replace hq1 := hq1.mono hF26
 replace hq2 := hq2.mono hF26
 replace hsl23 := hsl23.mono hF26
 have hsl28 := backA_box1 hz27
 refine Bm rfl (Ck bd_23 A0 (.cons (Ap rfl <| Al rfl <| Ab) (.cons (Ap rfl <| Ab) (.cons (Ab) .nil))) ((account_ok hr hsl23 hsl28).mono fun u F2 _ h => (by rw [ev_a1] at h; exact h : ∃ ws0 ws1, u = .tuple #[ws0, ws1, .int .i64 12, .int .i64 0] ∧ Ints F2 ws0 [0, 53, 0, 0] ∧ Ints F2 ws1 [41])) fun v29 F30 hr31 hF32 => ?_)
 replace hr := hr.mono hF32
 replace hq1 := hq1.mono hF32
 replace hq2 := hq2.mono hF32
 obtain ⟨hq3_, hq4_, rfl, hq3, hq4⟩ := hr31
 refine Aa rfl (Af (Ab)) ?_
 refine Aa rfl (A2 (Ab) rfl) ?_
 refine Aa rfl (A2 (Al rfl <| Ab) rfl) ?_
 refine Aa rfl (A2 (Ap rfl <| Ab) rfl) ?_
 refine Aa rfl (A2 (Ap rfl <| Al rfl <| Ab) rfl) ?_
 refine Aa rfl (Ae (Ap rfl <| Al rfl <| Ab)) ?_
 refine Aa rfl (Ae (Ap rfl <| Al rfl <| Ab)) ?_
 refine Aa rfl (Ae (Ap rfl <| Al rfl <| Ab)) ?_
 refine Aa rfl (Ae (Ap rfl <| Al rfl <| Ab)) ?_
 refine Ah <| Ad <| Ag <| Ai fun ds => Aa rfl (Bg B8 (Bo rfl <| Ay rfl <| Ab) rfl rfl (Bl 0 rfl)) ?_
 refine Bm rfl (Bz Bs C6 rfl (.cons Ac (.cons Ac .nil)) rfl rfl (by decide) (by simp [Value.oneCell']) fun b33 hb33 nb33 => ?_)
 refine Bu (i := 0) rfl hb33 .here fun F34 hF35 hz36 => ?_
 replace hr := hr.mono hF35
 replace hq1 := hq1.mono hF35
 replace hq2 := hq2.mono hF35
 replace hq3 := hq3.mono hF35
 replace hq4 := hq4.mono hF35
 have hsl37 := D1 hz36
 refine Aa rfl (C9 bt_77 (.cons Ac rfl (.cons Ac rfl .nil)) (.cons rfl rfl (Nat.le_of_ble_eq_true rfl) (.cons (.here) .nil) (.cons rfl rfl (Nat.le_of_ble_eq_true rfl) (.cons (.next <| .here) .nil) .nil))) ?_
 refine Bm rfl (Dr (offs := [(0, 2)]) (zl := [.int .i64 0, .int .i64 0]) sl_40 zr_77 rfl (.cons (Ab) rfl .nil) (by intro i p h; rcases i with _ | i <;> simp at h <;> subst h <;> rfl) (.cons rfl rfl (Nat.le_of_ble_eq_true rfl) (.cons (.here) (.cons (.next <| .here) .nil)) .nil) (by decide) (by decide) fun b38 hb38 nb38 => ?_)
 refine Bu (i := 0) rfl hb38 .here fun F39 hF40 hz41 => ?_
 replace hr := hr.mono hF40
 replace hq1 := hq1.mono hF40
 replace hq2 := hq2.mono hF40
 replace hq3 := hq3.mono hF40
 replace hq4 := hq4.mono hF40
 replace hsl37 := hsl37.mono hF40
 have hsl42 := backB_box1 hz41
 refine Bm rfl (Ck bd_23 A0 (.cons (Ap rfl <| Al rfl <| Ab) (.cons (Ap rfl <| Ab) (.cons (Ab) .nil))) ((account_ok hr hsl37 hsl42).mono fun u F2 _ h => (by rw [ev_a2] at h; exact h : ∃ ws0 ws1, u = .tuple #[ws0, ws1, .int .i64 0, .int .i64 7] ∧ Ints F2 ws0 [] ∧ Ints F2 ws1 [])) fun v43 F44 hr45 hF46 => ?_)
 replace hr := hr.mono hF46
 replace hq1 := hq1.mono hF46
 replace hq2 := hq2.mono hF46
 replace hq3 := hq3.mono hF46
 replace hq4 := hq4.mono hF46
 obtain ⟨hq5_, hq6_, rfl, hq5, hq6⟩ := hr45
 refine Aa rfl (Af (Ab)) ?_
 refine Aa rfl (A2 (Ab) rfl) ?_
 refine Aa rfl (A2 (Al rfl <| Ab) rfl) ?_
 refine Aa rfl (A2 (Ap rfl <| Ab) rfl) ?_
 refine Aa rfl (A2 (Ap rfl <| Al rfl <| Ab) rfl) ?_
 refine Aa rfl (Ae (Ap rfl <| Al rfl <| Ab)) ?_
 refine Aa rfl (Ae (Ap rfl <| Al rfl <| Ab)) ?_
 refine Aa rfl (Ae (Ap rfl <| Al rfl <| Ab)) ?_
 refine Aa rfl (Ae (Ap rfl <| Al rfl <| Ab)) ?_
 refine Ah <| Ad <| Ag <| Ai fun ds => Aa rfl (Bg B8 (Bo rfl <| Ba rfl <| Ap rfl <| Ab) rfl rfl (Bl 0 rfl)) ?_
 refine Bm rfl (Bz Bs C6 rfl (.cons Ac (.cons Ac (.cons Ac .nil))) rfl rfl (by decide) (by simp [Value.oneCell']) fun b47 hb47 nb47 => ?_)
 refine Bu (i := 0) rfl hb47 .here fun F48 hF49 hz50 => ?_
 replace hr := hr.mono hF49
 replace hq1 := hq1.mono hF49
 replace hq2 := hq2.mono hF49
 replace hq3 := hq3.mono hF49
 replace hq4 := hq4.mono hF49
 have hsl51 := ints_box3 hz50
 refine Bm rfl (Ck bd_26 A0 (.cons (Al rfl <| Ab) (.cons (Ab) .nil)) ((share_ok hr hsl51).mono fun u F2 _ h => (by rw [ev_h1] at h; exact h : ∃ ws0, u = .tuple #[ws0, .int .i64 0] ∧ Ints F2 ws0 [14, 13, 13])) fun v52 F53 hr54 hF55 => ?_)
 replace hr := hr.mono hF55
 replace hq1 := hq1.mono hF55
 replace hq2 := hq2.mono hF55
 replace hq3 := hq3.mono hF55
 replace hq4 := hq4.mono hF55
 obtain ⟨hq7_, rfl, hq7⟩ := hr54
 refine Aa rfl (Af (Ab)) ?_
 refine Aa rfl (A2 (Ab) rfl) ?_
 refine Aa rfl (A2 (Al rfl <| Ab) rfl) ?_
 refine Aa rfl (Ae (Al rfl <| Ab)) ?_
 refine Aa rfl (Ae (Al rfl <| Ab)) ?_
 refine Ah <| Ad <| Ag <| WC_drawF 10 (.inl rfl) (fun _ _ h => h) (by kernel_rfl) (by kernel_rfl) false rfl ([fun F v => v = .agg #[vs, .int .i64 100, .int .i64 150, .int .i64 14, vb, vl, vn, vd], fun F v => v = .agg #[.int .i64 0, .bool true, .int .i64 60, .int .i64 60], fun F v => v = .agg #[.int .i64 1, .bool true, .int .i64 48, .int .i64 48], fun F v => Sl F v 4 Ent.enc [ent1 0 60 60, ent1 1 48 48], fun F v => v = .tuple #[tupA v 0, .int .i64 0] ∧ Lsts F (tupA v 0) [[1, 3], [0, 1, 3], [1, 2, 3]], fun F v => v = .tuple #[tupA v 0, .int .i64 0] ∧ Lsts F (tupA v 0) [[1, 3], [0, 1, 3], [1, 2, 3]], fun F v => Lsts F v [[1, 3], [0, 1, 3], [1, 2, 3]], fun F v => v = .int .i64 0, fun F v => Lsts F v [[1, 3], [0, 1, 3], [1, 2, 3]], fun F v => v = .int .i64 0]) (⟨fun F F2 v hF h => h, fun F F2 v hF h => h, fun F F2 v hF h => h, fun F F2 v hF h => h.mono hF, fun F F2 v hF h => ⟨h.1, h.2.mono hF⟩, fun F F2 v hF h => ⟨h.1, h.2.mono hF⟩, fun F F2 v hF h => h.mono hF, fun F F2 v hF h => h, fun F F2 v hF h => h.mono hF, fun F F2 v hF h => h, trivial⟩) (fun ds => ?_) (fun ds => ?_)
 ·
  refine ⟨⟨⟨⟨⟨⟨⟨⟨⟨⟨trivial, ?_⟩, ?_⟩, ?_⟩, ?_⟩, ?_⟩, ?_⟩, ?_⟩, ?_⟩, ?_⟩, ?_⟩
  ·
   intro e1 F1 hF1 he hj
   refine ⟨_, _, _, _, _, rfl, ?_⟩
   refine Br (Bg B8 (B1 (Ce he (by kernel_rfl)) <| Bo rfl <| Ba rfl <| A9 rfl <| Ap rfl <| Ab) rfl rfl (Bl 0 rfl)).quiet ⟨_, rfl, Heap.le_refl _, rfl⟩
  ·
   intro e1 F1 hF1 he hj
   refine ⟨_, _, _, _, _, rfl, ?_⟩
   refine Br (Bc bd_36 A0 (.cons Ac (.cons Ac (.cons Ac .nil))) (entry_ok _ _ _) (fun _ _ h => h)) ⟨_, rfl, Heap.le_refl _, rfl⟩
  ·
   intro e1 F1 hF1 he hj
   have g72 : (e1 72) = .agg #[.int .i64 0, .bool true, .int .i64 60, .int .i64 60] := hj 1 (by kernel_rfl) (by decide)
   refine ⟨_, _, _, _, _, rfl, ?_⟩
   refine Br (Bc bd_36 A0 (.cons Ac (.cons Ac (.cons Ac .nil))) (entry_ok _ _ _) (fun _ _ h => h)) ⟨_, rfl, Heap.le_refl _, rfl⟩
  ·
   intro e1 F1 hF1 he hj
   have g72 : (e1 72) = .agg #[.int .i64 0, .bool true, .int .i64 60, .int .i64 60] := hj 1 (by kernel_rfl) (by decide)
   have g73 : (e1 73) = .agg #[.int .i64 1, .bool true, .int .i64 48, .int .i64 48] := hj 2 (by kernel_rfl) (by decide)
   refine ⟨_, _, _, _, _, rfl, ?_⟩
   refine OpX_freeze (Dr (offs := [(0, 4), (4, 4)]) (zl := [.int .i64 0, .bool false, .int .i64 0, .int .i64 0, .int .i64 0, .bool false, .int .i64 0, .int .i64 0]) Dn zr_60 rfl (.cons (C1 g72) rfl (.cons (C1 g73) rfl .nil)) (by intro i p h; rcases i with _ | _ | i <;> simp at h <;> subst h <;> rfl) (.cons rfl rfl (Nat.le_of_ble_eq_true rfl) (.cons (.here) (.cons (.next <| .here) (.cons (.next <| .next <| .here) (.cons (.next <| .next <| .next <| .here) .nil)))) (.cons rfl rfl (Nat.le_of_ble_eq_true rfl) (.cons (.next <| .next <| .next <| .next <| .here) (.cons (.next <| .next <| .next <| .next <| .next <| .here) (.cons (.next <| .next <| .next <| .next <| .next <| .next <| .here) (.cons (.next <| .next <| .next <| .next <| .next <| .next <| .next <| .here) .nil)))) .nil)) (by decide) (by decide) fun b hb nb => ⟨b, _, hb, rfl, fun F2 hF2 hz => ⟨F2, rfl, hF2, (entA_box2 hz)⟩⟩)
  ·
   intro e1 F1 hF1 he hj
   replace hr := hr.mono hF1
   have g71 : (e1 71) = .agg #[vs, .int .i64 100, .int .i64 150, .int .i64 14, vb, vl, vn, vd] := hj 0 (by kernel_rfl) (by decide)
   have g73 : (e1 73) = .agg #[.int .i64 1, .bool true, .int .i64 48, .int .i64 48] := hj 2 (by kernel_rfl) (by decide)
   have g74 : Sl F1 (e1 74) 4 Ent.enc [ent1 0 60 60, ent1 1 48 48] := hj 3 (by kernel_rfl) (by decide)
   refine ⟨_, _, _, _, _, rfl, ?_⟩
   refine Ck bd_28 A0 (.cons (C1 g71) (.cons (C1 rfl) .nil)) (Fi hr g74) fun v2 F2 hr hF2 => ⟨F2, rfl, hF2, (hr.ans ev_r1)⟩
  ·
   intro e1 F1 hF1 he hj
   have g75 : (e1 75) = .tuple #[tupA (e1 75) 0, .int .i64 0] ∧ Lsts F1 (tupA (e1 75) 0) [[1, 3], [0, 1, 3], [1, 2, 3]] := hj 4 (by kernel_rfl) (by decide)
   refine ⟨_, _, _, _, _, rfl, ?_⟩
   refine Br (Af (C1 g75.1)).quiet ⟨_, rfl, Heap.le_refl _, ⟨rfl, g75.2⟩⟩
  ·
   intro e1 F1 hF1 he hj
   have g70 : (e1 70) = .tuple #[tupA (e1 70) 0, .int .i64 0] ∧ Lsts F1 (tupA (e1 70) 0) [[1, 3], [0, 1, 3], [1, 2, 3]] := hj 5 (by kernel_rfl) (by decide)
   refine ⟨_, _, _, _, _, rfl, ?_⟩
   refine Br (A2 (C1 g70.1) rfl).quiet ⟨_, rfl, Heap.le_refl _, g70.2⟩
  ·
   intro e1 F1 hF1 he hj
   have g70 : (e1 70) = .tuple #[tupA (e1 70) 0, .int .i64 0] ∧ Lsts F1 (tupA (e1 70) 0) [[1, 3], [0, 1, 3], [1, 2, 3]] := hj 5 (by kernel_rfl) (by decide)
   refine ⟨_, _, _, _, _, rfl, ?_⟩
   refine Br (A2 (C1 g70.1) rfl).quiet ⟨_, rfl, Heap.le_refl _, rfl⟩
  ·
   intro e1 F1 hF1 he hj
   have g71 : (e1 71) = .agg #[vs, .int .i64 100, .int .i64 150, .int .i64 14, vb, vl, vn, vd] := hj 0 (by kernel_rfl) (by decide)
   have g72 : (e1 72) = .agg #[.int .i64 0, .bool true, .int .i64 60, .int .i64 60] := hj 1 (by kernel_rfl) (by decide)
   have g73 : (e1 73) = .agg #[.int .i64 1, .bool true, .int .i64 48, .int .i64 48] := hj 2 (by kernel_rfl) (by decide)
   have g74 : Sl F1 (e1 74) 4 Ent.enc [ent1 0 60 60, ent1 1 48 48] := hj 3 (by kernel_rfl) (by decide)
   have g75 : (e1 75) = .tuple #[tupA (e1 75) 0, .int .i64 0] ∧ Lsts F1 (tupA (e1 75) 0) [[1, 3], [0, 1, 3], [1, 2, 3]] := hj 4 (by kernel_rfl) (by decide)
   have g70 : (e1 70) = .tuple #[tupA (e1 70) 0, .int .i64 0] ∧ Lsts F1 (tupA (e1 70) 0) [[1, 3], [0, 1, 3], [1, 2, 3]] := hj 5 (by kernel_rfl) (by decide)
   have g76 : Lsts F1 (e1 76) [[1, 3], [0, 1, 3], [1, 2, 3]] := hj 6 (by kernel_rfl) (by decide)
   refine ⟨_, _, _, _, _, rfl, ?_⟩
   refine Br (Ae (C1 rfl)).quiet ⟨_, rfl, Heap.le_refl _, g76⟩
  ·
   intro e1 F1 hF1 he hj
   have g71 : (e1 71) = .agg #[vs, .int .i64 100, .int .i64 150, .int .i64 14, vb, vl, vn, vd] := hj 0 (by kernel_rfl) (by decide)
   have g72 : (e1 72) = .agg #[.int .i64 0, .bool true, .int .i64 60, .int .i64 60] := hj 1 (by kernel_rfl) (by decide)
   have g73 : (e1 73) = .agg #[.int .i64 1, .bool true, .int .i64 48, .int .i64 48] := hj 2 (by kernel_rfl) (by decide)
   have g74 : Sl F1 (e1 74) 4 Ent.enc [ent1 0 60 60, ent1 1 48 48] := hj 3 (by kernel_rfl) (by decide)
   have g75 : (e1 75) = .tuple #[tupA (e1 75) 0, .int .i64 0] ∧ Lsts F1 (tupA (e1 75) 0) [[1, 3], [0, 1, 3], [1, 2, 3]] := hj 4 (by kernel_rfl) (by decide)
   have g70 : (e1 70) = .tuple #[tupA (e1 70) 0, .int .i64 0] ∧ Lsts F1 (tupA (e1 70) 0) [[1, 3], [0, 1, 3], [1, 2, 3]] := hj 5 (by kernel_rfl) (by decide)
   have g76 : Lsts F1 (e1 76) [[1, 3], [0, 1, 3], [1, 2, 3]] := hj 6 (by kernel_rfl) (by decide)
   have g77 : (e1 77) = .int .i64 0 := hj 7 (by kernel_rfl) (by decide)
   have g18 : Lsts F1 (e1 18) [[1, 3], [0, 1, 3], [1, 2, 3]] := hj 8 (by kernel_rfl) (by decide)
   refine ⟨_, _, _, _, _, rfl, ?_⟩
   refine Br (Ae (C1 g77)).quiet ⟨_, rfl, Heap.le_refl _, rfl⟩
 intro e59 F56 hF57 he58 hj
 replace hr := hr.mono hF57
 replace hq1 := hq1.mono hF57
 replace hq2 := hq2.mono hF57
 replace hq3 := hq3.mono hF57
 replace hq4 := hq4.mono hF57
 replace hq7 := hq7.mono hF57
 have g71 : (e59 71) = .agg #[vs, .int .i64 100, .int .i64 150, .int .i64 14, vb, vl, vn, vd] := hj 0 (by decide)
 have g72 : (e59 72) = .agg #[.int .i64 0, .bool true, .int .i64 60, .int .i64 60] := hj 1 (by decide)
 have g73 : (e59 73) = .agg #[.int .i64 1, .bool true, .int .i64 48, .int .i64 48] := hj 2 (by decide)
 have g74 : Sl F56 (e59 74) 4 Ent.enc [ent1 0 60 60, ent1 1 48 48] := hj 3 (by decide)
 have g75 : (e59 75) = .tuple #[tupA (e59 75) 0, .int .i64 0] ∧ Lsts F56 (tupA (e59 75) 0) [[1, 3], [0, 1, 3], [1, 2, 3]] := hj 4 (by decide)
 have g70 : (e59 70) = .tuple #[tupA (e59 70) 0, .int .i64 0] ∧ Lsts F56 (tupA (e59 70) 0) [[1, 3], [0, 1, 3], [1, 2, 3]] := hj 5 (by decide)
 have g76 : Lsts F56 (e59 76) [[1, 3], [0, 1, 3], [1, 2, 3]] := hj 6 (by decide)
 have g77 : (e59 77) = .int .i64 0 := hj 7 (by decide)
 have g18 : Lsts F56 (e59 18) [[1, 3], [0, 1, 3], [1, 2, 3]] := hj 8 (by decide)
 have g19 : (e59 19) = .int .i64 0 := hj 9 (by decide)
 refine Ad <| Ag <| WC_drawF 11 (.inl rfl) (fun _ _ h => h) (by kernel_rfl) (by kernel_rfl) false rfl ([fun F v => v = .agg #[vs, .int .i64 100, .int .i64 150, .int .i64 14, vb, vl, vn, vd], fun F v => v = .agg #[.int .i64 0, .bool true, .int .i64 20, .int .i64 50], fun F v => Sl F v 4 Ent.enc [ent1 0 20 50], fun F v => v = .tuple #[tupA v 0, tupA v 1, .int .i64 0] ∧ Nats F (tupA v 0) [0, 2] ∧ Nats F (tupA v 1) [0, 1, 2, 3], fun F v => v = .tuple #[tupA v 0, tupA v 1, .int .i64 0] ∧ Nats F (tupA v 0) [0, 2] ∧ Nats F (tupA v 1) [0, 1, 2, 3], fun F v => Nats F v [0, 2], fun F v => Nats F v [0, 1, 2, 3], fun F v => v = .int .i64 0, fun F v => Nats F v [0, 2], fun F v => Nats F v [0, 1, 2, 3], fun F v => v = .int .i64 0]) (⟨fun F F2 v hF h => h, fun F F2 v hF h => h, fun F F2 v hF h => h.mono hF, fun F F2 v hF h => ⟨h.1, h.2.1.mono hF, h.2.2.mono hF⟩, fun F F2 v hF h => ⟨h.1, h.2.1.mono hF, h.2.2.mono hF⟩, fun F F2 v hF h => h.mono hF, fun F F2 v hF h => h.mono hF, fun F F2 v hF h => h, fun F F2 v hF h => h.mono hF, fun F F2 v hF h => h.mono hF, fun F F2 v hF h => h, trivial⟩) (fun ds => ?_) (fun ds => ?_)
 ·
  refine ⟨⟨⟨⟨⟨⟨⟨⟨⟨⟨⟨trivial, ?_⟩, ?_⟩, ?_⟩, ?_⟩, ?_⟩, ?_⟩, ?_⟩, ?_⟩, ?_⟩, ?_⟩, ?_⟩
  ·
   intro e1 F1 hF1 he hj
   refine ⟨_, _, _, _, _, rfl, ?_⟩
   refine Br (Bg B8 (B1 (Ce he (by kernel_rfl)) <| B1 (Ce he58 (by kernel_rfl)) <| Bo rfl <| Ba rfl <| A9 rfl <| Ap rfl <| Ab) rfl rfl (Bl 0 rfl)).quiet ⟨_, rfl, Heap.le_refl _, rfl⟩
  ·
   intro e1 F1 hF1 he hj
   refine ⟨_, _, _, _, _, rfl, ?_⟩
   refine Br (Bc bd_36 A0 (.cons Ac (.cons Ac (.cons Ac .nil))) (entry_ok _ _ _) (fun _ _ h => h)) ⟨_, rfl, Heap.le_refl _, rfl⟩
  ·
   intro e1 F1 hF1 he hj
   have g80 : (e1 80) = .agg #[.int .i64 0, .bool true, .int .i64 20, .int .i64 50] := hj 1 (by kernel_rfl) (by decide)
   refine ⟨_, _, _, _, _, rfl, ?_⟩
   refine OpX_freeze (Dr (offs := [(0, 4)]) (zl := [.int .i64 0, .bool false, .int .i64 0, .int .i64 0]) Dn zr_60 rfl (.cons (C1 g80) rfl .nil) (by intro i p h; rcases i with _ | i <;> simp at h <;> subst h <;> rfl) (.cons rfl rfl (Nat.le_of_ble_eq_true rfl) (.cons (.here) (.cons (.next <| .here) (.cons (.next <| .next <| .here) (.cons (.next <| .next <| .next <| .here) .nil)))) .nil) (by decide) (by decide) fun b hb nb => ⟨b, _, hb, rfl, fun F2 hF2 hz => ⟨F2, rfl, hF2, (entB_box1 hz)⟩⟩)
  ·
   intro e1 F1 hF1 he hj
   replace hr := hr.mono hF1
   have g79 : (e1 79) = .agg #[vs, .int .i64 100, .int .i64 150, .int .i64 14, vb, vl, vn, vd] := hj 0 (by kernel_rfl) (by decide)
   have g80 : (e1 80) = .agg #[.int .i64 0, .bool true, .int .i64 20, .int .i64 50] := hj 1 (by kernel_rfl) (by decide)
   have g81 : Sl F1 (e1 81) 4 Ent.enc [ent1 0 20 50] := hj 2 (by kernel_rfl) (by decide)
   refine ⟨_, _, _, _, _, rfl, ?_⟩
   refine Ck bd_31 A0 (.cons (C1 g79) (.cons (C1 rfl) .nil)) (members_ok hr g81) fun v2 F2 hr hF2 => ⟨F2, rfl, hF2, (hr.ans ev_m1)⟩
  ·
   intro e1 F1 hF1 he hj
   have g82 : (e1 82) = .tuple #[tupA (e1 82) 0, tupA (e1 82) 1, .int .i64 0] ∧ Nats F1 (tupA (e1 82) 0) [0, 2] ∧ Nats F1 (tupA (e1 82) 1) [0, 1, 2, 3] := hj 3 (by kernel_rfl) (by decide)
   refine ⟨_, _, _, _, _, rfl, ?_⟩
   refine Br (Af (C1 g82.1)).quiet ⟨_, rfl, Heap.le_refl _, ⟨rfl, g82.2⟩⟩
  ·
   intro e1 F1 hF1 he hj
   have g78 : (e1 78) = .tuple #[tupA (e1 78) 0, tupA (e1 78) 1, .int .i64 0] ∧ Nats F1 (tupA (e1 78) 0) [0, 2] ∧ Nats F1 (tupA (e1 78) 1) [0, 1, 2, 3] := hj 4 (by kernel_rfl) (by decide)
   refine ⟨_, _, _, _, _, rfl, ?_⟩
   refine Br (A2 (C1 g78.1) rfl).quiet ⟨_, rfl, Heap.le_refl _, g78.2.1⟩
  ·
   intro e1 F1 hF1 he hj
   have g78 : (e1 78) = .tuple #[tupA (e1 78) 0, tupA (e1 78) 1, .int .i64 0] ∧ Nats F1 (tupA (e1 78) 0) [0, 2] ∧ Nats F1 (tupA (e1 78) 1) [0, 1, 2, 3] := hj 4 (by kernel_rfl) (by decide)
   refine ⟨_, _, _, _, _, rfl, ?_⟩
   refine Br (A2 (C1 g78.1) rfl).quiet ⟨_, rfl, Heap.le_refl _, g78.2.2⟩
  ·
   intro e1 F1 hF1 he hj
   have g78 : (e1 78) = .tuple #[tupA (e1 78) 0, tupA (e1 78) 1, .int .i64 0] ∧ Nats F1 (tupA (e1 78) 0) [0, 2] ∧ Nats F1 (tupA (e1 78) 1) [0, 1, 2, 3] := hj 4 (by kernel_rfl) (by decide)
   refine ⟨_, _, _, _, _, rfl, ?_⟩
   refine Br (A2 (C1 g78.1) rfl).quiet ⟨_, rfl, Heap.le_refl _, rfl⟩
  ·
   intro e1 F1 hF1 he hj
   have g79 : (e1 79) = .agg #[vs, .int .i64 100, .int .i64 150, .int .i64 14, vb, vl, vn, vd] := hj 0 (by kernel_rfl) (by decide)
   have g80 : (e1 80) = .agg #[.int .i64 0, .bool true, .int .i64 20, .int .i64 50] := hj 1 (by kernel_rfl) (by decide)
   have g81 : Sl F1 (e1 81) 4 Ent.enc [ent1 0 20 50] := hj 2 (by kernel_rfl) (by decide)
   have g82 : (e1 82) = .tuple #[tupA (e1 82) 0, tupA (e1 82) 1, .int .i64 0] ∧ Nats F1 (tupA (e1 82) 0) [0, 2] ∧ Nats F1 (tupA (e1 82) 1) [0, 1, 2, 3] := hj 3 (by kernel_rfl) (by decide)
   have g78 : (e1 78) = .tuple #[tupA (e1 78) 0, tupA (e1 78) 1, .int .i64 0] ∧ Nats F1 (tupA (e1 78) 0) [0, 2] ∧ Nats F1 (tupA (e1 78) 1) [0, 1, 2, 3] := hj 4 (by kernel_rfl) (by decide)
   have g83 : Nats F1 (e1 83) [0, 2] := hj 5 (by kernel_rfl) (by decide)
   refine ⟨_, _, _, _, _, rfl, ?_⟩
   refine Br (Ae (C1 rfl)).quiet ⟨_, rfl, Heap.le_refl _, g83⟩
  ·
   intro e1 F1 hF1 he hj
   have g79 : (e1 79) = .agg #[vs, .int .i64 100, .int .i64 150, .int .i64 14, vb, vl, vn, vd] := hj 0 (by kernel_rfl) (by decide)
   have g80 : (e1 80) = .agg #[.int .i64 0, .bool true, .int .i64 20, .int .i64 50] := hj 1 (by kernel_rfl) (by decide)
   have g81 : Sl F1 (e1 81) 4 Ent.enc [ent1 0 20 50] := hj 2 (by kernel_rfl) (by decide)
   have g82 : (e1 82) = .tuple #[tupA (e1 82) 0, tupA (e1 82) 1, .int .i64 0] ∧ Nats F1 (tupA (e1 82) 0) [0, 2] ∧ Nats F1 (tupA (e1 82) 1) [0, 1, 2, 3] := hj 3 (by kernel_rfl) (by decide)
   have g78 : (e1 78) = .tuple #[tupA (e1 78) 0, tupA (e1 78) 1, .int .i64 0] ∧ Nats F1 (tupA (e1 78) 0) [0, 2] ∧ Nats F1 (tupA (e1 78) 1) [0, 1, 2, 3] := hj 4 (by kernel_rfl) (by decide)
   have g83 : Nats F1 (e1 83) [0, 2] := hj 5 (by kernel_rfl) (by decide)
   have g84 : Nats F1 (e1 84) [0, 1, 2, 3] := hj 6 (by kernel_rfl) (by decide)
   have g20 : Nats F1 (e1 20) [0, 2] := hj 8 (by kernel_rfl) (by decide)
   refine ⟨_, _, _, _, _, rfl, ?_⟩
   refine Br (Ae (C1 rfl)).quiet ⟨_, rfl, Heap.le_refl _, g84⟩
  ·
   intro e1 F1 hF1 he hj
   have g79 : (e1 79) = .agg #[vs, .int .i64 100, .int .i64 150, .int .i64 14, vb, vl, vn, vd] := hj 0 (by kernel_rfl) (by decide)
   have g80 : (e1 80) = .agg #[.int .i64 0, .bool true, .int .i64 20, .int .i64 50] := hj 1 (by kernel_rfl) (by decide)
   have g81 : Sl F1 (e1 81) 4 Ent.enc [ent1 0 20 50] := hj 2 (by kernel_rfl) (by decide)
   have g82 : (e1 82) = .tuple #[tupA (e1 82) 0, tupA (e1 82) 1, .int .i64 0] ∧ Nats F1 (tupA (e1 82) 0) [0, 2] ∧ Nats F1 (tupA (e1 82) 1) [0, 1, 2, 3] := hj 3 (by kernel_rfl) (by decide)
   have g78 : (e1 78) = .tuple #[tupA (e1 78) 0, tupA (e1 78) 1, .int .i64 0] ∧ Nats F1 (tupA (e1 78) 0) [0, 2] ∧ Nats F1 (tupA (e1 78) 1) [0, 1, 2, 3] := hj 4 (by kernel_rfl) (by decide)
   have g83 : Nats F1 (e1 83) [0, 2] := hj 5 (by kernel_rfl) (by decide)
   have g84 : Nats F1 (e1 84) [0, 1, 2, 3] := hj 6 (by kernel_rfl) (by decide)
   have g85 : (e1 85) = .int .i64 0 := hj 7 (by kernel_rfl) (by decide)
   have g20 : Nats F1 (e1 20) [0, 2] := hj 8 (by kernel_rfl) (by decide)
   have g21 : Nats F1 (e1 21) [0, 1, 2, 3] := hj 9 (by kernel_rfl) (by decide)
   refine ⟨_, _, _, _, _, rfl, ?_⟩
   refine Br (Ae (C1 g85)).quiet ⟨_, rfl, Heap.le_refl _, rfl⟩
 intro e63 F60 hF61 he62 hj
 replace hr := hr.mono hF61
 replace hq1 := hq1.mono hF61
 replace hq2 := hq2.mono hF61
 replace hq3 := hq3.mono hF61
 replace hq4 := hq4.mono hF61
 replace hq7 := hq7.mono hF61
 replace g18 := g18.mono hF61
 have g79 : (e63 79) = .agg #[vs, .int .i64 100, .int .i64 150, .int .i64 14, vb, vl, vn, vd] := hj 0 (by decide)
 have g80 : (e63 80) = .agg #[.int .i64 0, .bool true, .int .i64 20, .int .i64 50] := hj 1 (by decide)
 have g81 : Sl F60 (e63 81) 4 Ent.enc [ent1 0 20 50] := hj 2 (by decide)
 have g82 : (e63 82) = .tuple #[tupA (e63 82) 0, tupA (e63 82) 1, .int .i64 0] ∧ Nats F60 (tupA (e63 82) 0) [0, 2] ∧ Nats F60 (tupA (e63 82) 1) [0, 1, 2, 3] := hj 3 (by decide)
 have g78 : (e63 78) = .tuple #[tupA (e63 78) 0, tupA (e63 78) 1, .int .i64 0] ∧ Nats F60 (tupA (e63 78) 0) [0, 2] ∧ Nats F60 (tupA (e63 78) 1) [0, 1, 2, 3] := hj 4 (by decide)
 have g83 : Nats F60 (e63 83) [0, 2] := hj 5 (by decide)
 have g84 : Nats F60 (e63 84) [0, 1, 2, 3] := hj 6 (by decide)
 have g85 : (e63 85) = .int .i64 0 := hj 7 (by decide)
 have g20 : Nats F60 (e63 20) [0, 2] := hj 8 (by decide)
 have g21 : Nats F60 (e63 21) [0, 1, 2, 3] := hj 9 (by decide)
 have g22 : (e63 22) = .int .i64 0 := hj 10 (by decide)
 refine Ad <| Ag <| WC_drawF 11 (.inl rfl) (fun _ _ h => h) (by kernel_rfl) (by kernel_rfl) false rfl ([fun F v => v = .agg #[vs, .int .i64 100, .int .i64 150, .int .i64 14, vb, vl, vn, vd], fun F v => v = .agg #[.int .i64 0, .bool true, .int .i64 45, .int .i64 45], fun F v => v = .agg #[.int .i64 1, .bool true, .int .i64 48, .int .i64 48], fun F v => v = .agg #[.int .i64 2, .bool true, .int .i64 30, .int .i64 30], fun F v => Sl F v 4 Ent.enc [ent1 0 45 45, ent1 1 48 48, ent1 2 30 30], fun F v => v = .tuple #[tupA v 0, .int .i64 0] ∧ Nats F (tupA v 0) [0, 2], fun F v => v = .tuple #[tupA v 0, .int .i64 0] ∧ Nats F (tupA v 0) [0, 2], fun F v => Nats F v [0, 2], fun F v => v = .int .i64 0, fun F v => Nats F v [0, 2], fun F v => v = .int .i64 0]) (⟨fun F F2 v hF h => h, fun F F2 v hF h => h, fun F F2 v hF h => h, fun F F2 v hF h => h, fun F F2 v hF h => h.mono hF, fun F F2 v hF h => ⟨h.1, h.2.mono hF⟩, fun F F2 v hF h => ⟨h.1, h.2.mono hF⟩, fun F F2 v hF h => h.mono hF, fun F F2 v hF h => h, fun F F2 v hF h => h.mono hF, fun F F2 v hF h => h, trivial⟩) (fun ds => ?_) (fun ds => ?_)
 ·
  refine ⟨⟨⟨⟨⟨⟨⟨⟨⟨⟨⟨trivial, ?_⟩, ?_⟩, ?_⟩, ?_⟩, ?_⟩, ?_⟩, ?_⟩, ?_⟩, ?_⟩, ?_⟩, ?_⟩
  ·
   intro e1 F1 hF1 he hj
   refine ⟨_, _, _, _, _, rfl, ?_⟩
   refine Br (Bg B8 (B1 (Ce he (by kernel_rfl)) <| B1 (Ce he62 (by kernel_rfl)) <| B1 (Ce he58 (by kernel_rfl)) <| Bo rfl <| Ba rfl <| A9 rfl <| Ap rfl <| Ab) rfl rfl (Bl 0 rfl)).quiet ⟨_, rfl, Heap.le_refl _, rfl⟩
  ·
   intro e1 F1 hF1 he hj
   refine ⟨_, _, _, _, _, rfl, ?_⟩
   refine Br (Bc bd_36 A0 (.cons Ac (.cons Ac (.cons Ac .nil))) (entry_ok _ _ _) (fun _ _ h => h)) ⟨_, rfl, Heap.le_refl _, rfl⟩
  ·
   intro e1 F1 hF1 he hj
   have g88 : (e1 88) = .agg #[.int .i64 0, .bool true, .int .i64 45, .int .i64 45] := hj 1 (by kernel_rfl) (by decide)
   refine ⟨_, _, _, _, _, rfl, ?_⟩
   refine Br (Bc bd_36 A0 (.cons Ac (.cons Ac (.cons Ac .nil))) (entry_ok _ _ _) (fun _ _ h => h)) ⟨_, rfl, Heap.le_refl _, rfl⟩
  ·
   intro e1 F1 hF1 he hj
   have g89 : (e1 89) = .agg #[.int .i64 1, .bool true, .int .i64 48, .int .i64 48] := hj 2 (by kernel_rfl) (by decide)
   refine ⟨_, _, _, _, _, rfl, ?_⟩
   refine Br (Bc bd_36 A0 (.cons Ac (.cons Ac (.cons Ac .nil))) (entry_ok _ _ _) (fun _ _ h => h)) ⟨_, rfl, Heap.le_refl _, rfl⟩
  ·
   intro e1 F1 hF1 he hj
   have g88 : (e1 88) = .agg #[.int .i64 0, .bool true, .int .i64 45, .int .i64 45] := hj 1 (by kernel_rfl) (by decide)
   have g89 : (e1 89) = .agg #[.int .i64 1, .bool true, .int .i64 48, .int .i64 48] := hj 2 (by kernel_rfl) (by decide)
   have g90 : (e1 90) = .agg #[.int .i64 2, .bool true, .int .i64 30, .int .i64 30] := hj 3 (by kernel_rfl) (by decide)
   refine ⟨_, _, _, _, _, rfl, ?_⟩
   refine OpX_freeze (Dr (offs := [(0, 4), (4, 4), (8, 4)]) (zl := [.int .i64 0, .bool false, .int .i64 0, .int .i64 0, .int .i64 0, .bool false, .int .i64 0, .int .i64 0, .int .i64 0, .bool false, .int .i64 0, .int .i64 0]) Dn zr_60 rfl (.cons (C1 g88) rfl (.cons (C1 g89) rfl (.cons (C1 g90) rfl .nil))) (by intro i p h; rcases i with _ | _ | _ | i <;> simp at h <;> subst h <;> rfl) (.cons rfl rfl (Nat.le_of_ble_eq_true rfl) (.cons (.here) (.cons (.next <| .here) (.cons (.next <| .next <| .here) (.cons (.next <| .next <| .next <| .here) .nil)))) (.cons rfl rfl (Nat.le_of_ble_eq_true rfl) (.cons (.next <| .next <| .next <| .next <| .here) (.cons (.next <| .next <| .next <| .next <| .next <| .here) (.cons (.next <| .next <| .next <| .next <| .next <| .next <| .here) (.cons (.next <| .next <| .next <| .next <| .next <| .next <| .next <| .here) .nil)))) (.cons rfl rfl (Nat.le_of_ble_eq_true rfl) (.cons (.next <| .next <| .next <| .next <| .next <| .next <| .next <| .next <| .here) (.cons (.next <| .next <| .next <| .next <| .next <| .next <| .next <| .next <| .next <| .here) (.cons (.next <| .next <| .next <| .next <| .next <| .next <| .next <| .next <| .next <| .next <| .here) (.cons (.next <| .next <| .next <| .next <| .next <| .next <| .next <| .next <| .next <| .next <| .next <| .here) .nil)))) .nil))) (by decide) (by decide) fun b hb nb => ⟨b, _, hb, rfl, fun F2 hF2 hz => ⟨F2, rfl, hF2, (entC_box3 hz)⟩⟩)
  ·
   intro e1 F1 hF1 he hj
   replace hr := hr.mono hF1
   have g87 : (e1 87) = .agg #[vs, .int .i64 100, .int .i64 150, .int .i64 14, vb, vl, vn, vd] := hj 0 (by kernel_rfl) (by decide)
   have g90 : (e1 90) = .agg #[.int .i64 2, .bool true, .int .i64 30, .int .i64 30] := hj 3 (by kernel_rfl) (by decide)
   have g91 : Sl F1 (e1 91) 4 Ent.enc [ent1 0 45 45, ent1 1 48 48, ent1 2 30 30] := hj 4 (by kernel_rfl) (by decide)
   refine ⟨_, _, _, _, _, rfl, ?_⟩
   refine Ck bd_33 A0 (.cons (C1 g87) (.cons (C1 rfl) .nil)) (wrong_ok hr g91) fun v2 F2 hr hF2 => ⟨F2, rfl, hF2, (hr.ans ev_w1)⟩
  ·
   intro e1 F1 hF1 he hj
   have g92 : (e1 92) = .tuple #[tupA (e1 92) 0, .int .i64 0] ∧ Nats F1 (tupA (e1 92) 0) [0, 2] := hj 5 (by kernel_rfl) (by decide)
   refine ⟨_, _, _, _, _, rfl, ?_⟩
   refine Br (Af (C1 g92.1)).quiet ⟨_, rfl, Heap.le_refl _, ⟨rfl, g92.2⟩⟩
  ·
   intro e1 F1 hF1 he hj
   have g86 : (e1 86) = .tuple #[tupA (e1 86) 0, .int .i64 0] ∧ Nats F1 (tupA (e1 86) 0) [0, 2] := hj 6 (by kernel_rfl) (by decide)
   refine ⟨_, _, _, _, _, rfl, ?_⟩
   refine Br (A2 (C1 g86.1) rfl).quiet ⟨_, rfl, Heap.le_refl _, g86.2⟩
  ·
   intro e1 F1 hF1 he hj
   have g86 : (e1 86) = .tuple #[tupA (e1 86) 0, .int .i64 0] ∧ Nats F1 (tupA (e1 86) 0) [0, 2] := hj 6 (by kernel_rfl) (by decide)
   refine ⟨_, _, _, _, _, rfl, ?_⟩
   refine Br (A2 (C1 g86.1) rfl).quiet ⟨_, rfl, Heap.le_refl _, rfl⟩
  ·
   intro e1 F1 hF1 he hj
   have g87 : (e1 87) = .agg #[vs, .int .i64 100, .int .i64 150, .int .i64 14, vb, vl, vn, vd] := hj 0 (by kernel_rfl) (by decide)
   have g88 : (e1 88) = .agg #[.int .i64 0, .bool true, .int .i64 45, .int .i64 45] := hj 1 (by kernel_rfl) (by decide)
   have g89 : (e1 89) = .agg #[.int .i64 1, .bool true, .int .i64 48, .int .i64 48] := hj 2 (by kernel_rfl) (by decide)
   have g90 : (e1 90) = .agg #[.int .i64 2, .bool true, .int .i64 30, .int .i64 30] := hj 3 (by kernel_rfl) (by decide)
   have g91 : Sl F1 (e1 91) 4 Ent.enc [ent1 0 45 45, ent1 1 48 48, ent1 2 30 30] := hj 4 (by kernel_rfl) (by decide)
   have g92 : (e1 92) = .tuple #[tupA (e1 92) 0, .int .i64 0] ∧ Nats F1 (tupA (e1 92) 0) [0, 2] := hj 5 (by kernel_rfl) (by decide)
   have g86 : (e1 86) = .tuple #[tupA (e1 86) 0, .int .i64 0] ∧ Nats F1 (tupA (e1 86) 0) [0, 2] := hj 6 (by kernel_rfl) (by decide)
   have g93 : Nats F1 (e1 93) [0, 2] := hj 7 (by kernel_rfl) (by decide)
   refine ⟨_, _, _, _, _, rfl, ?_⟩
   refine Br (Ae (C1 rfl)).quiet ⟨_, rfl, Heap.le_refl _, g93⟩
  ·
   intro e1 F1 hF1 he hj
   have g87 : (e1 87) = .agg #[vs, .int .i64 100, .int .i64 150, .int .i64 14, vb, vl, vn, vd] := hj 0 (by kernel_rfl) (by decide)
   have g88 : (e1 88) = .agg #[.int .i64 0, .bool true, .int .i64 45, .int .i64 45] := hj 1 (by kernel_rfl) (by decide)
   have g89 : (e1 89) = .agg #[.int .i64 1, .bool true, .int .i64 48, .int .i64 48] := hj 2 (by kernel_rfl) (by decide)
   have g90 : (e1 90) = .agg #[.int .i64 2, .bool true, .int .i64 30, .int .i64 30] := hj 3 (by kernel_rfl) (by decide)
   have g91 : Sl F1 (e1 91) 4 Ent.enc [ent1 0 45 45, ent1 1 48 48, ent1 2 30 30] := hj 4 (by kernel_rfl) (by decide)
   have g92 : (e1 92) = .tuple #[tupA (e1 92) 0, .int .i64 0] ∧ Nats F1 (tupA (e1 92) 0) [0, 2] := hj 5 (by kernel_rfl) (by decide)
   have g86 : (e1 86) = .tuple #[tupA (e1 86) 0, .int .i64 0] ∧ Nats F1 (tupA (e1 86) 0) [0, 2] := hj 6 (by kernel_rfl) (by decide)
   have g93 : Nats F1 (e1 93) [0, 2] := hj 7 (by kernel_rfl) (by decide)
   have g94 : (e1 94) = .int .i64 0 := hj 8 (by kernel_rfl) (by decide)
   have g23 : Nats F1 (e1 23) [0, 2] := hj 9 (by kernel_rfl) (by decide)
   refine ⟨_, _, _, _, _, rfl, ?_⟩
   refine Br (Ae (C1 g94)).quiet ⟨_, rfl, Heap.le_refl _, rfl⟩
 intro e67 F64 hF65 he66 hj
 replace hr := hr.mono hF65
 replace hq1 := hq1.mono hF65
 replace hq2 := hq2.mono hF65
 replace hq3 := hq3.mono hF65
 replace hq4 := hq4.mono hF65
 replace hq7 := hq7.mono hF65
 replace g18 := g18.mono hF65
 replace g20 := g20.mono hF65
 replace g21 := g21.mono hF65
 have g87 : (e67 87) = .agg #[vs, .int .i64 100, .int .i64 150, .int .i64 14, vb, vl, vn, vd] := hj 0 (by decide)
 have g88 : (e67 88) = .agg #[.int .i64 0, .bool true, .int .i64 45, .int .i64 45] := hj 1 (by decide)
 have g89 : (e67 89) = .agg #[.int .i64 1, .bool true, .int .i64 48, .int .i64 48] := hj 2 (by decide)
 have g90 : (e67 90) = .agg #[.int .i64 2, .bool true, .int .i64 30, .int .i64 30] := hj 3 (by decide)
 have g91 : Sl F64 (e67 91) 4 Ent.enc [ent1 0 45 45, ent1 1 48 48, ent1 2 30 30] := hj 4 (by decide)
 have g92 : (e67 92) = .tuple #[tupA (e67 92) 0, .int .i64 0] ∧ Nats F64 (tupA (e67 92) 0) [0, 2] := hj 5 (by decide)
 have g86 : (e67 86) = .tuple #[tupA (e67 86) 0, .int .i64 0] ∧ Nats F64 (tupA (e67 86) 0) [0, 2] := hj 6 (by decide)
 have g93 : Nats F64 (e67 93) [0, 2] := hj 7 (by decide)
 have g94 : (e67 94) = .int .i64 0 := hj 8 (by decide)
 have g23 : Nats F64 (e67 23) [0, 2] := hj 9 (by decide)
 have g24 : (e67 24) = .int .i64 0 := hj 10 (by decide)
 refine Ad <| Ag <| WC_drawF 9 (.inl rfl) (fun _ _ h => h) (by kernel_rfl) (by kernel_rfl) false rfl ([fun F v => v = .agg #[vs, .int .i64 100, .int .i64 150, .int .i64 14, vb, vl, vn, vd], fun F v => v = .agg #[.int .i64 2, .bool true, .int .i64 30, .int .i64 30], fun F v => Sl F v 4 Ent.enc [ent1 2 30 30], fun F v => v = .tuple #[tupA v 0, .int .i64 8] ∧ Lsts F (tupA v 0) [], fun F v => v = .tuple #[tupA v 0, .int .i64 8] ∧ Lsts F (tupA v 0) [], fun F v => Lsts F v [], fun F v => v = .int .i64 8, fun F v => Lsts F v [], fun F v => v = .int .i64 8]) (⟨fun F F2 v hF h => h, fun F F2 v hF h => h, fun F F2 v hF h => h.mono hF, fun F F2 v hF h => ⟨h.1, h.2.mono hF⟩, fun F F2 v hF h => ⟨h.1, h.2.mono hF⟩, fun F F2 v hF h => h.mono hF, fun F F2 v hF h => h, fun F F2 v hF h => h.mono hF, fun F F2 v hF h => h, trivial⟩) (fun ds => ?_) (fun ds => ?_)
 ·
  refine ⟨⟨⟨⟨⟨⟨⟨⟨⟨trivial, ?_⟩, ?_⟩, ?_⟩, ?_⟩, ?_⟩, ?_⟩, ?_⟩, ?_⟩, ?_⟩
  ·
   intro e1 F1 hF1 he hj
   refine ⟨_, _, _, _, _, rfl, ?_⟩
   refine Br (Bg B8 (B1 (Ce he (by kernel_rfl)) <| B1 (Ce he66 (by kernel_rfl)) <| B1 (Ce he62 (by kernel_rfl)) <| B1 (Ce he58 (by kernel_rfl)) <| Bo rfl <| Ba rfl <| A9 rfl <| Ap rfl <| Ab) rfl rfl (Bl 0 rfl)).quiet ⟨_, rfl, Heap.le_refl _, rfl⟩
  ·
   intro e1 F1 hF1 he hj
   refine ⟨_, _, _, _, _, rfl, ?_⟩
   refine Br (Bc bd_36 A0 (.cons Ac (.cons Ac (.cons Ac .nil))) (entry_ok _ _ _) (fun _ _ h => h)) ⟨_, rfl, Heap.le_refl _, rfl⟩
  ·
   intro e1 F1 hF1 he hj
   have g97 : (e1 97) = .agg #[.int .i64 2, .bool true, .int .i64 30, .int .i64 30] := hj 1 (by kernel_rfl) (by decide)
   refine ⟨_, _, _, _, _, rfl, ?_⟩
   refine OpX_freeze (Dr (offs := [(0, 4)]) (zl := [.int .i64 0, .bool false, .int .i64 0, .int .i64 0]) Dn zr_60 rfl (.cons (C1 g97) rfl .nil) (by intro i p h; rcases i with _ | i <;> simp at h <;> subst h <;> rfl) (.cons rfl rfl (Nat.le_of_ble_eq_true rfl) (.cons (.here) (.cons (.next <| .here) (.cons (.next <| .next <| .here) (.cons (.next <| .next <| .next <| .here) .nil)))) .nil) (by decide) (by decide) fun b hb nb => ⟨b, _, hb, rfl, fun F2 hF2 hz => ⟨F2, rfl, hF2, (entD_box1 hz)⟩⟩)
  ·
   intro e1 F1 hF1 he hj
   replace hr := hr.mono hF1
   have g96 : (e1 96) = .agg #[vs, .int .i64 100, .int .i64 150, .int .i64 14, vb, vl, vn, vd] := hj 0 (by kernel_rfl) (by decide)
   have g97 : (e1 97) = .agg #[.int .i64 2, .bool true, .int .i64 30, .int .i64 30] := hj 1 (by kernel_rfl) (by decide)
   have g98 : Sl F1 (e1 98) 4 Ent.enc [ent1 2 30 30] := hj 2 (by kernel_rfl) (by decide)
   refine ⟨_, _, _, _, _, rfl, ?_⟩
   refine Ck bd_28 A0 (.cons (C1 g96) (.cons (C1 rfl) .nil)) (Fi hr g98) fun v2 F2 hr hF2 => ⟨F2, rfl, hF2, (hr.ans ev_r2)⟩
  ·
   intro e1 F1 hF1 he hj
   have g99 : (e1 99) = .tuple #[tupA (e1 99) 0, .int .i64 8] ∧ Lsts F1 (tupA (e1 99) 0) [] := hj 3 (by kernel_rfl) (by decide)
   refine ⟨_, _, _, _, _, rfl, ?_⟩
   refine Br (Af (C1 g99.1)).quiet ⟨_, rfl, Heap.le_refl _, ⟨rfl, g99.2⟩⟩
  ·
   intro e1 F1 hF1 he hj
   have g95 : (e1 95) = .tuple #[tupA (e1 95) 0, .int .i64 8] ∧ Lsts F1 (tupA (e1 95) 0) [] := hj 4 (by kernel_rfl) (by decide)
   refine ⟨_, _, _, _, _, rfl, ?_⟩
   refine Br (A2 (C1 g95.1) rfl).quiet ⟨_, rfl, Heap.le_refl _, g95.2⟩
  ·
   intro e1 F1 hF1 he hj
   have g95 : (e1 95) = .tuple #[tupA (e1 95) 0, .int .i64 8] ∧ Lsts F1 (tupA (e1 95) 0) [] := hj 4 (by kernel_rfl) (by decide)
   refine ⟨_, _, _, _, _, rfl, ?_⟩
   refine Br (A2 (C1 g95.1) rfl).quiet ⟨_, rfl, Heap.le_refl _, rfl⟩
  ·
   intro e1 F1 hF1 he hj
   have g96 : (e1 96) = .agg #[vs, .int .i64 100, .int .i64 150, .int .i64 14, vb, vl, vn, vd] := hj 0 (by kernel_rfl) (by decide)
   have g97 : (e1 97) = .agg #[.int .i64 2, .bool true, .int .i64 30, .int .i64 30] := hj 1 (by kernel_rfl) (by decide)
   have g98 : Sl F1 (e1 98) 4 Ent.enc [ent1 2 30 30] := hj 2 (by kernel_rfl) (by decide)
   have g99 : (e1 99) = .tuple #[tupA (e1 99) 0, .int .i64 8] ∧ Lsts F1 (tupA (e1 99) 0) [] := hj 3 (by kernel_rfl) (by decide)
   have g95 : (e1 95) = .tuple #[tupA (e1 95) 0, .int .i64 8] ∧ Lsts F1 (tupA (e1 95) 0) [] := hj 4 (by kernel_rfl) (by decide)
   have g100 : Lsts F1 (e1 100) [] := hj 5 (by kernel_rfl) (by decide)
   refine ⟨_, _, _, _, _, rfl, ?_⟩
   refine Br (Ae (C1 rfl)).quiet ⟨_, rfl, Heap.le_refl _, g100⟩
  ·
   intro e1 F1 hF1 he hj
   have g96 : (e1 96) = .agg #[vs, .int .i64 100, .int .i64 150, .int .i64 14, vb, vl, vn, vd] := hj 0 (by kernel_rfl) (by decide)
   have g97 : (e1 97) = .agg #[.int .i64 2, .bool true, .int .i64 30, .int .i64 30] := hj 1 (by kernel_rfl) (by decide)
   have g98 : Sl F1 (e1 98) 4 Ent.enc [ent1 2 30 30] := hj 2 (by kernel_rfl) (by decide)
   have g99 : (e1 99) = .tuple #[tupA (e1 99) 0, .int .i64 8] ∧ Lsts F1 (tupA (e1 99) 0) [] := hj 3 (by kernel_rfl) (by decide)
   have g95 : (e1 95) = .tuple #[tupA (e1 95) 0, .int .i64 8] ∧ Lsts F1 (tupA (e1 95) 0) [] := hj 4 (by kernel_rfl) (by decide)
   have g100 : Lsts F1 (e1 100) [] := hj 5 (by kernel_rfl) (by decide)
   have g101 : (e1 101) = .int .i64 8 := hj 6 (by kernel_rfl) (by decide)
   have g25 : Lsts F1 (e1 25) [] := hj 7 (by kernel_rfl) (by decide)
   refine ⟨_, _, _, _, _, rfl, ?_⟩
   refine Br (Ae (C1 g101)).quiet ⟨_, rfl, Heap.le_refl _, rfl⟩
 intro e71 F68 hF69 he70 hj
 replace hq1 := hq1.mono hF69
 replace hq2 := hq2.mono hF69
 replace hq3 := hq3.mono hF69
 replace hq4 := hq4.mono hF69
 replace hq7 := hq7.mono hF69
 replace g18 := g18.mono hF69
 replace g20 := g20.mono hF69
 replace g21 := g21.mono hF69
 replace g23 := g23.mono hF69
 have g96 : (e71 96) = .agg #[vs, .int .i64 100, .int .i64 150, .int .i64 14, vb, vl, vn, vd] := hj 0 (by decide)
 have g97 : (e71 97) = .agg #[.int .i64 2, .bool true, .int .i64 30, .int .i64 30] := hj 1 (by decide)
 have g98 : Sl F68 (e71 98) 4 Ent.enc [ent1 2 30 30] := hj 2 (by decide)
 have g99 : (e71 99) = .tuple #[tupA (e71 99) 0, .int .i64 8] ∧ Lsts F68 (tupA (e71 99) 0) [] := hj 3 (by decide)
 have g95 : (e71 95) = .tuple #[tupA (e71 95) 0, .int .i64 8] ∧ Lsts F68 (tupA (e71 95) 0) [] := hj 4 (by decide)
 have g100 : Lsts F68 (e71 100) [] := hj 5 (by decide)
 have g101 : (e71 101) = .int .i64 8 := hj 6 (by decide)
 have g25 : Lsts F68 (e71 25) [] := hj 7 (by decide)
 have g26 : (e71 26) = .int .i64 8 := hj 8 (by decide)
 refine Ad <| Ag <| Ai fun ds => Aa rfl (Af (B1 (Ce he70 (by kernel_rfl)) <| B1 (Ce he66 (by kernel_rfl)) <| B1 (Ce he62 (by kernel_rfl)) <| B1 (Ce he58 (by kernel_rfl)) <| Bo rfl <| Ba rfl <| Ap rfl <| Al rfl <| Ab)) ?_
 refine Aa rfl (B7 (Ab) Ac) ?_
 refine Aa rfl (Af (Ab)) ?_
 refine At rfl rfl (Ab) (by first | rfl | decide) ?_
 refine Aa rfl (Af (Ap rfl <| Al rfl <| B1 (Ce he70 (by kernel_rfl)) <| B1 (Ce he66 (by kernel_rfl)) <| B1 (Ce he62 (by kernel_rfl)) <| B1 (Ce he58 (by kernel_rfl)) <| Bo rfl <| A9 rfl <| Ay rfl <| Ab)) ?_
 refine At rfl rfl (Al rfl <| Ab) (by first | rfl | decide) ?_
 refine Aa rfl (B7 (Ab) Ac) ?_
 refine Aa rfl (A6 (Ap rfl <| Ab) (by first | rfl | decide) (Ab)) ?_
 refine Aa rfl (Af (Ab)) ?_
 refine At rfl rfl (Ab) (by first | rfl | decide) ?_
 refine Aa rfl (Af (Ay rfl <| Ap rfl <| Al rfl <| B1 (Ce he70 (by kernel_rfl)) <| B1 (Ce he66 (by kernel_rfl)) <| B1 (Ce he62 (by kernel_rfl)) <| B1 (Ce he58 (by kernel_rfl)) <| Bo rfl <| Ay rfl <| Ab)) ?_
 refine At rfl rfl (Al rfl <| Ab) (by first | rfl | decide) ?_
 refine Aa rfl (B7 (Ab) Ac) ?_
 refine Aa rfl (A6 (Ap rfl <| Ab) (by first | rfl | decide) (Ab)) ?_
 refine Aa rfl (Af (Ab)) ?_
 refine At rfl rfl (Ab) (by first | rfl | decide) ?_
 refine Aa rfl (Af (A9 rfl <| Ap rfl <| Al rfl <| B1 (Ce he70 (by kernel_rfl)) <| B1 (Ce he66 (by kernel_rfl)) <| B1 (Ce he62 (by kernel_rfl)) <| B1 (Ce he58 (by kernel_rfl)) <| Ba rfl <| Ay rfl <| Ap rfl <| Ab)) ?_
 refine At rfl rfl (Al rfl <| Ab) (by first | rfl | decide) ?_
 refine Aa rfl (B7 (Ab) Ac) ?_
 refine Aa rfl (A6 (Ap rfl <| Ab) (by first | rfl | decide) (Ab)) ?_
 refine Aa rfl (Af (Ab)) ?_
 refine At rfl rfl (Ab) (by first | rfl | decide) ?_
 refine Aa rfl (Af (A9 rfl <| Ay rfl <| Ap rfl <| Al rfl <| B1 (Ce he70 (by kernel_rfl)) <| B1 (Ce he66 (by kernel_rfl)) <| B1 (Ce he62 (by kernel_rfl)) <| B1 (Ce he58 (by kernel_rfl)) <| Ab)) ?_
 refine At rfl rfl (Al rfl <| Ab) (by first | rfl | decide) ?_
 refine Aa rfl (B7 (Ab) Ac) ?_
 refine Aa rfl (A6 (Ap rfl <| Ab) (by first | rfl | decide) (Ab)) ?_
 refine Aa rfl (Af (Ab)) ?_
 refine At rfl rfl (Ab) (by first | rfl | decide) ?_
 refine Aa rfl (Af (Ba rfl <| Ap rfl <| Al rfl <| B1 (Ce he70 (by kernel_rfl)) <| B1 (Ce he66 (by kernel_rfl)) <| B1 (Ce he62 (by kernel_rfl)) <| C1 g19)) ?_
 refine At rfl rfl (Al rfl <| Ab) (by first | rfl | decide) ?_
 refine Aa rfl (B7 (Ab) Ac) ?_
 refine Aa rfl (A6 (Ap rfl <| Ab) (by first | rfl | decide) (Ab)) ?_
 refine Aa rfl (Af (Ab)) ?_
 refine At rfl rfl (Ab) (by first | rfl | decide) ?_
 refine Aa rfl (Af (Ba rfl <| Ay rfl <| Ap rfl <| Al rfl <| B1 (Ce he70 (by kernel_rfl)) <| B1 (Ce he66 (by kernel_rfl)) <| C1 g22)) ?_
 refine At rfl rfl (Al rfl <| Ab) (by first | rfl | decide) ?_
 refine Aa rfl (B7 (Ab) Ac) ?_
 refine Aa rfl (A6 (Ap rfl <| Ab) (by first | rfl | decide) (Ab)) ?_
 refine Aa rfl (Af (Ab)) ?_
 refine At rfl rfl (Ab) (by first | rfl | decide) ?_
 refine Aa rfl (Af (Ba rfl <| A9 rfl <| Ap rfl <| Al rfl <| B1 (Ce he70 (by kernel_rfl)) <| C1 g24)) ?_
 refine At rfl rfl (Al rfl <| Ab) (by first | rfl | decide) ?_
 refine Aa rfl (B7 (Ab) Ac) ?_
 refine Aa rfl (A6 (Ap rfl <| Ab) (by first | rfl | decide) (Ab)) ?_
 refine Aa rfl (Af (Ab)) ?_
 refine At rfl rfl (Ab) (by first | rfl | decide) ?_
 refine Aa rfl (Af (Ba rfl <| A9 rfl <| Ay rfl <| Ap rfl <| Al rfl <| B1 (Ce he70 (by kernel_rfl)) <| B1 (Ce he66 (by kernel_rfl)) <| B1 (Ce he62 (by kernel_rfl)) <| B1 (Ce he58 (by kernel_rfl)) <| A9 rfl <| Ab)) ?_
 refine At rfl rfl (Al rfl <| Ab) (by first | rfl | decide) ?_
 refine Aa rfl (B7 (Ab) Ac) ?_
 refine Aa rfl (A6 (Ap rfl <| Ab) (by first | rfl | decide) (Ab)) ?_
 refine Aa rfl (Af (Ab)) ?_
 refine At rfl rfl (Ab) (by first | rfl | decide) ?_
 refine Aa rfl (Af (Bo rfl <| Ap rfl <| Al rfl <| C1 g26)) ?_
 refine At rfl rfl (Al rfl <| Ab) (by first | rfl | decide) ?_
 refine Aa rfl (B7 (Ab) Ac) ?_
 refine Aa rfl (A6 (Ap rfl <| Ab) (by first | rfl | decide) (Ab)) ?_
 refine Aa rfl (Af (Ab)) ?_
 refine At rfl rfl (Ab) (by first | rfl | decide) ?_
 refine Aa rfl (Af (Bo rfl <| Ay rfl <| Ap rfl <| Al rfl <| B1 (Ce he70 (by kernel_rfl)) <| B1 (Ce he66 (by kernel_rfl)) <| B1 (Ce he62 (by kernel_rfl)) <| B1 (Ce he58 (by kernel_rfl)) <| Bo rfl <| Ba rfl <| Ay rfl <| Ab)) ?_
 refine At rfl rfl (Al rfl <| Ab) (by first | rfl | decide) ?_
 refine Aa rfl (B7 (Ab) Ac) ?_
 refine Aa rfl (A6 (Ap rfl <| Ab) (by first | rfl | decide) (Ab)) ?_
 refine Aa rfl (Af (Ab)) ?_
 refine At rfl rfl (Ab) (by first | rfl | decide) ?_
 refine Aa rfl (Af (Bo rfl <| A9 rfl <| Ap rfl <| Al rfl <| B1 (Ce he70 (by kernel_rfl)) <| B1 (Ce he66 (by kernel_rfl)) <| B1 (Ce he62 (by kernel_rfl)) <| B1 (Ce he58 (by kernel_rfl)) <| Bo rfl <| A9 rfl <| Ay rfl <| Al rfl <| Ab)) ?_
 refine At rfl rfl (Al rfl <| Ab) (by first | rfl | decide) ?_
 refine Bw rfl (Bc bd_37 A0 (.cons Ac (.cons Ac .nil)) (result_ok _ _) (fun _ _ h => h)) ?_
 refine At rfl rfl (Ap rfl <| Ab) (by first | rfl | decide) ?_
 refine Bw rfl (Bc bd_37 A0 (.cons Ac (.cons Ac .nil)) (result_ok _ _) (fun _ _ h => h)) ?_
 refine At rfl rfl (Ap rfl <| Al rfl <| Ab) (by first | rfl | decide) ?_
 refine Bw rfl (Bc bd_37 A0 (.cons Ac (.cons Ac .nil)) (result_ok _ _) (fun _ _ h => h)) ?_
 refine At rfl rfl (Ay rfl <| Ab) (by first | rfl | decide) ?_
 refine Bm rfl (Dr (offs := [(0, 2), (2, 2), (4, 2)]) (zl := [.int .i64 0, .int .i64 0, .int .i64 0, .int .i64 0, .int .i64 0, .int .i64 0]) Dp zr_63 rfl (.cons (Ap rfl <| Ab) rfl (.cons (Al rfl <| Ab) rfl (.cons (Ab) rfl .nil))) (by intro i p h; rcases i with _ | _ | _ | i <;> simp at h <;> subst h <;> rfl) (.cons rfl rfl (Nat.le_of_ble_eq_true rfl) (.cons (.here) (.cons (.next <| .here) .nil)) (.cons rfl rfl (Nat.le_of_ble_eq_true rfl) (.cons (.next <| .next <| .here) (.cons (.next <| .next <| .next <| .here) .nil)) (.cons rfl rfl (Nat.le_of_ble_eq_true rfl) (.cons (.next <| .next <| .next <| .next <| .here) (.cons (.next <| .next <| .next <| .next <| .next <| .here) .nil)) .nil))) (by decide) (by decide) fun b72 hb72 nb72 => ?_)
 refine Bu (i := 0) rfl hb72 .here fun F73 hF74 hz75 => ?_
 replace hq1 := hq1.mono hF74
 replace hq2 := hq2.mono hF74
 replace hq3 := hq3.mono hF74
 replace hq4 := hq4.mono hF74
 replace hq7 := hq7.mono hF74
 replace g18 := g18.mono hF74
 replace g20 := g20.mono hF74
 replace g21 := g21.mono hF74
 replace g23 := g23.mono hF74
 have hsl76 := resA_box3 hz75
 refine At rfl rfl (Ay rfl <| Al rfl <| Ab) (by first | rfl | decide) ?_
 refine Bw rfl (Bc bd_21 A0 (.cons (Ay rfl <| Ab) (.cons (Ab) .nil)) (refSame_ok hq1 hsl76) (fun _ _ h => h)) ?_
 refine Aa rfl (A6 (Ay rfl <| Ap rfl <| Ab) (by first | rfl | decide) (Ab)) ?_
 refine Aa rfl (Af (Ab)) ?_
 refine At rfl rfl (Ab) (by first | rfl | decide) ?_
 refine Aa rfl (Af (Bo rfl <| Ba rfl <| Ap rfl <| Al rfl <| B1 (Ce he70 (by kernel_rfl)) <| B1 (Ce he66 (by kernel_rfl)) <| B1 (Ce he62 (by kernel_rfl)) <| B1 (Ce he58 (by kernel_rfl)) <| Bo rfl <| Ay rfl <| Al rfl <| Ab)) ?_
 refine At rfl rfl (Al rfl <| Ab) (by first | rfl | decide) ?_
 refine Bw rfl (Bc bd_37 A0 (.cons Ac (.cons Ac .nil)) (result_ok _ _) (fun _ _ h => h)) ?_
 refine At rfl rfl (Ap rfl <| Ab) (by first | rfl | decide) ?_
 refine Bw rfl (Bc bd_37 A0 (.cons Ac (.cons Ac .nil)) (result_ok _ _) (fun _ _ h => h)) ?_
 refine At rfl rfl (Ap rfl <| Al rfl <| Ab) (by first | rfl | decide) ?_
 refine Bw rfl (Bc bd_37 A0 (.cons Ac (.cons Ac .nil)) (result_ok _ _) (fun _ _ h => h)) ?_
 refine At rfl rfl (Ay rfl <| Ab) (by first | rfl | decide) ?_
 refine Bm rfl (Dr (offs := [(0, 2), (2, 2), (4, 2)]) (zl := [.int .i64 0, .int .i64 0, .int .i64 0, .int .i64 0, .int .i64 0, .int .i64 0]) Dp zr_63 rfl (.cons (Ap rfl <| Ab) rfl (.cons (Al rfl <| Ab) rfl (.cons (Ab) rfl .nil))) (by intro i p h; rcases i with _ | _ | _ | i <;> simp at h <;> subst h <;> rfl) (.cons rfl rfl (Nat.le_of_ble_eq_true rfl) (.cons (.here) (.cons (.next <| .here) .nil)) (.cons rfl rfl (Nat.le_of_ble_eq_true rfl) (.cons (.next <| .next <| .here) (.cons (.next <| .next <| .next <| .here) .nil)) (.cons rfl rfl (Nat.le_of_ble_eq_true rfl) (.cons (.next <| .next <| .next <| .next <| .here) (.cons (.next <| .next <| .next <| .next <| .next <| .here) .nil)) .nil))) (by decide) (by decide) fun b77 hb77 nb77 => ?_)
 refine Bu (i := 0) rfl hb77 .here fun F78 hF79 hz80 => ?_
 replace hq2 := hq2.mono hF79
 replace hq3 := hq3.mono hF79
 replace hq4 := hq4.mono hF79
 replace hq7 := hq7.mono hF79
 replace g18 := g18.mono hF79
 replace g20 := g20.mono hF79
 replace g21 := g21.mono hF79
 replace g23 := g23.mono hF79
 have hsl81 := resB_box3 hz80
 refine At rfl rfl (Ay rfl <| Al rfl <| Ab) (by first | rfl | decide) ?_
 refine Bw rfl (Bc bd_21 A0 (.cons (Ay rfl <| Ab) (.cons (Ab) .nil)) (refSame_ok hq2 hsl81) (fun _ _ h => h)) ?_
 refine Aa rfl (A6 (Ay rfl <| Ap rfl <| Ab) (by first | rfl | decide) (Ab)) ?_
 refine Aa rfl (Af (Ab)) ?_
 refine At rfl rfl (Ab) (by first | rfl | decide) ?_
 refine Aa rfl (Af (Bo rfl <| Ba rfl <| A9 rfl <| Ap rfl <| Al rfl <| B1 (Ce he70 (by kernel_rfl)) <| B1 (Ce he66 (by kernel_rfl)) <| B1 (Ce he62 (by kernel_rfl)) <| B1 (Ce he58 (by kernel_rfl)) <| Ba rfl <| A9 rfl <| Al rfl <| Ab)) ?_
 refine At rfl rfl (Al rfl <| Ab) (by first | rfl | decide) ?_
 refine Bm rfl (Bz Bs C6 rfl (.cons Ac (.cons Ac (.cons Ac (.cons Ac .nil)))) rfl rfl (by decide) (by simp [Value.oneCell']) fun b82 hb82 nb82 => ?_)
 refine Bu (i := 0) rfl hb82 .here fun F83 hF84 hz85 => ?_
 replace hq3 := hq3.mono hF84
 replace hq4 := hq4.mono hF84
 replace hq7 := hq7.mono hF84
 replace g18 := g18.mono hF84
 replace g20 := g20.mono hF84
 replace g21 := g21.mono hF84
 replace g23 := g23.mono hF84
 have hsl86 := ints_box4 hz85
 refine At rfl rfl (Ap rfl <| Ab) (by first | rfl | decide) ?_
 refine Bw rfl (Bc bd_25 A0 (.cons (Al rfl <| Ab) (.cons (Ab) .nil)) (refInts_ok hq3 hsl86) (fun _ _ h => h)) ?_
 refine Aa rfl (A6 (Ap rfl <| Al rfl <| Ab) (by first | rfl | decide) (Ab)) ?_
 refine Aa rfl (Af (Ab)) ?_
 refine At rfl rfl (Ab) (by first | rfl | decide) ?_
 refine Aa rfl (Af (Bo rfl <| Bo rfl <| B1 (Ce he70 (by kernel_rfl)) <| B1 (Ce he66 (by kernel_rfl)) <| B1 (Ce he62 (by kernel_rfl)) <| B1 (Ce he58 (by kernel_rfl)) <| Ba rfl <| A9 rfl <| Ab)) ?_
 refine At rfl rfl (Al rfl <| Ab) (by first | rfl | decide) ?_
 refine Bm rfl (Bz Bs C6 rfl (.cons Ac .nil) rfl rfl (by decide) (by simp [Value.oneCell']) fun b87 hb87 nb87 => ?_)
 refine Bu (i := 0) rfl hb87 .here fun F88 hF89 hz90 => ?_
 replace hq4 := hq4.mono hF89
 replace hq7 := hq7.mono hF89
 replace g18 := g18.mono hF89
 replace g20 := g20.mono hF89
 replace g21 := g21.mono hF89
 replace g23 := g23.mono hF89
 have hsl91 := Cp hz90
 refine At rfl rfl (Ap rfl <| Ab) (by first | rfl | decide) ?_
 refine Bw rfl (Bc bd_25 A0 (.cons (Al rfl <| Ab) (.cons (Ab) .nil)) (refInts_ok hq4 hsl91) (fun _ _ h => h)) ?_
 refine Aa rfl (A6 (Ap rfl <| Al rfl <| Ab) (by first | rfl | decide) (Ab)) ?_
 refine Aa rfl (Af (Ab)) ?_
 refine At rfl rfl (Ab) (by first | rfl | decide) ?_
 refine Aa rfl (Af (Bo rfl <| Bo rfl <| Ay rfl <| Al rfl <| B1 (Ce he70 (by kernel_rfl)) <| B1 (Ce he66 (by kernel_rfl)) <| B1 (Ce he62 (by kernel_rfl)) <| B1 (Ce he58 (by kernel_rfl)) <| Ba rfl <| Ay rfl <| Ap rfl <| Al rfl <| Ab)) ?_
 refine At rfl rfl (Al rfl <| Ab) (by first | rfl | decide) ?_
 refine Aa rfl (B7 (Ab) Ac) ?_
 refine Aa rfl (A6 (Ap rfl <| Ab) (by first | rfl | decide) (Ab)) ?_
 refine Aa rfl (Af (Ab)) ?_
 refine At rfl rfl (Ab) (by first | rfl | decide) ?_
 refine Aa rfl (Af (Bo rfl <| Bo rfl <| A9 rfl <| Al rfl <| B1 (Ce he70 (by kernel_rfl)) <| B1 (Ce he66 (by kernel_rfl)) <| B1 (Ce he62 (by kernel_rfl)) <| B1 (Ce he58 (by kernel_rfl)) <| Al rfl <| Ab)) ?_
 refine At rfl rfl (Al rfl <| Ab) (by first | rfl | decide) ?_
 refine Bm rfl (Bz Bs C6 rfl (.cons Ac (.cons Ac (.cons Ac .nil))) rfl rfl (by decide) (by simp [Value.oneCell']) fun b92 hb92 nb92 => ?_)
 refine Bu (i := 0) rfl hb92 .here fun F93 hF94 hz95 => ?_
 replace hq7 := hq7.mono hF94
 replace g18 := g18.mono hF94
 replace g20 := g20.mono hF94
 replace g21 := g21.mono hF94
 replace g23 := g23.mono hF94
 have hsl96 := ints_box3 hz95
 refine At rfl rfl (Ap rfl <| Ab) (by first | rfl | decide) ?_
 refine Bw rfl (Bc bd_25 A0 (.cons (Al rfl <| Ab) (.cons (Ab) .nil)) (refInts_ok hq7 hsl96) (fun _ _ h => h)) ?_
 refine Aa rfl (A6 (Ap rfl <| Al rfl <| Ab) (by first | rfl | decide) (Ab)) ?_
 refine Aa rfl (Af (Ab)) ?_
 refine At rfl rfl (Ab) (by first | rfl | decide) ?_
 refine Aa rfl (Af (Bo rfl <| Bo rfl <| A9 rfl <| Ay rfl <| Ap rfl <| B1 (Ce he70 (by kernel_rfl)) <| B1 (Ce he66 (by kernel_rfl)) <| B1 (Ce he62 (by kernel_rfl)) <| C1 rfl)) ?_
 refine At rfl rfl (Al rfl <| Ab) (by first | rfl | decide) ?_
 refine Bm rfl (Bz Bs C6 rfl (.cons Ac (.cons Ac .nil)) rfl rfl (by decide) (by simp [Value.oneCell']) fun b97 hb97 nb97 => ?_)
 refine Bu (i := 0) rfl hb97 .here fun F98 hF99 hz100 => ?_
 replace g18 := g18.mono hF99
 replace g20 := g20.mono hF99
 replace g21 := g21.mono hF99
 replace g23 := g23.mono hF99
 have hsl101 := n13_box2 hz100
 refine At rfl rfl (Ap rfl <| Ab) (by first | rfl | decide) ?_
 refine Bm rfl (Bz Bs C6 rfl (.cons Ac (.cons Ac (.cons Ac .nil))) rfl rfl (by decide) (by simp [Value.oneCell']) fun b102 hb102 nb102 => ?_)
 refine Bu (i := 0) rfl hb102 .here fun F103 hF104 hz105 => ?_
 replace g18 := g18.mono hF104
 replace g20 := g20.mono hF104
 replace g21 := g21.mono hF104
 replace g23 := g23.mono hF104
 replace hsl101 := hsl101.mono hF104
 have hsl106 := n013_box3 hz105
 refine At rfl rfl (Ap rfl <| Al rfl <| Ab) (by first | rfl | decide) ?_
 refine Bm rfl (Bz Bs C6 rfl (.cons Ac (.cons Ac (.cons Ac .nil))) rfl rfl (by decide) (by simp [Value.oneCell']) fun b107 hb107 nb107 => ?_)
 refine Bu (i := 0) rfl hb107 .here fun F108 hF109 hz110 => ?_
 replace g18 := g18.mono hF109
 replace g20 := g20.mono hF109
 replace g21 := g21.mono hF109
 replace g23 := g23.mono hF109
 replace hsl101 := hsl101.mono hF109
 replace hsl106 := hsl106.mono hF109
 have hsl111 := n123_box3 hz110
 refine At rfl rfl (Ay rfl <| Ab) (by first | rfl | decide) ?_
 refine Bm rfl (Bz Cx zr_28 rfl (.cons (Ap rfl <| Ab) (.cons (Al rfl <| Ab) (.cons (Ab) .nil))) rfl rfl (by decide) (by simp [Value.oneCell']) fun b112 hb112 nb112 => ?_)
 refine Bu (i := 0) rfl hb112 .here fun F113 hF114 hz115 => ?_
 replace g18 := g18.mono hF114
 replace g20 := g20.mono hF114
 replace g21 := g21.mono hF114
 replace g23 := g23.mono hF114
 replace hsl101 := hsl101.mono hF114
 replace hsl106 := hsl106.mono hF114
 replace hsl111 := hsl111.mono hF114
 have hsl116 := vals_box3 hz115
 refine At rfl rfl (Ay rfl <| Al rfl <| Ab) (by first | rfl | decide) ?_
 refine Bw rfl (Bc bd_30 A0 (.cons (Ay rfl <| Ab) (.cons (Ab) .nil)) (alike_ok g18 (lsts3 hsl116 hsl101 hsl106 hsl111)) (fun _ _ h => h)) ?_
 refine Aa rfl (A6 (Ay rfl <| Ap rfl <| Ab) (by first | rfl | decide) (Ab)) ?_
 refine Aa rfl (Af (Ab)) ?_
 refine At rfl rfl (Ab) (by first | rfl | decide) ?_
 refine Aa rfl (Af (Bo rfl <| Bo rfl <| Ba rfl <| Ay rfl <| Ap rfl <| B1 (Ce he70 (by kernel_rfl)) <| B1 (Ce he66 (by kernel_rfl)) <| C1 rfl)) ?_
 refine At rfl rfl (Al rfl <| Ab) (by first | rfl | decide) ?_
 refine Bm rfl (Bz Bs C6 rfl (.cons Ac (.cons Ac .nil)) rfl rfl (by decide) (by simp [Value.oneCell']) fun b117 hb117 nb117 => ?_)
 refine Bu (i := 0) rfl hb117 .here fun F118 hF119 hz120 => ?_
 replace g20 := g20.mono hF119
 replace g21 := g21.mono hF119
 replace g23 := g23.mono hF119
 have hsl121 := n02_box2 hz120
 refine At rfl rfl (Ap rfl <| Ab) (by first | rfl | decide) ?_
 refine Bw rfl (Bc bd_25 A0 (.cons (Al rfl <| Ab) (.cons (Ab) .nil)) (Ei g20 hsl121) (fun _ _ h => h)) ?_
 refine Aa rfl (A6 (Ap rfl <| Al rfl <| Ab) (by first | rfl | decide) (Ab)) ?_
 refine Aa rfl (Af (Ab)) ?_
 refine At rfl rfl (Ab) (by first | rfl | decide) ?_
 refine Aa rfl (Af (Bo rfl <| Bo rfl <| Ba rfl <| A9 rfl <| Ap rfl <| Al rfl <| B1 (Ce he70 (by kernel_rfl)) <| B1 (Ce he66 (by kernel_rfl)) <| C1 rfl)) ?_
 refine At rfl rfl (Al rfl <| Ab) (by first | rfl | decide) ?_
 refine Bm rfl (Bz Bs C6 rfl (.cons Ac (.cons Ac (.cons Ac (.cons Ac .nil)))) rfl rfl (by decide) (by simp [Value.oneCell']) fun b122 hb122 nb122 => ?_)
 refine Bu (i := 0) rfl hb122 .here fun F123 hF124 hz125 => ?_
 replace g21 := g21.mono hF124
 replace g23 := g23.mono hF124
 have hsl126 := n0123_box4 hz125
 refine At rfl rfl (Ap rfl <| Ab) (by first | rfl | decide) ?_
 refine Bw rfl (Bc bd_25 A0 (.cons (Al rfl <| Ab) (.cons (Ab) .nil)) (Ei g21 hsl126) (fun _ _ h => h)) ?_
 refine Aa rfl (A6 (Ap rfl <| Al rfl <| Ab) (by first | rfl | decide) (Ab)) ?_
 refine Aa rfl (Af (Ab)) ?_
 refine At rfl rfl (Ab) (by first | rfl | decide) ?_
 refine Aa rfl (Af (Bo rfl <| Bo rfl <| Bo rfl <| B1 (Ce he70 (by kernel_rfl)) <| C1 rfl)) ?_
 refine At rfl rfl (Al rfl <| Ab) (by first | rfl | decide) ?_
 refine Bm rfl (Bz Bs C6 rfl (.cons Ac (.cons Ac .nil)) rfl rfl (by decide) (by simp [Value.oneCell']) fun b127 hb127 nb127 => ?_)
 refine Bu (i := 0) rfl hb127 .here fun F128 hF129 hz130 => ?_
 replace g23 := g23.mono hF129
 have hsl131 := n02_box2 hz130
 refine At rfl rfl (Ap rfl <| Ab) (by first | rfl | decide) ?_
 refine Bw rfl (Bc bd_25 A0 (.cons (Al rfl <| Ab) (.cons (Ab) .nil)) (Ei g23 hsl131) (fun _ _ h => h)) ?_
 refine Aa rfl (A6 (Ap rfl <| Al rfl <| Ab) (by first | rfl | decide) (Ab)) ?_
 refine Aa rfl (Ae (Ab)) ?_
 refine Ah <| Ad <| A5 <| Ax rfl (.tmp (Ab) .nil) ?_
 show _ = _
 first | rfl | decide
end Go.Proofs.Ytaikojfonleccaa
namespace Go.Proofs.Ytaikojfonleccaa
open Go.RowKit
theorem bd_22 : Body Try.prog 22 := Bq (by kernel_rfl)
theorem bd_32 : Body Try.prog 32 := Bq (by kernel_rfl)
theorem bd_34 : Body Try.prog 34 := Bq (by kernel_rfl)
set_option maxRecDepth 100000 in
theorem ringsLaw_ok {F : Heap} {vs vb vl vn vd : Value} {s : Sale} (hr : SaleR F vs vb vl vn vd s) {ve : Value} {l : List Ent} (he : Sl F ve 4 Ent.enc l) : Ok Try.prog 5 [.agg #[vs, .int .i64 s.premium, .int .i64 s.fee, .int .i64 s.days, vb, vl, vn, vd], ve].toArray F fun u _ => u = .bool true := by
 refine Ok.intro Try.func5 rfl Try.ntmps5 rfl fun w0 => ?_
 refine Ag <| Ai fun ds => Bm rfl (B9 (Ak rfl) rfl fun b1 hb1 nb1 => ?_)
 refine Aa rfl (Ae Ac) ?_
 refine Ah <| Ad <| Ag <| Ai fun ds => Aa rfl (Bg B8 (Al rfl <| Ab) rfl rfl (Bl 0 rfl)) ?_
 refine Aa rfl (Af (Ap rfl <| Al rfl <| Ak rfl)) ?_
 refine Bm rfl (Ck bd_28 A0 (.cons (Al rfl <| Ab) (.cons (Ab) .nil)) (Fi hr he) fun v2 F3 hr4 hF5 => ?_)
 replace hr := hr.mono hF5
 replace he := he.mono hF5
 obtain ⟨hq1_, rfl, hq1⟩ := hr4
 refine Aa rfl (Af (Ab)) ?_
 refine Aa rfl (A2 (Ab) rfl) ?_
 refine Aa rfl (A2 (Al rfl <| Ab) rfl) ?_
 refine Aa rfl (Ae (Al rfl <| Ab)) ?_
 refine Aa rfl (Ae (Al rfl <| Ab)) ?_
 refine Ah <| Ad <| Ag <| Ai fun ds => Aa rfl (Bg B8 (A9 rfl <| Al rfl <| Ab) rfl rfl (Bl 0 rfl)) ?_
 refine Aa rfl (Af (A9 rfl <| Ap rfl <| Al rfl <| Ak rfl)) ?_
 refine Bm rfl (Ck bd_29 A0 (.cons (Al rfl <| Ab) (.cons (Ab) .nil)) (refRings_ok hr he) fun v6 F7 hr8 hF9 => ?_)
 replace hr := hr.mono hF9
 replace he := he.mono hF9
 replace hq1 := hq1.mono hF9
 obtain ⟨hq2_, rfl, hq2⟩ := hr8
 refine Aa rfl (Af (Ab)) ?_
 refine Aa rfl (A2 (Ab) rfl) ?_
 refine Aa rfl (A2 (Al rfl <| Ab) rfl) ?_
 refine Aa rfl (Ae (Al rfl <| Ab)) ?_
 refine Aa rfl (Ae (Al rfl <| Ab)) ?_
 refine Ah <| Ad <| Ag <| Ag <| Ai fun ds => Aa rfl (Af (A9 rfl <| Al rfl <| Ab)) ?_
 refine Aa rfl (Af (Ap rfl <| Ab)) ?_
 refine Bw rfl (Bc bd_30 A0 (.cons (Al rfl <| Ab) (.cons (Ab) .nil)) (alike_ok hq1 hq2) (fun _ _ h => h)) ?_
 refine Aa rfl (Cu (Ab)) ?_
 refine Aa rfl (Af (Ab)) ?_
 refine At rfl rfl (Ab) (by simp) ?_
 refine Aa rfl (Af (A9 rfl <| Ay rfl <| Al rfl <| Ab)) ?_
 refine At rfl rfl (Al rfl <| Ab) (by simp) ?_
 refine Aa rfl (Af (Ay rfl <| Ap rfl <| Ab)) ?_
 refine At rfl rfl (Ap rfl <| Ab) (by simp) ?_
 refine Aa rfl (B6 (Al rfl <| Ab) (Ab)) ?_
 refine Aa rfl (A8 (Ap rfl <| Al rfl <| Ab) (by simp) (Ab)) ?_
 refine Ah <| Ad <| Am (Ab) (by simp) ?_
 refine Aw <| Ad <| Ag <| Ai fun ds => Aa rfl (Bg B8 (Ba rfl <| A9 rfl <| Ap rfl <| Ab) rfl rfl (Bl 0 rfl)) ?_
 refine Aa rfl (Af (Ba rfl <| A9 rfl <| Ay rfl <| Ak rfl)) ?_
 refine Bm rfl (Ck bd_31 A0 (.cons (Al rfl <| Ab) (.cons (Ab) .nil)) (members_ok hr he) fun v10 F11 hr12 hF13 => ?_)
 replace hr := hr.mono hF13
 replace he := he.mono hF13
 obtain ⟨hq3_, hq4_, rfl, hq3, hq4⟩ := hr12
 refine Aa rfl (Af (Ab)) ?_
 refine Aa rfl (A2 (Ab) rfl) ?_
 refine Aa rfl (A2 (Al rfl <| Ab) rfl) ?_
 refine Aa rfl (A2 (Ap rfl <| Ab) rfl) ?_
 refine Aa rfl (Ae (Ap rfl <| Ab)) ?_
 refine Aa rfl (Ae (Ap rfl <| Ab)) ?_
 refine Aa rfl (Ae (Ap rfl <| Ab)) ?_
 refine Ah <| Ad <| Ag <| Ai fun ds => Aa rfl (Bg B8 (Bo rfl <| Ay rfl <| Ab) rfl rfl (Bl 0 rfl)) ?_
 refine Aa rfl (Af (Bo rfl <| Ay rfl <| Ap rfl <| Ak rfl)) ?_
 refine Bm rfl (Ck bd_32 A0 (.cons (Al rfl <| Ab) (.cons (Ab) .nil)) (refMembers_ok hr he) fun v14 F15 hr16 hF17 => ?_)
 replace hr := hr.mono hF17
 replace he := he.mono hF17
 replace hq3 := hq3.mono hF17
 replace hq4 := hq4.mono hF17
 obtain ⟨hq5_, hq6_, rfl, hq5, hq6⟩ := hr16
 refine Aa rfl (Af (Ab)) ?_
 refine Aa rfl (A2 (Ab) rfl) ?_
 refine Aa rfl (A2 (Al rfl <| Ab) rfl) ?_
 refine Aa rfl (A2 (Ap rfl <| Ab) rfl) ?_
 refine Aa rfl (Ae (Ap rfl <| Ab)) ?_
 refine Aa rfl (Ae (Ap rfl <| Ab)) ?_
 refine Aa rfl (Ae (Ap rfl <| Ab)) ?_
 refine Ah <| Ad <| Ag <| Ag <| Ai fun ds => Aa rfl (Af (A9 rfl <| Ay rfl <| Ab)) ?_
 refine Aa rfl (Af (Ap rfl <| Al rfl <| Ab)) ?_
 refine Bw rfl (Bc bd_25 A0 (.cons (Al rfl <| Ab) (.cons (Ab) .nil)) (Ei hq3 hq5) (fun _ _ h => h)) ?_
 refine Aa rfl (Cu (Ab)) ?_
 refine Aa rfl (Af (Ab)) ?_
 refine At rfl rfl (Ab) (by simp) ?_
 refine Aa rfl (Af (Ba rfl <| Ab)) ?_
 refine At rfl rfl (Al rfl <| Ab) (by simp) ?_
 refine Aa rfl (Af (Ay rfl <| Ap rfl <| Al rfl <| Ab)) ?_
 refine At rfl rfl (Ap rfl <| Ab) (by simp) ?_
 refine Bw rfl (Bc bd_25 A0 (.cons (Al rfl <| Ab) (.cons (Ab) .nil)) (Ei hq4 hq6) (fun _ _ h => h)) ?_
 refine At rfl rfl (Ap rfl <| Al rfl <| Ab) (by simp) ?_
 refine Aa rfl (Cu (Ab)) ?_
 refine Aa rfl (A8 (Ay rfl <| Ab) (by simp) (Ab)) ?_
 refine Aa rfl (Af (Ab)) ?_
 refine At rfl rfl (Ab) (by simp) ?_
 refine Aa rfl (Af (Ba rfl <| Ay rfl <| Al rfl <| Ab)) ?_
 refine At rfl rfl (Al rfl <| Ab) (by simp) ?_
 refine Aa rfl (Af (A9 rfl <| Ay rfl <| Ab)) ?_
 refine At rfl rfl (Ap rfl <| Ab) (by simp) ?_
 refine Aa rfl (B6 (Al rfl <| Ab) (Ab)) ?_
 refine Aa rfl (A8 (Ap rfl <| Al rfl <| Ab) (by simp) (Ab)) ?_
 refine Ah <| Ad <| Am (Ab) (by simp) ?_
 refine Aw <| Ad <| Ag <| Ai fun ds => Aa rfl (Bg B8 (Bo rfl <| Ba rfl <| A9 rfl <| Ay rfl <| Al rfl <| Ab) rfl rfl (Bl 0 rfl)) ?_
 refine Aa rfl (Af (Bo rfl <| Ba rfl <| A9 rfl <| Ay rfl <| Ap rfl <| Al rfl <| Ak rfl)) ?_
 refine Bm rfl (Ck bd_33 A0 (.cons (Al rfl <| Ab) (.cons (Ab) .nil)) (wrong_ok hr he) fun v18 F19 hr20 hF21 => ?_)
 replace hr := hr.mono hF21
 replace he := he.mono hF21
 obtain ⟨hq7_, rfl, hq7⟩ := hr20
 refine Aa rfl (Af (Ab)) ?_
 refine Aa rfl (A2 (Ab) rfl) ?_
 refine Aa rfl (A2 (Al rfl <| Ab) rfl) ?_
 refine Aa rfl (Ae (Al rfl <| Ab)) ?_
 refine Aa rfl (Ae (Al rfl <| Ab)) ?_
 refine Ah <| Ad <| Ag <| Ai fun ds => Aa rfl (Bg B8 (Bo rfl <| Bo rfl <| Ay rfl <| Al rfl <| Ab) rfl rfl (Bl 0 rfl)) ?_
 refine Aa rfl (Af (Bo rfl <| Bo rfl <| Ay rfl <| Ap rfl <| Al rfl <| Ak rfl)) ?_
 refine Bm rfl (Ck bd_34 A0 (.cons (Al rfl <| Ab) (.cons (Ab) .nil)) (refWrong_ok hr he) fun v22 F23 hr24 hF25 => ?_)
 replace hq7 := hq7.mono hF25
 obtain ⟨hq8_, rfl, hq8⟩ := hr24
 refine Aa rfl (Af (Ab)) ?_
 refine Aa rfl (A2 (Ab) rfl) ?_
 refine Aa rfl (A2 (Al rfl <| Ab) rfl) ?_
 refine Aa rfl (Ae (Al rfl <| Ab)) ?_
 refine Aa rfl (Ae (Al rfl <| Ab)) ?_
 refine Ah <| Ad <| Ag <| Ai fun ds => Aa rfl (Af (A9 rfl <| Al rfl <| Ab)) ?_
 refine Aa rfl (Af (Ap rfl <| Ab)) ?_
 refine Bw rfl (Bc bd_25 A0 (.cons (Al rfl <| Ab) (.cons (Ab) .nil)) (Ei hq7 hq8) (fun _ _ h => h)) ?_
 refine Aa rfl (Af (Ab)) ?_
 refine At rfl rfl (Ab) (by simp) ?_
 refine Aa rfl (Af (A9 rfl <| Ay rfl <| Ab)) ?_
 refine At rfl rfl (Al rfl <| Ab) (by simp) ?_
 refine Aa rfl (Af (Ay rfl <| Al rfl <| Ab)) ?_
 refine At rfl rfl (Ap rfl <| Ab) (by simp) ?_
 refine Aa rfl (B7 (Al rfl <| Ab) (Ab)) ?_
 refine Aa rfl (A6 (Ap rfl <| Al rfl <| Ab) (by simp) (Ab)) ?_
 refine Aa rfl (Af (Ab)) ?_
 refine At rfl rfl (Ab) (by simp) ?_
 refine Bw rfl (Bc bd_22 A0 .nil awake_ok (fun _ _ h => h)) ?_
 refine Aa rfl (A6 (Al rfl <| Ab) (by simp) (Ab)) ?_
 refine Aa rfl (Ae (Ab)) ?_
 refine Ah <| Ad <| A5 <| Ax rfl (.tmp (Ab) .nil) ?_
 rfl
end Go.Proofs.Ytaikojfonleccaa
namespace Go.Proofs.Ytaikojfonleccaa
open Go.ChangeShapes Go.WideShapes Go.ChangeAt Go.RowKit
set_option maxRecDepth 100000 in
theorem saleRingsLifted (os : Os) (started : os.Started) (H : Type) (enc : TypeId × Value → H) :
   ReturnsInHanded {} Try.checked os 5 .any (Rows.saleRingsSpec.pre6 enc Try.prog Try.f5 Rows.saleRingsRow.domain false) (Rows.saleRingsSpec.post enc Try.prog Try.f5 false true false false) := by
 refine returnsInHanded_of_change_sized (C := Try.checked) ownKnob0 started (by kernel_rfl) Try.func5
   (ChangeSpec.witness6 (enc := enc) (C := Try.checked) false ⟨#[], #[.agg #[.slice none 0 0, .int .i64 0, .int .i64 0, .int .i64 0, .slice none 0 0, .slice none 0 0, .slice none 0 0, .slice none 0 0], .slice none 0 0], []⟩ 8 (by kernel_rfl) (by kernel_rfl) (by kernel_rfl) (by kernel_rfl)) ?_
 intro W base args ds gs before hval0 hW hcnd hsz _
 have hval : ∀ (j : Nat) t v, Try.f5.params[j]? = some t → args[j]? = some v → Value.okWide Try.prog W .any base t v := hval0
 have hW' := hW
 obtain ⟨p, q, hA0, hV, rfl, hfz, hnd⟩ := hW
 have hA : DataW.TrodAll enc Try.prog W 0 (fun _ => true) true Try.f5.params.toList args.toList ds p := hA0
 rw [Try.params5] at hA hval
 obtain ⟨v0, vs0, d0, ds0, p0, q0, hargs, rfl, rfl, h0, r0⟩ := trodAll_cons hA
 obtain ⟨v1, vs1, d1, ds1, p1, q1, rfl, rfl, rfl, h1, r1⟩ := trodAll_cons r0
 obtain ⟨rfl, rfl, rfl⟩ := trodAll_nil r1
 obtain rfl : args = #[v0, v1] := by cases args; simp_all
 obtain ⟨rfl, rfl⟩ := trodVars_none hV
 have hsz' : (DataW.weightsEach Try.prog (Try.f5.params.toList ++ []) ([d0, d1] ++ [])).all (· ≤ reachBytes) = true := hsz
 rw [Try.params5] at hsz'
 have k0 := h0
 have lt0 : ∀ x ∈ p0, x.block < W.heap.size := by obtain ⟨m, hm⟩ := k0; exact DataW.trod_lt m _ _ _ hm
 have k1 := h1
 have lt1 : ∀ x ∈ p1, x.block < W.heap.size := by obtain ⟨m, hm⟩ := k1; exact DataW.trod_lt m _ _ _ hm
 obtain ⟨vs, vb, vl, vn, vd, s, rfl, hr⟩ := arg_sale (hval 0 27 v0 rfl rfl) h0 (weights_at hsz' (j := 0) rfl rfl)
 obtain ⟨l, he, -⟩ := arg_ents (hval 1 47 v1 rfl rfl) h1 (weights_at hsz' (j := 1) rfl rfl)
 clear hA0 hval0
 refine (Ok.law (ringsLaw_ok hr he)).mono fun e W' ⟨he, bel⟩ => ?_
 subst he
 exact ⟨_, rfl, _, _, _, [], _, [], hW', trodAll_mk1 (shut_bool Try.underlying4 _), (trodAll_cons_mk (Below.trod laidOut (by kernel_rfl) (of_decide_eq_true (by kernel_rfl)) k0 bel lt0) (trodAll_cons_mk (Below.trod laidOut (by kernel_rfl) (of_decide_eq_true (by kernel_rfl)) k1 bel lt1) trodAll_mk0)), rfl, bel.frame _, fun h => by cases h⟩
theorem saleRings : Rows.SaleRingsSaid :=
 OpenClaim.holds_of_wide 5 Try.f5 rfl rfl rfl rfl rfl rfl rfl ⟨rfl, rfl, rfl, rfl, rfl⟩ rfl rfl rfl rfl rfl (by kernel_rfl) Try.func5 (by kernel_rfl)
   (of_decide_eq_true (by kernel_rfl)) (by unfold Func.isWrapper; first | (rw [if_pos (by decide +kernel)]; kernel_rfl) | (rw [if_neg (by decide +kernel)]; exact ⟨rfl, rfl⟩))
   (fun os started H enc _ => saleRingsLifted os started H enc)
#print axioms saleRings
end Go.Proofs.Ytaikojfonleccaa
