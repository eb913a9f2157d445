/-
  SaleAccounted returns true of any sale, ring and returns by bits and day, and leaves what it is handed as it was. No conditions.
-/
import Derived.Test.YtaikojfonleccaaPae
namespace Go.Proofs.Ytaikojfonleccaa
open Go.RowKit
theorem bd_17 : Body Try.prog 17 := Bs (by kernel_rfl)
theorem bd_19 : Body Try.prog 19 := Bs (by kernel_rfl)
theorem bd_21 : Body Try.prog 21 := Bs (by kernel_rfl)
theorem bd_23 : Body Try.prog 23 := Bs (by kernel_rfl)
theorem bd_26 : Body Try.prog 26 := Bs (by kernel_rfl)
theorem bd_30 : Body Try.prog 30 := Bs (by kernel_rfl)
theorem bd_31 : Body Try.prog 31 := Bs (by kernel_rfl)
theorem bd_33 : Body Try.prog 33 := Bs (by kernel_rfl)
theorem bd_35 : Body Try.prog 35 := Bs (by kernel_rfl)
theorem bd_36 : Body Try.prog 36 := Bs (by kernel_rfl)
theorem bd_37 : Body Try.prog 37 := Bs (by kernel_rfl)
theorem bt_77 : BuildT Try.prog 77 [.int .i64 0, .int .i64 0] [(0, 1), (1, 1)] := Ep zr_77 (by kernel_rfl) (by decide)
theorem n13_box2 {F : Heap} {b T : Nat} (h : F b = some (bx T [.int .i64 1, .int .i64 3])) : Nats F (.slice (some ⟨b, 0, none⟩) 2 2) [1, 3] :=
 Dw (xs := ([1, 3] : List Nat)) h rfl rfl (fun _ => rfl) (by decide)
theorem n013_box3 {F : Heap} {b T : Nat} (h : F b = some (bx T [.int .i64 0, .int .i64 1, .int .i64 3])) : Nats F (.slice (some ⟨b, 0, none⟩) 3 3) [0, 1, 3] :=
 Dw (xs := ([0, 1, 3] : List Nat)) h rfl rfl (fun _ => rfl) (by decide)
theorem n123_box3 {F : Heap} {b T : Nat} (h : F b = some (bx T [.int .i64 1, .int .i64 2, .int .i64 3])) : Nats F (.slice (some ⟨b, 0, none⟩) 3 3) [1, 2, 3] :=
 Dw (xs := ([1, 2, 3] : List Nat)) h rfl rfl (fun _ => rfl) (by decide)
theorem n02_box2 {F : Heap} {b T : Nat} (h : F b = some (bx T [.int .i64 0, .int .i64 2])) : Nats F (.slice (some ⟨b, 0, none⟩) 2 2) [0, 2] :=
 Dw (xs := ([0, 2] : List Nat)) h rfl rfl (fun _ => rfl) (by decide)
theorem n0123_box4 {F : Heap} {b T : Nat} (h : F b = some (bx T [.int .i64 0, .int .i64 1, .int .i64 2, .int .i64 3])) : Nats F (.slice (some ⟨b, 0, none⟩) 4 4) [0, 1, 2, 3] :=
 Dw (xs := ([0, 1, 2, 3] : List Nat)) h rfl rfl (fun _ => rfl) (by decide)
theorem entA_box2 {F : Heap} {b T : Nat} (h : F b = some (bx T [.int .i64 0, .bool true, .int .i64 60, .int .i64 60, .int .i64 1, .bool true, .int .i64 48, .int .i64 48])) : Sl F (.slice (some ⟨b, 0, none⟩) 2 2) 4 Ent.enc [ent1 0 60 60, ent1 1 48 48] :=
 Dw (xs := [ent1 0 60 60, ent1 1 48 48]) h rfl rfl (fun _ => rfl) (by decide)
theorem entB_box1 {F : Heap} {b T : Nat} (h : F b = some (bx T [.int .i64 0, .bool true, .int .i64 20, .int .i64 50])) : Sl F (.slice (some ⟨b, 0, none⟩) 1 1) 4 Ent.enc [ent1 0 20 50] :=
 Dw (xs := [ent1 0 20 50]) h rfl rfl (fun _ => rfl) (by decide)
theorem entC_box3 {F : Heap} {b T : Nat} (h : F b = some (bx T [.int .i64 0, .bool true, .int .i64 45, .int .i64 45, .int .i64 1, .bool true, .int .i64 48, .int .i64 48, .int .i64 2, .bool true, .int .i64 30, .int .i64 30])) : Sl F (.slice (some ⟨b, 0, none⟩) 3 3) 4 Ent.enc [ent1 0 45 45, ent1 1 48 48, ent1 2 30 30] :=
 Dw (xs := [ent1 0 45 45, ent1 1 48 48, ent1 2 30 30]) h rfl rfl (fun _ => rfl) (by decide)
theorem entD_box1 {F : Heap} {b T : Nat} (h : F b = some (bx T [.int .i64 2, .bool true, .int .i64 30, .int .i64 30])) : Sl F (.slice (some ⟨b, 0, none⟩) 1 1) 4 Ent.enc [ent1 2 30 30] :=
 Dw (xs := [ent1 2 30 30]) h rfl rfl (fun _ => rfl) (by decide)
theorem resA_box3 {F : Heap} {b T : Nat} (h : F b = some (bx T [.int .i64 (0), .int .i64 60, .int .i64 (1), .int .i64 73, .int .i64 (-1), .int .i64 0])) : Sl F (.slice (some ⟨b, 0, none⟩) 3 3) 2 Res.enc [⟨0, 60⟩, ⟨1, 73⟩, ⟨-1, 0⟩] :=
 Dw (xs := ([⟨0, 60⟩, ⟨1, 73⟩, ⟨-1, 0⟩] : List Res)) h rfl rfl (fun _ => rfl) (by decide)
theorem resB_box3 {F : Heap} {b T : Nat} (h : F b = some (bx T [.int .i64 (0), .int .i64 20, .int .i64 (1), .int .i64 73, .int .i64 (-1), .int .i64 0])) : Sl F (.slice (some ⟨b, 0, none⟩) 3 3) 2 Res.enc [⟨0, 20⟩, ⟨1, 73⟩, ⟨-1, 0⟩] :=
 Dw (xs := ([⟨0, 20⟩, ⟨1, 73⟩, ⟨-1, 0⟩] : List Res)) h rfl rfl (fun _ => rfl) (by decide)
theorem backA_box1 {F : Heap} {b T : Nat} (h : F b = some (bx T [.int .i64 0, .int .i64 14])) : Sl F (.slice (some ⟨b, 0, none⟩) 1 1) 2 Back.enc (back1 14) :=
 Dw (xs := back1 14) h rfl rfl (fun _ => rfl) (by decide)
theorem backB_box1 {F : Heap} {b T : Nat} (h : F b = some (bx T [.int .i64 0, .int .i64 15])) : Sl F (.slice (some ⟨b, 0, none⟩) 1 1) 2 Back.enc (back1 15) :=
 Dw (xs := back1 15) h rfl rfl (fun _ => rfl) (by decide)
theorem ints_box3 {F : Heap} {b T : Nat} {x y z : Int} (h : F b = some (bx T [.int .i64 x, .int .i64 y, .int .i64 z])) : Ints F (.slice (some ⟨b, 0, none⟩) 3 3) [x, y, z] :=
 Dw (xs := [x, y, z]) h rfl rfl (fun _ => rfl) (by decide)
theorem ints_box4 {F : Heap} {b T : Nat} {x y z w : Int} (h : F b = some (bx T [.int .i64 x, .int .i64 y, .int .i64 z, .int .i64 w])) : Ints F (.slice (some ⟨b, 0, none⟩) 4 4) [x, y, z, w] :=
 Dw (xs := [x, y, z, w]) h rfl rfl (fun _ => rfl) (by decide)
def valE (v : Value) : List Value := [v]
theorem vals_box3 {F : Heap} {b T : Nat} {x y z : Value} (h : F b = some (bx T [x, y, z])) : Sl F (.slice (some ⟨b, 0, none⟩) 3 3) 1 valE [x, y, z] :=
 Dw (xs := [x, y, z]) h rfl rfl (fun _ => rfl) (by decide)
theorem Sl.val {F : Heap} {v : Value} {ps : List (Value × List Nat)} (h : Sl F v 1 valE (ps.map (·.1))) : Sl F v 1 slE ps := by
 refine ⟨by simpa using h.plain, fun i hi j u hu => h.cells i (by simpa using hi) j u ?_⟩
 simpa [valE, slE] using hu
theorem lsts3 {F : Heap} {v x y z : Value} {a b c : List Nat} (h : Sl F v 1 valE [x, y, z]) (h1 : Nats F x a) (h2 : Nats F y b) (h3 : Nats F z c) : Lsts F v [a, b, c] :=
 ⟨[(x, a), (y, b), (z, c)], Sl.val h, by simp [h1, h2, h3], rfl⟩
def tupA (v : Value) (i : Nat) : Value := match v with
 | .tuple a => a.toList[i]?.getD v
 | _ => v
theorem LstsR.ans {F : Heap} {u : Value} {p q : List (List Nat) × Int} (h : LstsR F u p) (e : p = q) : u = .tuple #[tupA u 0, .int .i64 q.2] ∧ Lsts F (tupA u 0) q.1 := by
 subst e; obtain ⟨v, rfl, h⟩ := h; exact ⟨rfl, h⟩
theorem NatsR.ans {F : Heap} {u : Value} {p q : List Nat × Int} (h : NatsR F u p) (e : p = q) : u = .tuple #[tupA u 0, .int .i64 q.2] ∧ Nats F (tupA u 0) q.1 := by
 subst e; obtain ⟨v, rfl, h⟩ := h; exact ⟨rfl, h⟩
theorem MemR.ans {F : Heap} {u : Value} {p q : Mem} (h : MemR F u p) (e : p = q) : u = .tuple #[tupA u 0, tupA u 1, .int .i64 q.2.2] ∧ Nats F (tupA u 0) q.1 ∧ Nats F (tupA u 1) q.2.1 := by
 subst e; obtain ⟨v, w, rfl, h1, h2⟩ := h; exact ⟨rfl, h1, h2⟩
set_option maxRecDepth 100000 in
theorem awake_ok {F : Heap} : Ok Try.prog 22 [].toArray F fun u _ => u = .bool true := by
 refine Ok.intro Try.func22 rfl Try.ntmps22 rfl fun w0 => ?_
 refine Af <| Ai fun ds => Aa rfl (Ad Ab) ?_
 refine Ah <| Ae <| Af <| Ai fun ds => Bl rfl (Ct bd_35 A1 .nil sale_ok fun v1 F2 hr3 hF4 => ?_)
 obtain ⟨vs, vb, vl, vn, vd, rfl, hr⟩ := hr3
 refine Bl rfl (B7 zr_27 rfl fun b5 hb5 nb5 => ?_)
 refine Ck (Cb sz_27 (Ac) (Al rfl <| Ac) (i := 0) rfl rfl rfl rfl hr.ones (.here) ?_)
 refine Ah <| Ae <| Af <| Ai fun ds => Aa rfl (Bj Cd (Ac) rfl rfl (Bo 0 rfl)) ?_
 refine Bv rfl (Ba bd_17 A1 (.cons (Ac) (.cons Ab .nil)) (next_ok hr 50) (fun _ _ h => h.trans (show _ = Value.tuple #[.int .i64 60, .int .i64 0] by rw [ev_n1]))) ?_
 refine Aa rfl (Ag (Ac)) ?_
 refine Aa rfl (Ay (Ac) rfl) ?_
 refine Aa rfl (Ay (Al rfl <| Ac) rfl) ?_
 refine Aa rfl (Ad (Al rfl <| Ac)) ?_
 refine Aa rfl (Ad (Al rfl <| Ac)) ?_
 refine Ah <| Ae <| Af <| Ai fun ds => Aa rfl (Bj Cd (A0 rfl <| Ap rfl <| Al rfl <| Ac) rfl rfl (Bo 0 rfl)) ?_
 refine Bl rfl (Ct bd_19 A1 (.cons (Ac) (.cons Ab .nil)) ((sellTop_ok hr Sl.nil).mono fun u F2 _ h => (by rw [ev_s1] at h; exact h : ∃ ws0, u = .tuple #[ws0, .int .i64 0] ∧ Sl F2 ws0 2 Res.enc [⟨0, 60⟩, ⟨1, 73⟩, ⟨-1, 0⟩])) fun v6 F7 hr8 hF9 => ?_)
 replace hr := hr.mono hF9
 obtain ⟨hq1_, rfl, hq1⟩ := hr8
 refine Aa rfl (Ag (Ac)) ?_
 refine Aa rfl (Ay (Ac) rfl) ?_
 refine Aa rfl (Ay (Al rfl <| Ac) rfl) ?_
 refine Aa rfl (Ad (Al rfl <| Ac)) ?_
 refine Aa rfl (Ad (Al rfl <| Ac)) ?_
 refine Ah <| Ae <| Af <| Ai fun ds => Aa rfl (Bj Cd (A9 rfl <| A0 rfl <| Ap rfl <| Ac) rfl rfl (Bo 0 rfl)) ?_
 refine Bl rfl (Bz Bn C6 rfl (.cons Ab (.cons Ab (.cons Ab .nil))) rfl rfl (by decide) (by simp [Value.oneCell']) fun b10 hb10 nb10 => ?_)
 refine Br (i := 0) rfl hb10 .here fun F11 hF12 hz13 => ?_
 replace hr := hr.mono hF12
 replace hq1 := hq1.mono hF12
 have hsl14 := ints_box3 hz13
 refine Bl rfl (Ct bd_19 A1 (.cons (Al rfl <| Ac) (.cons (Ac) .nil)) ((sellTop_ok hr hsl14).mono fun u F2 _ h => (by rw [ev_s2] at h; exact h : ∃ ws0, u = .tuple #[ws0, .int .i64 0] ∧ Sl F2 ws0 2 Res.enc [⟨0, 20⟩, ⟨1, 73⟩, ⟨-1, 0⟩])) fun v15 F16 hr17 hF18 => ?_)
 replace hr := hr.mono hF18
 replace hq1 := hq1.mono hF18
 obtain ⟨hq2_, rfl, hq2⟩ := hr17
 refine Aa rfl (Ag (Ac)) ?_
 refine Aa rfl (Ay (Ac) rfl) ?_
 refine Aa rfl (Ay (Al rfl <| Ac) rfl) ?_
 refine Aa rfl (Ad (Al rfl <| Ac)) ?_
 refine Aa rfl (Ad (Al rfl <| Ac)) ?_
 refine Ah <| Ae <| Af <| Ai fun ds => Aa rfl (Bj Cd (A7 rfl <| A0 rfl <| Ap rfl <| Ac) rfl rfl (Bo 0 rfl)) ?_
 refine Bl rfl (Bz Bn C6 rfl (.cons Ab (.cons Ab .nil)) rfl rfl (by decide) (by simp [Value.oneCell']) fun b19 hb19 nb19 => ?_)
 refine Br (i := 0) rfl hb19 .here fun F20 hF21 hz22 => ?_
 replace hr := hr.mono hF21
 replace hq1 := hq1.mono hF21
 replace hq2 := hq2.mono hF21
 have hsl23 := Dr hz22
 refine Aa rfl (Dd bt_77 (.cons Ab rfl (.cons Ab rfl .nil)) (.cons rfl rfl (Nat.le_of_ble_eq_true rfl) (.cons (.here) .nil) (.cons rfl rfl (Nat.le_of_ble_eq_true rfl) (.cons (.next <| .here) .nil) .nil))) ?_
 refine Bl rfl (C8 (offs := [(0, 2)]) (zl := [.int .i64 0, .int .i64 0]) D9 zr_77 rfl (.cons (Ac) rfl .nil) (by intro i p h; rcases i with _ | i <;> simp at h <;> subst h <;> rfl) (.cons rfl rfl (Nat.le_of_ble_eq_true rfl) (.cons (.here) (.cons (.next <| .here) .nil)) .nil) (by decide) (by decide) fun b24 hb24 nb24 => ?_)
 refine Br (i := 0) rfl hb24 .here fun F25 hF26 hz27 => ?_
 replace hr := hr.mono hF26
 replace hq1 := hq1.mono hF26
 replace hq2 := hq2.mono hF26
 replace hsl23 := hsl23.mono hF26
 have hsl28 := backA_box1 hz27
 refine Bl rfl (Ct bd_23 A1 (.cons (Ap rfl <| Al rfl <| Ac) (.cons (Ap rfl <| Ac) (.cons (Ac) .nil))) ((Ej hr hsl23 hsl28).mono fun u F2 _ h => (by rw [ev_a1] at h; exact h : ∃ ws0 ws1, u = .tuple #[ws0, ws1, .int .i64 12, .int .i64 0] ∧ Ints F2 ws0 [0, 53, 0, 0] ∧ Ints F2 ws1 [41])) fun v29 F30 hr31 hF32 => ?_)
 replace hr := hr.mono hF32
 replace hq1 := hq1.mono hF32
 replace hq2 := hq2.mono hF32
 obtain ⟨hq3_, hq4_, rfl, hq3, hq4⟩ := hr31
 refine Aa rfl (Ag (Ac)) ?_
 refine Aa rfl (Ay (Ac) rfl) ?_
 refine Aa rfl (Ay (Al rfl <| Ac) rfl) ?_
 refine Aa rfl (Ay (Ap rfl <| Ac) rfl) ?_
 refine Aa rfl (Ay (Ap rfl <| Al rfl <| Ac) rfl) ?_
 refine Aa rfl (Ad (Ap rfl <| Al rfl <| Ac)) ?_
 refine Aa rfl (Ad (Ap rfl <| Al rfl <| Ac)) ?_
 refine Aa rfl (Ad (Ap rfl <| Al rfl <| Ac)) ?_
 refine Aa rfl (Ad (Ap rfl <| Al rfl <| Ac)) ?_
 refine Ah <| Ae <| Af <| Ai fun ds => Aa rfl (Bj Cd (Bp rfl <| A0 rfl <| Ac) rfl rfl (Bo 0 rfl)) ?_
 refine Bl rfl (Bz Bn C6 rfl (.cons Ab (.cons Ab .nil)) rfl rfl (by decide) (by simp [Value.oneCell']) fun b33 hb33 nb33 => ?_)
 refine Br (i := 0) rfl hb33 .here fun F34 hF35 hz36 => ?_
 replace hr := hr.mono hF35
 replace hq1 := hq1.mono hF35
 replace hq2 := hq2.mono hF35
 replace hq3 := hq3.mono hF35
 replace hq4 := hq4.mono hF35
 have hsl37 := Dr hz36
 refine Aa rfl (Dd bt_77 (.cons Ab rfl (.cons Ab rfl .nil)) (.cons rfl rfl (Nat.le_of_ble_eq_true rfl) (.cons (.here) .nil) (.cons rfl rfl (Nat.le_of_ble_eq_true rfl) (.cons (.next <| .here) .nil) .nil))) ?_
 refine Bl rfl (C8 (offs := [(0, 2)]) (zl := [.int .i64 0, .int .i64 0]) D9 zr_77 rfl (.cons (Ac) rfl .nil) (by intro i p h; rcases i with _ | i <;> simp at h <;> subst h <;> rfl) (.cons rfl rfl (Nat.le_of_ble_eq_true rfl) (.cons (.here) (.cons (.next <| .here) .nil)) .nil) (by decide) (by decide) fun b38 hb38 nb38 => ?_)
 refine Br (i := 0) rfl hb38 .here fun F39 hF40 hz41 => ?_
 replace hr := hr.mono hF40
 replace hq1 := hq1.mono hF40
 replace hq2 := hq2.mono hF40
 replace hq3 := hq3.mono hF40
 replace hq4 := hq4.mono hF40
 replace hsl37 := hsl37.mono hF40
 have hsl42 := backB_box1 hz41
 refine Bl rfl (Ct bd_23 A1 (.cons (Ap rfl <| Al rfl <| Ac) (.cons (Ap rfl <| Ac) (.cons (Ac) .nil))) ((Ej hr hsl37 hsl42).mono fun u F2 _ h => (by rw [ev_a2] at h; exact h : ∃ ws0 ws1, u = .tuple #[ws0, ws1, .int .i64 0, .int .i64 7] ∧ Ints F2 ws0 [] ∧ Ints F2 ws1 [])) fun v43 F44 hr45 hF46 => ?_)
 replace hr := hr.mono hF46
 replace hq1 := hq1.mono hF46
 replace hq2 := hq2.mono hF46
 replace hq3 := hq3.mono hF46
 replace hq4 := hq4.mono hF46
 obtain ⟨hq5_, hq6_, rfl, hq5, hq6⟩ := hr45
 refine Aa rfl (Ag (Ac)) ?_
 refine Aa rfl (Ay (Ac) rfl) ?_
 refine Aa rfl (Ay (Al rfl <| Ac) rfl) ?_
 refine Aa rfl (Ay (Ap rfl <| Ac) rfl) ?_
 refine Aa rfl (Ay (Ap rfl <| Al rfl <| Ac) rfl) ?_
 refine Aa rfl (Ad (Ap rfl <| Al rfl <| Ac)) ?_
 refine Aa rfl (Ad (Ap rfl <| Al rfl <| Ac)) ?_
 refine Aa rfl (Ad (Ap rfl <| Al rfl <| Ac)) ?_
 refine Aa rfl (Ad (Ap rfl <| Al rfl <| Ac)) ?_
 refine Ah <| Ae <| Af <| Ai fun ds => Aa rfl (Bj Cd (Bp rfl <| A7 rfl <| Ap rfl <| Ac) rfl rfl (Bo 0 rfl)) ?_
 refine Bl rfl (Bz Bn C6 rfl (.cons Ab (.cons Ab (.cons Ab .nil))) rfl rfl (by decide) (by simp [Value.oneCell']) fun b47 hb47 nb47 => ?_)
 refine Br (i := 0) rfl hb47 .here fun F48 hF49 hz50 => ?_
 replace hr := hr.mono hF49
 replace hq1 := hq1.mono hF49
 replace hq2 := hq2.mono hF49
 replace hq3 := hq3.mono hF49
 replace hq4 := hq4.mono hF49
 have hsl51 := ints_box3 hz50
 refine Bl rfl (Ct bd_26 A1 (.cons (Al rfl <| Ac) (.cons (Ac) .nil)) ((share_ok hr hsl51).mono fun u F2 _ h => (by rw [ev_h1] at h; exact h : ∃ ws0, u = .tuple #[ws0, .int .i64 0] ∧ Ints F2 ws0 [14, 13, 13])) fun v52 F53 hr54 hF55 => ?_)
 replace hr := hr.mono hF55
 replace hq1 := hq1.mono hF55
 replace hq2 := hq2.mono hF55
 replace hq3 := hq3.mono hF55
 replace hq4 := hq4.mono hF55
 obtain ⟨hq7_, rfl, hq7⟩ := hr54
 refine Aa rfl (Ag (Ac)) ?_
 refine Aa rfl (Ay (Ac) rfl) ?_
 refine Aa rfl (Ay (Al rfl <| Ac) rfl) ?_
 refine Aa rfl (Ad (Al rfl <| Ac)) ?_
 refine Aa rfl (Ad (Al rfl <| Ac)) ?_
 refine Ah <| Ae <| Af <| WC_drawF 10 (.inl rfl) (fun _ _ h => h) (by kernel_rfl) (by kernel_rfl) false rfl ([fun F v => v = .agg #[vs, .int .i64 100, .int .i64 150, .int .i64 14, vb, vl, vn, vd], fun F v => v = .agg #[.int .i64 0, .bool true, .int .i64 60, .int .i64 60], fun F v => v = .agg #[.int .i64 1, .bool true, .int .i64 48, .int .i64 48], fun F v => Sl F v 4 Ent.enc [ent1 0 60 60, ent1 1 48 48], fun F v => v = .tuple #[tupA v 0, .int .i64 0] ∧ Lsts F (tupA v 0) [[1, 3], [0, 1, 3], [1, 2, 3]], fun F v => v = .tuple #[tupA v 0, .int .i64 0] ∧ Lsts F (tupA v 0) [[1, 3], [0, 1, 3], [1, 2, 3]], fun F v => Lsts F v [[1, 3], [0, 1, 3], [1, 2, 3]], fun F v => v = .int .i64 0, fun F v => Lsts F v [[1, 3], [0, 1, 3], [1, 2, 3]], fun F v => v = .int .i64 0]) (⟨fun F F2 v hF h => h, fun F F2 v hF h => h, fun F F2 v hF h => h, fun F F2 v hF h => h.mono hF, fun F F2 v hF h => ⟨h.1, h.2.mono hF⟩, fun F F2 v hF h => ⟨h.1, h.2.mono hF⟩, fun F F2 v hF h => h.mono hF, fun F F2 v hF h => h, fun F F2 v hF h => h.mono hF, fun F F2 v hF h => h, trivial⟩) (fun ds => ?_) (fun ds => ?_)
 ·
  refine ⟨⟨⟨⟨⟨⟨⟨⟨⟨⟨trivial, ?_⟩, ?_⟩, ?_⟩, ?_⟩, ?_⟩, ?_⟩, ?_⟩, ?_⟩, ?_⟩, ?_⟩
  ·
   intro e1 F1 hF1 he hj
   refine ⟨_, _, _, _, _, rfl, ?_⟩
   refine Bq (Bj Cd (B1 (B6 he (by kernel_rfl)) <| Bp rfl <| A7 rfl <| A9 rfl <| Ap rfl <| Ac) rfl rfl (Bo 0 rfl)).quiet ⟨_, rfl, Heap.le_refl _, rfl⟩
  ·
   intro e1 F1 hF1 he hj
   refine ⟨_, _, _, _, _, rfl, ?_⟩
   refine Bq (Ba bd_36 A1 (.cons Ab (.cons Ab (.cons Ab .nil))) (entry_ok _ _ _) (fun _ _ h => h)) ⟨_, rfl, Heap.le_refl _, rfl⟩
  ·
   intro e1 F1 hF1 he hj
   have g72 : (e1 72) = .agg #[.int .i64 0, .bool true, .int .i64 60, .int .i64 60] := hj 1 (by kernel_rfl) (by decide)
   refine ⟨_, _, _, _, _, rfl, ?_⟩
   refine Bq (Ba bd_36 A1 (.cons Ab (.cons Ab (.cons Ab .nil))) (entry_ok _ _ _) (fun _ _ h => h)) ⟨_, rfl, Heap.le_refl _, rfl⟩
  ·
   intro e1 F1 hF1 he hj
   have g72 : (e1 72) = .agg #[.int .i64 0, .bool true, .int .i64 60, .int .i64 60] := hj 1 (by kernel_rfl) (by decide)
   have g73 : (e1 73) = .agg #[.int .i64 1, .bool true, .int .i64 48, .int .i64 48] := hj 2 (by kernel_rfl) (by decide)
   refine ⟨_, _, _, _, _, rfl, ?_⟩
   refine OpX_freeze (C8 (offs := [(0, 4), (4, 4)]) (zl := [.int .i64 0, .bool false, .int .i64 0, .int .i64 0, .int .i64 0, .bool false, .int .i64 0, .int .i64 0]) sl_47 zr_60 rfl (.cons (Cx g72) rfl (.cons (Cx g73) rfl .nil)) (by intro i p h; rcases i with _ | _ | i <;> simp at h <;> subst h <;> rfl) (.cons rfl rfl (Nat.le_of_ble_eq_true rfl) (.cons (.here) (.cons (.next <| .here) (.cons (.next <| .next <| .here) (.cons (.next <| .next <| .next <| .here) .nil)))) (.cons rfl rfl (Nat.le_of_ble_eq_true rfl) (.cons (.next <| .next <| .next <| .next <| .here) (.cons (.next <| .next <| .next <| .next <| .next <| .here) (.cons (.next <| .next <| .next <| .next <| .next <| .next <| .here) (.cons (.next <| .next <| .next <| .next <| .next <| .next <| .next <| .here) .nil)))) .nil)) (by decide) (by decide) fun b hb nb => ⟨b, _, hb, rfl, fun F2 hF2 hz => ⟨F2, rfl, hF2, (entA_box2 hz)⟩⟩)
  ·
   intro e1 F1 hF1 he hj
   replace hr := hr.mono hF1
   have g71 : (e1 71) = .agg #[vs, .int .i64 100, .int .i64 150, .int .i64 14, vb, vl, vn, vd] := hj 0 (by kernel_rfl) (by decide)
   have g73 : (e1 73) = .agg #[.int .i64 1, .bool true, .int .i64 48, .int .i64 48] := hj 2 (by kernel_rfl) (by decide)
   have g74 : Sl F1 (e1 74) 4 Ent.enc [ent1 0 60 60, ent1 1 48 48] := hj 3 (by kernel_rfl) (by decide)
   refine ⟨_, _, _, _, _, rfl, ?_⟩
   refine Ct bd_28 A1 (.cons (Cx g71) (.cons (Cx rfl) .nil)) (rings_top_ok hr g74) fun v2 F2 hr hF2 => ⟨F2, rfl, hF2, (hr.ans ev_r1)⟩
  ·
   intro e1 F1 hF1 he hj
   have g75 : (e1 75) = .tuple #[tupA (e1 75) 0, .int .i64 0] ∧ Lsts F1 (tupA (e1 75) 0) [[1, 3], [0, 1, 3], [1, 2, 3]] := hj 4 (by kernel_rfl) (by decide)
   refine ⟨_, _, _, _, _, rfl, ?_⟩
   refine Bq (Ag (Cx g75.1)).quiet ⟨_, rfl, Heap.le_refl _, ⟨rfl, g75.2⟩⟩
  ·
   intro e1 F1 hF1 he hj
   have g70 : (e1 70) = .tuple #[tupA (e1 70) 0, .int .i64 0] ∧ Lsts F1 (tupA (e1 70) 0) [[1, 3], [0, 1, 3], [1, 2, 3]] := hj 5 (by kernel_rfl) (by decide)
   refine ⟨_, _, _, _, _, rfl, ?_⟩
   refine Bq (Ay (Cx g70.1) rfl).quiet ⟨_, rfl, Heap.le_refl _, g70.2⟩
  ·
   intro e1 F1 hF1 he hj
   have g70 : (e1 70) = .tuple #[tupA (e1 70) 0, .int .i64 0] ∧ Lsts F1 (tupA (e1 70) 0) [[1, 3], [0, 1, 3], [1, 2, 3]] := hj 5 (by kernel_rfl) (by decide)
   refine ⟨_, _, _, _, _, rfl, ?_⟩
   refine Bq (Ay (Cx g70.1) rfl).quiet ⟨_, rfl, Heap.le_refl _, rfl⟩
  ·
   intro e1 F1 hF1 he hj
   have g71 : (e1 71) = .agg #[vs, .int .i64 100, .int .i64 150, .int .i64 14, vb, vl, vn, vd] := hj 0 (by kernel_rfl) (by decide)
   have g72 : (e1 72) = .agg #[.int .i64 0, .bool true, .int .i64 60, .int .i64 60] := hj 1 (by kernel_rfl) (by decide)
   have g73 : (e1 73) = .agg #[.int .i64 1, .bool true, .int .i64 48, .int .i64 48] := hj 2 (by kernel_rfl) (by decide)
   have g74 : Sl F1 (e1 74) 4 Ent.enc [ent1 0 60 60, ent1 1 48 48] := hj 3 (by kernel_rfl) (by decide)
   have g75 : (e1 75) = .tuple #[tupA (e1 75) 0, .int .i64 0] ∧ Lsts F1 (tupA (e1 75) 0) [[1, 3], [0, 1, 3], [1, 2, 3]] := hj 4 (by kernel_rfl) (by decide)
   have g70 : (e1 70) = .tuple #[tupA (e1 70) 0, .int .i64 0] ∧ Lsts F1 (tupA (e1 70) 0) [[1, 3], [0, 1, 3], [1, 2, 3]] := hj 5 (by kernel_rfl) (by decide)
   have g76 : Lsts F1 (e1 76) [[1, 3], [0, 1, 3], [1, 2, 3]] := hj 6 (by kernel_rfl) (by decide)
   refine ⟨_, _, _, _, _, rfl, ?_⟩
   refine Bq (Ad (Cx rfl)).quiet ⟨_, rfl, Heap.le_refl _, g76⟩
  ·
   intro e1 F1 hF1 he hj
   have g71 : (e1 71) = .agg #[vs, .int .i64 100, .int .i64 150, .int .i64 14, vb, vl, vn, vd] := hj 0 (by kernel_rfl) (by decide)
   have g72 : (e1 72) = .agg #[.int .i64 0, .bool true, .int .i64 60, .int .i64 60] := hj 1 (by kernel_rfl) (by decide)
   have g73 : (e1 73) = .agg #[.int .i64 1, .bool true, .int .i64 48, .int .i64 48] := hj 2 (by kernel_rfl) (by decide)
   have g74 : Sl F1 (e1 74) 4 Ent.enc [ent1 0 60 60, ent1 1 48 48] := hj 3 (by kernel_rfl) (by decide)
   have g75 : (e1 75) = .tuple #[tupA (e1 75) 0, .int .i64 0] ∧ Lsts F1 (tupA (e1 75) 0) [[1, 3], [0, 1, 3], [1, 2, 3]] := hj 4 (by kernel_rfl) (by decide)
   have g70 : (e1 70) = .tuple #[tupA (e1 70) 0, .int .i64 0] ∧ Lsts F1 (tupA (e1 70) 0) [[1, 3], [0, 1, 3], [1, 2, 3]] := hj 5 (by kernel_rfl) (by decide)
   have g76 : Lsts F1 (e1 76) [[1, 3], [0, 1, 3], [1, 2, 3]] := hj 6 (by kernel_rfl) (by decide)
   have g77 : (e1 77) = .int .i64 0 := hj 7 (by kernel_rfl) (by decide)
   have g18 : Lsts F1 (e1 18) [[1, 3], [0, 1, 3], [1, 2, 3]] := hj 8 (by kernel_rfl) (by decide)
   refine ⟨_, _, _, _, _, rfl, ?_⟩
   refine Bq (Ad (Cx g77)).quiet ⟨_, rfl, Heap.le_refl _, rfl⟩
 intro e59 F56 hF57 he58 hj
 replace hr := hr.mono hF57
 replace hq1 := hq1.mono hF57
 replace hq2 := hq2.mono hF57
 replace hq3 := hq3.mono hF57
 replace hq4 := hq4.mono hF57
 replace hq7 := hq7.mono hF57
 have g71 : (e59 71) = .agg #[vs, .int .i64 100, .int .i64 150, .int .i64 14, vb, vl, vn, vd] := hj 0 (by decide)
 have g72 : (e59 72) = .agg #[.int .i64 0, .bool true, .int .i64 60, .int .i64 60] := hj 1 (by decide)
 have g73 : (e59 73) = .agg #[.int .i64 1, .bool true, .int .i64 48, .int .i64 48] := hj 2 (by decide)
 have g74 : Sl F56 (e59 74) 4 Ent.enc [ent1 0 60 60, ent1 1 48 48] := hj 3 (by decide)
 have g75 : (e59 75) = .tuple #[tupA (e59 75) 0, .int .i64 0] ∧ Lsts F56 (tupA (e59 75) 0) [[1, 3], [0, 1, 3], [1, 2, 3]] := hj 4 (by decide)
 have g70 : (e59 70) = .tuple #[tupA (e59 70) 0, .int .i64 0] ∧ Lsts F56 (tupA (e59 70) 0) [[1, 3], [0, 1, 3], [1, 2, 3]] := hj 5 (by decide)
 have g76 : Lsts F56 (e59 76) [[1, 3], [0, 1, 3], [1, 2, 3]] := hj 6 (by decide)
 have g77 : (e59 77) = .int .i64 0 := hj 7 (by decide)
 have g18 : Lsts F56 (e59 18) [[1, 3], [0, 1, 3], [1, 2, 3]] := hj 8 (by decide)
 have g19 : (e59 19) = .int .i64 0 := hj 9 (by decide)
 refine Ae <| Af <| WC_drawF 11 (.inl rfl) (fun _ _ h => h) (by kernel_rfl) (by kernel_rfl) false rfl ([fun F v => v = .agg #[vs, .int .i64 100, .int .i64 150, .int .i64 14, vb, vl, vn, vd], fun F v => v = .agg #[.int .i64 0, .bool true, .int .i64 20, .int .i64 50], fun F v => Sl F v 4 Ent.enc [ent1 0 20 50], fun F v => v = .tuple #[tupA v 0, tupA v 1, .int .i64 0] ∧ Nats F (tupA v 0) [0, 2] ∧ Nats F (tupA v 1) [0, 1, 2, 3], fun F v => v = .tuple #[tupA v 0, tupA v 1, .int .i64 0] ∧ Nats F (tupA v 0) [0, 2] ∧ Nats F (tupA v 1) [0, 1, 2, 3], fun F v => Nats F v [0, 2], fun F v => Nats F v [0, 1, 2, 3], fun F v => v = .int .i64 0, fun F v => Nats F v [0, 2], fun F v => Nats F v [0, 1, 2, 3], fun F v => v = .int .i64 0]) (⟨fun F F2 v hF h => h, fun F F2 v hF h => h, fun F F2 v hF h => h.mono hF, fun F F2 v hF h => ⟨h.1, h.2.1.mono hF, h.2.2.mono hF⟩, fun F F2 v hF h => ⟨h.1, h.2.1.mono hF, h.2.2.mono hF⟩, fun F F2 v hF h => h.mono hF, fun F F2 v hF h => h.mono hF, fun F F2 v hF h => h, fun F F2 v hF h => h.mono hF, fun F F2 v hF h => h.mono hF, fun F F2 v hF h => h, trivial⟩) (fun ds => ?_) (fun ds => ?_)
 ·
  refine ⟨⟨⟨⟨⟨⟨⟨⟨⟨⟨⟨trivial, ?_⟩, ?_⟩, ?_⟩, ?_⟩, ?_⟩, ?_⟩, ?_⟩, ?_⟩, ?_⟩, ?_⟩, ?_⟩
  ·
   intro e1 F1 hF1 he hj
   refine ⟨_, _, _, _, _, rfl, ?_⟩
   refine Bq (Bj Cd (B1 (B6 he (by kernel_rfl)) <| B1 (B6 he58 (by kernel_rfl)) <| Bp rfl <| A7 rfl <| A9 rfl <| Ap rfl <| Ac) rfl rfl (Bo 0 rfl)).quiet ⟨_, rfl, Heap.le_refl _, rfl⟩
  ·
   intro e1 F1 hF1 he hj
   refine ⟨_, _, _, _, _, rfl, ?_⟩
   refine Bq (Ba bd_36 A1 (.cons Ab (.cons Ab (.cons Ab .nil))) (entry_ok _ _ _) (fun _ _ h => h)) ⟨_, rfl, Heap.le_refl _, rfl⟩
  ·
   intro e1 F1 hF1 he hj
   have g80 : (e1 80) = .agg #[.int .i64 0, .bool true, .int .i64 20, .int .i64 50] := hj 1 (by kernel_rfl) (by decide)
   refine ⟨_, _, _, _, _, rfl, ?_⟩
   refine OpX_freeze (C8 (offs := [(0, 4)]) (zl := [.int .i64 0, .bool false, .int .i64 0, .int .i64 0]) sl_47 zr_60 rfl (.cons (Cx g80) rfl .nil) (by intro i p h; rcases i with _ | i <;> simp at h <;> subst h <;> rfl) (.cons rfl rfl (Nat.le_of_ble_eq_true rfl) (.cons (.here) (.cons (.next <| .here) (.cons (.next <| .next <| .here) (.cons (.next <| .next <| .next <| .here) .nil)))) .nil) (by decide) (by decide) fun b hb nb => ⟨b, _, hb, rfl, fun F2 hF2 hz => ⟨F2, rfl, hF2, (entB_box1 hz)⟩⟩)
  ·
   intro e1 F1 hF1 he hj
   replace hr := hr.mono hF1
   have g79 : (e1 79) = .agg #[vs, .int .i64 100, .int .i64 150, .int .i64 14, vb, vl, vn, vd] := hj 0 (by kernel_rfl) (by decide)
   have g80 : (e1 80) = .agg #[.int .i64 0, .bool true, .int .i64 20, .int .i64 50] := hj 1 (by kernel_rfl) (by decide)
   have g81 : Sl F1 (e1 81) 4 Ent.enc [ent1 0 20 50] := hj 2 (by kernel_rfl) (by decide)
   refine ⟨_, _, _, _, _, rfl, ?_⟩
   refine Ct bd_31 A1 (.cons (Cx g79) (.cons (Cx rfl) .nil)) (members_ok hr g81) fun v2 F2 hr hF2 => ⟨F2, rfl, hF2, (hr.ans ev_m1)⟩
  ·
   intro e1 F1 hF1 he hj
   have g82 : (e1 82) = .tuple #[tupA (e1 82) 0, tupA (e1 82) 1, .int .i64 0] ∧ Nats F1 (tupA (e1 82) 0) [0, 2] ∧ Nats F1 (tupA (e1 82) 1) [0, 1, 2, 3] := hj 3 (by kernel_rfl) (by decide)
   refine ⟨_, _, _, _, _, rfl, ?_⟩
   refine Bq (Ag (Cx g82.1)).quiet ⟨_, rfl, Heap.le_refl _, ⟨rfl, g82.2⟩⟩
  ·
   intro e1 F1 hF1 he hj
   have g78 : (e1 78) = .tuple #[tupA (e1 78) 0, tupA (e1 78) 1, .int .i64 0] ∧ Nats F1 (tupA (e1 78) 0) [0, 2] ∧ Nats F1 (tupA (e1 78) 1) [0, 1, 2, 3] := hj 4 (by kernel_rfl) (by decide)
   refine ⟨_, _, _, _, _, rfl, ?_⟩
   refine Bq (Ay (Cx g78.1) rfl).quiet ⟨_, rfl, Heap.le_refl _, g78.2.1⟩
  ·
   intro e1 F1 hF1 he hj
   have g78 : (e1 78) = .tuple #[tupA (e1 78) 0, tupA (e1 78) 1, .int .i64 0] ∧ Nats F1 (tupA (e1 78) 0) [0, 2] ∧ Nats F1 (tupA (e1 78) 1) [0, 1, 2, 3] := hj 4 (by kernel_rfl) (by decide)
   refine ⟨_, _, _, _, _, rfl, ?_⟩
   refine Bq (Ay (Cx g78.1) rfl).quiet ⟨_, rfl, Heap.le_refl _, g78.2.2⟩
  ·
   intro e1 F1 hF1 he hj
   have g78 : (e1 78) = .tuple #[tupA (e1 78) 0, tupA (e1 78) 1, .int .i64 0] ∧ Nats F1 (tupA (e1 78) 0) [0, 2] ∧ Nats F1 (tupA (e1 78) 1) [0, 1, 2, 3] := hj 4 (by kernel_rfl) (by decide)
   refine ⟨_, _, _, _, _, rfl, ?_⟩
   refine Bq (Ay (Cx g78.1) rfl).quiet ⟨_, rfl, Heap.le_refl _, rfl⟩
  ·
   intro e1 F1 hF1 he hj
   have g79 : (e1 79) = .agg #[vs, .int .i64 100, .int .i64 150, .int .i64 14, vb, vl, vn, vd] := hj 0 (by kernel_rfl) (by decide)
   have g80 : (e1 80) = .agg #[.int .i64 0, .bool true, .int .i64 20, .int .i64 50] := hj 1 (by kernel_rfl) (by decide)
   have g81 : Sl F1 (e1 81) 4 Ent.enc [ent1 0 20 50] := hj 2 (by kernel_rfl) (by decide)
   have g82 : (e1 82) = .tuple #[tupA (e1 82) 0, tupA (e1 82) 1, .int .i64 0] ∧ Nats F1 (tupA (e1 82) 0) [0, 2] ∧ Nats F1 (tupA (e1 82) 1) [0, 1, 2, 3] := hj 3 (by kernel_rfl) (by decide)
   have g78 : (e1 78) = .tuple #[tupA (e1 78) 0, tupA (e1 78) 1, .int .i64 0] ∧ Nats F1 (tupA (e1 78) 0) [0, 2] ∧ Nats F1 (tupA (e1 78) 1) [0, 1, 2, 3] := hj 4 (by kernel_rfl) (by decide)
   have g83 : Nats F1 (e1 83) [0, 2] := hj 5 (by kernel_rfl) (by decide)
   refine ⟨_, _, _, _, _, rfl, ?_⟩
   refine Bq (Ad (Cx rfl)).quiet ⟨_, rfl, Heap.le_refl _, g83⟩
  ·
   intro e1 F1 hF1 he hj
   have g79 : (e1 79) = .agg #[vs, .int .i64 100, .int .i64 150, .int .i64 14, vb, vl, vn, vd] := hj 0 (by kernel_rfl) (by decide)
   have g80 : (e1 80) = .agg #[.int .i64 0, .bool true, .int .i64 20, .int .i64 50] := hj 1 (by kernel_rfl) (by decide)
   have g81 : Sl F1 (e1 81) 4 Ent.enc [ent1 0 20 50] := hj 2 (by kernel_rfl) (by decide)
   have g82 : (e1 82) = .tuple #[tupA (e1 82) 0, tupA (e1 82) 1, .int .i64 0] ∧ Nats F1 (tupA (e1 82) 0) [0, 2] ∧ Nats F1 (tupA (e1 82) 1) [0, 1, 2, 3] := hj 3 (by kernel_rfl) (by decide)
   have g78 : (e1 78) = .tuple #[tupA (e1 78) 0, tupA (e1 78) 1, .int .i64 0] ∧ Nats F1 (tupA (e1 78) 0) [0, 2] ∧ Nats F1 (tupA (e1 78) 1) [0, 1, 2, 3] := hj 4 (by kernel_rfl) (by decide)
   have g83 : Nats F1 (e1 83) [0, 2] := hj 5 (by kernel_rfl) (by decide)
   have g84 : Nats F1 (e1 84) [0, 1, 2, 3] := hj 6 (by kernel_rfl) (by decide)
   have g20 : Nats F1 (e1 20) [0, 2] := hj 8 (by kernel_rfl) (by decide)
   refine ⟨_, _, _, _, _, rfl, ?_⟩
   refine Bq (Ad (Cx rfl)).quiet ⟨_, rfl, Heap.le_refl _, g84⟩
  ·
   intro e1 F1 hF1 he hj
   have g79 : (e1 79) = .agg #[vs, .int .i64 100, .int .i64 150, .int .i64 14, vb, vl, vn, vd] := hj 0 (by kernel_rfl) (by decide)
   have g80 : (e1 80) = .agg #[.int .i64 0, .bool true, .int .i64 20, .int .i64 50] := hj 1 (by kernel_rfl) (by decide)
   have g81 : Sl F1 (e1 81) 4 Ent.enc [ent1 0 20 50] := hj 2 (by kernel_rfl) (by decide)
   have g82 : (e1 82) = .tuple #[tupA (e1 82) 0, tupA (e1 82) 1, .int .i64 0] ∧ Nats F1 (tupA (e1 82) 0) [0, 2] ∧ Nats F1 (tupA (e1 82) 1) [0, 1, 2, 3] := hj 3 (by kernel_rfl) (by decide)
   have g78 : (e1 78) = .tuple #[tupA (e1 78) 0, tupA (e1 78) 1, .int .i64 0] ∧ Nats F1 (tupA (e1 78) 0) [0, 2] ∧ Nats F1 (tupA (e1 78) 1) [0, 1, 2, 3] := hj 4 (by kernel_rfl) (by decide)
   have g83 : Nats F1 (e1 83) [0, 2] := hj 5 (by kernel_rfl) (by decide)
   have g84 : Nats F1 (e1 84) [0, 1, 2, 3] := hj 6 (by kernel_rfl) (by decide)
   have g85 : (e1 85) = .int .i64 0 := hj 7 (by kernel_rfl) (by decide)
   have g20 : Nats F1 (e1 20) [0, 2] := hj 8 (by kernel_rfl) (by decide)
   have g21 : Nats F1 (e1 21) [0, 1, 2, 3] := hj 9 (by kernel_rfl) (by decide)
   refine ⟨_, _, _, _, _, rfl, ?_⟩
   refine Bq (Ad (Cx g85)).quiet ⟨_, rfl, Heap.le_refl _, rfl⟩
 intro e63 F60 hF61 he62 hj
 replace hr := hr.mono hF61
 replace hq1 := hq1.mono hF61
 replace hq2 := hq2.mono hF61
 replace hq3 := hq3.mono hF61
 replace hq4 := hq4.mono hF61
 replace hq7 := hq7.mono hF61
 replace g18 := g18.mono hF61
 have g79 : (e63 79) = .agg #[vs, .int .i64 100, .int .i64 150, .int .i64 14, vb, vl, vn, vd] := hj 0 (by decide)
 have g80 : (e63 80) = .agg #[.int .i64 0, .bool true, .int .i64 20, .int .i64 50] := hj 1 (by decide)
 have g81 : Sl F60 (e63 81) 4 Ent.enc [ent1 0 20 50] := hj 2 (by decide)
 have g82 : (e63 82) = .tuple #[tupA (e63 82) 0, tupA (e63 82) 1, .int .i64 0] ∧ Nats F60 (tupA (e63 82) 0) [0, 2] ∧ Nats F60 (tupA (e63 82) 1) [0, 1, 2, 3] := hj 3 (by decide)
 have g78 : (e63 78) = .tuple #[tupA (e63 78) 0, tupA (e63 78) 1, .int .i64 0] ∧ Nats F60 (tupA (e63 78) 0) [0, 2] ∧ Nats F60 (tupA (e63 78) 1) [0, 1, 2, 3] := hj 4 (by decide)
 have g83 : Nats F60 (e63 83) [0, 2] := hj 5 (by decide)
 have g84 : Nats F60 (e63 84) [0, 1, 2, 3] := hj 6 (by decide)
 have g85 : (e63 85) = .int .i64 0 := hj 7 (by decide)
 have g20 : Nats F60 (e63 20) [0, 2] := hj 8 (by decide)
 have g21 : Nats F60 (e63 21) [0, 1, 2, 3] := hj 9 (by decide)
 have g22 : (e63 22) = .int .i64 0 := hj 10 (by decide)
 refine Ae <| Af <| WC_drawF 11 (.inl rfl) (fun _ _ h => h) (by kernel_rfl) (by kernel_rfl) false rfl ([fun F v => v = .agg #[vs, .int .i64 100, .int .i64 150, .int .i64 14, vb, vl, vn, vd], fun F v => v = .agg #[.int .i64 0, .bool true, .int .i64 45, .int .i64 45], fun F v => v = .agg #[.int .i64 1, .bool true, .int .i64 48, .int .i64 48], fun F v => v = .agg #[.int .i64 2, .bool true, .int .i64 30, .int .i64 30], fun F v => Sl F v 4 Ent.enc [ent1 0 45 45, ent1 1 48 48, ent1 2 30 30], fun F v => v = .tuple #[tupA v 0, .int .i64 0] ∧ Nats F (tupA v 0) [0, 2], fun F v => v = .tuple #[tupA v 0, .int .i64 0] ∧ Nats F (tupA v 0) [0, 2], fun F v => Nats F v [0, 2], fun F v => v = .int .i64 0, fun F v => Nats F v [0, 2], fun F v => v = .int .i64 0]) (⟨fun F F2 v hF h => h, fun F F2 v hF h => h, fun F F2 v hF h => h, fun F F2 v hF h => h, fun F F2 v hF h => h.mono hF, fun F F2 v hF h => ⟨h.1, h.2.mono hF⟩, fun F F2 v hF h => ⟨h.1, h.2.mono hF⟩, fun F F2 v hF h => h.mono hF, fun F F2 v hF h => h, fun F F2 v hF h => h.mono hF, fun F F2 v hF h => h, trivial⟩) (fun ds => ?_) (fun ds => ?_)
 ·
  refine ⟨⟨⟨⟨⟨⟨⟨⟨⟨⟨⟨trivial, ?_⟩, ?_⟩, ?_⟩, ?_⟩, ?_⟩, ?_⟩, ?_⟩, ?_⟩, ?_⟩, ?_⟩, ?_⟩
  ·
   intro e1 F1 hF1 he hj
   refine ⟨_, _, _, _, _, rfl, ?_⟩
   refine Bq (Bj Cd (B1 (B6 he (by kernel_rfl)) <| B1 (B6 he62 (by kernel_rfl)) <| B1 (B6 he58 (by kernel_rfl)) <| Bp rfl <| A7 rfl <| A9 rfl <| Ap rfl <| Ac) rfl rfl (Bo 0 rfl)).quiet ⟨_, rfl, Heap.le_refl _, rfl⟩
  ·
   intro e1 F1 hF1 he hj
   refine ⟨_, _, _, _, _, rfl, ?_⟩
   refine Bq (Ba bd_36 A1 (.cons Ab (.cons Ab (.cons Ab .nil))) (entry_ok _ _ _) (fun _ _ h => h)) ⟨_, rfl, Heap.le_refl _, rfl⟩
  ·
   intro e1 F1 hF1 he hj
   have g88 : (e1 88) = .agg #[.int .i64 0, .bool true, .int .i64 45, .int .i64 45] := hj 1 (by kernel_rfl) (by decide)
   refine ⟨_, _, _, _, _, rfl, ?_⟩
   refine Bq (Ba bd_36 A1 (.cons Ab (.cons Ab (.cons Ab .nil))) (entry_ok _ _ _) (fun _ _ h => h)) ⟨_, rfl, Heap.le_refl _, rfl⟩
  ·
   intro e1 F1 hF1 he hj
   have g89 : (e1 89) = .agg #[.int .i64 1, .bool true, .int .i64 48, .int .i64 48] := hj 2 (by kernel_rfl) (by decide)
   refine ⟨_, _, _, _, _, rfl, ?_⟩
   refine Bq (Ba bd_36 A1 (.cons Ab (.cons Ab (.cons Ab .nil))) (entry_ok _ _ _) (fun _ _ h => h)) ⟨_, rfl, Heap.le_refl _, rfl⟩
  ·
   intro e1 F1 hF1 he hj
   have g88 : (e1 88) = .agg #[.int .i64 0, .bool true, .int .i64 45, .int .i64 45] := hj 1 (by kernel_rfl) (by decide)
   have g89 : (e1 89) = .agg #[.int .i64 1, .bool true, .int .i64 48, .int .i64 48] := hj 2 (by kernel_rfl) (by decide)
   have g90 : (e1 90) = .agg #[.int .i64 2, .bool true, .int .i64 30, .int .i64 30] := hj 3 (by kernel_rfl) (by decide)
   refine ⟨_, _, _, _, _, rfl, ?_⟩
   refine OpX_freeze (C8 (offs := [(0, 4), (4, 4), (8, 4)]) (zl := [.int .i64 0, .bool false, .int .i64 0, .int .i64 0, .int .i64 0, .bool false, .int .i64 0, .int .i64 0, .int .i64 0, .bool false, .int .i64 0, .int .i64 0]) sl_47 zr_60 rfl (.cons (Cx g88) rfl (.cons (Cx g89) rfl (.cons (Cx g90) rfl .nil))) (by intro i p h; rcases i with _ | _ | _ | i <;> simp at h <;> subst h <;> rfl) (.cons rfl rfl (Nat.le_of_ble_eq_true rfl) (.cons (.here) (.cons (.next <| .here) (.cons (.next <| .next <| .here) (.cons (.next <| .next <| .next <| .here) .nil)))) (.cons rfl rfl (Nat.le_of_ble_eq_true rfl) (.cons (.next <| .next <| .next <| .next <| .here) (.cons (.next <| .next <| .next <| .next <| .next <| .here) (.cons (.next <| .next <| .next <| .next <| .next <| .next <| .here) (.cons (.next <| .next <| .next <| .next <| .next <| .next <| .next <| .here) .nil)))) (.cons rfl rfl (Nat.le_of_ble_eq_true rfl) (.cons (.next <| .next <| .next <| .next <| .next <| .next <| .next <| .next <| .here) (.cons (.next <| .next <| .next <| .next <| .next <| .next <| .next <| .next <| .next <| .here) (.cons (.next <| .next <| .next <| .next <| .next <| .next <| .next <| .next <| .next <| .next <| .here) (.cons (.next <| .next <| .next <| .next <| .next <| .next <| .next <| .next <| .next <| .next <| .next <| .here) .nil)))) .nil))) (by decide) (by decide) fun b hb nb => ⟨b, _, hb, rfl, fun F2 hF2 hz => ⟨F2, rfl, hF2, (entC_box3 hz)⟩⟩)
  ·
   intro e1 F1 hF1 he hj
   replace hr := hr.mono hF1
   have g87 : (e1 87) = .agg #[vs, .int .i64 100, .int .i64 150, .int .i64 14, vb, vl, vn, vd] := hj 0 (by kernel_rfl) (by decide)
   have g90 : (e1 90) = .agg #[.int .i64 2, .bool true, .int .i64 30, .int .i64 30] := hj 3 (by kernel_rfl) (by decide)
   have g91 : Sl F1 (e1 91) 4 Ent.enc [ent1 0 45 45, ent1 1 48 48, ent1 2 30 30] := hj 4 (by kernel_rfl) (by decide)
   refine ⟨_, _, _, _, _, rfl, ?_⟩
   refine Ct bd_33 A1 (.cons (Cx g87) (.cons (Cx rfl) .nil)) (wrong_ok hr g91) fun v2 F2 hr hF2 => ⟨F2, rfl, hF2, (hr.ans ev_w1)⟩
  ·
   intro e1 F1 hF1 he hj
   have g92 : (e1 92) = .tuple #[tupA (e1 92) 0, .int .i64 0] ∧ Nats F1 (tupA (e1 92) 0) [0, 2] := hj 5 (by kernel_rfl) (by decide)
   refine ⟨_, _, _, _, _, rfl, ?_⟩
   refine Bq (Ag (Cx g92.1)).quiet ⟨_, rfl, Heap.le_refl _, ⟨rfl, g92.2⟩⟩
  ·
   intro e1 F1 hF1 he hj
   have g86 : (e1 86) = .tuple #[tupA (e1 86) 0, .int .i64 0] ∧ Nats F1 (tupA (e1 86) 0) [0, 2] := hj 6 (by kernel_rfl) (by decide)
   refine ⟨_, _, _, _, _, rfl, ?_⟩
   refine Bq (Ay (Cx g86.1) rfl).quiet ⟨_, rfl, Heap.le_refl _, g86.2⟩
  ·
   intro e1 F1 hF1 he hj
   have g86 : (e1 86) = .tuple #[tupA (e1 86) 0, .int .i64 0] ∧ Nats F1 (tupA (e1 86) 0) [0, 2] := hj 6 (by kernel_rfl) (by decide)
   refine ⟨_, _, _, _, _, rfl, ?_⟩
   refine Bq (Ay (Cx g86.1) rfl).quiet ⟨_, rfl, Heap.le_refl _, rfl⟩
  ·
   intro e1 F1 hF1 he hj
   have g87 : (e1 87) = .agg #[vs, .int .i64 100, .int .i64 150, .int .i64 14, vb, vl, vn, vd] := hj 0 (by kernel_rfl) (by decide)
   have g88 : (e1 88) = .agg #[.int .i64 0, .bool true, .int .i64 45, .int .i64 45] := hj 1 (by kernel_rfl) (by decide)
   have g89 : (e1 89) = .agg #[.int .i64 1, .bool true, .int .i64 48, .int .i64 48] := hj 2 (by kernel_rfl) (by decide)
   have g90 : (e1 90) = .agg #[.int .i64 2, .bool true, .int .i64 30, .int .i64 30] := hj 3 (by kernel_rfl) (by decide)
   have g91 : Sl F1 (e1 91) 4 Ent.enc [ent1 0 45 45, ent1 1 48 48, ent1 2 30 30] := hj 4 (by kernel_rfl) (by decide)
   have g92 : (e1 92) = .tuple #[tupA (e1 92) 0, .int .i64 0] ∧ Nats F1 (tupA (e1 92) 0) [0, 2] := hj 5 (by kernel_rfl) (by decide)
   have g86 : (e1 86) = .tuple #[tupA (e1 86) 0, .int .i64 0] ∧ Nats F1 (tupA (e1 86) 0) [0, 2] := hj 6 (by kernel_rfl) (by decide)
   have g93 : Nats F1 (e1 93) [0, 2] := hj 7 (by kernel_rfl) (by decide)
   refine ⟨_, _, _, _, _, rfl, ?_⟩
   refine Bq (Ad (Cx rfl)).quiet ⟨_, rfl, Heap.le_refl _, g93⟩
  ·
   intro e1 F1 hF1 he hj
   have g87 : (e1 87) = .agg #[vs, .int .i64 100, .int .i64 150, .int .i64 14, vb, vl, vn, vd] := hj 0 (by kernel_rfl) (by decide)
   have g88 : (e1 88) = .agg #[.int .i64 0, .bool true, .int .i64 45, .int .i64 45] := hj 1 (by kernel_rfl) (by decide)
   have g89 : (e1 89) = .agg #[.int .i64 1, .bool true, .int .i64 48, .int .i64 48] := hj 2 (by kernel_rfl) (by decide)
   have g90 : (e1 90) = .agg #[.int .i64 2, .bool true, .int .i64 30, .int .i64 30] := hj 3 (by kernel_rfl) (by decide)
   have g91 : Sl F1 (e1 91) 4 Ent.enc [ent1 0 45 45, ent1 1 48 48, ent1 2 30 30] := hj 4 (by kernel_rfl) (by decide)
   have g92 : (e1 92) = .tuple #[tupA (e1 92) 0, .int .i64 0] ∧ Nats F1 (tupA (e1 92) 0) [0, 2] := hj 5 (by kernel_rfl) (by decide)
   have g86 : (e1 86) = .tuple #[tupA (e1 86) 0, .int .i64 0] ∧ Nats F1 (tupA (e1 86) 0) [0, 2] := hj 6 (by kernel_rfl) (by decide)
   have g93 : Nats F1 (e1 93) [0, 2] := hj 7 (by kernel_rfl) (by decide)
   have g94 : (e1 94) = .int .i64 0 := hj 8 (by kernel_rfl) (by decide)
   have g23 : Nats F1 (e1 23) [0, 2] := hj 9 (by kernel_rfl) (by decide)
   refine ⟨_, _, _, _, _, rfl, ?_⟩
   refine Bq (Ad (Cx g94)).quiet ⟨_, rfl, Heap.le_refl _, rfl⟩
 intro e67 F64 hF65 he66 hj
 replace hr := hr.mono hF65
 replace hq1 := hq1.mono hF65
 replace hq2 := hq2.mono hF65
 replace hq3 := hq3.mono hF65
 replace hq4 := hq4.mono hF65
 replace hq7 := hq7.mono hF65
 replace g18 := g18.mono hF65
 replace g20 := g20.mono hF65
 replace g21 := g21.mono hF65
 have g87 : (e67 87) = .agg #[vs, .int .i64 100, .int .i64 150, .int .i64 14, vb, vl, vn, vd] := hj 0 (by decide)
 have g88 : (e67 88) = .agg #[.int .i64 0, .bool true, .int .i64 45, .int .i64 45] := hj 1 (by decide)
 have g89 : (e67 89) = .agg #[.int .i64 1, .bool true, .int .i64 48, .int .i64 48] := hj 2 (by decide)
 have g90 : (e67 90) = .agg #[.int .i64 2, .bool true, .int .i64 30, .int .i64 30] := hj 3 (by decide)
 have g91 : Sl F64 (e67 91) 4 Ent.enc [ent1 0 45 45, ent1 1 48 48, ent1 2 30 30] := hj 4 (by decide)
 have g92 : (e67 92) = .tuple #[tupA (e67 92) 0, .int .i64 0] ∧ Nats F64 (tupA (e67 92) 0) [0, 2] := hj 5 (by decide)
 have g86 : (e67 86) = .tuple #[tupA (e67 86) 0, .int .i64 0] ∧ Nats F64 (tupA (e67 86) 0) [0, 2] := hj 6 (by decide)
 have g93 : Nats F64 (e67 93) [0, 2] := hj 7 (by decide)
 have g94 : (e67 94) = .int .i64 0 := hj 8 (by decide)
 have g23 : Nats F64 (e67 23) [0, 2] := hj 9 (by decide)
 have g24 : (e67 24) = .int .i64 0 := hj 10 (by decide)
 refine Ae <| Af <| WC_drawF 9 (.inl rfl) (fun _ _ h => h) (by kernel_rfl) (by kernel_rfl) false rfl ([fun F v => v = .agg #[vs, .int .i64 100, .int .i64 150, .int .i64 14, vb, vl, vn, vd], fun F v => v = .agg #[.int .i64 2, .bool true, .int .i64 30, .int .i64 30], fun F v => Sl F v 4 Ent.enc [ent1 2 30 30], fun F v => v = .tuple #[tupA v 0, .int .i64 8] ∧ Lsts F (tupA v 0) [], fun F v => v = .tuple #[tupA v 0, .int .i64 8] ∧ Lsts F (tupA v 0) [], fun F v => Lsts F v [], fun F v => v = .int .i64 8, fun F v => Lsts F v [], fun F v => v = .int .i64 8]) (⟨fun F F2 v hF h => h, fun F F2 v hF h => h, fun F F2 v hF h => h.mono hF, fun F F2 v hF h => ⟨h.1, h.2.mono hF⟩, fun F F2 v hF h => ⟨h.1, h.2.mono hF⟩, fun F F2 v hF h => h.mono hF, fun F F2 v hF h => h, fun F F2 v hF h => h.mono hF, fun F F2 v hF h => h, trivial⟩) (fun ds => ?_) (fun ds => ?_)
 ·
  refine ⟨⟨⟨⟨⟨⟨⟨⟨⟨trivial, ?_⟩, ?_⟩, ?_⟩, ?_⟩, ?_⟩, ?_⟩, ?_⟩, ?_⟩, ?_⟩
  ·
   intro e1 F1 hF1 he hj
   refine ⟨_, _, _, _, _, rfl, ?_⟩
   refine Bq (Bj Cd (B1 (B6 he (by kernel_rfl)) <| B1 (B6 he66 (by kernel_rfl)) <| B1 (B6 he62 (by kernel_rfl)) <| B1 (B6 he58 (by kernel_rfl)) <| Bp rfl <| A7 rfl <| A9 rfl <| Ap rfl <| Ac) rfl rfl (Bo 0 rfl)).quiet ⟨_, rfl, Heap.le_refl _, rfl⟩
  ·
   intro e1 F1 hF1 he hj
   refine ⟨_, _, _, _, _, rfl, ?_⟩
   refine Bq (Ba bd_36 A1 (.cons Ab (.cons Ab (.cons Ab .nil))) (entry_ok _ _ _) (fun _ _ h => h)) ⟨_, rfl, Heap.le_refl _, rfl⟩
  ·
   intro e1 F1 hF1 he hj
   have g97 : (e1 97) = .agg #[.int .i64 2, .bool true, .int .i64 30, .int .i64 30] := hj 1 (by kernel_rfl) (by decide)
   refine ⟨_, _, _, _, _, rfl, ?_⟩
   refine OpX_freeze (C8 (offs := [(0, 4)]) (zl := [.int .i64 0, .bool false, .int .i64 0, .int .i64 0]) sl_47 zr_60 rfl (.cons (Cx g97) rfl .nil) (by intro i p h; rcases i with _ | i <;> simp at h <;> subst h <;> rfl) (.cons rfl rfl (Nat.le_of_ble_eq_true rfl) (.cons (.here) (.cons (.next <| .here) (.cons (.next <| .next <| .here) (.cons (.next <| .next <| .next <| .here) .nil)))) .nil) (by decide) (by decide) fun b hb nb => ⟨b, _, hb, rfl, fun F2 hF2 hz => ⟨F2, rfl, hF2, (entD_box1 hz)⟩⟩)
  ·
   intro e1 F1 hF1 he hj
   replace hr := hr.mono hF1
   have g96 : (e1 96) = .agg #[vs, .int .i64 100, .int .i64 150, .int .i64 14, vb, vl, vn, vd] := hj 0 (by kernel_rfl) (by decide)
   have g97 : (e1 97) = .agg #[.int .i64 2, .bool true, .int .i64 30, .int .i64 30] := hj 1 (by kernel_rfl) (by decide)
   have g98 : Sl F1 (e1 98) 4 Ent.enc [ent1 2 30 30] := hj 2 (by kernel_rfl) (by decide)
   refine ⟨_, _, _, _, _, rfl, ?_⟩
   refine Ct bd_28 A1 (.cons (Cx g96) (.cons (Cx rfl) .nil)) (rings_top_ok hr g98) fun v2 F2 hr hF2 => ⟨F2, rfl, hF2, (hr.ans ev_r2)⟩
  ·
   intro e1 F1 hF1 he hj
   have g99 : (e1 99) = .tuple #[tupA (e1 99) 0, .int .i64 8] ∧ Lsts F1 (tupA (e1 99) 0) [] := hj 3 (by kernel_rfl) (by decide)
   refine ⟨_, _, _, _, _, rfl, ?_⟩
   refine Bq (Ag (Cx g99.1)).quiet ⟨_, rfl, Heap.le_refl _, ⟨rfl, g99.2⟩⟩
  ·
   intro e1 F1 hF1 he hj
   have g95 : (e1 95) = .tuple #[tupA (e1 95) 0, .int .i64 8] ∧ Lsts F1 (tupA (e1 95) 0) [] := hj 4 (by kernel_rfl) (by decide)
   refine ⟨_, _, _, _, _, rfl, ?_⟩
   refine Bq (Ay (Cx g95.1) rfl).quiet ⟨_, rfl, Heap.le_refl _, g95.2⟩
  ·
   intro e1 F1 hF1 he hj
   have g95 : (e1 95) = .tuple #[tupA (e1 95) 0, .int .i64 8] ∧ Lsts F1 (tupA (e1 95) 0) [] := hj 4 (by kernel_rfl) (by decide)
   refine ⟨_, _, _, _, _, rfl, ?_⟩
   refine Bq (Ay (Cx g95.1) rfl).quiet ⟨_, rfl, Heap.le_refl _, rfl⟩
  ·
   intro e1 F1 hF1 he hj
   have g96 : (e1 96) = .agg #[vs, .int .i64 100, .int .i64 150, .int .i64 14, vb, vl, vn, vd] := hj 0 (by kernel_rfl) (by decide)
   have g97 : (e1 97) = .agg #[.int .i64 2, .bool true, .int .i64 30, .int .i64 30] := hj 1 (by kernel_rfl) (by decide)
   have g98 : Sl F1 (e1 98) 4 Ent.enc [ent1 2 30 30] := hj 2 (by kernel_rfl) (by decide)
   have g99 : (e1 99) = .tuple #[tupA (e1 99) 0, .int .i64 8] ∧ Lsts F1 (tupA (e1 99) 0) [] := hj 3 (by kernel_rfl) (by decide)
   have g95 : (e1 95) = .tuple #[tupA (e1 95) 0, .int .i64 8] ∧ Lsts F1 (tupA (e1 95) 0) [] := hj 4 (by kernel_rfl) (by decide)
   have g100 : Lsts F1 (e1 100) [] := hj 5 (by kernel_rfl) (by decide)
   refine ⟨_, _, _, _, _, rfl, ?_⟩
   refine Bq (Ad (Cx rfl)).quiet ⟨_, rfl, Heap.le_refl _, g100⟩
  ·
   intro e1 F1 hF1 he hj
   have g96 : (e1 96) = .agg #[vs, .int .i64 100, .int .i64 150, .int .i64 14, vb, vl, vn, vd] := hj 0 (by kernel_rfl) (by decide)
   have g97 : (e1 97) = .agg #[.int .i64 2, .bool true, .int .i64 30, .int .i64 30] := hj 1 (by kernel_rfl) (by decide)
   have g98 : Sl F1 (e1 98) 4 Ent.enc [ent1 2 30 30] := hj 2 (by kernel_rfl) (by decide)
   have g99 : (e1 99) = .tuple #[tupA (e1 99) 0, .int .i64 8] ∧ Lsts F1 (tupA (e1 99) 0) [] := hj 3 (by kernel_rfl) (by decide)
   have g95 : (e1 95) = .tuple #[tupA (e1 95) 0, .int .i64 8] ∧ Lsts F1 (tupA (e1 95) 0) [] := hj 4 (by kernel_rfl) (by decide)
   have g100 : Lsts F1 (e1 100) [] := hj 5 (by kernel_rfl) (by decide)
   have g101 : (e1 101) = .int .i64 8 := hj 6 (by kernel_rfl) (by decide)
   have g25 : Lsts F1 (e1 25) [] := hj 7 (by kernel_rfl) (by decide)
   refine ⟨_, _, _, _, _, rfl, ?_⟩
   refine Bq (Ad (Cx g101)).quiet ⟨_, rfl, Heap.le_refl _, rfl⟩
 intro e71 F68 hF69 he70 hj
 replace hq1 := hq1.mono hF69
 replace hq2 := hq2.mono hF69
 replace hq3 := hq3.mono hF69
 replace hq4 := hq4.mono hF69
 replace hq7 := hq7.mono hF69
 replace g18 := g18.mono hF69
 replace g20 := g20.mono hF69
 replace g21 := g21.mono hF69
 replace g23 := g23.mono hF69
 have g96 : (e71 96) = .agg #[vs, .int .i64 100, .int .i64 150, .int .i64 14, vb, vl, vn, vd] := hj 0 (by decide)
 have g97 : (e71 97) = .agg #[.int .i64 2, .bool true, .int .i64 30, .int .i64 30] := hj 1 (by decide)
 have g98 : Sl F68 (e71 98) 4 Ent.enc [ent1 2 30 30] := hj 2 (by decide)
 have g99 : (e71 99) = .tuple #[tupA (e71 99) 0, .int .i64 8] ∧ Lsts F68 (tupA (e71 99) 0) [] := hj 3 (by decide)
 have g95 : (e71 95) = .tuple #[tupA (e71 95) 0, .int .i64 8] ∧ Lsts F68 (tupA (e71 95) 0) [] := hj 4 (by decide)
 have g100 : Lsts F68 (e71 100) [] := hj 5 (by decide)
 have g101 : (e71 101) = .int .i64 8 := hj 6 (by decide)
 have g25 : Lsts F68 (e71 25) [] := hj 7 (by decide)
 have g26 : (e71 26) = .int .i64 8 := hj 8 (by decide)
 refine Ae <| Af <| Ai fun ds => Aa rfl (Ag (B1 (B6 he70 (by kernel_rfl)) <| B1 (B6 he66 (by kernel_rfl)) <| B1 (B6 he62 (by kernel_rfl)) <| B1 (B6 he58 (by kernel_rfl)) <| Bp rfl <| A7 rfl <| Ap rfl <| Al rfl <| Ac)) ?_
 refine Aa rfl (B4 (Ac) Ab) ?_
 refine Aa rfl (Ag (Ac)) ?_
 refine Ar rfl rfl (Ac) (by first | rfl | decide) ?_
 refine Aa rfl (Ag (Ap rfl <| Al rfl <| B1 (B6 he70 (by kernel_rfl)) <| B1 (B6 he66 (by kernel_rfl)) <| B1 (B6 he62 (by kernel_rfl)) <| B1 (B6 he58 (by kernel_rfl)) <| Bp rfl <| A9 rfl <| A0 rfl <| Ac)) ?_
 refine Ar rfl rfl (Al rfl <| Ac) (by first | rfl | decide) ?_
 refine Aa rfl (B4 (Ac) Ab) ?_
 refine Aa rfl (A3 (Ap rfl <| Ac) (by first | rfl | decide) (Ac)) ?_
 refine Aa rfl (Ag (Ac)) ?_
 refine Ar rfl rfl (Ac) (by first | rfl | decide) ?_
 refine Aa rfl (Ag (A0 rfl <| Ap rfl <| Al rfl <| B1 (B6 he70 (by kernel_rfl)) <| B1 (B6 he66 (by kernel_rfl)) <| B1 (B6 he62 (by kernel_rfl)) <| B1 (B6 he58 (by kernel_rfl)) <| Bp rfl <| A0 rfl <| Ac)) ?_
 refine Ar rfl rfl (Al rfl <| Ac) (by first | rfl | decide) ?_
 refine Aa rfl (B4 (Ac) Ab) ?_
 refine Aa rfl (A3 (Ap rfl <| Ac) (by first | rfl | decide) (Ac)) ?_
 refine Aa rfl (Ag (Ac)) ?_
 refine Ar rfl rfl (Ac) (by first | rfl | decide) ?_
 refine Aa rfl (Ag (A9 rfl <| Ap rfl <| Al rfl <| B1 (B6 he70 (by kernel_rfl)) <| B1 (B6 he66 (by kernel_rfl)) <| B1 (B6 he62 (by kernel_rfl)) <| B1 (B6 he58 (by kernel_rfl)) <| A7 rfl <| A0 rfl <| Ap rfl <| Ac)) ?_
 refine Ar rfl rfl (Al rfl <| Ac) (by first | rfl | decide) ?_
 refine Aa rfl (B4 (Ac) Ab) ?_
 refine Aa rfl (A3 (Ap rfl <| Ac) (by first | rfl | decide) (Ac)) ?_
 refine Aa rfl (Ag (Ac)) ?_
 refine Ar rfl rfl (Ac) (by first | rfl | decide) ?_
 refine Aa rfl (Ag (A9 rfl <| A0 rfl <| Ap rfl <| Al rfl <| B1 (B6 he70 (by kernel_rfl)) <| B1 (B6 he66 (by kernel_rfl)) <| B1 (B6 he62 (by kernel_rfl)) <| B1 (B6 he58 (by kernel_rfl)) <| Ac)) ?_
 refine Ar rfl rfl (Al rfl <| Ac) (by first | rfl | decide) ?_
 refine Aa rfl (B4 (Ac) Ab) ?_
 refine Aa rfl (A3 (Ap rfl <| Ac) (by first | rfl | decide) (Ac)) ?_
 refine Aa rfl (Ag (Ac)) ?_
 refine Ar rfl rfl (Ac) (by first | rfl | decide) ?_
 refine Aa rfl (Ag (A7 rfl <| Ap rfl <| Al rfl <| B1 (B6 he70 (by kernel_rfl)) <| B1 (B6 he66 (by kernel_rfl)) <| B1 (B6 he62 (by kernel_rfl)) <| Cx g19)) ?_
 refine Ar rfl rfl (Al rfl <| Ac) (by first | rfl | decide) ?_
 refine Aa rfl (B4 (Ac) Ab) ?_
 refine Aa rfl (A3 (Ap rfl <| Ac) (by first | rfl | decide) (Ac)) ?_
 refine Aa rfl (Ag (Ac)) ?_
 refine Ar rfl rfl (Ac) (by first | rfl | decide) ?_
 refine Aa rfl (Ag (A7 rfl <| A0 rfl <| Ap rfl <| Al rfl <| B1 (B6 he70 (by kernel_rfl)) <| B1 (B6 he66 (by kernel_rfl)) <| Cx g22)) ?_
 refine Ar rfl rfl (Al rfl <| Ac) (by first | rfl | decide) ?_
 refine Aa rfl (B4 (Ac) Ab) ?_
 refine Aa rfl (A3 (Ap rfl <| Ac) (by first | rfl | decide) (Ac)) ?_
 refine Aa rfl (Ag (Ac)) ?_
 refine Ar rfl rfl (Ac) (by first | rfl | decide) ?_
 refine Aa rfl (Ag (A7 rfl <| A9 rfl <| Ap rfl <| Al rfl <| B1 (B6 he70 (by kernel_rfl)) <| Cx g24)) ?_
 refine Ar rfl rfl (Al rfl <| Ac) (by first | rfl | decide) ?_
 refine Aa rfl (B4 (Ac) Ab) ?_
 refine Aa rfl (A3 (Ap rfl <| Ac) (by first | rfl | decide) (Ac)) ?_
 refine Aa rfl (Ag (Ac)) ?_
 refine Ar rfl rfl (Ac) (by first | rfl | decide) ?_
 refine Aa rfl (Ag (A7 rfl <| A9 rfl <| A0 rfl <| Ap rfl <| Al rfl <| B1 (B6 he70 (by kernel_rfl)) <| B1 (B6 he66 (by kernel_rfl)) <| B1 (B6 he62 (by kernel_rfl)) <| B1 (B6 he58 (by kernel_rfl)) <| A9 rfl <| Ac)) ?_
 refine Ar rfl rfl (Al rfl <| Ac) (by first | rfl | decide) ?_
 refine Aa rfl (B4 (Ac) Ab) ?_
 refine Aa rfl (A3 (Ap rfl <| Ac) (by first | rfl | decide) (Ac)) ?_
 refine Aa rfl (Ag (Ac)) ?_
 refine Ar rfl rfl (Ac) (by first | rfl | decide) ?_
 refine Aa rfl (Ag (Bp rfl <| Ap rfl <| Al rfl <| Cx g26)) ?_
 refine Ar rfl rfl (Al rfl <| Ac) (by first | rfl | decide) ?_
 refine Aa rfl (B4 (Ac) Ab) ?_
 refine Aa rfl (A3 (Ap rfl <| Ac) (by first | rfl | decide) (Ac)) ?_
 refine Aa rfl (Ag (Ac)) ?_
 refine Ar rfl rfl (Ac) (by first | rfl | decide) ?_
 refine Aa rfl (Ag (Bp rfl <| A0 rfl <| Ap rfl <| Al rfl <| B1 (B6 he70 (by kernel_rfl)) <| B1 (B6 he66 (by kernel_rfl)) <| B1 (B6 he62 (by kernel_rfl)) <| B1 (B6 he58 (by kernel_rfl)) <| Bp rfl <| A7 rfl <| A0 rfl <| Ac)) ?_
 refine Ar rfl rfl (Al rfl <| Ac) (by first | rfl | decide) ?_
 refine Aa rfl (B4 (Ac) Ab) ?_
 refine Aa rfl (A3 (Ap rfl <| Ac) (by first | rfl | decide) (Ac)) ?_
 refine Aa rfl (Ag (Ac)) ?_
 refine Ar rfl rfl (Ac) (by first | rfl | decide) ?_
 refine Aa rfl (Ag (Bp rfl <| A9 rfl <| Ap rfl <| Al rfl <| B1 (B6 he70 (by kernel_rfl)) <| B1 (B6 he66 (by kernel_rfl)) <| B1 (B6 he62 (by kernel_rfl)) <| B1 (B6 he58 (by kernel_rfl)) <| Bp rfl <| A9 rfl <| A0 rfl <| Al rfl <| Ac)) ?_
 refine Ar rfl rfl (Al rfl <| Ac) (by first | rfl | decide) ?_
 refine Bv rfl (Ba bd_37 A1 (.cons Ab (.cons Ab .nil)) (result_ok _ _) (fun _ _ h => h)) ?_
 refine Ar rfl rfl (Ap rfl <| Ac) (by first | rfl | decide) ?_
 refine Bv rfl (Ba bd_37 A1 (.cons Ab (.cons Ab .nil)) (result_ok _ _) (fun _ _ h => h)) ?_
 refine Ar rfl rfl (Ap rfl <| Al rfl <| Ac) (by first | rfl | decide) ?_
 refine Bv rfl (Ba bd_37 A1 (.cons Ab (.cons Ab .nil)) (result_ok _ _) (fun _ _ h => h)) ?_
 refine Ar rfl rfl (A0 rfl <| Ac) (by first | rfl | decide) ?_
 refine Bl rfl (C8 (offs := [(0, 2), (2, 2), (4, 2)]) (zl := [.int .i64 0, .int .i64 0, .int .i64 0, .int .i64 0, .int .i64 0, .int .i64 0]) Cw zr_63 rfl (.cons (Ap rfl <| Ac) rfl (.cons (Al rfl <| Ac) rfl (.cons (Ac) rfl .nil))) (by intro i p h; rcases i with _ | _ | _ | i <;> simp at h <;> subst h <;> rfl) (.cons rfl rfl (Nat.le_of_ble_eq_true rfl) (.cons (.here) (.cons (.next <| .here) .nil)) (.cons rfl rfl (Nat.le_of_ble_eq_true rfl) (.cons (.next <| .next <| .here) (.cons (.next <| .next <| .next <| .here) .nil)) (.cons rfl rfl (Nat.le_of_ble_eq_true rfl) (.cons (.next <| .next <| .next <| .next <| .here) (.cons (.next <| .next <| .next <| .next <| .next <| .here) .nil)) .nil))) (by decide) (by decide) fun b72 hb72 nb72 => ?_)
 refine Br (i := 0) rfl hb72 .here fun F73 hF74 hz75 => ?_
 replace hq1 := hq1.mono hF74
 replace hq2 := hq2.mono hF74
 replace hq3 := hq3.mono hF74
 replace hq4 := hq4.mono hF74
 replace hq7 := hq7.mono hF74
 replace g18 := g18.mono hF74
 replace g20 := g20.mono hF74
 replace g21 := g21.mono hF74
 replace g23 := g23.mono hF74
 have hsl76 := resA_box3 hz75
 refine Ar rfl rfl (A0 rfl <| Al rfl <| Ac) (by first | rfl | decide) ?_
 refine Bv rfl (Ba bd_21 A1 (.cons (A0 rfl <| Ac) (.cons (Ac) .nil)) (refSame_ok hq1 hsl76) (fun _ _ h => h)) ?_
 refine Aa rfl (A3 (A0 rfl <| Ap rfl <| Ac) (by first | rfl | decide) (Ac)) ?_
 refine Aa rfl (Ag (Ac)) ?_
 refine Ar rfl rfl (Ac) (by first | rfl | decide) ?_
 refine Aa rfl (Ag (Bp rfl <| A7 rfl <| Ap rfl <| Al rfl <| B1 (B6 he70 (by kernel_rfl)) <| B1 (B6 he66 (by kernel_rfl)) <| B1 (B6 he62 (by kernel_rfl)) <| B1 (B6 he58 (by kernel_rfl)) <| Bp rfl <| A0 rfl <| Al rfl <| Ac)) ?_
 refine Ar rfl rfl (Al rfl <| Ac) (by first | rfl | decide) ?_
 refine Bv rfl (Ba bd_37 A1 (.cons Ab (.cons Ab .nil)) (result_ok _ _) (fun _ _ h => h)) ?_
 refine Ar rfl rfl (Ap rfl <| Ac) (by first | rfl | decide) ?_
 refine Bv rfl (Ba bd_37 A1 (.cons Ab (.cons Ab .nil)) (result_ok _ _) (fun _ _ h => h)) ?_
 refine Ar rfl rfl (Ap rfl <| Al rfl <| Ac) (by first | rfl | decide) ?_
 refine Bv rfl (Ba bd_37 A1 (.cons Ab (.cons Ab .nil)) (result_ok _ _) (fun _ _ h => h)) ?_
 refine Ar rfl rfl (A0 rfl <| Ac) (by first | rfl | decide) ?_
 refine Bl rfl (C8 (offs := [(0, 2), (2, 2), (4, 2)]) (zl := [.int .i64 0, .int .i64 0, .int .i64 0, .int .i64 0, .int .i64 0, .int .i64 0]) Cw zr_63 rfl (.cons (Ap rfl <| Ac) rfl (.cons (Al rfl <| Ac) rfl (.cons (Ac) rfl .nil))) (by intro i p h; rcases i with _ | _ | _ | i <;> simp at h <;> subst h <;> rfl) (.cons rfl rfl (Nat.le_of_ble_eq_true rfl) (.cons (.here) (.cons (.next <| .here) .nil)) (.cons rfl rfl (Nat.le_of_ble_eq_true rfl) (.cons (.next <| .next <| .here) (.cons (.next <| .next <| .next <| .here) .nil)) (.cons rfl rfl (Nat.le_of_ble_eq_true rfl) (.cons (.next <| .next <| .next <| .next <| .here) (.cons (.next <| .next <| .next <| .next <| .next <| .here) .nil)) .nil))) (by decide) (by decide) fun b77 hb77 nb77 => ?_)
 refine Br (i := 0) rfl hb77 .here fun F78 hF79 hz80 => ?_
 replace hq2 := hq2.mono hF79
 replace hq3 := hq3.mono hF79
 replace hq4 := hq4.mono hF79
 replace hq7 := hq7.mono hF79
 replace g18 := g18.mono hF79
 replace g20 := g20.mono hF79
 replace g21 := g21.mono hF79
 replace g23 := g23.mono hF79
 have hsl81 := resB_box3 hz80
 refine Ar rfl rfl (A0 rfl <| Al rfl <| Ac) (by first | rfl | decide) ?_
 refine Bv rfl (Ba bd_21 A1 (.cons (A0 rfl <| Ac) (.cons (Ac) .nil)) (refSame_ok hq2 hsl81) (fun _ _ h => h)) ?_
 refine Aa rfl (A3 (A0 rfl <| Ap rfl <| Ac) (by first | rfl | decide) (Ac)) ?_
 refine Aa rfl (Ag (Ac)) ?_
 refine Ar rfl rfl (Ac) (by first | rfl | decide) ?_
 refine Aa rfl (Ag (Bp rfl <| A7 rfl <| A9 rfl <| Ap rfl <| Al rfl <| B1 (B6 he70 (by kernel_rfl)) <| B1 (B6 he66 (by kernel_rfl)) <| B1 (B6 he62 (by kernel_rfl)) <| B1 (B6 he58 (by kernel_rfl)) <| A7 rfl <| A9 rfl <| Al rfl <| Ac)) ?_
 refine Ar rfl rfl (Al rfl <| Ac) (by first | rfl | decide) ?_
 refine Bl rfl (Bz Bn C6 rfl (.cons Ab (.cons Ab (.cons Ab (.cons Ab .nil)))) rfl rfl (by decide) (by simp [Value.oneCell']) fun b82 hb82 nb82 => ?_)
 refine Br (i := 0) rfl hb82 .here fun F83 hF84 hz85 => ?_
 replace hq3 := hq3.mono hF84
 replace hq4 := hq4.mono hF84
 replace hq7 := hq7.mono hF84
 replace g18 := g18.mono hF84
 replace g20 := g20.mono hF84
 replace g21 := g21.mono hF84
 replace g23 := g23.mono hF84
 have hsl86 := ints_box4 hz85
 refine Ar rfl rfl (Ap rfl <| Ac) (by first | rfl | decide) ?_
 refine Bv rfl (Ba bd_25 A1 (.cons (Al rfl <| Ac) (.cons (Ac) .nil)) (refInts_ok hq3 hsl86) (fun _ _ h => h)) ?_
 refine Aa rfl (A3 (Ap rfl <| Al rfl <| Ac) (by first | rfl | decide) (Ac)) ?_
 refine Aa rfl (Ag (Ac)) ?_
 refine Ar rfl rfl (Ac) (by first | rfl | decide) ?_
 refine Aa rfl (Ag (Bp rfl <| Bp rfl <| B1 (B6 he70 (by kernel_rfl)) <| B1 (B6 he66 (by kernel_rfl)) <| B1 (B6 he62 (by kernel_rfl)) <| B1 (B6 he58 (by kernel_rfl)) <| A7 rfl <| A9 rfl <| Ac)) ?_
 refine Ar rfl rfl (Al rfl <| Ac) (by first | rfl | decide) ?_
 refine Bl rfl (Bz Bn C6 rfl (.cons Ab .nil) rfl rfl (by decide) (by simp [Value.oneCell']) fun b87 hb87 nb87 => ?_)
 refine Br (i := 0) rfl hb87 .here fun F88 hF89 hz90 => ?_
 replace hq4 := hq4.mono hF89
 replace hq7 := hq7.mono hF89
 replace g18 := g18.mono hF89
 replace g20 := g20.mono hF89
 replace g21 := g21.mono hF89
 replace g23 := g23.mono hF89
 have hsl91 := Ch hz90
 refine Ar rfl rfl (Ap rfl <| Ac) (by first | rfl | decide) ?_
 refine Bv rfl (Ba bd_25 A1 (.cons (Al rfl <| Ac) (.cons (Ac) .nil)) (refInts_ok hq4 hsl91) (fun _ _ h => h)) ?_
 refine Aa rfl (A3 (Ap rfl <| Al rfl <| Ac) (by first | rfl | decide) (Ac)) ?_
 refine Aa rfl (Ag (Ac)) ?_
 refine Ar rfl rfl (Ac) (by first | rfl | decide) ?_
 refine Aa rfl (Ag (Bp rfl <| Bp rfl <| A0 rfl <| Al rfl <| B1 (B6 he70 (by kernel_rfl)) <| B1 (B6 he66 (by kernel_rfl)) <| B1 (B6 he62 (by kernel_rfl)) <| B1 (B6 he58 (by kernel_rfl)) <| A7 rfl <| A0 rfl <| Ap rfl <| Al rfl <| Ac)) ?_
 refine Ar rfl rfl (Al rfl <| Ac) (by first | rfl | decide) ?_
 refine Aa rfl (B4 (Ac) Ab) ?_
 refine Aa rfl (A3 (Ap rfl <| Ac) (by first | rfl | decide) (Ac)) ?_
 refine Aa rfl (Ag (Ac)) ?_
 refine Ar rfl rfl (Ac) (by first | rfl | decide) ?_
 refine Aa rfl (Ag (Bp rfl <| Bp rfl <| A9 rfl <| Al rfl <| B1 (B6 he70 (by kernel_rfl)) <| B1 (B6 he66 (by kernel_rfl)) <| B1 (B6 he62 (by kernel_rfl)) <| B1 (B6 he58 (by kernel_rfl)) <| Al rfl <| Ac)) ?_
 refine Ar rfl rfl (Al rfl <| Ac) (by first | rfl | decide) ?_
 refine Bl rfl (Bz Bn C6 rfl (.cons Ab (.cons Ab (.cons Ab .nil))) rfl rfl (by decide) (by simp [Value.oneCell']) fun b92 hb92 nb92 => ?_)
 refine Br (i := 0) rfl hb92 .here fun F93 hF94 hz95 => ?_
 replace hq7 := hq7.mono hF94
 replace g18 := g18.mono hF94
 replace g20 := g20.mono hF94
 replace g21 := g21.mono hF94
 replace g23 := g23.mono hF94
 have hsl96 := ints_box3 hz95
 refine Ar rfl rfl (Ap rfl <| Ac) (by first | rfl | decide) ?_
 refine Bv rfl (Ba bd_25 A1 (.cons (Al rfl <| Ac) (.cons (Ac) .nil)) (refInts_ok hq7 hsl96) (fun _ _ h => h)) ?_
 refine Aa rfl (A3 (Ap rfl <| Al rfl <| Ac) (by first | rfl | decide) (Ac)) ?_
 refine Aa rfl (Ag (Ac)) ?_
 refine Ar rfl rfl (Ac) (by first | rfl | decide) ?_
 refine Aa rfl (Ag (Bp rfl <| Bp rfl <| A9 rfl <| A0 rfl <| Ap rfl <| B1 (B6 he70 (by kernel_rfl)) <| B1 (B6 he66 (by kernel_rfl)) <| B1 (B6 he62 (by kernel_rfl)) <| Cx rfl)) ?_
 refine Ar rfl rfl (Al rfl <| Ac) (by first | rfl | decide) ?_
 refine Bl rfl (Bz Bn C6 rfl (.cons Ab (.cons Ab .nil)) rfl rfl (by decide) (by simp [Value.oneCell']) fun b97 hb97 nb97 => ?_)
 refine Br (i := 0) rfl hb97 .here fun F98 hF99 hz100 => ?_
 replace g18 := g18.mono hF99
 replace g20 := g20.mono hF99
 replace g21 := g21.mono hF99
 replace g23 := g23.mono hF99
 have hsl101 := n13_box2 hz100
 refine Ar rfl rfl (Ap rfl <| Ac) (by first | rfl | decide) ?_
 refine Bl rfl (Bz Bn C6 rfl (.cons Ab (.cons Ab (.cons Ab .nil))) rfl rfl (by decide) (by simp [Value.oneCell']) fun b102 hb102 nb102 => ?_)
 refine Br (i := 0) rfl hb102 .here fun F103 hF104 hz105 => ?_
 replace g18 := g18.mono hF104
 replace g20 := g20.mono hF104
 replace g21 := g21.mono hF104
 replace g23 := g23.mono hF104
 replace hsl101 := hsl101.mono hF104
 have hsl106 := n013_box3 hz105
 refine Ar rfl rfl (Ap rfl <| Al rfl <| Ac) (by first | rfl | decide) ?_
 refine Bl rfl (Bz Bn C6 rfl (.cons Ab (.cons Ab (.cons Ab .nil))) rfl rfl (by decide) (by simp [Value.oneCell']) fun b107 hb107 nb107 => ?_)
 refine Br (i := 0) rfl hb107 .here fun F108 hF109 hz110 => ?_
 replace g18 := g18.mono hF109
 replace g20 := g20.mono hF109
 replace g21 := g21.mono hF109
 replace g23 := g23.mono hF109
 replace hsl101 := hsl101.mono hF109
 replace hsl106 := hsl106.mono hF109
 have hsl111 := n123_box3 hz110
 refine Ar rfl rfl (A0 rfl <| Ac) (by first | rfl | decide) ?_
 refine Bl rfl (Bz E2 zr_28 rfl (.cons (Ap rfl <| Ac) (.cons (Al rfl <| Ac) (.cons (Ac) .nil))) rfl rfl (by decide) (by simp [Value.oneCell']) fun b112 hb112 nb112 => ?_)
 refine Br (i := 0) rfl hb112 .here fun F113 hF114 hz115 => ?_
 replace g18 := g18.mono hF114
 replace g20 := g20.mono hF114
 replace g21 := g21.mono hF114
 replace g23 := g23.mono hF114
 replace hsl101 := hsl101.mono hF114
 replace hsl106 := hsl106.mono hF114
 replace hsl111 := hsl111.mono hF114
 have hsl116 := vals_box3 hz115
 refine Ar rfl rfl (A0 rfl <| Al rfl <| Ac) (by first | rfl | decide) ?_
 refine Bv rfl (Ba bd_30 A1 (.cons (A0 rfl <| Ac) (.cons (Ac) .nil)) (alike_ok g18 (lsts3 hsl116 hsl101 hsl106 hsl111)) (fun _ _ h => h)) ?_
 refine Aa rfl (A3 (A0 rfl <| Ap rfl <| Ac) (by first | rfl | decide) (Ac)) ?_
 refine Aa rfl (Ag (Ac)) ?_
 refine Ar rfl rfl (Ac) (by first | rfl | decide) ?_
 refine Aa rfl (Ag (Bp rfl <| Bp rfl <| A7 rfl <| A0 rfl <| Ap rfl <| B1 (B6 he70 (by kernel_rfl)) <| B1 (B6 he66 (by kernel_rfl)) <| Cx rfl)) ?_
 refine Ar rfl rfl (Al rfl <| Ac) (by first | rfl | decide) ?_
 refine Bl rfl (Bz Bn C6 rfl (.cons Ab (.cons Ab .nil)) rfl rfl (by decide) (by simp [Value.oneCell']) fun b117 hb117 nb117 => ?_)
 refine Br (i := 0) rfl hb117 .here fun F118 hF119 hz120 => ?_
 replace g20 := g20.mono hF119
 replace g21 := g21.mono hF119
 replace g23 := g23.mono hF119
 have hsl121 := n02_box2 hz120
 refine Ar rfl rfl (Ap rfl <| Ac) (by first | rfl | decide) ?_
 refine Bv rfl (Ba bd_25 A1 (.cons (Al rfl <| Ac) (.cons (Ac) .nil)) (refInts_nat g20 hsl121) (fun _ _ h => h)) ?_
 refine Aa rfl (A3 (Ap rfl <| Al rfl <| Ac) (by first | rfl | decide) (Ac)) ?_
 refine Aa rfl (Ag (Ac)) ?_
 refine Ar rfl rfl (Ac) (by first | rfl | decide) ?_
 refine Aa rfl (Ag (Bp rfl <| Bp rfl <| A7 rfl <| A9 rfl <| Ap rfl <| Al rfl <| B1 (B6 he70 (by kernel_rfl)) <| B1 (B6 he66 (by kernel_rfl)) <| Cx rfl)) ?_
 refine Ar rfl rfl (Al rfl <| Ac) (by first | rfl | decide) ?_
 refine Bl rfl (Bz Bn C6 rfl (.cons Ab (.cons Ab (.cons Ab (.cons Ab .nil)))) rfl rfl (by decide) (by simp [Value.oneCell']) fun b122 hb122 nb122 => ?_)
 refine Br (i := 0) rfl hb122 .here fun F123 hF124 hz125 => ?_
 replace g21 := g21.mono hF124
 replace g23 := g23.mono hF124
 have hsl126 := n0123_box4 hz125
 refine Ar rfl rfl (Ap rfl <| Ac) (by first | rfl | decide) ?_
 refine Bv rfl (Ba bd_25 A1 (.cons (Al rfl <| Ac) (.cons (Ac) .nil)) (refInts_nat g21 hsl126) (fun _ _ h => h)) ?_
 refine Aa rfl (A3 (Ap rfl <| Al rfl <| Ac) (by first | rfl | decide) (Ac)) ?_
 refine Aa rfl (Ag (Ac)) ?_
 refine Ar rfl rfl (Ac) (by first | rfl | decide) ?_
 refine Aa rfl (Ag (Bp rfl <| Bp rfl <| Bp rfl <| B1 (B6 he70 (by kernel_rfl)) <| Cx rfl)) ?_
 refine Ar rfl rfl (Al rfl <| Ac) (by first | rfl | decide) ?_
 refine Bl rfl (Bz Bn C6 rfl (.cons Ab (.cons Ab .nil)) rfl rfl (by decide) (by simp [Value.oneCell']) fun b127 hb127 nb127 => ?_)
 refine Br (i := 0) rfl hb127 .here fun F128 hF129 hz130 => ?_
 replace g23 := g23.mono hF129
 have hsl131 := n02_box2 hz130
 refine Ar rfl rfl (Ap rfl <| Ac) (by first | rfl | decide) ?_
 refine Bv rfl (Ba bd_25 A1 (.cons (Al rfl <| Ac) (.cons (Ac) .nil)) (refInts_nat g23 hsl131) (fun _ _ h => h)) ?_
 refine Aa rfl (A3 (Ap rfl <| Al rfl <| Ac) (by first | rfl | decide) (Ac)) ?_
 refine Aa rfl (Ad (Ac)) ?_
 refine Ah <| Ae <| A4 <| Aw rfl (.tmp (Ac) .nil) ?_
 show _ = _
 first | rfl | decide
end Go.Proofs.Ytaikojfonleccaa
namespace Go.Proofs.Ytaikojfonleccaa
open Go.RowKit
theorem bd_22 : Body Try.prog 22 := Bs (by kernel_rfl)
end Go.Proofs.Ytaikojfonleccaa
namespace Go.Proofs.Ytaikojfonleccaa
def ringL (bits n : Nat) : List Nat := selTo bits.testBit n
def ringN (s : Sale) (bits : Nat) : List Nat := if (ringL bits s.bidders.length).length = 1 then [] else ringL bits s.bidders.length
theorem mem_selTo {p : Nat → Bool} {k i : Nat} : i ∈ selTo p k ↔ i < k ∧ p i = true := by unfold selTo; simp
theorem selTo_asc {p : Nat → Bool} {k : Nat} : Asc (selTo p k) := List.Pairwise.sublist List.filter_sublist List.pairwise_lt_range
theorem ringN_asc {s : Sale} {bits : Nat} : Asc (ringN s bits) := by
 unfold ringN; split
 · exact .nil
 · exact selTo_asc
theorem ringN_lt {s : Sale} {bits : Nat} : ∀ i ∈ ringN s bits, i < s.bidders.length := by
 intro i hi; unfold ringN at hi; split at hi
 · cases hi
 · exact (mem_selTo.1 hi).1
theorem ringN_one {s : Sale} {bits : Nat} : (ringN s bits).length ≠ 1 := by
 unfold ringN; split
 · simp
 · assumption
theorem asc_cast {l : List Nat} (h : Asc l) : notAsc (castL l) = false := by
 unfold notAsc
 rw [List.any_eq_false]
 intro i hi
 have hi := List.mem_range.1 hi
 have hl : i < l.length := by simpa [castL] using hi
 simp only [decide_eq_true_eq, not_and, Int.not_le]
 intro h0
 have := List.pairwise_iff_getElem.1 h (i - 1) i (by omega) hl (by omega)
 simp [castL, hl, show i - 1 < l.length by omega]
 exact this
theorem ring_err {s : Sale} {l : List Nat} (h1 : Asc l) (h2 : ∀ b ∈ l, b < s.bidders.length) (h3 : l.length ≠ 1) : ringErr s (castL l) = 0 := by
 unfold ringErr
 rw [if_neg, if_neg (by rw [asc_cast h1]; simp), if_neg (by simpa [castL] using h3)]
 simp only [List.any_eq_true, not_exists, not_and]
 intro z hz
 obtain ⟨b, hb, rfl⟩ := List.mem_map.1 hz
 have := h2 b hb
 unfold inB
 simp; omega
theorem E5 {s : Sale} (h0 : (checkS s).2.2 = 0) {bits : Nat} : enterErr s (castL (ringN s bits)) = 0 := by
 unfold enterErr; rw [if_neg (fun k => k h0)]; exact ring_err ringN_asc ringN_lt ringN_one
theorem enterN_bad {s : Sale} (h0 : (checkS s).2.2 ≠ 0) {ring : List Int} : enterErr s ring ≠ 0 := by
 unfold enterErr; rw [if_pos h0]; exact h0
end Go.Proofs.Ytaikojfonleccaa
namespace Go.Proofs.Ytaikojfonleccaa
open Go.RowKit
theorem D3 {m k : Nat} : decide ((((m / 2 ^ k : Nat) : Int) % 2) = 1) = m.testBit k := by
 rw [Nat.testBit_eq_decide_div_mod_eq]
 by_cases h : m / 2 ^ k % 2 = 1
 · rw [decide_eq_true h]; exact decide_eq_true (by omega)
 · rw [decide_eq_false h]; exact decide_eq_false (by omega)
set_option maxRecDepth 100000 in
theorem valid_ok {F : Heap} {vs vb vl vn vd : Value} {s : Sale} (hr : SaleR F vs vb vl vn vd s) : Ok Try.prog 38 [.agg #[vs, .int .i64 s.premium, .int .i64 s.fee, .int .i64 s.days, vb, vl, vn, vd]].toArray F fun u _ => u = .bool (decide ((checkS s).2.2 = 0)) := by
 refine Ok.intro Try.func38 rfl Try.ntmps38 rfl fun w0 => ?_
 refine Af <| Ai fun ds => Bl rfl (Cc (Ak rfl) rfl fun b1 hb1 nb1 => ?_)
 refine Aa rfl (Ad Ab) ?_
 refine Ah <| Ae <| Af <| Ai fun ds => Aa rfl (Bj Cd (Al rfl <| Ac) rfl rfl (Bo 0 rfl)) ?_
 refine Bv rfl (Ba bd_16 A1 (.cons (Ac) .nil) (refCheckS_ok hr) (fun _ _ h => h.trans (show checkSV s = .tuple #[.int .i64 (checkS s).1, .int .i64 (checkS s).2.1, .int .i64 (checkS s).2.2] from rfl))) ?_
 refine Aa rfl (Ag (Ac)) ?_
 refine Aa rfl (Ay (Ac) rfl) ?_
 refine Aa rfl (Ay (Al rfl <| Ac) rfl) ?_
 refine Aa rfl (Ay (Ap rfl <| Ac) rfl) ?_
 refine Aa rfl (Ad (Ap rfl <| Ac)) ?_
 refine Aa rfl (Ad (Ap rfl <| Ac)) ?_
 refine Aa rfl (Ad (Ap rfl <| Ac)) ?_
 refine Ah <| Ae <| Af <| Ai fun ds => Aa rfl (Ag (Ac)) ?_
 refine Aa rfl (B4 (Ac) Ab) ?_
 refine Aa rfl (Ad (Ac)) ?_
 refine Ah <| Ae <| A4 <| Aw rfl (.tmp (Ac) .nil) ?_
 rfl
set_option maxRecDepth 100000 in
theorem ring_ok {F : Heap} {vs vb vl vn vd : Value} {s : Sale} (hr : SaleR F vs vb vl vn vd s) (hv : ValidS s) {bits : Nat} : Ok Try.prog 39 [.agg #[vs, .int .i64 s.premium, .int .i64 s.fee, .int .i64 s.days, vb, vl, vn, vd], .int .u8 (bits : Int)].toArray F fun u F' => Nats F' u (ringN s bits) := by
 refine Ok.intro Try.func39 rfl Try.ntmps39 rfl fun w0 => ?_
 have hL1 := hr.bidders.plain.lt
 have hnb := hv.nb
 refine Af <| Ai fun ds => Bl rfl (Cc (Ak rfl) rfl fun b1 hb1 nb1 => ?_)
 refine Aa rfl (Ad Ab) ?_
 refine Ah <| Ae <| Af <| Ai fun ds => Aa rfl (Ad Ab) ?_
 refine Ah <| Ae <| Af <| Af <| Ai fun ds => Aa rfl (Ad Ab) ?_
 refine Ah <| Ae <| A2 <| B3 [5, 6, 7, 8, 9, 10, 11, 12, 13, 14, 15, 16, 17, 18, 19, 20, 21, 22] (fun m e σ => ∃ k : Nat, m + k = s.bidders.length ∧ e 6 = .int .i64 (k : Int) ∧ ∃ v R, e 5 = v ∧ Own 3 1 v (ringL bits k).length ((ringL bits k).flatMap natE) R ∧ σ = ⟨F, (b1, bx 27 [vs, .int .i64 s.premium, .int .i64 s.fee, .int .i64 s.days, vb, vl, vn, vd]) :: R⟩) (s.bidders.length) ?_ ?_
 · exact ⟨0, by omega, (Ac), _, _, (Al rfl <| Ac), Own.nil, rfl⟩
 ·
  rintro m e _ ⟨k, hm, hs6, v5, R2, hs5, ho, rfl⟩; have hbl : (ringL bits k).length ≤ k := selTo_length
  by_cases hlt : k < s.bidders.length
  ·
   refine Af <| Af <| Ai fun ds => Aa rfl (Ag (At rfl hs6)) ?_
   refine Aa rfl (Aj C1 (Al rfl <| Am rfl <| Ap rfl <| Al rfl <| Ac)) ?_
   refine Aa rfl (Aq Cn (Ac) (Cell.own 0 rfl rfl)) ?_
   refine Aa rfl (Bg Cm (Ac) hr.bidders.plain) ?_
   refine Aa rfl (Bu (Ap rfl <| Al rfl <| Ac) (Ac)) ?_
   refine Ah <| Ae <| As (Ac) (by first | rfl | exact decide_eq_true (by omega)) ?_
   by_cases hb : bits.testBit k = true
   ·
    refine Ax <| Ae <| Af <| A2 <| Af <| Ai fun ds => Aa rfl (Ag (A0 rfl <| Al rfl <| Am rfl <| A0 rfl <| Ak rfl)) ?_
    refine Aa rfl (Ag (A0 rfl <| Ap rfl <| At rfl hs6)) ?_
    refine Aa rfl (q_shr (Al rfl <| Ac) (Ac) (k := k) rfl (by show k < 8; omega) Em) ?_
    refine Aa rfl (q_rem (Ac) Ab (Int.natCast_nonneg _) (by decide)) ?_
    refine Aa rfl (B4 (Ac) Ab) ?_
    refine Ah <| Ae <| As (Ac) (by rw [D3]; exact hb) ?_
    refine Ai fun ds => Aa rfl (Ag (A9 rfl <| Ap rfl <| At rfl hs5)) ?_
    refine Aa rfl (Ag (A9 rfl <| Ap rfl <| Al rfl <| At rfl hs6)) ?_
    refine Bl rfl (Bz Bn C6 rfl (.cons (Ac) .nil) rfl rfl (by decide) (by simp [Value.oneCell']) fun b3 hb3 nb3 => ?_)
    refine Bl rfl (Cv Bn el_3 (Ap rfl <| Ac) ho (Ac) (Dn (s := 1) 0 rfl rfl (by simp [Value.oneCell'])) (by omega) (by omega) (.s <| .s <| .z) .last fun v4 R5 ho6 => ?_)
    have ho2 := ho6.snoc (x := k) rfl rfl
    refine Aa rfl (Ad (Ac)) ?_
    refine Ah <| Bh <| Ae <| Cq (fun _ _ h => h.drop (.cons _ <| .cons_cons _ <| .refl _)) ?_
    refine Ai fun ds => Aa rfl (Ag (A9 rfl <| A0 rfl <| Ap rfl <| Al rfl <| At rfl hs6)) ?_
    refine Aa rfl (B0 (Ac) Ab rfl (by omega) (by omega)) ?_
    refine Aa rfl (Ad (Ac)) ?_
    refine Ah <| Ae ⟨_, m - 1, Off.eq (Db rfl <| Ev rfl <| Bi), by omega, ?_⟩
    refine ⟨k + 1, by omega, (Ac), _, _, (Ap rfl <| Al rfl <| Ac), by rw [ringL, Dx, if_pos hb]; exact ho2, rfl⟩
   ·
    replace hb : bits.testBit k = false := by simpa using hb
    refine Ax <| Ae <| Af <| A2 <| Af <| Ai fun ds => Aa rfl (Ag (A0 rfl <| Al rfl <| Am rfl <| A0 rfl <| Ak rfl)) ?_
    refine Aa rfl (Ag (A0 rfl <| Ap rfl <| At rfl hs6)) ?_
    refine Aa rfl (q_shr (Al rfl <| Ac) (Ac) (k := k) rfl (by show k < 8; omega) Em) ?_
    refine Aa rfl (q_rem (Ac) Ab (Int.natCast_nonneg _) (by decide)) ?_
    refine Aa rfl (B4 (Ac) Ab) ?_
    refine Ah <| Ae <| Ao (Ac) (by rw [D3]; exact hb) ?_
    refine Ax <| Bh <| Ae <| Ai fun ds => Aa rfl (Ag (A9 rfl <| Ap rfl <| At rfl hs6)) ?_
    refine Aa rfl (B0 (Ac) Ab rfl (by omega) (by omega)) ?_
    refine Aa rfl (Ad (Ac)) ?_
    refine Ah <| Ae ⟨_, m - 1, Off.eq (Ea rfl <| ou4 rfl <| E4 rfl <| Bi), by omega, ?_⟩
    refine ⟨k + 1, by omega, (Ac), _, _, (A9 rfl <| A0 rfl <| Al rfl <| At rfl hs5), by rw [ringL, Dx, if_neg (by rw [hb]; simp)]; exact ho, rfl⟩
  ·
   refine Af <| Af <| Ai fun ds => Aa rfl (Ag (At rfl hs6)) ?_
   refine Aa rfl (Aj C1 (Al rfl <| Am rfl <| Ap rfl <| Al rfl <| Ac)) ?_
   refine Aa rfl (Aq Cn (Ac) (Cell.own 0 rfl rfl)) ?_
   refine Aa rfl (Bg Cm (Ac) hr.bidders.plain) ?_
   refine Aa rfl (Bu (Ap rfl <| Al rfl <| Ac) (Ac)) ?_
   refine Ah <| Ae <| Ao (Ac) (by first | rfl | exact decide_eq_false (by omega)) ?_
   obtain rfl : k = s.bidders.length := by omega
   refine E1 (σ := ⟨_, _⟩) (by rfl) ho (.s <| .z) .last fun F7 hF8 hz9 => ?_
   have hn2 := ho.sl (fun _ => rfl) hz9 (by have := selTo_length (p := bits.testBit) (k := s.bidders.length); unfold ringL; omega)
   by_cases h1 : (ringL bits s.bidders.length).length = 1
   ·
    refine Bt ?_
    refine Bk <| Bk <| Bm <| Ae <| Af <| Af <| Ai fun ds => Aa rfl (Ag (A0 rfl <| Al rfl <| At rfl hs5)) ?_
    refine Aa rfl (Bg Bn (Ac) hn2.plain) ?_
    refine Aa rfl (B4 (Ac) Ab) ?_
    refine Ah <| Ae <| As (Ac) (decide_eq_true (by omega)) ?_
    refine Af <| Ai fun ds => Aa rfl (Ad Ab) ?_
    refine Ah <| Ae <| A4 <| A5 ?_
    refine Aw rfl (.tmp (Ac) .nil) ?_
    unfold ringN; rw [if_pos h1]
    exact Sl.nil
   ·
    refine Bt ?_
    refine Bk <| Bk <| Bm <| Ae <| Af <| Af <| Ai fun ds => Aa rfl (Ag (A0 rfl <| Al rfl <| At rfl hs5)) ?_
    refine Aa rfl (Bg Bn (Ac) hn2.plain) ?_
    refine Aa rfl (B4 (Ac) Ab) ?_
    refine Ah <| Ae <| Ao (Ac) (decide_eq_false (by omega)) ?_
    refine Ax <| Ae <| Af <| Ai fun ds => Aa rfl (Ag (A9 rfl <| At rfl hs5)) ?_
    refine Aa rfl (Ad (Ac)) ?_
    refine Ah <| Ae <| A4 <| Aw rfl (.tmp (Ac) .nil) ?_
    unfold ringN; rw [if_neg h1]
    exact hn2
end Go.Proofs.Ytaikojfonleccaa
namespace Go.Proofs.Ytaikojfonleccaa
open Go.RowKit
theorem bd_39 : Body Try.prog 39 := Bs (by kernel_rfl)
theorem one_5 : OneT Try.prog 5 := Do (by kernel_rfl)
section
variable {s : Sale} {rg : List Int} {off : List Nat} {lots bits k : Nat}
end
end Go.Proofs.Ytaikojfonleccaa
namespace Go.Proofs.Ytaikojfonleccaa
section
variable {s : Sale} {r : Nat} {off : List Nat} {lb : Nat}
end
theorem bad_sell {s : Sale} {r : List Int} (h0 : (checkS s).2.2 ≠ 0) : enterErr s r ≠ 0 := enterN_bad h0
section
variable {s : Sale} {l : List Ent}
end
section
variable {s : Sale} {l : List Ent} {o : List Nat}
end
end Go.Proofs.Ytaikojfonleccaa
namespace Go.Proofs.Ytaikojfonleccaa
open Go.RowKit
theorem bd_38 : Body Try.prog 38 := Bs (by kernel_rfl)
end Go.Proofs.Ytaikojfonleccaa
namespace Go.Proofs.Ytaikojfonleccaa
open Go.RowKit
theorem ar_74 : ArrT Try.prog 74 2 5 1 := arrT_of (by kernel_rfl)
end Go.Proofs.Ytaikojfonleccaa
namespace Go.Proofs.Ytaikojfonleccaa
def retC (s : Sale) (m i : Nat) : Bool := m.testBit i && (s.lot i).defect
def retTo (s : Sale) (rg : List Int) (m : Nat) (d : Int) : Nat → List Back
 | 0 => []
 | k + 1 => if (soldS s k rg).bidder ≠ -1 ∧ retC s m k = true then retTo s rg m d k ++ [⟨k, d⟩] else retTo s rg m d k
section
variable {s : Sale} {rg : List Int} {m : Nat} {d : Int}
theorem ret_yes {k : Nat} (h1 : (soldS s k rg).bidder ≠ -1) (h2 : retC s m k = true) : retTo s rg m d (k + 1) = retTo s rg m d k ++ [⟨k, d⟩] := by rw [retTo, if_pos ⟨h1, h2⟩]
theorem ret_no1 {k : Nat} (h1 : (soldS s k rg).bidder = -1) : retTo s rg m d (k + 1) = retTo s rg m d k := by rw [retTo, if_neg (fun h => h.1 h1)]
theorem ret_no2 {k : Nat} (h1 : retC s m k = false) : retTo s rg m d (k + 1) = retTo s rg m d k := by rw [retTo, if_neg (fun h => by rw [h1] at h; cases h.2)]
theorem ret_len : ∀ k, (retTo s rg m d k).length ≤ k
 | 0 => Nat.le_refl _
 | k + 1 => by
   have := ret_len k
   unfold retTo; split
   · rw [List.length_append, List.length_singleton]; omega
   · omega
theorem ret_at : ∀ k j (hj : j < (retTo s rg m d k).length), ∃ i, i < k ∧ (retTo s rg m d k)[j] = ⟨(i : Int), d⟩ ∧ (soldS s i rg).bidder ≠ -1 ∧ retC s m i = true ∧ ∀ j' (hj' : j' < (retTo s rg m d k).length), j' < j → (retTo s rg m d k)[j'].lot < (i : Int)
 | 0, j, hj => absurd hj (by simp [retTo])
 | k + 1, j, hj => by
   by_cases hl : (soldS s k rg).bidder ≠ -1 ∧ retC s m k = true
   · have he : retTo s rg m d (k + 1) = retTo s rg m d k ++ [⟨k, d⟩] := ret_yes hl.1 hl.2
     simp only [he] at hj ⊢
     rw [List.length_append, List.length_singleton] at hj
     by_cases hjk : j < (retTo s rg m d k).length
     · obtain ⟨i, h1, h2, h3, h4, h5⟩ := ret_at k j hjk
       refine ⟨i, by omega, by rw [List.getElem_append_left hjk]; exact h2, h3, h4, fun j' hj' hlt => ?_⟩
       rw [List.getElem_append_left (by omega)]
       exact h5 j' (by omega) hlt
     · obtain rfl : j = (retTo s rg m d k).length := by omega
       refine ⟨k, by omega, by rw [List.getElem_append_right (by omega)]; simp, hl.1, hl.2, fun j' hj' hlt => ?_⟩
       rw [List.getElem_append_left hlt]
       obtain ⟨i, h1, h2, h3, h4, h5⟩ := ret_at k j' hlt
       rw [h2]; simp only; omega
   · have he : retTo s rg m d (k + 1) = retTo s rg m d k := by rw [retTo, if_neg hl]
     simp only [he] at hj ⊢
     obtain ⟨i, h1, h2, h3, h4, h5⟩ := ret_at k j hj
     exact ⟨i, by omega, h2, h3, h4, h5⟩
theorem ret_err_at (hd : 0 ≤ d ∧ d ≤ s.days) {rs : List Back} (hr : rs = retTo s rg m d s.lots.length) {j : Nat} (hj : j < rs.length) : retErrAt s rg rs j = 0 := by
 subst hr
 obtain ⟨i, h1, h2, h3, h4, h5⟩ := ret_at s.lots.length j hj
 unfold retC at h4
 rw [Bool.and_eq_true] at h4
 rw [Di hj, h2]
 simp only [Int.toNat_natCast]
 rw [if_neg (by unfold inB; simp; omega), if_neg, if_neg (by unfold inB; simp; omega), if_neg]
 · rintro (h | h)
   · rw [h4.2] at h; cases h
   · exact h3 h
 · rw [List.any_eq_true]
   rintro ⟨x, hx, he⟩
   obtain ⟨j', hj', rfl⟩ := List.getElem_of_mem hx
   rw [List.length_take] at hj'
   rw [List.getElem_take] at he
   have := h5 j' (by omega) (by omega)
   simp only [decide_eq_true_eq] at he
   omega
theorem ret_err (hd : 0 ≤ d ∧ d ≤ s.days) : retErr s rg (retTo s rg m d s.lots.length) = 0 := retErr_ok fun _ hj => ret_err_at hd rfl hj
def lateL (rs : List Back) (d : Int) : List Back := match rs with
 | [] => []
 | x :: t => ⟨x.lot, d⟩ :: t
theorem late_err (h0 : 0 < (retTo s rg m d s.lots.length).length) : retErr s rg (lateL (retTo s rg m d s.lots.length) (s.days + 1)) = 7 := by
 obtain ⟨i, h1, h2, -⟩ := ret_at s.lots.length 0 h0
 cases hr : retTo s rg m d s.lots.length with
 | nil => rw [hr] at h0; simp at h0
 | cons x t =>
   have hx : x = ⟨(i : Int), d⟩ := by simpa [hr] using h2
   subst hx
   show retErr s rg (⟨(i : Int), s.days + 1⟩ :: t) = 7
   refine Ey (k := 0) (by simp) (fun j hj => absurd hj (by omega)) ?_ (by decide)
   unfold retErrAt
   simp only [List.getElem?_cons_zero, List.take_zero, List.any_nil]
   rw [if_neg (by unfold inB; simp; omega), if_neg (by simp), if_pos (by unfold inB; simp; omega)]
theorem twice_err (hd : 0 ≤ d ∧ d ≤ s.days) (h0 : 0 < (retTo s rg m d s.lots.length).length) : retErr s rg (retTo s rg m d s.lots.length ++ [(retTo s rg m d s.lots.length)[0]]) = 5 := by
 obtain ⟨i, h1, h2, -⟩ := ret_at s.lots.length 0 h0
 refine Ey (k := (retTo s rg m d s.lots.length).length) (by simp) (fun j hj => ?_) ?_ (by decide)
 · have := ret_err_at hd (rg := rg) (m := m) rfl hj
   rw [Di hj] at this
   rw [Di (by rw [List.length_append]; omega)]
   rw [List.getElem_append_left hj, List.take_append_of_le_length (by omega)]
   exact this
 · rw [Di (by simp)]
   rw [List.getElem_append_right (by omega)]
   simp only [Nat.sub_self, List.getElem_cons_zero]
   rw [if_neg (by rw [h2]; unfold inB; simp; omega), if_pos]
   rw [List.take_append_of_le_length (by omega), List.take_length, List.any_eq_true]
   exact ⟨_, List.getElem_mem h0, by simp⟩
theorem back_ret : ∀ k i, backB (retTo s rg m d k) i = (decide (i < k) && (decide ((soldS s i rg).bidder ≠ -1) && retC s m i))
 | 0, i => by simp [retTo, backB]
 | k + 1, i => by
   have ih := back_ret k i
   by_cases hl : (soldS s k rg).bidder ≠ -1 ∧ retC s m k = true
   · rw [ret_yes hl.1 hl.2]
     unfold backB at ih ⊢
     rw [List.any_append, ih]
     by_cases hik : i = k
     · subst hik; simp [hl.1, hl.2]
     · have h1 : decide (i < k + 1) = decide (i < k) := by rw [decide_eq_decide]; omega
       have h2 : ((k : Int) = (i : Int)) = False := by rw [eq_iff_iff]; exact ⟨fun h => hik (by omega), False.elim⟩
       rw [h1]; simp [h2]
   · rw [show retTo s rg m d (k + 1) = retTo s rg m d k by rw [retTo, if_neg hl], ih]
     by_cases hik : i = k
     · subst hik
       have : (decide ((soldS s i rg).bidder ≠ -1) && retC s m i) = false := by
         rw [Bool.and_eq_false_iff]
         by_cases h : (soldS s i rg).bidder ≠ -1
         · right; cases hc : retC s m i with
           | true => exact absurd ⟨h, hc⟩ hl
           | false => rfl
         · left; exact decide_eq_false h
       rw [this, Bool.and_false, Bool.and_false]
     · have h1 : decide (i < k + 1) = decide (i < k) := by rw [decide_eq_decide]; omega
       rw [h1]
theorem live_yes {k : Nat} (h1 : (soldS s k rg).bidder ≠ -1) (h2 : retC s m k = false) : liveB s rg (retTo s rg m d s.lots.length) k = true := by
 unfold liveB; rw [back_ret, h2]; simp [h1]
theorem live_no1 {rs : List Back} {k : Nat} (h1 : (soldS s k rg).bidder = -1) : liveB s rg rs k = false := by unfold liveB; simp [h1]
theorem live_no2 {k : Nat} (hk : k < s.lots.length) (h1 : (soldS s k rg).bidder ≠ -1) (h2 : retC s m k = true) : liveB s rg (retTo s rg m d s.lots.length) k = false := by
 unfold liveB; rw [back_ret, h2]; simp [h1, hk]
end
def bouTo (s : Sale) (ring : List Int) (rs : List Back) (b : Nat) : Nat → Int
 | 0 => 0
 | k + 1 => if liveB s ring rs k = true ∧ (soldS s k ring).bidder = (b : Int) then bouTo s ring rs b k + (soldS s k ring).price else bouTo s ring rs b k
def solTo (s : Sale) (ring : List Int) (rs : List Back) (c : Nat) : Nat → Int
 | 0 => 0
 | k + 1 => if liveB s ring rs k = true ∧ (s.lot k).seller = (c : Int) then solTo s ring rs c k + (soldS s k ring).price else solTo s ring rs c k
section
variable {s : Sale} {ring : List Int} {rs : List Back}
theorem bou_facts (hv : ValidS s) {b : Nat} : ∀ k, k ≤ s.lots.length → 0 ≤ bouTo s ring rs b k ∧ bouTo s ring rs b k ≤ 100000 * k ∧ bouTo s ring rs b k ≤ payTo s ring rs b k ∧ payTo s ring rs b k ≤ 2 * bouTo s ring rs b k ∧ 0 ≤ solTo s ring rs b k ∧ solTo s ring rs b k ≤ 100000 * k ∧ 0 ≤ getTo s ring rs b k ∧ getTo s ring rs b k ≤ solTo s ring rs b k
 | 0, _ => by simp [bouTo, solTo, payTo, getTo]
 | k + 1, hk => by
   have ih := bou_facts hv (b := b) k (by omega)
   have hf := part_facts hv ring (k := k) (by omega)
   unfold bouTo solTo payTo getTo
   refine ⟨?_, ?_, ?_, ?_, ?_, ?_, ?_, ?_⟩ <;> split <;> omega
theorem bou_set {k b n : Nat} (hl : liveB s ring rs k = true) (hb : (soldS s k ring).bidder = (b : Int)) :
   (ivals (fun b => bouTo s ring rs b k) n).set b (.int .i64 (bouTo s ring rs b k + (soldS s k ring).price)) = ivals (fun b => bouTo s ring rs b (k + 1)) n :=
 ivals_set (by show bouTo s ring rs b (k + 1) = _; rw [bouTo, if_pos ⟨hl, hb⟩]) fun c hc => by show bouTo s ring rs c (k + 1) = _; rw [bouTo, if_neg]; rintro ⟨-, h⟩; exact hc (by omega)
theorem sol_set {k b n : Nat} (hl : liveB s ring rs k = true) (hb : (s.lot k).seller = (b : Int)) :
   (ivals (fun b => solTo s ring rs b k) n).set b (.int .i64 (solTo s ring rs b k + (soldS s k ring).price)) = ivals (fun b => solTo s ring rs b (k + 1)) n :=
 ivals_set (by show solTo s ring rs b (k + 1) = _; rw [solTo, if_pos ⟨hl, hb⟩]) fun c hc => by show solTo s ring rs c (k + 1) = _; rw [solTo, if_neg]; rintro ⟨-, h⟩; exact hc (by omega)
theorem bou_dead {k : Nat} (hl : liveB s ring rs k = false) : (∀ n, ivals (fun b => bouTo s ring rs b (k + 1)) n = ivals (fun b => bouTo s ring rs b k) n) ∧ (∀ n, ivals (fun b => solTo s ring rs b (k + 1)) n = ivals (fun b => solTo s ring rs b k) n) := by
 refine ⟨fun n => ?_, fun n => ?_⟩
 · congr 1; funext b; rw [bouTo, if_neg (by rw [hl]; simp)]
 · congr 1; funext b; rw [solTo, if_neg (by rw [hl]; simp)]
end
def sumI (f : Nat → Int) : Nat → Int
 | 0 => 0
 | k + 1 => sumI f k + f k
theorem sum_same {f g : Nat → Int} : ∀ n, (∀ i, i < n → g i = f i) → sumI g n = sumI f n
 | 0, _ => rfl
 | n + 1, h => by unfold sumI; rw [sum_same n fun i hi => h i (by omega), h n (by omega)]
theorem sum_upd {f g : Nat → Int} {d : Int} {b : Nat} : ∀ n, b < n → g b = f b + d → (∀ c, c ≠ b → g c = f c) → sumI g n = sumI f n + d
 | 0, h, _, _ => absurd h (by omega)
 | n + 1, hb, h1, h2 => by
   unfold sumI
   by_cases he : b = n
   · subst he; rw [h1, sum_same b fun i hi => h2 i (by omega)]; omega
   · rw [sum_upd n (by omega) h1 h2, h2 n (Ne.symm he)]; omega
theorem sum_bound {f : Nat → Int} {M : Int} : ∀ n, (∀ i, i < n → 0 ≤ f i ∧ f i ≤ M) → 0 ≤ sumI f n ∧ sumI f n ≤ M * n
 | 0, _ => by simp [sumI]
 | n + 1, h => by
   have ih := sum_bound n fun i hi => h i (by omega)
   have := h n (by omega)
   have e : M * ((n + 1 : Nat) : Int) = M * n + M := by rw [Int.natCast_succ, Int.mul_add, Int.mul_one]
   unfold sumI; rw [e]; omega
theorem acc_sum {s : Sale} (hv : ValidS s) {ring : List Int} {rs : List Back} : ∀ k, k ≤ s.lots.length → sumI (fun b => payTo s ring rs b k) s.bidders.length = houseTo s ring rs k + sumI (fun c => getTo s ring rs c k) s.sellers.length
 | 0, _ => by
   rw [sum_same (g := fun b => payTo s ring rs b 0) (f := fun _ => 0) _ (fun i _ => rfl), sum_same (g := fun c => getTo s ring rs c 0) (f := fun _ => 0) _ (fun i _ => rfl)]
   have hz : ∀ n, sumI (fun _ => 0) n = 0 := fun n => by
     induction n with
     | zero => rfl
     | succ n ih => unfold sumI; rw [ih]; rfl
   rw [hz, hz]; rfl
 | k + 1, hk => by
   have ih := acc_sum hv (ring := ring) (rs := rs) k (by omega)
   by_cases hl : liveB s ring rs k = true
   · have hsb := Ee hv (l := k) (by omega) ring
     have hlo := hv.lo k (by omega)
     have hne : (soldS s k ring).bidder ≠ -1 := by
       unfold liveB at hl
       rw [Bool.and_eq_true, decide_eq_true_iff] at hl
       exact hl.1
     obtain ⟨b, hb⟩ := Int.eq_ofNat_of_zero_le (show 0 ≤ (soldS s k ring).bidder by omega)
     obtain ⟨c, hc⟩ := Int.eq_ofNat_of_zero_le hlo.1
     have h1 := sum_upd (f := fun b => payTo s ring rs b k) (g := fun b => payTo s ring rs b (k + 1)) (d := (soldS s k ring).price + partP (soldS s k ring).price s.premium) (b := b) s.bidders.length (by omega)
       (by show payTo s ring rs b (k + 1) = _; rw [payTo, if_pos ⟨hl, hb⟩]) (fun e he => by show payTo s ring rs e (k + 1) = _; rw [payTo, if_neg]; rintro ⟨-, h⟩; exact he (by omega))
     have h2 := sum_upd (f := fun c => getTo s ring rs c k) (g := fun c => getTo s ring rs c (k + 1)) (d := (soldS s k ring).price - partP (soldS s k ring).price s.fee) (b := c) s.sellers.length (by omega)
       (by show getTo s ring rs c (k + 1) = _; rw [getTo, if_pos ⟨hl, hc⟩]) (fun e he => by show getTo s ring rs e (k + 1) = _; rw [getTo, if_neg]; rintro ⟨-, h⟩; exact he (by omega))
     rw [h1, h2, ih, house_live hl]; omega
   · have hl' : liveB s ring rs k = false := by simpa using hl
     have h1 := sum_same (f := fun b => payTo s ring rs b k) (g := fun b => payTo s ring rs b (k + 1)) s.bidders.length (fun i _ => by show payTo s ring rs i (k + 1) = _; rw [payTo, if_neg (by rw [hl']; simp)])
     have h2 := sum_same (f := fun b => getTo s ring rs b k) (g := fun b => getTo s ring rs b (k + 1)) s.sellers.length (fun i _ => by show getTo s ring rs i (k + 1) = _; rw [getTo, if_neg (by rw [hl']; simp)])
     rw [h1, h2, ih, show houseTo s ring rs (k + 1) = houseTo s ring rs k by rw [houseTo, if_neg (by rw [hl']; simp)]]
theorem flat_late {rs : List Back} {d : Int} (h : 0 < rs.length) : (rs.flatMap Back.enc).set 1 (.int .i64 d) = (lateL rs d).flatMap Back.enc := by
 cases rs with
 | nil => simp at h
 | cons x t => simp [lateL, Back.enc]
theorem late_length {rs : List Back} {d : Int} : (lateL rs d).length = rs.length := by cases rs <;> rfl
end Go.Proofs.Ytaikojfonleccaa
namespace Go.Proofs.Ytaikojfonleccaa
open Go.RowKit
theorem el_77 : ElemT Try.prog 77 2 16 (.agg #[.int .i64 0, .int .i64 0]) := elemT_of (by kernel_rfl) rfl (by decide)
set_option maxRecDepth 100000 in
theorem accountedLaw_ok {F : Heap} {vs vb vl vn vd : Value} {s : Sale} (hr : SaleR F vs vb vl vn vd s) {ka kb x : Nat} (hx8 : x < 256) : Ok Try.prog 9 [.agg #[vs, .int .i64 s.premium, .int .i64 s.fee, .int .i64 s.days, vb, vl, vn, vd], .agg #[.int .u8 (ka : Int), .int .u8 (kb : Int)], .int .u8 (x : Int)].toArray F fun u _ => u = .bool true := by
 refine Ok.intro Try.func9 rfl Try.ntmps9 rfl fun w0 => ?_
 have hle0 : F.le F := Heap.le_refl _
 by_cases h0 : (checkS s).2.2 = 0
 ·
  have hv := Da h0
  have hL := hv.nl
  have hL2 := hv.nb
  have hL3 := hv.nse
  have hL4 := hv.days
  have hal := Et (s := s) (ring := castL (ringN s ka))
  have hdd : 0 ≤ ((x : Int) % (s.days + 1)) ∧ ((x : Int) % (s.days + 1)) ≤ s.days := by have h1 := Int.emod_nonneg (x : Int) (show s.days + 1 ≠ 0 by omega); have h2 := Int.emod_lt_of_pos (x : Int) (show 0 < s.days + 1 by omega); omega
  refine Af <| Ai fun ds => Bl rfl (Cc (Ak rfl) rfl fun b1 hb1 nb1 => ?_)
  refine Bl rfl (Cc (Al rfl <| Ak rfl) rfl fun b2 hb2 nb2 => ?_)
  refine Aa rfl (Ad Ab) ?_
  refine Ah <| Ae <| Af <| Af <| Ai fun ds => Aa rfl (Bj Cd (Ap rfl <| Ac) rfl rfl (Bo 1 rfl)) ?_
  refine Bv rfl (Ba bd_38 A1 (.cons (Ac) .nil) (valid_ok hr) (fun _ _ h => h)) ?_
  refine Aa rfl (C0 (Ac)) ?_
  refine Ah <| Ae <| Ao (Ac) (by simp [h0]) ?_
  refine Ax <| Ae <| Af <| Ai fun ds => Aa rfl (Bj Cd (A0 rfl <| Al rfl <| Ac) rfl rfl (Bo 1 rfl)) ?_
  refine Aa rfl (Bw (k := 0) ar_74 (A0 rfl <| Al rfl <| Ac) Ab rfl (by decide)) ?_
  refine Aa rfl (Aq one_5 (Ac) (Cell.own 0 rfl rfl)) ?_
  refine Bl rfl (Ct bd_39 A1 (.cons (Ap rfl <| Ac) (.cons (Ac) .nil)) (ring_ok hr hv) fun v3 F4 hr5 hF6 => ?_)
  replace hr := hr.mono hF6
  replace hle0 := Heap.le_trans hle0 hF6
  have hn := hr5
  have hx := hn.ints
  change Ints _ _ (castL (ringN s ka)) at hx
  refine Aa rfl (Ad (Ac)) ?_
  refine Ah <| Ae <| Af <| Ai fun ds => Aa rfl (Bj Cd (A9 rfl <| Ap rfl <| Ac) rfl rfl (Bo 1 rfl)) ?_
  refine Aa rfl (Ag (Al rfl <| Ac)) ?_
  refine Bl rfl (Ct bd_19 A1 (.cons (Al rfl <| Ac) (.cons (Ac) .nil)) ((sellTop_ok hr hx).mono fun u F2 _ h => (by rw [sellE_ok (E5 h0)] at h; exact h : ∃ w, u = .tuple #[w, .int .i64 0] ∧ Sl F2 w 2 Res.enc (allS s (castL (ringN s ka))))) fun v7 F8 hr9 hF10 => ?_)
  replace hr := hr.mono hF10
  replace hle0 := Heap.le_trans hle0 hF10
  replace hx := hx.mono hF10
  obtain ⟨hq_, rfl, hq⟩ := hr9
  refine Aa rfl (Ag (Ac)) ?_
  refine Aa rfl (Ay (Ac) rfl) ?_
  refine Aa rfl (Ay (Al rfl <| Ac) rfl) ?_
  refine Aa rfl (Ad (Al rfl <| Ac)) ?_
  refine Aa rfl (Ad (Al rfl <| Ac)) ?_
  refine Ah <| Ae <| Af <| Af <| Ai fun ds => Aa rfl (Ag (Ac)) ?_
  refine Aa rfl (B8 (Ac) Ab) ?_
  refine Aa rfl (Ag (Ac)) ?_
  refine Ar rfl rfl (Ac) (by first | rfl | decide) ?_
  refine Aa rfl (Ag (A0 rfl <| Ac)) ?_
  refine Ar rfl rfl (Al rfl <| Ac) (by first | rfl | decide) ?_
  refine Aa rfl (Bg Cw (Ac) hq.plain) ?_
  refine Ar rfl rfl (Ap rfl <| Ac) (by first | rfl | decide) ?_
  refine Aa rfl (Aj Co (A7 rfl <| A0 rfl <| Ap rfl <| Al rfl <| Ac)) ?_
  refine Ar rfl rfl (Ap rfl <| Al rfl <| Ac) (by first | rfl | decide) ?_
  refine Aa rfl (Aq C3 (Ac) (Cell.own 1 rfl rfl)) ?_
  refine Ar rfl rfl (A0 rfl <| Ac) (by first | rfl | decide) ?_
  refine Aa rfl (Bg C5 (Ac) hr.lots.plain) ?_
  refine Ar rfl rfl (A0 rfl <| Al rfl <| Ac) (by first | rfl | decide) ?_
  refine Aa rfl (B8 (Ap rfl <| Al rfl <| Ac) (Ac)) ?_
  refine Aa rfl (A8 (A0 rfl <| Ap rfl <| Ac) (by first | rfl | decide) (Ac)) ?_
  refine Ah <| Ae <| Ao (Ac) (decide_eq_false (by omega)) ?_
  refine Ax <| Ae <| Af <| Ai fun ds => Aa rfl (Ad Ab) ?_
  refine Ah <| Ae <| Af <| WC_cut [15, 16, 69, 70, 71, 72, 73, 74, 75, 76] (fun st σ => ∃ p15 p16, st 15 = .slice (some ⟨p15, 0, none⟩) s.bidders.length s.bidders.length ∧ st 16 = .slice (some ⟨p16, 0, none⟩) s.sellers.length s.sellers.length ∧ σ = ⟨F8, [(p15, bx 3 (ivals (fun b => bouTo s (castL (ringN s ka)) (retTo s (castL (ringN s ka)) kb ((x : Int) % (s.days + 1)) s.lots.length) b 0) s.bidders.length)), (p16, bx 3 (ivals (fun b => solTo s (castL (ringN s ka)) (retTo s (castL (ringN s ka)) kb ((x : Int) % (s.days + 1)) s.lots.length) b 0) s.sellers.length)), (b2, bx 74 [.int .u8 (ka : Int), .int .u8 (kb : Int)]), (b1, bx 27 [vs, .int .i64 s.premium, .int .i64 s.fee, .int .i64 s.days, vb, vl, vn, vd])]⟩) ?_ ?_
  ·
   have hleS := hle0
   refine Dg (.inl rfl) (fun _ _ h => h) (.cons_cons _ <| .cons_cons _ <| .refl _) [] (by kernel_rfl) fun ds => ?_
   refine Az 0 rfl (by kernel_rfl) (by kernel_rfl) (by kernel_rfl) (by kernel_rfl) rfl rfl (fun _ h => h.drop (.cons_cons _ <| .cons_cons _ <| .refl _)) (fun _ _ _ h => h) (Aj C1 (A7 rfl <| A9 rfl <| A0 rfl <| Al rfl <| Ac)) ?_
   refine Az 1 rfl (by kernel_rfl) (by kernel_rfl) (by kernel_rfl) (by kernel_rfl) rfl rfl (fun _ h => h.drop (.cons_cons _ <| .cons_cons _ <| .refl _)) (fun _ _ _ h => h) (Aq Cn (Ac) (Cell.own 1 rfl rfl)) ?_
   refine Az 2 rfl (by kernel_rfl) (by kernel_rfl) (by kernel_rfl) (by kernel_rfl) rfl rfl (fun _ h => h.drop (.cons_cons _ <| .cons_cons _ <| .refl _)) (fun _ _ _ h => h) (Bg Cm (Ac) hr.bidders.plain) ?_
   refine Az 4 rfl (by kernel_rfl) (by kernel_rfl) (by kernel_rfl) (by kernel_rfl) rfl rfl (fun _ h => h.drop (.cons_cons _ <| .cons_cons _ <| .refl _)) (fun _ _ _ h => h) (Aj Fa (Bp rfl <| Ac)) ?_
   refine Az 5 rfl (by kernel_rfl) (by kernel_rfl) (by kernel_rfl) (by kernel_rfl) rfl rfl (fun _ h => h.drop (.cons_cons _ <| .cons_cons _ <| .refl _)) (fun _ _ _ h => h) (Aq Cn (Ac) (Cell.own 1 rfl rfl)) ?_
   refine Az 6 rfl (by kernel_rfl) (by kernel_rfl) (by kernel_rfl) (by kernel_rfl) rfl rfl (fun _ h => h.drop (.cons_cons _ <| .cons_cons _ <| .refl _)) (fun _ _ _ h => h) (Bg Cm (Ac) hr.sellers.plain) ?_
   refine Ex [3, 7] (by kernel_rfl) (by decide) (in2 ?_ ?_)
   ·
    refine Dh rfl rfl (x_make (k := s.bidders.length) Bn el_3 rfl rfl (Ap rfl <| Al rfl <| Ac) (Ap rfl <| Al rfl <| Ac) rfl (by omega) (by omega) fun b11 hb11 nb11 => ⟨fun _ _ => (fun _ h => h.drop (.cons _ <| .cons_cons _ <| .cons_cons _ <| .refl _)), ?_⟩)
    refine Az 8 rfl (by kernel_rfl) (by kernel_rfl) (by kernel_rfl) (by kernel_rfl) rfl rfl (fun _ h => h.drop (.cons _ <| .cons_cons _ <| .cons_cons _ <| .refl _)) (fun _ _ _ h => h) (Ad (Ac)) ?_
    refine C4 7 rfl (by kernel_rfl) rfl (x_make (k := s.sellers.length) Bn el_3 rfl rfl (Ap rfl <| Ac) (Ap rfl <| Ac) rfl (by omega) (by omega) fun b12 hb12 nb12 => ⟨fun _ _ => (fun _ h => h.drop (.cons _ <| .cons _ <| .cons_cons _ <| .cons_cons _ <| .refl _)), ?_⟩)
    refine Az 9 rfl (by kernel_rfl) (by kernel_rfl) (by kernel_rfl) (by kernel_rfl) rfl rfl (fun _ h => h.drop (.cons _ <| .cons _ <| .cons_cons _ <| .cons_cons _ <| .refl _)) (fun _ _ _ h => h) (Ad (Ac)) ?_
    refine WX_order (.cons (.next <| .here) <| .cons (.here) <| .cons (.here) <| .cons (.here) <| .nil) ?_
    refine Cs (by kernel_rfl) ?_ _
    refine Ae ⟨_, Off.eq (Ea rfl <| Ev rfl <| Df), ?_⟩
    exact ⟨_, _, (Ap rfl <| Ac), (Ac), (by first | (rw [Cz (n := s.bidders.length) (f := fun b => bouTo s (castL (ringN s ka)) (retTo s (castL (ringN s ka)) kb ((x : Int) % (s.days + 1)) s.lots.length) b 0) (fun _ => rfl), Cz (n := s.sellers.length) (f := fun b => solTo s (castL (ringN s ka)) (retTo s (castL (ringN s ka)) kb ((x : Int) % (s.days + 1)) s.lots.length) b 0) (fun _ => rfl)]; done) | (rw [Cz (n := s.bidders.length) (f := fun b => bouTo s (castL (ringN s ka)) (retTo s (castL (ringN s ka)) kb ((x : Int) % (s.days + 1)) s.lots.length) b 0) (fun _ => rfl), Cz (n := s.sellers.length) (f := fun b => solTo s (castL (ringN s ka)) (retTo s (castL (ringN s ka)) kb ((x : Int) % (s.days + 1)) s.lots.length) b 0) (fun _ => rfl)]; rfl))⟩
   ·
    refine Dh rfl rfl (x_make (k := s.sellers.length) Bn el_3 rfl rfl (Ac) (Ac) rfl (by omega) (by omega) fun b13 hb13 nb13 => ⟨fun _ _ => (fun _ h => h.drop (.cons _ <| .cons_cons _ <| .cons_cons _ <| .refl _)), ?_⟩)
    refine C4 3 rfl (by kernel_rfl) rfl (x_make (k := s.bidders.length) Bn el_3 rfl rfl (A0 rfl <| Ac) (A0 rfl <| Ac) rfl (by omega) (by omega) fun b14 hb14 nb14 => ⟨fun _ _ => (fun _ h => h.drop (.cons _ <| .cons _ <| .cons_cons _ <| .cons_cons _ <| .refl _)), ?_⟩)
    refine Az 8 rfl (by kernel_rfl) (by kernel_rfl) (by kernel_rfl) (by kernel_rfl) rfl rfl (fun _ h => h.drop (.cons _ <| .cons _ <| .cons_cons _ <| .cons_cons _ <| .refl _)) (fun _ _ _ h => h) (Ad (Ac)) ?_
    refine Az 9 rfl (by kernel_rfl) (by kernel_rfl) (by kernel_rfl) (by kernel_rfl) rfl rfl (fun _ h => h.drop (.cons _ <| .cons _ <| .cons_cons _ <| .cons_cons _ <| .refl _)) (fun _ _ _ h => h) (Ad (Ap rfl <| Ac)) ?_
    refine WX_order (.cons (.here) <| .cons (.here) <| .cons (.here) <| .cons (.here) <| .nil) ?_
    refine Cs (by kernel_rfl) ?_ _
    refine Ae ⟨_, Off.eq (Ea rfl <| Ev rfl <| Df), ?_⟩
    exact ⟨_, _, (Al rfl <| Ac), (Ac), (by first | (rw [Cz (n := s.bidders.length) (f := fun b => bouTo s (castL (ringN s ka)) (retTo s (castL (ringN s ka)) kb ((x : Int) % (s.days + 1)) s.lots.length) b 0) (fun _ => rfl), Cz (n := s.sellers.length) (f := fun b => solTo s (castL (ringN s ka)) (retTo s (castL (ringN s ka)) kb ((x : Int) % (s.days + 1)) s.lots.length) b 0) (fun _ => rfl)]; done) | (rw [Cz (n := s.bidders.length) (f := fun b => bouTo s (castL (ringN s ka)) (retTo s (castL (ringN s ka)) kb ((x : Int) % (s.days + 1)) s.lots.length) b 0) (fun _ => rfl), Cz (n := s.sellers.length) (f := fun b => solTo s (castL (ringN s ka)) (retTo s (castL (ringN s ka)) kb ((x : Int) % (s.days + 1)) s.lots.length) b 0) (fun _ => rfl)]; rfl))⟩
  rintro e9 _ ⟨p15, p16, hc15, hc16, rfl⟩
  refine Af <| Af <| Ai fun ds => Aa rfl (Ad Ab) ?_
  refine Ah <| Ae <| A2 <| B3 [6, 14, 17, 77, 78, 79, 80, 81, 82, 83, 84, 85, 86, 87, 88, 89, 90, 91, 92, 93, 94, 95, 96, 97, 98, 99, 100, 101, 102, 103, 104, 105, 106, 107, 108, 109, 110, 111, 112, 113, 114, 115, 116, 117, 118, 119, 120, 121, 122, 123, 124, 125, 126, 127, 128, 129, 130, 131, 132, 133, 134, 135, 136, 137, 138, 139, 140, 141, 142, 143, 144, 145, 146, 147, 148, 149, 150, 151, 152, 153, 154, 155, 156, 157, 158, 159, 160, 161, 162, 163, 164, 165, 166, 167, 168, 169, 170, 171, 172, 173, 174] (fun m e σ => ∃ k : Nat, m + k = (allS s (castL (ringN s ka))).length ∧ e 17 = .int .i64 (k : Int) ∧ ∃ v R, e 14 = v ∧ Own 77 2 v (retTo s (castL (ringN s ka)) kb ((x : Int) % (s.days + 1)) k).length ((retTo s (castL (ringN s ka)) kb ((x : Int) % (s.days + 1)) k).flatMap Back.enc) R ∧ σ = ⟨F8, (p15, bx 3 (ivals (fun b => bouTo s (castL (ringN s ka)) (retTo s (castL (ringN s ka)) kb ((x : Int) % (s.days + 1)) s.lots.length) b k) s.bidders.length)) :: (p16, bx 3 (ivals (fun b => solTo s (castL (ringN s ka)) (retTo s (castL (ringN s ka)) kb ((x : Int) % (s.days + 1)) s.lots.length) b k) s.sellers.length)) :: (b2, bx 74 [.int .u8 (ka : Int), .int .u8 (kb : Int)]) :: (b1, bx 27 [vs, .int .i64 s.premium, .int .i64 s.fee, .int .i64 s.days, vb, vl, vn, vd]) :: R⟩) ((allS s (castL (ringN s ka))).length) ?_ ?_
  · exact ⟨0, by omega, (Ac), _, _, (Al rfl <| Am rfl <| Ac), own_nil, rfl⟩
  ·
   rintro m e _ ⟨k, hm, hs17, v14, R14, hs14, ho, rfl⟩; have hrl := ret_len (s := s) (rg := castL (ringN s ka)) (m := kb) (d := ((x : Int) % (s.days + 1))) k
   by_cases hlt : k < (allS s (castL (ringN s ka))).length
   ·
    have hkl : k < s.lots.length := by omega
    have hel : (allS s (castL (ringN s ka)))[k] = soldS s k (castL (ringN s ka)) := allS_at hlt
    have hsb := Ee hv hkl (castL (ringN s ka))
    have hbf := fun b => bou_facts hv (ring := castL (ringN s ka)) (rs := retTo s (castL (ringN s ka)) kb ((x : Int) % (s.days + 1)) s.lots.length) (b := b) k (by omega)
    obtain ⟨e1, e2, e3, e4, e5⟩ := lot_facts hv hkl
    rw [← hel] at hsb
    refine Af <| Af <| Ai fun ds => Aa rfl (Ag (At rfl hs17)) ?_
    refine Aa rfl (Ag (Al rfl <| Am rfl <| Al rfl <| Am rfl <| A9 rfl <| A0 rfl <| Ac)) ?_
    refine Aa rfl (Bg Cw (Ac) hq.plain) ?_
    refine Aa rfl (Bu (Ap rfl <| Ac) (Ac)) ?_
    refine Ah <| Ae <| As (Ac) (by first | rfl | exact decide_eq_true (by omega)) ?_
    by_cases hne : (soldS s k (castL (ringN s ka))).bidder = -1
    ·
     refine Ax <| Ae <| Af <| A2 <| Af <| Af <| Ai fun ds => Aa rfl (Ag (A0 rfl <| Am rfl <| Al rfl <| Am rfl <| A9 rfl <| A0 rfl <| Ac)) ?_
     refine Aa rfl (Ag (A0 rfl <| Al rfl <| At rfl hs17)) ?_
     refine Aa rfl (Be  Cw (Al rfl <| Ac) hq.plain (Ac) rfl hlt) ?_
     refine Aa rfl (Bx D1 (Ac)) ?_
     refine Aa rfl (Aq Bf (Ac) (hq.cell hlt rfl)) ?_
     refine Aa rfl (B4 (Ac) Ab) ?_
     refine Ah <| Ae <| As (Ac) (by rw [hel]; exact decide_eq_true hne) ?_
     obtain ⟨d1, d2⟩ := bou_dead (rs := retTo s (castL (ringN s ka)) kb ((x : Int) % (s.days + 1)) s.lots.length) (live_no1 hne)
     refine Bt ?_
     refine Bk (Bm ?_)
     refine Ae <| Ai fun ds => Aa rfl (Ag (A9 rfl <| Ap rfl <| At rfl hs17)) ?_
     refine Aa rfl (B0 (Ac) Ab rfl (by omega) (by omega)) ?_
     refine Aa rfl (Ad (Ac)) ?_
     refine Ah <| Ae ⟨_, m - 1, Off.eq (Ea rfl <| ou4 rfl <| E4 rfl <| Bi), by omega, ?_⟩
     refine ⟨k + 1, by omega, (Ac), _, _, (A9 rfl <| A0 rfl <| Al rfl <| At rfl hs14), by rw [ret_no1 hne]; exact ho, ?_⟩
     rw [d1, d2]
    ·
     have hne2 : (allS s (castL (ringN s ka)))[k].bidder ≠ -1 := by rw [hel]; exact hne
     refine Ax <| Ae <| Af <| A2 <| Af <| Af <| Ai fun ds => Aa rfl (Ag (A0 rfl <| Am rfl <| Al rfl <| Am rfl <| A9 rfl <| A0 rfl <| Ac)) ?_
     refine Aa rfl (Ag (A0 rfl <| Al rfl <| At rfl hs17)) ?_
     refine Aa rfl (Be  Cw (Al rfl <| Ac) hq.plain (Ac) rfl hlt) ?_
     refine Aa rfl (Bx D1 (Ac)) ?_
     refine Aa rfl (Aq Bf (Ac) (hq.cell hlt rfl)) ?_
     refine Aa rfl (B4 (Ac) Ab) ?_
     refine Ah <| Ae <| Ao (Ac) (by rw [hel]; exact decide_eq_false hne) ?_
     refine Ax <| Ae <| Af <| Af <| Cl (.inl rfl) (fun _ _ h => h) (by kernel_rfl) (by kernel_rfl) fun ds => ?_
     refine A6 rfl (Ag (A9 rfl <| Ap rfl <| Am rfl <| Al rfl <| Am rfl <| A9 rfl <| A0 rfl <| Ac)) ?_
     refine A6 rfl (Ag (A9 rfl <| Ap rfl <| Al rfl <| At rfl hs17)) ?_
     refine A6 rfl (Be  Cw (Al rfl <| Ac) hq.plain (Ac) rfl hlt) ?_
     refine A6 rfl (Bx D1 (Ac)) ?_
     refine A6 rfl (Aq Bf (Ac) (hq.cell hlt rfl)) ?_
     refine A6 rfl (Bu (Ac) Ab) ?_
     refine A6 rfl (Ag (Ac)) ?_
     refine Bb rfl rfl (Ac) (decide_eq_false (by omega)) ?_
     refine A6 rfl (Ag (A7 rfl <| Al rfl <| Am rfl <| Al rfl <| Am rfl <| A9 rfl <| A0 rfl <| Ac)) ?_
     refine Bb rfl rfl (Al rfl <| Ac) (decide_eq_false (by omega)) ?_
     refine A6 rfl (Ag (A7 rfl <| Ap rfl <| At rfl hs17)) ?_
     refine Bb rfl rfl (Ap rfl <| Ac) (decide_eq_false (by omega)) ?_
     refine A6 rfl (Be  Cw (Al rfl <| Ac) hq.plain (Ac) rfl hlt) ?_
     refine Bb rfl rfl (Ap rfl <| Al rfl <| Ac) (decide_eq_false (by omega)) ?_
     refine A6 rfl (Bx D1 (Ac)) ?_
     refine Bb rfl rfl (A0 rfl <| Ac) (decide_eq_false (by omega)) ?_
     refine A6 rfl (Aq Bf (Ac) (hq.cell hlt rfl)) ?_
     refine Bb rfl rfl (A0 rfl <| Al rfl <| Ac) (decide_eq_false (by omega)) ?_
     refine A6 rfl (Aj C1 (A7 rfl <| A0 rfl <| Ap rfl <| Am rfl <| Al rfl <| Am rfl <| A7 rfl <| A9 rfl <| A0 rfl <| Al rfl <| Ac)) ?_
     refine Bb rfl rfl (A0 rfl <| Ap rfl <| Ac) (decide_eq_false (by omega)) ?_
     refine A6 rfl (Aq Cn (Ac) (Cell.own 3 rfl rfl)) ?_
     refine Bb rfl rfl (A0 rfl <| Ap rfl <| Al rfl <| Ac) (decide_eq_false (by omega)) ?_
     refine A6 rfl (Bg Cm (Ac) hr.bidders.plain) ?_
     refine Bb rfl rfl (A9 rfl <| Ac) (decide_eq_false (by omega)) ?_
     refine A6 rfl (Dp (Ap rfl <| Al rfl <| Ac) (Ac)) ?_
     refine A6 rfl (A8 (A9 rfl <| Al rfl <| Ac) (decide_eq_false (by omega)) (Ac)) ?_
     refine Cp ?_
     refine Ae <| Ao (Ac) (decide_eq_false (by omega)) ?_
     by_cases hbt : kb.testBit k = true
     ·
      refine Ax <| Ae <| Af <| Af <| Ai fun ds => Aa rfl (Bw (k := 1) ar_74 (A7 rfl <| A9 rfl <| Ap rfl <| Al rfl <| Am rfl <| Al rfl <| Am rfl <| A7 rfl <| A9 rfl <| A0 rfl <| Ac) Ab rfl (by decide)) ?_
      refine Aa rfl (Aq one_5 (Ac) (Cell.own 2 rfl rfl)) ?_
      refine Aa rfl (Ag (A7 rfl <| A9 rfl <| A0 rfl <| Al rfl <| At rfl hs17)) ?_
      refine Aa rfl (q_shr (Al rfl <| Ac) (Ac) (k := k) rfl (by show k < 8; omega) Em) ?_
      refine Aa rfl (q_rem (Ac) Ab (Int.natCast_nonneg _) (by decide)) ?_
      refine Aa rfl (B4 (Ac) Ab) ?_
      refine Aa rfl (Ag (Ac)) ?_
      refine Ar rfl rfl (Ac) (by rw [D3]; exact hbt) ?_
      refine Aa rfl (Aj Co (Bp rfl <| Ap rfl <| Am rfl <| Al rfl <| Am rfl <| A7 rfl <| A9 rfl <| A0 rfl <| Al rfl <| Ac)) ?_
      refine Ar rfl rfl (Al rfl <| Ac) (by rw [D3]; exact hbt) ?_
      refine Aa rfl (Aq C3 (Ac) (Cell.own 3 rfl rfl)) ?_
      refine Ar rfl rfl (Ap rfl <| Ac) (by rw [D3]; exact hbt) ?_
      refine Aa rfl (Ag (Bp rfl <| A0 rfl <| At rfl hs17)) ?_
      refine Ar rfl rfl (Ap rfl <| Al rfl <| Ac) (by rw [D3]; exact hbt) ?_
      refine Aa rfl (Be  C5 (Al rfl <| Ac) hr.lots.plain (Ac) rfl hkl) ?_
      refine Ar rfl rfl (A0 rfl <| Ac) (by rw [D3]; exact hbt) ?_
      refine Aa rfl (Bx fd_69_3 (Ac)) ?_
      refine Ar rfl rfl (A0 rfl <| Al rfl <| Ac) (by rw [D3]; exact hbt) ?_
      refine Aa rfl (Aq one_4 (Ac) (hr.lots.cell hkl rfl)) ?_
      refine Aa rfl (A3 (A0 rfl <| Ap rfl <| Ac) (by rw [D3]; exact hbt) (Ac)) ?_
      refine Ah <| Ae ?_
      by_cases hdf : (s.lot k).defect = true
      ·
       have hrc : retC s kb k = true := by unfold retC; rw [hbt, hdf]; rfl
       refine As (Ac) (by first | (rw [e1, hdf]; done) | (rw [e1, hdf]; rfl)) ?_
       obtain ⟨d1, d2⟩ := bou_dead (rs := retTo s (castL (ringN s ka)) kb ((x : Int) % (s.days + 1)) s.lots.length) (live_no2 hkl hne hrc)
       refine Af <| Ai fun ds => Aa rfl (Ag (Bp rfl <| A9 rfl <| Al rfl <| At rfl hs14)) ?_
       refine Aa rfl (Ag (Bp rfl <| A9 rfl <| Ap rfl <| At rfl hs17)) ?_
       refine Aa rfl (Ag (Bp rfl <| A9 rfl <| Ap rfl <| Al rfl <| Am rfl <| Al rfl <| Am rfl <| A7 rfl <| A9 rfl <| A0 rfl <| Ap rfl <| Ak rfl)) ?_
       refine Aa rfl (q_convert ⟨_, Try.underlying5⟩ Try.underlying3 (Ac) (IntWalk.i64_in _ ⟨by omega, by omega⟩)) ?_
       refine Aa rfl (Aj fd_27_3 (Bp rfl <| A9 rfl <| A0 rfl <| Al rfl <| Am rfl <| Al rfl <| Am rfl <| A7 rfl <| A9 rfl <| A0 rfl <| Al rfl <| Ac)) ?_
       refine Aa rfl (Aq Bf (Ac) (Cell.own 3 rfl rfl)) ?_
       refine Aa rfl (B0 (Ac) Ab rfl (by omega) (by omega)) ?_
       refine Aa rfl (q_rem (Ap rfl <| Al rfl <| Ac) (Ac) (Int.natCast_nonneg _) (by omega)) ?_
       refine Aa rfl (Dd bt_77 (.cons (A0 rfl <| Ap rfl <| Ac) rfl (.cons (Ac) rfl .nil)) (.cons rfl rfl (Nat.le_of_ble_eq_true rfl) (.cons (.here) .nil) (.cons rfl rfl (Nat.le_of_ble_eq_true rfl) (.cons (.next <| .here) .nil) .nil))) ?_
       refine Bl rfl (C8 (offs := [(0, 2)]) (zl := [.int .i64 0, .int .i64 0]) D9 zr_77 rfl (.cons (Ac) rfl .nil) (by intro i p h; rcases i with _ | i <;> simp at h <;> subst h <;> rfl) (.cons rfl rfl (Nat.le_of_ble_eq_true rfl) (.cons (.here) (.cons (.next <| .here) .nil)) .nil) (by decide) (by decide) fun b16 hb16 nb16 => ?_)
       refine Bl rfl (Cv D9 el_77 (A9 rfl <| Al rfl <| Ac) ho (Ac) (Dn (s := 2) 0 rfl rfl (by simp [Value.oneCell'])) (by omega) (by omega) (.s <| .s <| .s <| .s <| .s <| .z) .last fun v17 R18 ho19 => ?_)
       have ho2 := ho19.snoc (x := (⟨(k : Int), ((x : Int) % (s.days + 1))⟩ : Back)) rfl rfl
       refine Aa rfl (Ad (Ac)) ?_
       refine Ah <| Ae <| Bt ?_
       refine Bk (Bm ?_)
       refine Ae <| Cq (fun _ _ h => h.drop (.cons _ <| .cons_cons _ <| .cons_cons _ <| .cons_cons _ <| .cons_cons _ <| .refl _)) ?_
       refine Ai fun ds => Aa rfl (Ag (Bp rfl <| A7 rfl <| A0 rfl <| Al rfl <| At rfl hs17)) ?_
       refine Aa rfl (B0 (Ac) Ab rfl (by omega) (by omega)) ?_
       refine Aa rfl (Ad (Ac)) ?_
       refine Ah <| Ae ⟨_, m - 1, Off.eq (ou32 rfl <| Db rfl <| Ea rfl <| Bi), by omega, ?_⟩
       refine ⟨k + 1, by omega, (Ac), _, _, (Ap rfl <| Al rfl <| Ac), by rw [ret_yes hne hrc]; exact ho2, ?_⟩
       rw [d1, d2]
      ·
       replace hdf : (s.lot k).defect = false := by simpa using hdf
       have hrc : retC s kb k = false := by unfold retC; rw [hdf, Bool.and_false]
       refine Ao (Ac) (by first | (rw [e1, hdf]; done) | (rw [e1, hdf]; rfl)) ?_
       obtain ⟨c, hc⟩ := Int.eq_ofNat_of_zero_le (show 0 ≤ (allS s (castL (ringN s ka)))[k].bidder by omega)
       obtain ⟨d, hd⟩ := Int.eq_ofNat_of_zero_le e4
       have hcb : c < s.bidders.length := by omega
       have hds : d < s.sellers.length := by omega
       have habc := hbf c
       have habd := hbf d
       have hlive := live_yes (d := ((x : Int) % (s.days + 1))) hne hrc
       refine Ax <| Ae <| Af ?_
       have hleS := hle0
       refine Dg (.inl rfl) (fun _ _ h => h) (.cons_cons _ <| .cons_cons _ <| .cons_cons _ <| .cons_cons _ <| .refl _) [21] (by kernel_rfl) fun ds => ?_
       refine Az 0 rfl (by kernel_rfl) (by kernel_rfl) (by kernel_rfl) (by kernel_rfl) rfl rfl (fun _ h => h.drop (.cons_cons _ <| .cons_cons _ <| .cons_cons _ <| .cons_cons _ <| .refl _)) (fun _ _ _ h => h) (Ag (Bp rfl <| A9 rfl <| Al rfl <| Am rfl <| Al rfl <| At rfl hc15)) ?_
       refine Az 1 rfl (by kernel_rfl) (by kernel_rfl) (by kernel_rfl) (by kernel_rfl) rfl rfl (fun _ h => h.drop (.cons_cons _ <| .cons_cons _ <| .cons_cons _ <| .cons_cons _ <| .refl _)) (fun _ _ _ h => h) (Ag (Bp rfl <| A9 rfl <| Ap rfl <| Am rfl <| Al rfl <| Am rfl <| A9 rfl <| A0 rfl <| Ac)) ?_
       refine Az 2 rfl (by kernel_rfl) (by kernel_rfl) (by kernel_rfl) (by kernel_rfl) rfl rfl (fun _ h => h.drop (.cons_cons _ <| .cons_cons _ <| .cons_cons _ <| .cons_cons _ <| .refl _)) (fun _ _ _ h => h) (Ag (Bp rfl <| A9 rfl <| Ap rfl <| Al rfl <| At rfl hs17)) ?_
       refine Az 3 rfl (by kernel_rfl) (by kernel_rfl) (by kernel_rfl) (by kernel_rfl) rfl rfl (fun _ h => h.drop (.cons_cons _ <| .cons_cons _ <| .cons_cons _ <| .cons_cons _ <| .refl _)) (fun _ _ _ h => h) (Be  Cw (Al rfl <| Ac) hq.plain (Ac) rfl hlt) ?_
       refine Az 4 rfl (by kernel_rfl) (by kernel_rfl) (by kernel_rfl) (by kernel_rfl) rfl rfl (fun _ h => h.drop (.cons_cons _ <| .cons_cons _ <| .cons_cons _ <| .cons_cons _ <| .refl _)) (fun _ _ _ h => h) (Bx D1 (Ac)) ?_
       refine Az 5 rfl (by kernel_rfl) (by kernel_rfl) (by kernel_rfl) (by kernel_rfl) rfl rfl (fun _ h => h.drop (.cons_cons _ <| .cons_cons _ <| .cons_cons _ <| .cons_cons _ <| .refl _)) (fun _ _ _ h => h) (Aq Bf (Ac) (hq.cell hlt rfl)) ?_
       refine Az 6 rfl (by kernel_rfl) (by kernel_rfl) (by kernel_rfl) (by kernel_rfl) rfl rfl (fun _ h => h.drop (.cons_cons _ <| .cons_cons _ <| .cons_cons _ <| .cons_cons _ <| .refl _)) (fun _ _ _ h => h) (Ag (Bp rfl <| A9 rfl <| A0 rfl <| Ap rfl <| Al rfl <| Am rfl <| Al rfl <| At rfl hc15)) ?_
       refine Az 7 rfl (by kernel_rfl) (by kernel_rfl) (by kernel_rfl) (by kernel_rfl) rfl rfl (fun _ h => h.drop (.cons_cons _ <| .cons_cons _ <| .cons_cons _ <| .cons_cons _ <| .refl _)) (fun _ _ _ h => h) (Ag (Bp rfl <| A7 rfl <| Am rfl <| Al rfl <| Am rfl <| A9 rfl <| A0 rfl <| Ac)) ?_
       refine Az 8 rfl (by kernel_rfl) (by kernel_rfl) (by kernel_rfl) (by kernel_rfl) rfl rfl (fun _ h => h.drop (.cons_cons _ <| .cons_cons _ <| .cons_cons _ <| .cons_cons _ <| .refl _)) (fun _ _ _ h => h) (Ag (Bp rfl <| A7 rfl <| Al rfl <| At rfl hs17)) ?_
       refine Az 9 rfl (by kernel_rfl) (by kernel_rfl) (by kernel_rfl) (by kernel_rfl) rfl rfl (fun _ h => h.drop (.cons_cons _ <| .cons_cons _ <| .cons_cons _ <| .cons_cons _ <| .refl _)) (fun _ _ _ h => h) (Be  Cw (Al rfl <| Ac) hq.plain (Ac) rfl hlt) ?_
       refine Az 10 rfl (by kernel_rfl) (by kernel_rfl) (by kernel_rfl) (by kernel_rfl) rfl rfl (fun _ h => h.drop (.cons_cons _ <| .cons_cons _ <| .cons_cons _ <| .cons_cons _ <| .refl _)) (fun _ _ _ h => h) (Bx D1 (Ac)) ?_
       refine Az 11 rfl (by kernel_rfl) (by kernel_rfl) (by kernel_rfl) (by kernel_rfl) rfl rfl (fun _ h => h.drop (.cons_cons _ <| .cons_cons _ <| .cons_cons _ <| .cons_cons _ <| .refl _)) (fun _ _ _ h => h) (Aq Bf (Ac) (hq.cell hlt rfl)) ?_
       refine Az 12 rfl (by kernel_rfl) (by kernel_rfl) (by kernel_rfl) (by kernel_rfl) rfl rfl (fun _ h => h.drop (.cons_cons _ <| .cons_cons _ <| .cons_cons _ <| .cons_cons _ <| .refl _)) (fun _ _ _ h => h) (Be (k := c) Bn (A0 rfl <| Al rfl <| Ac) (Dq (Nat.le_refl _) (by omega)) (Ac) hc hcb) ?_
       refine Az 13 rfl (by kernel_rfl) (by kernel_rfl) (by kernel_rfl) (by kernel_rfl) rfl rfl (fun _ h => h.drop (.cons_cons _ <| .cons_cons _ <| .cons_cons _ <| .cons_cons _ <| .refl _)) (fun _ _ _ h => h) (Aq Bf (Ac) (cell_row 0 rfl (ivals_get hcb))) ?_
       refine Az 14 rfl (by kernel_rfl) (by kernel_rfl) (by kernel_rfl) (by kernel_rfl) rfl rfl (fun _ h => h.drop (.cons_cons _ <| .cons_cons _ <| .cons_cons _ <| .cons_cons _ <| .refl _)) (fun _ _ _ h => h) (Ag (Bp rfl <| A7 rfl <| A0 rfl <| Ap rfl <| Al rfl <| Am rfl <| Al rfl <| Am rfl <| A9 rfl <| A0 rfl <| Ac)) ?_
       refine Az 15 rfl (by kernel_rfl) (by kernel_rfl) (by kernel_rfl) (by kernel_rfl) rfl rfl (fun _ h => h.drop (.cons_cons _ <| .cons_cons _ <| .cons_cons _ <| .cons_cons _ <| .refl _)) (fun _ _ _ h => h) (Ag (Bp rfl <| A7 rfl <| A9 rfl <| At rfl hs17)) ?_
       refine Az 16 rfl (by kernel_rfl) (by kernel_rfl) (by kernel_rfl) (by kernel_rfl) rfl rfl (fun _ h => h.drop (.cons_cons _ <| .cons_cons _ <| .cons_cons _ <| .cons_cons _ <| .refl _)) (fun _ _ _ h => h) (Be  Cw (Al rfl <| Ac) hq.plain (Ac) rfl hlt) ?_
       refine Az 17 rfl (by kernel_rfl) (by kernel_rfl) (by kernel_rfl) (by kernel_rfl) rfl rfl (fun _ h => h.drop (.cons_cons _ <| .cons_cons _ <| .cons_cons _ <| .cons_cons _ <| .refl _)) (fun _ _ _ h => h) (Bx Ew (Ac)) ?_
       refine Az 18 rfl (by kernel_rfl) (by kernel_rfl) (by kernel_rfl) (by kernel_rfl) rfl rfl (fun _ h => h.drop (.cons_cons _ <| .cons_cons _ <| .cons_cons _ <| .cons_cons _ <| .refl _)) (fun _ _ _ h => h) (Aq Bf (Ac) (hq.cell hlt rfl)) ?_
       refine Az 19 rfl (by kernel_rfl) (by kernel_rfl) (by kernel_rfl) (by kernel_rfl) rfl rfl (fun _ h => h.drop (.cons_cons _ <| .cons_cons _ <| .cons_cons _ <| .cons_cons _ <| .refl _)) (fun _ _ _ h => h) (B0 (A0 rfl <| Al rfl <| Ac) (Ac) rfl (by omega) (by omega)) ?_
       refine Az 20 rfl (by kernel_rfl) (by kernel_rfl) (by kernel_rfl) (by kernel_rfl) rfl rfl (fun _ h => h.drop (.cons_cons _ <| .cons_cons _ <| .cons_cons _ <| .cons_cons _ <| .refl _)) (fun _ _ _ h => h) (Be (k := c) Bn (A7 rfl <| Ap rfl <| Al rfl <| Ac) (Dq (Nat.le_refl _) (by omega)) (A9 rfl <| A0 rfl <| Ap rfl <| Ac) hc hcb) ?_
       refine WX_x0 21 rfl (by kernel_rfl) (x_storeK sz_3 (Ac) (by simp [base, addc] : addc (base (.slice (some ⟨p15, 0, none⟩) s.bidders.length s.bidders.length)) (c * 1) = ⟨p15, c, none⟩) (Al rfl <| Ac) (i := 0) rfl (by rw [En]; omega) rfl (.here) ⟨(fun h => nomatch h), ?_⟩)
       refine Cs (by kernel_rfl) ?_ _
       refine Ae ?_
       have hleS := hle0
       refine Dg (.inl rfl) (fun _ _ h => h) (.cons_cons _ <| .cons_cons _ <| .cons_cons _ <| .cons_cons _ <| .refl _) [23] (by kernel_rfl) fun ds => ?_
       refine Az 0 rfl (by kernel_rfl) (by kernel_rfl) (by kernel_rfl) (by kernel_rfl) rfl rfl (fun _ h => h.drop (.cons_cons _ <| .cons_cons _ <| .cons_cons _ <| .cons_cons _ <| .refl _)) (fun _ _ _ h => h) (Ag (Bp rfl <| A7 rfl <| A9 rfl <| A0 rfl <| Ap rfl <| Am rfl <| Al rfl <| At rfl hc16)) ?_
       refine Az 1 rfl (by kernel_rfl) (by kernel_rfl) (by kernel_rfl) (by kernel_rfl) rfl rfl (fun _ h => h.drop (.cons_cons _ <| .cons_cons _ <| .cons_cons _ <| .cons_cons _ <| .refl _)) (fun _ _ _ h => h) (Aj Co (Bp rfl <| A7 rfl <| A9 rfl <| A0 rfl <| Ap rfl <| Al rfl <| Am rfl <| Al rfl <| Am rfl <| A7 rfl <| A9 rfl <| A0 rfl <| Al rfl <| Ac)) ?_
       refine Az 2 rfl (by kernel_rfl) (by kernel_rfl) (by kernel_rfl) (by kernel_rfl) rfl rfl (fun _ h => h.drop (.cons_cons _ <| .cons_cons _ <| .cons_cons _ <| .cons_cons _ <| .refl _)) (fun _ _ _ h => h) (Aq C3 (Ac) (Cell.own 3 rfl rfl)) ?_
       refine Az 3 rfl (by kernel_rfl) (by kernel_rfl) (by kernel_rfl) (by kernel_rfl) rfl rfl (fun _ h => h.drop (.cons_cons _ <| .cons_cons _ <| .cons_cons _ <| .cons_cons _ <| .refl _)) (fun _ _ _ h => h) (Ag (Bp rfl <| Bp rfl <| Al rfl <| At rfl hs17)) ?_
       refine Az 4 rfl (by kernel_rfl) (by kernel_rfl) (by kernel_rfl) (by kernel_rfl) rfl rfl (fun _ h => h.drop (.cons_cons _ <| .cons_cons _ <| .cons_cons _ <| .cons_cons _ <| .refl _)) (fun _ _ _ h => h) (Be  C5 (Al rfl <| Ac) hr.lots.plain (Ac) rfl hkl) ?_
       refine Az 5 rfl (by kernel_rfl) (by kernel_rfl) (by kernel_rfl) (by kernel_rfl) rfl rfl (fun _ h => h.drop (.cons_cons _ <| .cons_cons _ <| .cons_cons _ <| .cons_cons _ <| .refl _)) (fun _ _ _ h => h) (Bx fd_69_1 (Ac)) ?_
       refine Az 6 rfl (by kernel_rfl) (by kernel_rfl) (by kernel_rfl) (by kernel_rfl) rfl rfl (fun _ h => h.drop (.cons_cons _ <| .cons_cons _ <| .cons_cons _ <| .cons_cons _ <| .refl _)) (fun _ _ _ h => h) (Aq Bf (Ac) (hr.lots.cell hkl rfl)) ?_
       refine Az 7 rfl (by kernel_rfl) (by kernel_rfl) (by kernel_rfl) (by kernel_rfl) rfl rfl (fun _ h => h.drop (.cons_cons _ <| .cons_cons _ <| .cons_cons _ <| .cons_cons _ <| .refl _)) (fun _ _ _ h => h) (Ag (Bp rfl <| Bp rfl <| A0 rfl <| Al rfl <| Am rfl <| Al rfl <| At rfl hc16)) ?_
       refine Az 8 rfl (by kernel_rfl) (by kernel_rfl) (by kernel_rfl) (by kernel_rfl) rfl rfl (fun _ h => h.drop (.cons_cons _ <| .cons_cons _ <| .cons_cons _ <| .cons_cons _ <| .refl _)) (fun _ _ _ h => h) (Aj Co (Bp rfl <| Bp rfl <| A0 rfl <| Ap rfl <| Am rfl <| Al rfl <| Am rfl <| A7 rfl <| A9 rfl <| A0 rfl <| Al rfl <| Ac)) ?_
       refine Az 9 rfl (by kernel_rfl) (by kernel_rfl) (by kernel_rfl) (by kernel_rfl) rfl rfl (fun _ h => h.drop (.cons_cons _ <| .cons_cons _ <| .cons_cons _ <| .cons_cons _ <| .refl _)) (fun _ _ _ h => h) (Aq C3 (Ac) (Cell.own 3 rfl rfl)) ?_
       refine Az 10 rfl (by kernel_rfl) (by kernel_rfl) (by kernel_rfl) (by kernel_rfl) rfl rfl (fun _ h => h.drop (.cons_cons _ <| .cons_cons _ <| .cons_cons _ <| .cons_cons _ <| .refl _)) (fun _ _ _ h => h) (Ag (Bp rfl <| Bp rfl <| A9 rfl <| At rfl hs17)) ?_
       refine Az 11 rfl (by kernel_rfl) (by kernel_rfl) (by kernel_rfl) (by kernel_rfl) rfl rfl (fun _ h => h.drop (.cons_cons _ <| .cons_cons _ <| .cons_cons _ <| .cons_cons _ <| .refl _)) (fun _ _ _ h => h) (Be  C5 (Al rfl <| Ac) hr.lots.plain (Ac) rfl hkl) ?_
       refine Az 12 rfl (by kernel_rfl) (by kernel_rfl) (by kernel_rfl) (by kernel_rfl) rfl rfl (fun _ h => h.drop (.cons_cons _ <| .cons_cons _ <| .cons_cons _ <| .cons_cons _ <| .refl _)) (fun _ _ _ h => h) (Bx fd_69_1 (Ac)) ?_
       refine Az 13 rfl (by kernel_rfl) (by kernel_rfl) (by kernel_rfl) (by kernel_rfl) rfl rfl (fun _ h => h.drop (.cons_cons _ <| .cons_cons _ <| .cons_cons _ <| .cons_cons _ <| .refl _)) (fun _ _ _ h => h) (Aq Bf (Ac) (hr.lots.cell hkl rfl)) ?_
       refine Az 14 rfl (by kernel_rfl) (by kernel_rfl) (by kernel_rfl) (by kernel_rfl) rfl rfl (fun _ h => h.drop (.cons_cons _ <| .cons_cons _ <| .cons_cons _ <| .cons_cons _ <| .refl _)) (fun _ _ _ h => h) (Be (k := d) Bn (A0 rfl <| Ap rfl <| Ac) (Dq (Nat.le_refl _) (by omega)) (Ac) (by rw [e1]; exact hd) hds) ?_
       refine Az 15 rfl (by kernel_rfl) (by kernel_rfl) (by kernel_rfl) (by kernel_rfl) rfl rfl (fun _ h => h.drop (.cons_cons _ <| .cons_cons _ <| .cons_cons _ <| .cons_cons _ <| .refl _)) (fun _ _ _ h => h) (Aq Bf (Ac) (cell_row 1 rfl (ivals_get hds))) ?_
       refine Az 16 rfl (by kernel_rfl) (by kernel_rfl) (by kernel_rfl) (by kernel_rfl) rfl rfl (fun _ h => h.drop (.cons_cons _ <| .cons_cons _ <| .cons_cons _ <| .cons_cons _ <| .refl _)) (fun _ _ _ h => h) (Ag (Bp rfl <| Bp rfl <| A9 rfl <| A0 rfl <| Ap rfl <| Am rfl <| Al rfl <| Am rfl <| A9 rfl <| A0 rfl <| Ac)) ?_
       refine Az 17 rfl (by kernel_rfl) (by kernel_rfl) (by kernel_rfl) (by kernel_rfl) rfl rfl (fun _ h => h.drop (.cons_cons _ <| .cons_cons _ <| .cons_cons _ <| .cons_cons _ <| .refl _)) (fun _ _ _ h => h) (Ag (Bp rfl <| Bp rfl <| A9 rfl <| A0 rfl <| Ap rfl <| Al rfl <| At rfl hs17)) ?_
       refine Az 18 rfl (by kernel_rfl) (by kernel_rfl) (by kernel_rfl) (by kernel_rfl) rfl rfl (fun _ h => h.drop (.cons_cons _ <| .cons_cons _ <| .cons_cons _ <| .cons_cons _ <| .refl _)) (fun _ _ _ h => h) (Be  Cw (Al rfl <| Ac) hq.plain (Ac) rfl hlt) ?_
       refine Az 19 rfl (by kernel_rfl) (by kernel_rfl) (by kernel_rfl) (by kernel_rfl) rfl rfl (fun _ h => h.drop (.cons_cons _ <| .cons_cons _ <| .cons_cons _ <| .cons_cons _ <| .refl _)) (fun _ _ _ h => h) (Bx Ew (Ac)) ?_
       refine Az 20 rfl (by kernel_rfl) (by kernel_rfl) (by kernel_rfl) (by kernel_rfl) rfl rfl (fun _ h => h.drop (.cons_cons _ <| .cons_cons _ <| .cons_cons _ <| .cons_cons _ <| .refl _)) (fun _ _ _ h => h) (Aq Bf (Ac) (hq.cell hlt rfl)) ?_
       refine Az 21 rfl (by kernel_rfl) (by kernel_rfl) (by kernel_rfl) (by kernel_rfl) rfl rfl (fun _ h => h.drop (.cons_cons _ <| .cons_cons _ <| .cons_cons _ <| .cons_cons _ <| .refl _)) (fun _ _ _ h => h) (B0 (A0 rfl <| Al rfl <| Ac) (Ac) rfl (by omega) (by omega)) ?_
       refine Az 22 rfl (by kernel_rfl) (by kernel_rfl) (by kernel_rfl) (by kernel_rfl) rfl rfl (fun _ h => h.drop (.cons_cons _ <| .cons_cons _ <| .cons_cons _ <| .cons_cons _ <| .refl _)) (fun _ _ _ h => h) (Be (k := d) Bn (A7 rfl <| A0 rfl <| Al rfl <| Ac) (Dq (Nat.le_refl _) (by omega)) (A9 rfl <| A0 rfl <| Ap rfl <| Al rfl <| Ac) (by rw [e1]; exact hd) hds) ?_
       refine WX_x0 23 rfl (by kernel_rfl) (x_storeK sz_3 (Ac) (by simp [base, addc] : addc (base (.slice (some ⟨p16, 0, none⟩) s.sellers.length s.sellers.length)) (d * 1) = ⟨p16, d, none⟩) (Al rfl <| Ac) (i := 1) rfl (by rw [En]; omega) rfl (.next <| .here) ⟨(fun h => nomatch h), ?_⟩)
       refine Cs (by kernel_rfl) ?_ _
       refine Bh <| Ae <| Ai fun ds => Aa rfl (Ag (Bp rfl <| Bp rfl <| A7 rfl <| A0 rfl <| Al rfl <| At rfl hs17)) ?_
       refine Aa rfl (B0 (Ac) Ab rfl (by omega) (by omega)) ?_
       refine Aa rfl (Ad (Ac)) ?_
       refine Ah <| Ae ⟨_, m - 1, Off.eq (ou32 rfl <| ou32 rfl <| Db rfl <| Ea rfl <| Bi), by omega, ?_⟩
       refine ⟨k + 1, by omega, (Ac), _, _, (Bp rfl <| Bp rfl <| A7 rfl <| A9 rfl <| At rfl hs14), by rw [ret_no2 hrc]; exact ho, ?_⟩
       rw [← bou_set hlive (hel ▸ hc), ← sol_set hlive hd, hel]
     ·
      replace hbt : kb.testBit k = false := by simpa using hbt
      have hrc : retC s kb k = false := by unfold retC; rw [hbt, Bool.false_and]
      refine Ax <| Ae <| Af <| Af <| Ai fun ds => Aa rfl (Bw (k := 1) ar_74 (A7 rfl <| A9 rfl <| Ap rfl <| Al rfl <| Am rfl <| Al rfl <| Am rfl <| A7 rfl <| A9 rfl <| A0 rfl <| Ac) Ab rfl (by decide)) ?_
      refine Aa rfl (Aq one_5 (Ac) (Cell.own 2 rfl rfl)) ?_
      refine Aa rfl (Ag (A7 rfl <| A9 rfl <| A0 rfl <| Al rfl <| At rfl hs17)) ?_
      refine Aa rfl (q_shr (Al rfl <| Ac) (Ac) (k := k) rfl (by show k < 8; omega) Em) ?_
      refine Aa rfl (q_rem (Ac) Ab (Int.natCast_nonneg _) (by decide)) ?_
      refine Aa rfl (B4 (Ac) Ab) ?_
      refine Aa rfl (Ag (Ac)) ?_
      refine Au rfl rfl (Ac) (.inl (congrArg Value.bool (by rw [D3]; exact hbt))) rfl ?_
      refine Au rfl rfl (Al rfl <| Ac) (.inl (congrArg Value.bool (by rw [D3]; exact hbt))) rfl ?_
      refine Au rfl rfl (Ap rfl <| Ac) (.inl (congrArg Value.bool (by rw [D3]; exact hbt))) rfl ?_
      refine Au rfl rfl (Ap rfl <| Al rfl <| Ac) (.inl (congrArg Value.bool (by rw [D3]; exact hbt))) rfl ?_
      refine Au rfl rfl (A0 rfl <| Ac) (.inl (congrArg Value.bool (by rw [D3]; exact hbt))) rfl ?_
      refine Au rfl rfl (A0 rfl <| Al rfl <| Ac) (.inl (congrArg Value.bool (by rw [D3]; exact hbt))) rfl ?_
      refine Aa rfl (A8 (A0 rfl <| Ap rfl <| Ac) (by rw [D3]; exact hbt) Ab) ?_
      refine Ah <| Ae <| Ao (Ac) rfl ?_
      obtain ⟨c, hc⟩ := Int.eq_ofNat_of_zero_le (show 0 ≤ (allS s (castL (ringN s ka)))[k].bidder by omega)
      obtain ⟨d, hd⟩ := Int.eq_ofNat_of_zero_le e4
      have hcb : c < s.bidders.length := by omega
      have hds : d < s.sellers.length := by omega
      have habc := hbf c
      have habd := hbf d
      have hlive := live_yes (d := ((x : Int) % (s.days + 1))) hne hrc
      refine Ax <| Ae <| Af ?_
      have hleS := hle0
      refine Dg (.inl rfl) (fun _ _ h => h) (.cons_cons _ <| .cons_cons _ <| .cons_cons _ <| .cons_cons _ <| .refl _) [21] (by kernel_rfl) fun ds => ?_
      refine Az 0 rfl (by kernel_rfl) (by kernel_rfl) (by kernel_rfl) (by kernel_rfl) rfl rfl (fun _ h => h.drop (.cons_cons _ <| .cons_cons _ <| .cons_cons _ <| .cons_cons _ <| .refl _)) (fun _ _ _ h => h) (Ag (Bp rfl <| A9 rfl <| Al rfl <| Am rfl <| Al rfl <| At rfl hc15)) ?_
      refine Az 1 rfl (by kernel_rfl) (by kernel_rfl) (by kernel_rfl) (by kernel_rfl) rfl rfl (fun _ h => h.drop (.cons_cons _ <| .cons_cons _ <| .cons_cons _ <| .cons_cons _ <| .refl _)) (fun _ _ _ h => h) (Ag (Bp rfl <| A9 rfl <| Ap rfl <| Am rfl <| Al rfl <| Am rfl <| A9 rfl <| A0 rfl <| Ac)) ?_
      refine Az 2 rfl (by kernel_rfl) (by kernel_rfl) (by kernel_rfl) (by kernel_rfl) rfl rfl (fun _ h => h.drop (.cons_cons _ <| .cons_cons _ <| .cons_cons _ <| .cons_cons _ <| .refl _)) (fun _ _ _ h => h) (Ag (Bp rfl <| A9 rfl <| Ap rfl <| Al rfl <| At rfl hs17)) ?_
      refine Az 3 rfl (by kernel_rfl) (by kernel_rfl) (by kernel_rfl) (by kernel_rfl) rfl rfl (fun _ h => h.drop (.cons_cons _ <| .cons_cons _ <| .cons_cons _ <| .cons_cons _ <| .refl _)) (fun _ _ _ h => h) (Be  Cw (Al rfl <| Ac) hq.plain (Ac) rfl hlt) ?_
      refine Az 4 rfl (by kernel_rfl) (by kernel_rfl) (by kernel_rfl) (by kernel_rfl) rfl rfl (fun _ h => h.drop (.cons_cons _ <| .cons_cons _ <| .cons_cons _ <| .cons_cons _ <| .refl _)) (fun _ _ _ h => h) (Bx D1 (Ac)) ?_
      refine Az 5 rfl (by kernel_rfl) (by kernel_rfl) (by kernel_rfl) (by kernel_rfl) rfl rfl (fun _ h => h.drop (.cons_cons _ <| .cons_cons _ <| .cons_cons _ <| .cons_cons _ <| .refl _)) (fun _ _ _ h => h) (Aq Bf (Ac) (hq.cell hlt rfl)) ?_
      refine Az 6 rfl (by kernel_rfl) (by kernel_rfl) (by kernel_rfl) (by kernel_rfl) rfl rfl (fun _ h => h.drop (.cons_cons _ <| .cons_cons _ <| .cons_cons _ <| .cons_cons _ <| .refl _)) (fun _ _ _ h => h) (Ag (Bp rfl <| A9 rfl <| A0 rfl <| Ap rfl <| Al rfl <| Am rfl <| Al rfl <| At rfl hc15)) ?_
      refine Az 7 rfl (by kernel_rfl) (by kernel_rfl) (by kernel_rfl) (by kernel_rfl) rfl rfl (fun _ h => h.drop (.cons_cons _ <| .cons_cons _ <| .cons_cons _ <| .cons_cons _ <| .refl _)) (fun _ _ _ h => h) (Ag (Bp rfl <| A7 rfl <| Am rfl <| Al rfl <| Am rfl <| A9 rfl <| A0 rfl <| Ac)) ?_
      refine Az 8 rfl (by kernel_rfl) (by kernel_rfl) (by kernel_rfl) (by kernel_rfl) rfl rfl (fun _ h => h.drop (.cons_cons _ <| .cons_cons _ <| .cons_cons _ <| .cons_cons _ <| .refl _)) (fun _ _ _ h => h) (Ag (Bp rfl <| A7 rfl <| Al rfl <| At rfl hs17)) ?_
      refine Az 9 rfl (by kernel_rfl) (by kernel_rfl) (by kernel_rfl) (by kernel_rfl) rfl rfl (fun _ h => h.drop (.cons_cons _ <| .cons_cons _ <| .cons_cons _ <| .cons_cons _ <| .refl _)) (fun _ _ _ h => h) (Be  Cw (Al rfl <| Ac) hq.plain (Ac) rfl hlt) ?_
      refine Az 10 rfl (by kernel_rfl) (by kernel_rfl) (by kernel_rfl) (by kernel_rfl) rfl rfl (fun _ h => h.drop (.cons_cons _ <| .cons_cons _ <| .cons_cons _ <| .cons_cons _ <| .refl _)) (fun _ _ _ h => h) (Bx D1 (Ac)) ?_
      refine Az 11 rfl (by kernel_rfl) (by kernel_rfl) (by kernel_rfl) (by kernel_rfl) rfl rfl (fun _ h => h.drop (.cons_cons _ <| .cons_cons _ <| .cons_cons _ <| .cons_cons _ <| .refl _)) (fun _ _ _ h => h) (Aq Bf (Ac) (hq.cell hlt rfl)) ?_
      refine Az 12 rfl (by kernel_rfl) (by kernel_rfl) (by kernel_rfl) (by kernel_rfl) rfl rfl (fun _ h => h.drop (.cons_cons _ <| .cons_cons _ <| .cons_cons _ <| .cons_cons _ <| .refl _)) (fun _ _ _ h => h) (Be (k := c) Bn (A0 rfl <| Al rfl <| Ac) (Dq (Nat.le_refl _) (by omega)) (Ac) hc hcb) ?_
      refine Az 13 rfl (by kernel_rfl) (by kernel_rfl) (by kernel_rfl) (by kernel_rfl) rfl rfl (fun _ h => h.drop (.cons_cons _ <| .cons_cons _ <| .cons_cons _ <| .cons_cons _ <| .refl _)) (fun _ _ _ h => h) (Aq Bf (Ac) (cell_row 0 rfl (ivals_get hcb))) ?_
      refine Az 14 rfl (by kernel_rfl) (by kernel_rfl) (by kernel_rfl) (by kernel_rfl) rfl rfl (fun _ h => h.drop (.cons_cons _ <| .cons_cons _ <| .cons_cons _ <| .cons_cons _ <| .refl _)) (fun _ _ _ h => h) (Ag (Bp rfl <| A7 rfl <| A0 rfl <| Ap rfl <| Al rfl <| Am rfl <| Al rfl <| Am rfl <| A9 rfl <| A0 rfl <| Ac)) ?_
      refine Az 15 rfl (by kernel_rfl) (by kernel_rfl) (by kernel_rfl) (by kernel_rfl) rfl rfl (fun _ h => h.drop (.cons_cons _ <| .cons_cons _ <| .cons_cons _ <| .cons_cons _ <| .refl _)) (fun _ _ _ h => h) (Ag (Bp rfl <| A7 rfl <| A9 rfl <| At rfl hs17)) ?_
      refine Az 16 rfl (by kernel_rfl) (by kernel_rfl) (by kernel_rfl) (by kernel_rfl) rfl rfl (fun _ h => h.drop (.cons_cons _ <| .cons_cons _ <| .cons_cons _ <| .cons_cons _ <| .refl _)) (fun _ _ _ h => h) (Be  Cw (Al rfl <| Ac) hq.plain (Ac) rfl hlt) ?_
      refine Az 17 rfl (by kernel_rfl) (by kernel_rfl) (by kernel_rfl) (by kernel_rfl) rfl rfl (fun _ h => h.drop (.cons_cons _ <| .cons_cons _ <| .cons_cons _ <| .cons_cons _ <| .refl _)) (fun _ _ _ h => h) (Bx Ew (Ac)) ?_
      refine Az 18 rfl (by kernel_rfl) (by kernel_rfl) (by kernel_rfl) (by kernel_rfl) rfl rfl (fun _ h => h.drop (.cons_cons _ <| .cons_cons _ <| .cons_cons _ <| .cons_cons _ <| .refl _)) (fun _ _ _ h => h) (Aq Bf (Ac) (hq.cell hlt rfl)) ?_
      refine Az 19 rfl (by kernel_rfl) (by kernel_rfl) (by kernel_rfl) (by kernel_rfl) rfl rfl (fun _ h => h.drop (.cons_cons _ <| .cons_cons _ <| .cons_cons _ <| .cons_cons _ <| .refl _)) (fun _ _ _ h => h) (B0 (A0 rfl <| Al rfl <| Ac) (Ac) rfl (by omega) (by omega)) ?_
      refine Az 20 rfl (by kernel_rfl) (by kernel_rfl) (by kernel_rfl) (by kernel_rfl) rfl rfl (fun _ h => h.drop (.cons_cons _ <| .cons_cons _ <| .cons_cons _ <| .cons_cons _ <| .refl _)) (fun _ _ _ h => h) (Be (k := c) Bn (A7 rfl <| Ap rfl <| Al rfl <| Ac) (Dq (Nat.le_refl _) (by omega)) (A9 rfl <| A0 rfl <| Ap rfl <| Ac) hc hcb) ?_
      refine WX_x0 21 rfl (by kernel_rfl) (x_storeK sz_3 (Ac) (by simp [base, addc] : addc (base (.slice (some ⟨p15, 0, none⟩) s.bidders.length s.bidders.length)) (c * 1) = ⟨p15, c, none⟩) (Al rfl <| Ac) (i := 0) rfl (by rw [En]; omega) rfl (.here) ⟨(fun h => nomatch h), ?_⟩)
      refine Cs (by kernel_rfl) ?_ _
      refine Ae ?_
      have hleS := hle0
      refine Dg (.inl rfl) (fun _ _ h => h) (.cons_cons _ <| .cons_cons _ <| .cons_cons _ <| .cons_cons _ <| .refl _) [23] (by kernel_rfl) fun ds => ?_
      refine Az 0 rfl (by kernel_rfl) (by kernel_rfl) (by kernel_rfl) (by kernel_rfl) rfl rfl (fun _ h => h.drop (.cons_cons _ <| .cons_cons _ <| .cons_cons _ <| .cons_cons _ <| .refl _)) (fun _ _ _ h => h) (Ag (Bp rfl <| A7 rfl <| A9 rfl <| A0 rfl <| Ap rfl <| Am rfl <| Al rfl <| At rfl hc16)) ?_
      refine Az 1 rfl (by kernel_rfl) (by kernel_rfl) (by kernel_rfl) (by kernel_rfl) rfl rfl (fun _ h => h.drop (.cons_cons _ <| .cons_cons _ <| .cons_cons _ <| .cons_cons _ <| .refl _)) (fun _ _ _ h => h) (Aj Co (Bp rfl <| A7 rfl <| A9 rfl <| A0 rfl <| Ap rfl <| Al rfl <| Am rfl <| Al rfl <| Am rfl <| A7 rfl <| A9 rfl <| A0 rfl <| Al rfl <| Ac)) ?_
      refine Az 2 rfl (by kernel_rfl) (by kernel_rfl) (by kernel_rfl) (by kernel_rfl) rfl rfl (fun _ h => h.drop (.cons_cons _ <| .cons_cons _ <| .cons_cons _ <| .cons_cons _ <| .refl _)) (fun _ _ _ h => h) (Aq C3 (Ac) (Cell.own 3 rfl rfl)) ?_
      refine Az 3 rfl (by kernel_rfl) (by kernel_rfl) (by kernel_rfl) (by kernel_rfl) rfl rfl (fun _ h => h.drop (.cons_cons _ <| .cons_cons _ <| .cons_cons _ <| .cons_cons _ <| .refl _)) (fun _ _ _ h => h) (Ag (Bp rfl <| Bp rfl <| Al rfl <| At rfl hs17)) ?_
      refine Az 4 rfl (by kernel_rfl) (by kernel_rfl) (by kernel_rfl) (by kernel_rfl) rfl rfl (fun _ h => h.drop (.cons_cons _ <| .cons_cons _ <| .cons_cons _ <| .cons_cons _ <| .refl _)) (fun _ _ _ h => h) (Be  C5 (Al rfl <| Ac) hr.lots.plain (Ac) rfl hkl) ?_
      refine Az 5 rfl (by kernel_rfl) (by kernel_rfl) (by kernel_rfl) (by kernel_rfl) rfl rfl (fun _ h => h.drop (.cons_cons _ <| .cons_cons _ <| .cons_cons _ <| .cons_cons _ <| .refl _)) (fun _ _ _ h => h) (Bx fd_69_1 (Ac)) ?_
      refine Az 6 rfl (by kernel_rfl) (by kernel_rfl) (by kernel_rfl) (by kernel_rfl) rfl rfl (fun _ h => h.drop (.cons_cons _ <| .cons_cons _ <| .cons_cons _ <| .cons_cons _ <| .refl _)) (fun _ _ _ h => h) (Aq Bf (Ac) (hr.lots.cell hkl rfl)) ?_
      refine Az 7 rfl (by kernel_rfl) (by kernel_rfl) (by kernel_rfl) (by kernel_rfl) rfl rfl (fun _ h => h.drop (.cons_cons _ <| .cons_cons _ <| .cons_cons _ <| .cons_cons _ <| .refl _)) (fun _ _ _ h => h) (Ag (Bp rfl <| Bp rfl <| A0 rfl <| Al rfl <| Am rfl <| Al rfl <| At rfl hc16)) ?_
      refine Az 8 rfl (by kernel_rfl) (by kernel_rfl) (by kernel_rfl) (by kernel_rfl) rfl rfl (fun _ h => h.drop (.cons_cons _ <| .cons_cons _ <| .cons_cons _ <| .cons_cons _ <| .refl _)) (fun _ _ _ h => h) (Aj Co (Bp rfl <| Bp rfl <| A0 rfl <| Ap rfl <| Am rfl <| Al rfl <| Am rfl <| A7 rfl <| A9 rfl <| A0 rfl <| Al rfl <| Ac)) ?_
      refine Az 9 rfl (by kernel_rfl) (by kernel_rfl) (by kernel_rfl) (by kernel_rfl) rfl rfl (fun _ h => h.drop (.cons_cons _ <| .cons_cons _ <| .cons_cons _ <| .cons_cons _ <| .refl _)) (fun _ _ _ h => h) (Aq C3 (Ac) (Cell.own 3 rfl rfl)) ?_
      refine Az 10 rfl (by kernel_rfl) (by kernel_rfl) (by kernel_rfl) (by kernel_rfl) rfl rfl (fun _ h => h.drop (.cons_cons _ <| .cons_cons _ <| .cons_cons _ <| .cons_cons _ <| .refl _)) (fun _ _ _ h => h) (Ag (Bp rfl <| Bp rfl <| A9 rfl <| At rfl hs17)) ?_
      refine Az 11 rfl (by kernel_rfl) (by kernel_rfl) (by kernel_rfl) (by kernel_rfl) rfl rfl (fun _ h => h.drop (.cons_cons _ <| .cons_cons _ <| .cons_cons _ <| .cons_cons _ <| .refl _)) (fun _ _ _ h => h) (Be  C5 (Al rfl <| Ac) hr.lots.plain (Ac) rfl hkl) ?_
      refine Az 12 rfl (by kernel_rfl) (by kernel_rfl) (by kernel_rfl) (by kernel_rfl) rfl rfl (fun _ h => h.drop (.cons_cons _ <| .cons_cons _ <| .cons_cons _ <| .cons_cons _ <| .refl _)) (fun _ _ _ h => h) (Bx fd_69_1 (Ac)) ?_
      refine Az 13 rfl (by kernel_rfl) (by kernel_rfl) (by kernel_rfl) (by kernel_rfl) rfl rfl (fun _ h => h.drop (.cons_cons _ <| .cons_cons _ <| .cons_cons _ <| .cons_cons _ <| .refl _)) (fun _ _ _ h => h) (Aq Bf (Ac) (hr.lots.cell hkl rfl)) ?_
      refine Az 14 rfl (by kernel_rfl) (by kernel_rfl) (by kernel_rfl) (by kernel_rfl) rfl rfl (fun _ h => h.drop (.cons_cons _ <| .cons_cons _ <| .cons_cons _ <| .cons_cons _ <| .refl _)) (fun _ _ _ h => h) (Be (k := d) Bn (A0 rfl <| Ap rfl <| Ac) (Dq (Nat.le_refl _) (by omega)) (Ac) (by rw [e1]; exact hd) hds) ?_
      refine Az 15 rfl (by kernel_rfl) (by kernel_rfl) (by kernel_rfl) (by kernel_rfl) rfl rfl (fun _ h => h.drop (.cons_cons _ <| .cons_cons _ <| .cons_cons _ <| .cons_cons _ <| .refl _)) (fun _ _ _ h => h) (Aq Bf (Ac) (cell_row 1 rfl (ivals_get hds))) ?_
      refine Az 16 rfl (by kernel_rfl) (by kernel_rfl) (by kernel_rfl) (by kernel_rfl) rfl rfl (fun _ h => h.drop (.cons_cons _ <| .cons_cons _ <| .cons_cons _ <| .cons_cons _ <| .refl _)) (fun _ _ _ h => h) (Ag (Bp rfl <| Bp rfl <| A9 rfl <| A0 rfl <| Ap rfl <| Am rfl <| Al rfl <| Am rfl <| A9 rfl <| A0 rfl <| Ac)) ?_
      refine Az 17 rfl (by kernel_rfl) (by kernel_rfl) (by kernel_rfl) (by kernel_rfl) rfl rfl (fun _ h => h.drop (.cons_cons _ <| .cons_cons _ <| .cons_cons _ <| .cons_cons _ <| .refl _)) (fun _ _ _ h => h) (Ag (Bp rfl <| Bp rfl <| A9 rfl <| A0 rfl <| Ap rfl <| Al rfl <| At rfl hs17)) ?_
      refine Az 18 rfl (by kernel_rfl) (by kernel_rfl) (by kernel_rfl) (by kernel_rfl) rfl rfl (fun _ h => h.drop (.cons_cons _ <| .cons_cons _ <| .cons_cons _ <| .cons_cons _ <| .refl _)) (fun _ _ _ h => h) (Be  Cw (Al rfl <| Ac) hq.plain (Ac) rfl hlt) ?_
      refine Az 19 rfl (by kernel_rfl) (by kernel_rfl) (by kernel_rfl) (by kernel_rfl) rfl rfl (fun _ h => h.drop (.cons_cons _ <| .cons_cons _ <| .cons_cons _ <| .cons_cons _ <| .refl _)) (fun _ _ _ h => h) (Bx Ew (Ac)) ?_
      refine Az 20 rfl (by kernel_rfl) (by kernel_rfl) (by kernel_rfl) (by kernel_rfl) rfl rfl (fun _ h => h.drop (.cons_cons _ <| .cons_cons _ <| .cons_cons _ <| .cons_cons _ <| .refl _)) (fun _ _ _ h => h) (Aq Bf (Ac) (hq.cell hlt rfl)) ?_
      refine Az 21 rfl (by kernel_rfl) (by kernel_rfl) (by kernel_rfl) (by kernel_rfl) rfl rfl (fun _ h => h.drop (.cons_cons _ <| .cons_cons _ <| .cons_cons _ <| .cons_cons _ <| .refl _)) (fun _ _ _ h => h) (B0 (A0 rfl <| Al rfl <| Ac) (Ac) rfl (by omega) (by omega)) ?_
      refine Az 22 rfl (by kernel_rfl) (by kernel_rfl) (by kernel_rfl) (by kernel_rfl) rfl rfl (fun _ h => h.drop (.cons_cons _ <| .cons_cons _ <| .cons_cons _ <| .cons_cons _ <| .refl _)) (fun _ _ _ h => h) (Be (k := d) Bn (A7 rfl <| A0 rfl <| Al rfl <| Ac) (Dq (Nat.le_refl _) (by omega)) (A9 rfl <| A0 rfl <| Ap rfl <| Al rfl <| Ac) (by rw [e1]; exact hd) hds) ?_
      refine WX_x0 23 rfl (by kernel_rfl) (x_storeK sz_3 (Ac) (by simp [base, addc] : addc (base (.slice (some ⟨p16, 0, none⟩) s.sellers.length s.sellers.length)) (d * 1) = ⟨p16, d, none⟩) (Al rfl <| Ac) (i := 1) rfl (by rw [En]; omega) rfl (.next <| .here) ⟨(fun h => nomatch h), ?_⟩)
      refine Cs (by kernel_rfl) ?_ _
      refine Bh <| Ae <| Ai fun ds => Aa rfl (Ag (Bp rfl <| Bp rfl <| A7 rfl <| A0 rfl <| Al rfl <| At rfl hs17)) ?_
      refine Aa rfl (B0 (Ac) Ab rfl (by omega) (by omega)) ?_
      refine Aa rfl (Ad (Ac)) ?_
      refine Ah <| Ae ⟨_, m - 1, Off.eq (ou32 rfl <| ou32 rfl <| Db rfl <| Ea rfl <| Bi), by omega, ?_⟩
      refine ⟨k + 1, by omega, (Ac), _, _, (Bp rfl <| Bp rfl <| A7 rfl <| A9 rfl <| At rfl hs14), by rw [ret_no2 hrc]; exact ho, ?_⟩
      rw [← bou_set hlive (hel ▸ hc), ← sol_set hlive hd, hel]
   ·
    refine Af <| Af <| Ai fun ds => Aa rfl (Ag (At rfl hs17)) ?_
    refine Aa rfl (Ag (Al rfl <| Am rfl <| Al rfl <| Am rfl <| A9 rfl <| A0 rfl <| Ac)) ?_
    refine Aa rfl (Bg Cw (Ac) hq.plain) ?_
    refine Aa rfl (Bu (Ap rfl <| Ac) (Ac)) ?_
    refine Ah <| Ae <| Ao (Ac) (by first | rfl | exact decide_eq_false (by omega)) ?_
    obtain rfl : k = s.lots.length := by omega
    refine E1 (σ := ⟨_, _⟩) (by rfl) ho (.s <| .s <| .s <| .s <| .z) .last fun F20 hF21 hz22 => ?_
    replace hr := hr.mono hF21
    replace hle0 := Heap.le_trans hle0 hF21
    replace hx := hx.mono hF21
    have hrs := ho.sl (fun _ => rfl) hz22 (by omega)
    refine WC_freeze0 (i := 0) rfl rfl (.here) fun F23 hF24 hz15 => ?_
    replace hr := hr.mono hF24
    replace hle0 := Heap.le_trans hle0 hF24
    replace hx := hx.mono hF24
    replace hrs := hrs.mono hF24
    refine WC_freeze0 (i := 0) rfl rfl (.here) fun F25 hF26 hz16 => ?_
    replace hr := hr.mono hF26
    replace hle0 := Heap.le_trans hle0 hF26
    replace hx := hx.mono hF26
    replace hrs := hrs.mono hF26
    replace hz15 := hF26 _ _ hz15
    have hbo := ivals_ints hz15 (by omega)
    have hso := ivals_ints hz16 (by omega)
    change Ints _ _ ((List.range s.bidders.length).map (fun b => bouTo s (castL (ringN s ka)) (retTo s (castL (ringN s ka)) kb ((x : Int) % (s.days + 1)) s.lots.length) b s.lots.length)) at hbo
    change Ints _ _ ((List.range s.sellers.length).map (fun b => solTo s (castL (ringN s ka)) (retTo s (castL (ringN s ka)) kb ((x : Int) % (s.days + 1)) s.lots.length) b s.lots.length)) at hso
    have hpl : ((List.range s.bidders.length).map (fun b => payTo s (castL (ringN s ka)) (retTo s (castL (ringN s ka)) kb ((x : Int) % (s.days + 1)) s.lots.length) b s.lots.length)).length = s.bidders.length := by simp
    have hgl : ((List.range s.sellers.length).map (fun c => getTo s (castL (ringN s ka)) (retTo s (castL (ringN s ka)) kb ((x : Int) % (s.days + 1)) s.lots.length) c s.lots.length)).length = s.sellers.length := by simp
    have hbl : ((List.range s.bidders.length).map (fun b => bouTo s (castL (ringN s ka)) (retTo s (castL (ringN s ka)) kb ((x : Int) % (s.days + 1)) s.lots.length) b s.lots.length)).length = s.bidders.length := by simp
    have hsl : ((List.range s.sellers.length).map (fun b => solTo s (castL (ringN s ka)) (retTo s (castL (ringN s ka)) kb ((x : Int) % (s.days + 1)) s.lots.length) b s.lots.length)).length = s.sellers.length := by simp
    have hab := fun b => acc_bound hv (ring := castL (ringN s ka)) (rs := retTo s (castL (ringN s ka)) kb ((x : Int) % (s.days + 1)) s.lots.length) (b := b) s.lots.length (Nat.le_refl _)
    have hbf := fun b => bou_facts hv (ring := castL (ringN s ka)) (rs := retTo s (castL (ringN s ka)) kb ((x : Int) % (s.days + 1)) s.lots.length) (b := b) s.lots.length (Nat.le_refl _)
    have hab0 := hab 0
    have hsum := acc_sum hv (ring := castL (ringN s ka)) (rs := retTo s (castL (ringN s ka)) kb ((x : Int) % (s.days + 1)) s.lots.length) s.lots.length (Nat.le_refl _)
    refine Bt ?_
    refine Bk <| Bk <| Bm <| Ae <| Af <| Ai fun ds => Aa rfl (Bj Cd (A0 rfl <| Am rfl <| Al rfl <| Am rfl <| A7 rfl <| A9 rfl <| A0 rfl <| Al rfl <| Ac) rfl rfl (Bo 1 rfl)) ?_
    refine Aa rfl (Ag (A0 rfl <| Al rfl <| Am rfl <| Al rfl <| Am rfl <| A7 rfl <| Ap rfl <| Al rfl <| Ac)) ?_
    refine Aa rfl (Ag (A0 rfl <| Ap rfl <| At rfl hs14)) ?_
    refine Bl rfl (Ct bd_23 A1 (.cons (Ap rfl <| Ac) (.cons (Al rfl <| Ac) (.cons (Ac) .nil))) ((Ej hr hx hrs).mono fun u F2 _ h => (by rw [accE_ok (E5 h0) (ret_err hdd)] at h; exact h : ∃ w w2, u = .tuple #[w, w2, .int .i64 (houseTo s (castL (ringN s ka)) (retTo s (castL (ringN s ka)) kb ((x : Int) % (s.days + 1)) s.lots.length) s.lots.length), .int .i64 0] ∧ Ints F2 w ((List.range s.bidders.length).map (fun b => payTo s (castL (ringN s ka)) (retTo s (castL (ringN s ka)) kb ((x : Int) % (s.days + 1)) s.lots.length) b s.lots.length)) ∧ Ints F2 w2 ((List.range s.sellers.length).map (fun c => getTo s (castL (ringN s ka)) (retTo s (castL (ringN s ka)) kb ((x : Int) % (s.days + 1)) s.lots.length) c s.lots.length)))) fun v27 F28 hr29 hF30 => ?_)
    replace hr := hr.mono hF30
    replace hle0 := Heap.le_trans hle0 hF30
    replace hx := hx.mono hF30
    replace hrs := hrs.mono hF30
    replace hbo := hbo.mono hF30
    replace hso := hso.mono hF30
    obtain ⟨hp_, hg_, rfl, hp, hg⟩ := hr29
    refine Aa rfl (Ag (Ac)) ?_
    refine Aa rfl (Ay (Ac) rfl) ?_
    refine Aa rfl (Ay (Al rfl <| Ac) rfl) ?_
    refine Aa rfl (Ay (Ap rfl <| Ac) rfl) ?_
    refine Aa rfl (Ay (Ap rfl <| Al rfl <| Ac) rfl) ?_
    refine Aa rfl (Ad (Ap rfl <| Al rfl <| Ac)) ?_
    refine Aa rfl (Ad (Ap rfl <| Al rfl <| Ac)) ?_
    refine Aa rfl (Ad (Ap rfl <| Al rfl <| Ac)) ?_
    refine Aa rfl (Ad (Ap rfl <| Al rfl <| Ac)) ?_
    refine Ah <| Ae <| Af <| Af <| Ai fun ds => Aa rfl (Ag (Ac)) ?_
    refine Aa rfl (B8 (Ac) Ab) ?_
    refine Aa rfl (Ag (Ac)) ?_
    refine Ar rfl rfl (Ac) (by first | rfl | decide) ?_
    refine Aa rfl (Ag (A0 rfl <| Ap rfl <| Ac)) ?_
    refine Ar rfl rfl (Al rfl <| Ac) (by first | rfl | decide) ?_
    refine Aa rfl (Bg Bn (Ac) hp.plain) ?_
    refine Ar rfl rfl (Ap rfl <| Ac) (by first | rfl | decide) ?_
    refine Aa rfl (Ag (A7 rfl <| A0 rfl <| Ap rfl <| Am rfl <| Al rfl <| At rfl hc15)) ?_
    refine Ar rfl rfl (Ap rfl <| Al rfl <| Ac) (by first | rfl | decide) ?_
    refine Aa rfl (Bg Bn (Ac) hbo.plain) ?_
    refine Ar rfl rfl (A0 rfl <| Ac) (by first | rfl | decide) ?_
    refine Aa rfl (B8 (Ap rfl <| Ac) (Ac)) ?_
    refine Aa rfl (A8 (A0 rfl <| Al rfl <| Ac) (by first | rfl | decide) (Ac)) ?_
    refine Aa rfl (Ag (Ac)) ?_
    refine Ar rfl rfl (Ac) (decide_eq_false (by omega)) ?_
    refine Aa rfl (Ag (A9 rfl <| A0 rfl <| Ac)) ?_
    refine Ar rfl rfl (Al rfl <| Ac) (decide_eq_false (by omega)) ?_
    refine Aa rfl (Bg Bn (Ac) hg.plain) ?_
    refine Ar rfl rfl (Ap rfl <| Ac) (decide_eq_false (by omega)) ?_
    refine Aa rfl (Ag (A7 rfl <| A9 rfl <| A0 rfl <| Al rfl <| Am rfl <| Al rfl <| At rfl hc16)) ?_
    refine Ar rfl rfl (Ap rfl <| Al rfl <| Ac) (decide_eq_false (by omega)) ?_
    refine Aa rfl (Bg Bn (Ac) hso.plain) ?_
    refine Ar rfl rfl (A0 rfl <| Ac) (decide_eq_false (by omega)) ?_
    refine Aa rfl (B8 (Ap rfl <| Ac) (Ac)) ?_
    refine Aa rfl (A8 (A0 rfl <| Al rfl <| Ac) (decide_eq_false (by omega)) (Ac)) ?_
    refine Aa rfl (Ag (Ac)) ?_
    refine Ar rfl rfl (Ac) (decide_eq_false (by omega)) ?_
    refine Aa rfl (Ag (A7 rfl <| Ap rfl <| Ac)) ?_
    refine Ar rfl rfl (Al rfl <| Ac) (decide_eq_false (by omega)) ?_
    refine Aa rfl (Bu (Ac) Ab) ?_
    refine Aa rfl (A8 (Ap rfl <| Ac) (decide_eq_false (by omega)) (Ac)) ?_
    refine Ah <| Ae <| Ao (Ac) (decide_eq_false (by omega)) ?_
    refine Ax <| Ae <| Af <| Ai fun ds => Aa rfl (Ag (A7 rfl <| A0 rfl <| Al rfl <| Ac)) ?_
    refine Aa rfl (Dj Ab (Ac) rfl (by omega) (by omega)) ?_
    refine Aa rfl (Ad (Ac)) ?_
    refine Ah <| Ae <| Af <| Af <| Ai fun ds => Aa rfl (Ad Ab) ?_
    refine Ah <| Ae <| A2 <| B3 [6, 22, 23, 206, 207, 208, 209, 210, 211, 212, 213, 214, 215, 216, 217, 218, 219, 220, 221, 222, 223, 224, 225, 226, 227, 228, 229, 230, 231, 232, 233, 234, 235, 236, 237, 238] (fun m e σ => ∃ k : Nat, m + k = ((List.range s.bidders.length).map (fun b => payTo s (castL (ringN s ka)) (retTo s (castL (ringN s ka)) kb ((x : Int) % (s.days + 1)) s.lots.length) b s.lots.length)).length ∧ e 23 = .int .i64 (k : Int) ∧ e 22 = .int .i64 (sumI (fun b => payTo s (castL (ringN s ka)) (retTo s (castL (ringN s ka)) kb ((x : Int) % (s.days + 1)) s.lots.length) b s.lots.length) k - houseTo s (castL (ringN s ka)) (retTo s (castL (ringN s ka)) kb ((x : Int) % (s.days + 1)) s.lots.length) s.lots.length) ∧ σ = ⟨F28, [(b2, bx 74 [.int .u8 (ka : Int), .int .u8 (kb : Int)]), (b1, bx 27 [vs, .int .i64 s.premium, .int .i64 s.fee, .int .i64 s.days, vb, vl, vn, vd])]⟩) (((List.range s.bidders.length).map (fun b => payTo s (castL (ringN s ka)) (retTo s (castL (ringN s ka)) kb ((x : Int) % (s.days + 1)) s.lots.length) b s.lots.length)).length) ?_ ?_
    · exact ⟨0, by omega, (Ac), (Al rfl <| Ac), rfl⟩
    ·
     rintro m e _ ⟨k, hm, hs23, hs22, rfl⟩
     by_cases hlt : k < ((List.range s.bidders.length).map (fun b => payTo s (castL (ringN s ka)) (retTo s (castL (ringN s ka)) kb ((x : Int) % (s.days + 1)) s.lots.length) b s.lots.length)).length
     ·
      have hlb : k < ((List.range s.bidders.length).map (fun b => bouTo s (castL (ringN s ka)) (retTo s (castL (ringN s ka)) kb ((x : Int) % (s.days + 1)) s.lots.length) b s.lots.length)).length := by omega
      have hPk : ((List.range s.bidders.length).map (fun b => payTo s (castL (ringN s ka)) (retTo s (castL (ringN s ka)) kb ((x : Int) % (s.days + 1)) s.lots.length) b s.lots.length))[k] = payTo s (castL (ringN s ka)) (retTo s (castL (ringN s ka)) kb ((x : Int) % (s.days + 1)) s.lots.length) k s.lots.length := by simp
      have hBk : ((List.range s.bidders.length).map (fun b => bouTo s (castL (ringN s ka)) (retTo s (castL (ringN s ka)) kb ((x : Int) % (s.days + 1)) s.lots.length) b s.lots.length))[k] = bouTo s (castL (ringN s ka)) (retTo s (castL (ringN s ka)) kb ((x : Int) % (s.days + 1)) s.lots.length) k s.lots.length := by simp
      have hb1 := hbf k
      have hb2 := hab k
      have hs1 := sum_bound (f := (fun b => payTo s (castL (ringN s ka)) (retTo s (castL (ringN s ka)) kb ((x : Int) % (s.days + 1)) s.lots.length) b s.lots.length)) (M := 1200000) k (fun i _ => by have := hab i; exact ⟨this.1, Int.le_trans this.2.1 (by omega)⟩)
      have hs2 := sum_bound (f := (fun b => payTo s (castL (ringN s ka)) (retTo s (castL (ringN s ka)) kb ((x : Int) % (s.days + 1)) s.lots.length) b s.lots.length)) (M := 1200000) (k + 1) (fun i _ => by have := hab i; exact ⟨this.1, Int.le_trans this.2.1 (by omega)⟩)
      refine Af <| Af <| Ai fun ds => Aa rfl (Ag (At rfl hs23)) ?_
      refine Aa rfl (Ag (Al rfl <| Am rfl <| A7 rfl <| A9 rfl <| Ap rfl <| Al rfl <| Ac)) ?_
      refine Aa rfl (Bg Bn (Ac) hp.plain) ?_
      refine Aa rfl (Bu (Ap rfl <| Ac) (Ac)) ?_
      refine Ah <| Ae <| As (Ac) (by first | rfl | exact decide_eq_true (by omega)) ?_
      refine Ax <| Ae <| Af <| A2 <| Af <| Ai fun ds => Aa rfl (Ag (A0 rfl <| At rfl hs22)) ?_
      refine Aa rfl (Ag (A0 rfl <| Al rfl <| Am rfl <| A7 rfl <| A9 rfl <| Ap rfl <| Al rfl <| Ac)) ?_
      refine Aa rfl (Ag (A0 rfl <| Ap rfl <| At rfl hs23)) ?_
      refine Aa rfl (Be  Bn (Al rfl <| Ac) hp.plain (Ac) rfl hlt) ?_
      refine Aa rfl (Aq Bf (Ac) (hp.cell1 hlt rfl)) ?_
      refine Aa rfl (B0 (A0 rfl <| Ac) (Ac) (show sumI (fun b => payTo s (castL (ringN s ka)) (retTo s (castL (ringN s ka)) kb ((x : Int) % (s.days + 1)) s.lots.length) b s.lots.length) k - houseTo s (castL (ringN s ka)) (retTo s (castL (ringN s ka)) kb ((x : Int) % (s.days + 1)) s.lots.length) s.lots.length + ((List.range s.bidders.length).map (fun b => payTo s (castL (ringN s ka)) (retTo s (castL (ringN s ka)) kb ((x : Int) % (s.days + 1)) s.lots.length) b s.lots.length))[k] = sumI (fun b => payTo s (castL (ringN s ka)) (retTo s (castL (ringN s ka)) kb ((x : Int) % (s.days + 1)) s.lots.length) b s.lots.length) (k + 1) - houseTo s (castL (ringN s ka)) (retTo s (castL (ringN s ka)) kb ((x : Int) % (s.days + 1)) s.lots.length) s.lots.length by rw [hPk, show sumI (fun b => payTo s (castL (ringN s ka)) (retTo s (castL (ringN s ka)) kb ((x : Int) % (s.days + 1)) s.lots.length) b s.lots.length) (k + 1) = sumI (fun b => payTo s (castL (ringN s ka)) (retTo s (castL (ringN s ka)) kb ((x : Int) % (s.days + 1)) s.lots.length) b s.lots.length) k + payTo s (castL (ringN s ka)) (retTo s (castL (ringN s ka)) kb ((x : Int) % (s.days + 1)) s.lots.length) k s.lots.length from rfl]; omega) (by omega) (by omega)) ?_
      refine Aa rfl (Ad (Ac)) ?_
      refine Ah <| Ae <| Af <| Cl (.inl rfl) (fun _ _ h => h) (by kernel_rfl) (by kernel_rfl) fun ds => ?_
      refine A6 rfl (Ag (A9 rfl <| Ap rfl <| Al rfl <| Am rfl <| A7 rfl <| A9 rfl <| Ap rfl <| Al rfl <| Ac)) ?_
      refine A6 rfl (Ag (A9 rfl <| A0 rfl <| At rfl hs23)) ?_
      refine A6 rfl (Be  Bn (Al rfl <| Ac) hp.plain (Ac) rfl hlt) ?_
      refine A6 rfl (Aq Bf (Ac) (hp.cell1 hlt rfl)) ?_
      refine A6 rfl (Ag (A9 rfl <| A0 rfl <| Ap rfl <| Al rfl <| Am rfl <| Bp rfl <| A9 rfl <| Al rfl <| Am rfl <| Al rfl <| At rfl hc15)) ?_
      refine A6 rfl (Ag (A7 rfl <| At rfl hs23)) ?_
      refine A6 rfl (Be  Bn (Al rfl <| Ac) hbo.plain (Ac) rfl hlb) ?_
      refine A6 rfl (Aq Bf (Ac) (hbo.cell1 hlb rfl)) ?_
      refine A6 rfl (Bu (A0 rfl <| Ac) (Ac)) ?_
      refine A6 rfl (Ag (Ac)) ?_
      refine Bb rfl rfl (Ac) (decide_eq_false (by omega)) ?_
      refine A6 rfl (Ag (A7 rfl <| A0 rfl <| Al rfl <| Am rfl <| A7 rfl <| A9 rfl <| Ap rfl <| Al rfl <| Ac)) ?_
      refine Bb rfl rfl (Al rfl <| Ac) (decide_eq_false (by omega)) ?_
      refine A6 rfl (Ag (A7 rfl <| A0 rfl <| Ap rfl <| At rfl hs23)) ?_
      refine Bb rfl rfl (Ap rfl <| Ac) (decide_eq_false (by omega)) ?_
      refine A6 rfl (Be  Bn (Al rfl <| Ac) hp.plain (Ac) rfl hlt) ?_
      refine Bb rfl rfl (Ap rfl <| Al rfl <| Ac) (decide_eq_false (by omega)) ?_
      refine A6 rfl (Aq Bf (Ac) (hp.cell1 hlt rfl)) ?_
      refine Bb rfl rfl (A0 rfl <| Ac) (decide_eq_false (by omega)) ?_
      refine A6 rfl (Ag (A7 rfl <| A9 rfl <| Al rfl <| Am rfl <| Bp rfl <| A9 rfl <| Al rfl <| Am rfl <| Al rfl <| At rfl hc15)) ?_
      refine Bb rfl rfl (A0 rfl <| Al rfl <| Ac) (decide_eq_false (by omega)) ?_
      refine A6 rfl (Ag (A7 rfl <| A9 rfl <| Ap rfl <| At rfl hs23)) ?_
      refine Bb rfl rfl (A0 rfl <| Ap rfl <| Ac) (decide_eq_false (by omega)) ?_
      refine A6 rfl (Be  Bn (Al rfl <| Ac) hbo.plain (Ac) rfl hlb) ?_
      refine Bb rfl rfl (A0 rfl <| Ap rfl <| Al rfl <| Ac) (decide_eq_false (by omega)) ?_
      refine A6 rfl (Aq Bf (Ac) (hbo.cell1 hlb rfl)) ?_
      refine Bb rfl rfl (A9 rfl <| Ac) (decide_eq_false (by omega)) ?_
      refine A6 rfl (q_mul Ab (Ac) rfl (by omega) (by omega)) ?_
      refine Bb rfl rfl (A9 rfl <| Al rfl <| Ac) (decide_eq_false (by omega)) ?_
      refine A6 rfl (Ci (A0 rfl <| Al rfl <| Ac) (Ac)) ?_
      refine A6 rfl (A8 (A9 rfl <| Ap rfl <| Ac) (decide_eq_false (by omega)) (Ac)) ?_
      refine Cp ?_
      refine Ae <| Ao (Ac) (decide_eq_false (by omega)) ?_
      refine Ax <| Bh <| Ae <| Ai fun ds => Aa rfl (Ag (Bp rfl <| At rfl hs23)) ?_
      refine Aa rfl (B0 (Ac) Ab rfl (by omega) (by omega)) ?_
      refine Aa rfl (Ad (Ac)) ?_
      refine Ah <| Ae ⟨_, m - 1, Off.eq (ou32 rfl <| Ev rfl <| E4 rfl <| Bi), by omega, ?_⟩
      exact ⟨k + 1, by omega, (Ac), (A7 rfl <| A9 rfl <| Ac), rfl⟩
     ·
      refine Af <| Af <| Ai fun ds => Aa rfl (Ag (At rfl hs23)) ?_
      refine Aa rfl (Ag (Al rfl <| Am rfl <| A7 rfl <| A9 rfl <| Ap rfl <| Al rfl <| Ac)) ?_
      refine Aa rfl (Bg Bn (Ac) hp.plain) ?_
      refine Aa rfl (Bu (Ap rfl <| Ac) (Ac)) ?_
      refine Ah <| Ae <| Ao (Ac) (by first | rfl | exact decide_eq_false (by omega)) ?_
      obtain rfl : k = s.bidders.length := by omega
      refine Bt ?_
      refine Bk <| Bk <| Bm <| Ae <| Af <| Af <| Ai fun ds => Aa rfl (Ad Ab) ?_
      refine Ah <| Ae <| A2 <| B3 [6, 22, 24, 239, 240, 241, 242, 243, 244, 245, 246, 247, 248, 249, 250, 251, 252, 253, 254, 255, 256, 257, 258, 259, 260, 261, 262, 263, 264, 265, 266] (fun m e σ => ∃ k : Nat, m + k = ((List.range s.sellers.length).map (fun c => getTo s (castL (ringN s ka)) (retTo s (castL (ringN s ka)) kb ((x : Int) % (s.days + 1)) s.lots.length) c s.lots.length)).length ∧ e 24 = .int .i64 (k : Int) ∧ e 22 = .int .i64 (sumI (fun b => payTo s (castL (ringN s ka)) (retTo s (castL (ringN s ka)) kb ((x : Int) % (s.days + 1)) s.lots.length) b s.lots.length) s.bidders.length - houseTo s (castL (ringN s ka)) (retTo s (castL (ringN s ka)) kb ((x : Int) % (s.days + 1)) s.lots.length) s.lots.length - sumI (fun c => getTo s (castL (ringN s ka)) (retTo s (castL (ringN s ka)) kb ((x : Int) % (s.days + 1)) s.lots.length) c s.lots.length) k) ∧ σ = ⟨F28, [(b2, bx 74 [.int .u8 (ka : Int), .int .u8 (kb : Int)]), (b1, bx 27 [vs, .int .i64 s.premium, .int .i64 s.fee, .int .i64 s.days, vb, vl, vn, vd])]⟩) (((List.range s.sellers.length).map (fun c => getTo s (castL (ringN s ka)) (retTo s (castL (ringN s ka)) kb ((x : Int) % (s.days + 1)) s.lots.length) c s.lots.length)).length) ?_ ?_
      · exact ⟨0, by omega, (Ac), by rw [show sumI (fun b => payTo s (castL (ringN s ka)) (retTo s (castL (ringN s ka)) kb ((x : Int) % (s.days + 1)) s.lots.length) b s.lots.length) s.bidders.length - houseTo s (castL (ringN s ka)) (retTo s (castL (ringN s ka)) kb ((x : Int) % (s.days + 1)) s.lots.length) s.lots.length - sumI (fun c => getTo s (castL (ringN s ka)) (retTo s (castL (ringN s ka)) kb ((x : Int) % (s.days + 1)) s.lots.length) c s.lots.length) 0 = sumI (fun b => payTo s (castL (ringN s ka)) (retTo s (castL (ringN s ka)) kb ((x : Int) % (s.days + 1)) s.lots.length) b s.lots.length) s.bidders.length - houseTo s (castL (ringN s ka)) (retTo s (castL (ringN s ka)) kb ((x : Int) % (s.days + 1)) s.lots.length) s.lots.length from Int.sub_zero _]; exact (A0 rfl <| Al rfl <| At rfl hs22), rfl⟩
      ·
       rintro m e _ ⟨k, hm, hs24, hs22, rfl⟩
       by_cases hlt : k < ((List.range s.sellers.length).map (fun c => getTo s (castL (ringN s ka)) (retTo s (castL (ringN s ka)) kb ((x : Int) % (s.days + 1)) s.lots.length) c s.lots.length)).length
       ·
        have hlb : k < ((List.range s.sellers.length).map (fun b => solTo s (castL (ringN s ka)) (retTo s (castL (ringN s ka)) kb ((x : Int) % (s.days + 1)) s.lots.length) b s.lots.length)).length := by omega
        have hPk : ((List.range s.sellers.length).map (fun c => getTo s (castL (ringN s ka)) (retTo s (castL (ringN s ka)) kb ((x : Int) % (s.days + 1)) s.lots.length) c s.lots.length))[k] = getTo s (castL (ringN s ka)) (retTo s (castL (ringN s ka)) kb ((x : Int) % (s.days + 1)) s.lots.length) k s.lots.length := by simp
        have hBk : ((List.range s.sellers.length).map (fun b => solTo s (castL (ringN s ka)) (retTo s (castL (ringN s ka)) kb ((x : Int) % (s.days + 1)) s.lots.length) b s.lots.length))[k] = solTo s (castL (ringN s ka)) (retTo s (castL (ringN s ka)) kb ((x : Int) % (s.days + 1)) s.lots.length) k s.lots.length := by simp
        have hb1 := hbf k
        have hb2 := hab k
        have hs1 := sum_bound (f := (fun b => payTo s (castL (ringN s ka)) (retTo s (castL (ringN s ka)) kb ((x : Int) % (s.days + 1)) s.lots.length) b s.lots.length)) (M := 1200000) s.bidders.length (fun i _ => by have := hab i; exact ⟨this.1, Int.le_trans this.2.1 (by omega)⟩)
        have hs2 := sum_bound (f := (fun c => getTo s (castL (ringN s ka)) (retTo s (castL (ringN s ka)) kb ((x : Int) % (s.days + 1)) s.lots.length) c s.lots.length)) (M := 1200000) k (fun i _ => by have := hab i; exact ⟨this.2.2.1, Int.le_trans this.2.2.2.1 (by omega)⟩)
        have hs3 := sum_bound (f := (fun c => getTo s (castL (ringN s ka)) (retTo s (castL (ringN s ka)) kb ((x : Int) % (s.days + 1)) s.lots.length) c s.lots.length)) (M := 1200000) (k + 1) (fun i _ => by have := hab i; exact ⟨this.2.2.1, Int.le_trans this.2.2.2.1 (by omega)⟩)
        refine Af <| Af <| Ai fun ds => Aa rfl (Ag (At rfl hs24)) ?_
        refine Aa rfl (Ag (Al rfl <| Am rfl <| A0 rfl <| Al rfl <| Am rfl <| A7 rfl <| A9 rfl <| Ap rfl <| Ac)) ?_
        refine Aa rfl (Bg Bn (Ac) hg.plain) ?_
        refine Aa rfl (Bu (Ap rfl <| Ac) (Ac)) ?_
        refine Ah <| Ae <| As (Ac) (by first | rfl | exact decide_eq_true (by omega)) ?_
        refine Ax <| Ae <| Af <| A2 <| Af <| Ai fun ds => Aa rfl (Ag (A0 rfl <| At rfl hs22)) ?_
        refine Aa rfl (Ag (A0 rfl <| Al rfl <| Am rfl <| A0 rfl <| Al rfl <| Am rfl <| A7 rfl <| A9 rfl <| Ap rfl <| Ac)) ?_
        refine Aa rfl (Ag (A0 rfl <| Ap rfl <| At rfl hs24)) ?_
        refine Aa rfl (Be  Bn (Al rfl <| Ac) hg.plain (Ac) rfl hlt) ?_
        refine Aa rfl (Aq Bf (Ac) (hg.cell1 hlt rfl)) ?_
        refine Aa rfl (Dj (A0 rfl <| Ac) (Ac) (show sumI (fun b => payTo s (castL (ringN s ka)) (retTo s (castL (ringN s ka)) kb ((x : Int) % (s.days + 1)) s.lots.length) b s.lots.length) s.bidders.length - houseTo s (castL (ringN s ka)) (retTo s (castL (ringN s ka)) kb ((x : Int) % (s.days + 1)) s.lots.length) s.lots.length - sumI (fun c => getTo s (castL (ringN s ka)) (retTo s (castL (ringN s ka)) kb ((x : Int) % (s.days + 1)) s.lots.length) c s.lots.length) k - ((List.range s.sellers.length).map (fun c => getTo s (castL (ringN s ka)) (retTo s (castL (ringN s ka)) kb ((x : Int) % (s.days + 1)) s.lots.length) c s.lots.length))[k] = sumI (fun b => payTo s (castL (ringN s ka)) (retTo s (castL (ringN s ka)) kb ((x : Int) % (s.days + 1)) s.lots.length) b s.lots.length) s.bidders.length - houseTo s (castL (ringN s ka)) (retTo s (castL (ringN s ka)) kb ((x : Int) % (s.days + 1)) s.lots.length) s.lots.length - sumI (fun c => getTo s (castL (ringN s ka)) (retTo s (castL (ringN s ka)) kb ((x : Int) % (s.days + 1)) s.lots.length) c s.lots.length) (k + 1) by rw [hPk, show sumI (fun c => getTo s (castL (ringN s ka)) (retTo s (castL (ringN s ka)) kb ((x : Int) % (s.days + 1)) s.lots.length) c s.lots.length) (k + 1) = sumI (fun c => getTo s (castL (ringN s ka)) (retTo s (castL (ringN s ka)) kb ((x : Int) % (s.days + 1)) s.lots.length) c s.lots.length) k + getTo s (castL (ringN s ka)) (retTo s (castL (ringN s ka)) kb ((x : Int) % (s.days + 1)) s.lots.length) k s.lots.length from rfl]; omega) (by omega) (by omega)) ?_
        refine Aa rfl (Ad (Ac)) ?_
        refine Ah <| Ae <| Af <| Cl (.inl rfl) (fun _ _ h => h) (by kernel_rfl) (by kernel_rfl) fun ds => ?_
        refine A6 rfl (Ag (A9 rfl <| Ap rfl <| Al rfl <| Am rfl <| A0 rfl <| Al rfl <| Am rfl <| A7 rfl <| A9 rfl <| Ap rfl <| Ac)) ?_
        refine A6 rfl (Ag (A9 rfl <| A0 rfl <| At rfl hs24)) ?_
        refine A6 rfl (Be  Bn (Al rfl <| Ac) hg.plain (Ac) rfl hlt) ?_
        refine A6 rfl (Aq Bf (Ac) (hg.cell1 hlt rfl)) ?_
        refine A6 rfl (Bu (Ac) Ab) ?_
        refine A6 rfl (Ag (Ac)) ?_
        refine Bb rfl rfl (Ac) (decide_eq_false (by omega)) ?_
        refine A6 rfl (Ag (A7 rfl <| Al rfl <| Am rfl <| A0 rfl <| Al rfl <| Am rfl <| A7 rfl <| A9 rfl <| Ap rfl <| Ac)) ?_
        refine Bb rfl rfl (Al rfl <| Ac) (decide_eq_false (by omega)) ?_
        refine A6 rfl (Ag (A7 rfl <| Ap rfl <| At rfl hs24)) ?_
        refine Bb rfl rfl (Ap rfl <| Ac) (decide_eq_false (by omega)) ?_
        refine A6 rfl (Be  Bn (Al rfl <| Ac) hg.plain (Ac) rfl hlt) ?_
        refine Bb rfl rfl (Ap rfl <| Al rfl <| Ac) (decide_eq_false (by omega)) ?_
        refine A6 rfl (Aq Bf (Ac) (hg.cell1 hlt rfl)) ?_
        refine Bb rfl rfl (A0 rfl <| Ac) (decide_eq_false (by omega)) ?_
        refine A6 rfl (Ag (A7 rfl <| A0 rfl <| Al rfl <| Am rfl <| A0 rfl <| Al rfl <| Am rfl <| Bp rfl <| A9 rfl <| Al rfl <| Am rfl <| Al rfl <| At rfl hc16)) ?_
        refine Bb rfl rfl (A0 rfl <| Al rfl <| Ac) (decide_eq_false (by omega)) ?_
        refine A6 rfl (Ag (A7 rfl <| A0 rfl <| Ap rfl <| At rfl hs24)) ?_
        refine Bb rfl rfl (A0 rfl <| Ap rfl <| Ac) (decide_eq_false (by omega)) ?_
        refine A6 rfl (Be  Bn (Al rfl <| Ac) hso.plain (Ac) rfl hlb) ?_
        refine Bb rfl rfl (A0 rfl <| Ap rfl <| Al rfl <| Ac) (decide_eq_false (by omega)) ?_
        refine A6 rfl (Aq Bf (Ac) (hso.cell1 hlb rfl)) ?_
        refine Bb rfl rfl (A9 rfl <| Ac) (decide_eq_false (by omega)) ?_
        refine A6 rfl (Ci (A0 rfl <| Ac) (Ac)) ?_
        refine A6 rfl (A8 (A9 rfl <| Al rfl <| Ac) (decide_eq_false (by omega)) (Ac)) ?_
        refine Cp ?_
        refine Ae <| Ao (Ac) (decide_eq_false (by omega)) ?_
        refine Ax <| Bh <| Ae <| Ai fun ds => Aa rfl (Ag (A7 rfl <| A9 rfl <| Ap rfl <| Al rfl <| At rfl hs24)) ?_
        refine Aa rfl (B0 (Ac) Ab rfl (by omega) (by omega)) ?_
        refine Aa rfl (Ad (Ac)) ?_
        refine Ah <| Ae ⟨_, m - 1, Off.eq (Db rfl <| Ea rfl <| ou4 rfl <| Ev rfl <| Bi), by omega, ?_⟩
        exact ⟨k + 1, by omega, (Ac), (A7 rfl <| Ap rfl <| Al rfl <| Ac), rfl⟩
       ·
        refine Af <| Af <| Ai fun ds => Aa rfl (Ag (At rfl hs24)) ?_
        refine Aa rfl (Ag (Al rfl <| Am rfl <| A0 rfl <| Al rfl <| Am rfl <| A7 rfl <| A9 rfl <| Ap rfl <| Ac)) ?_
        refine Aa rfl (Bg Bn (Ac) hg.plain) ?_
        refine Aa rfl (Bu (Ap rfl <| Ac) (Ac)) ?_
        refine Ah <| Ae <| Ao (Ac) (by first | rfl | exact decide_eq_false (by omega)) ?_
        obtain rfl : k = s.sellers.length := by omega
        have h00 : sumI (fun b => payTo s (castL (ringN s ka)) (retTo s (castL (ringN s ka)) kb ((x : Int) % (s.days + 1)) s.lots.length) b s.lots.length) s.bidders.length - houseTo s (castL (ringN s ka)) (retTo s (castL (ringN s ka)) kb ((x : Int) % (s.days + 1)) s.lots.length) s.lots.length - sumI (fun c => getTo s (castL (ringN s ka)) (retTo s (castL (ringN s ka)) kb ((x : Int) % (s.days + 1)) s.lots.length) c s.lots.length) s.sellers.length = 0 := by omega
        by_cases hz : (retTo s (castL (ringN s ka)) kb ((x : Int) % (s.days + 1)) s.lots.length).length = 0
        ·
         refine Bt ?_
         refine Bk <| Bk <| Bm <| Ae <| Af <| Af <| Ai fun ds => Aa rfl (Ag (A0 rfl <| Am rfl <| A0 rfl <| Al rfl <| Am rfl <| Bp rfl <| A9 rfl <| Al rfl <| At rfl hs14)) ?_
         refine Aa rfl (Bg D9 (Ac) hrs.plain) ?_
         refine Aa rfl (B4 (Ac) Ab) ?_
         refine Ah <| Ae <| As (Ac) (by first | rfl | exact decide_eq_true (by omega)) ?_
         refine Af <| Ai fun ds => Aa rfl (Ag (A0 rfl <| Ap rfl <| Al rfl <| At rfl hs22)) ?_
         refine Aa rfl (B4 (Ac) Ab) ?_
         refine Aa rfl (Ag (Ac)) ?_
         refine Ar rfl rfl (Ac) (decide_eq_true h00) ?_
         refine Bv rfl (Ba bd_22 A1 .nil awake_ok (fun _ _ h => h)) ?_
         refine Aa rfl (A3 (Al rfl <| Ac) (decide_eq_true h00) (Ac)) ?_
         refine Aa rfl (Ad (Ac)) ?_
         refine Ah <| Ae <| A4 <| A5 ?_
         refine Aw rfl (.tmp (Ac) .nil) ?_
         rfl
        ·
         have hz0 : 0 < (retTo s (castL (ringN s ka)) kb ((x : Int) % (s.days + 1)) s.lots.length).length := by omega
         refine Bt ?_
         refine Bk <| Bk <| Bm <| Ae <| Af <| Af <| Ai fun ds => Aa rfl (Ag (A0 rfl <| Am rfl <| A0 rfl <| Al rfl <| Am rfl <| Bp rfl <| A9 rfl <| Al rfl <| At rfl hs14)) ?_
         refine Aa rfl (Bg D9 (Ac) hrs.plain) ?_
         refine Aa rfl (B4 (Ac) Ab) ?_
         refine Ah <| Ae <| Ao (Ac) (by first | rfl | exact decide_eq_false (by omega)) ?_
         refine Ax <| Ae <| Af <| Ai fun ds => Bl rfl (x_build0 D9 fun b33 hb33 nb33 => ?_)
         refine Aa rfl (Ag (A9 rfl <| Am rfl <| A0 rfl <| Al rfl <| Am rfl <| Bp rfl <| A9 rfl <| Al rfl <| At rfl hs14)) ?_
         refine Bl rfl (Cv D9 el_77 (Al rfl <| Ac) (own_box rfl) (Ac) (hrs.src (fun _ => rfl) (fun _ => Back.enc_one)) (by omega) (by omega) (.z) .box fun v34 R35 ho36 => ?_)
         obtain ⟨vL, hvL⟩ : ∃ y, y = v34 := ⟨_, rfl⟩
         subst hvL
         have hoL : Own 77 2 vL (retTo s (castL (ringN s ka)) kb ((x : Int) % (s.days + 1)) s.lots.length).length ((retTo s (castL (ringN s ka)) kb ((x : Int) % (s.days + 1)) s.lots.length).flatMap Back.enc) R35 := by simpa using ho36
         refine Aa rfl (Ad (Ac)) ?_
         refine Ah <| Ae <| Af <| Ai fun ds => Aa rfl (Ag (Ac)) ?_
         refine Aa rfl (Aj fd_27_3 (A9 rfl <| A0 rfl <| Am rfl <| A0 rfl <| Al rfl <| Am rfl <| Bp rfl <| A9 rfl <| Al rfl <| Am rfl <| Al rfl <| Am rfl <| A7 rfl <| A9 rfl <| A0 rfl <| Al rfl <| Ac)) ?_
         refine Aa rfl (Aq Bf (Ac) (Cell.ownM (List.mem_append_right _ <| .tail _ <| .head _) rfl)) ?_
         refine Aa rfl (B0 (Ac) Ab rfl (by omega) (by omega)) ?_
         refine Aa rfl (Be (k := 0) D9 (Ap rfl <| Al rfl <| Ac) (hoL.plain (by omega)) Ab rfl hz0) ?_
         refine Aa rfl (Bx fd_77_1 (Ac)) ?_
         refine Ck (x_storeR sz_3 (Ac) (Ap rfl <| Ac) hoL (by rw [flat_len (enc := Back.enc) (s := 2) (fun _ => rfl)]; omega) rfl (.z) .more fun R9 hoL2 => ?_)
         refine Ah <| Ae <| Af ?_
         have hoL3 : Own 77 2 vL (lateL (retTo s (castL (ringN s ka)) kb ((x : Int) % (s.days + 1)) s.lots.length) (s.days + 1)).length ((lateL (retTo s (castL (ringN s ka)) kb ((x : Int) % (s.days + 1)) s.lots.length) (s.days + 1)).flatMap Back.enc) R9 := by rw [late_length, ← flat_late hz0]; exact hoL2
         refine E1 (σ := ⟨_, _⟩) (by rfl) hoL3 (.z) .more fun F37 hF38 hz39 => ?_
         replace hr := hr.mono hF38
         replace hle0 := Heap.le_trans hle0 hF38
         replace hx := hx.mono hF38
         replace hrs := hrs.mono hF38
         have hlate := hoL3.sl (fun _ => rfl) hz39 (by rw [late_length]; omega)
         refine Ai fun ds => Aa rfl (Bj Cd (A7 rfl <| Al rfl <| Am rfl <| A0 rfl <| Al rfl <| Am rfl <| Bp rfl <| A9 rfl <| Al rfl <| Am rfl <| Al rfl <| Am rfl <| A7 rfl <| A9 rfl <| A0 rfl <| Al rfl <| Ac) rfl rfl (Bo 1 rfl)) ?_
         refine Aa rfl (Ag (A7 rfl <| Ap rfl <| Am rfl <| A0 rfl <| Al rfl <| Am rfl <| Bp rfl <| A9 rfl <| Al rfl <| Am rfl <| Al rfl <| Am rfl <| A7 rfl <| Ap rfl <| Al rfl <| Ac)) ?_
         refine Aa rfl (Ag (A9 rfl <| Ac)) ?_
         refine Bl rfl (Ct bd_23 A1 (.cons (Ap rfl <| Ac) (.cons (Al rfl <| Ac) (.cons (Ac) .nil))) ((Ej hr hx hlate).mono fun u F2 _ h => (by rw [Fe (E5 h0) (late_err hz0) (by decide)] at h; exact h : ∃ w w2, u = .tuple #[w, w2, .int .i64 0, .int .i64 7] ∧ Ints F2 w ([]) ∧ Ints F2 w2 ([]))) fun v40 F41 hr42 hF43 => ?_)
         replace hr := hr.mono hF43
         replace hle0 := Heap.le_trans hle0 hF43
         replace hx := hx.mono hF43
         replace hrs := hrs.mono hF43
         obtain ⟨hp2_, hg2_, rfl, hp2, hg2⟩ := hr42
         refine Aa rfl (Ag (Ac)) ?_
         refine Aa rfl (Ay (Ac) rfl) ?_
         refine Aa rfl (Ay (Al rfl <| Ac) rfl) ?_
         refine Aa rfl (Ay (Ap rfl <| Ac) rfl) ?_
         refine Aa rfl (Ay (Ap rfl <| Al rfl <| Ac) rfl) ?_
         refine Aa rfl (Ad (Ap rfl <| Al rfl <| Ac)) ?_
         refine Aa rfl (Ad (Ap rfl <| Al rfl <| Ac)) ?_
         refine Aa rfl (Ad (Ap rfl <| Al rfl <| Ac)) ?_
         refine Aa rfl (Ad (Ap rfl <| Al rfl <| Ac)) ?_
         refine Ah <| Ae <| Af ?_
         have hleS := hle0
         refine Dg (.inl rfl) (fun _ _ h => h) (.cons_cons _ <| .cons_cons _ <| .refl _) [] (by kernel_rfl) fun ds => ?_
         refine Az 0 rfl (by kernel_rfl) (by kernel_rfl) (by kernel_rfl) (by kernel_rfl) rfl rfl (fun _ h => h.drop (.cons_cons _ <| .cons_cons _ <| .refl _)) (fun _ _ _ h => h) (Bj Cd (A7 rfl <| A9 rfl <| A0 rfl <| Ap rfl <| Am rfl <| A0 rfl <| Al rfl <| Am rfl <| Bp rfl <| A9 rfl <| Al rfl <| Am rfl <| Al rfl <| Am rfl <| A7 rfl <| A9 rfl <| A0 rfl <| Al rfl <| Ac) rfl rfl (Bo 1 rfl)) ?_
         refine Az 1 rfl (by kernel_rfl) (by kernel_rfl) (by kernel_rfl) (by kernel_rfl) rfl rfl (fun _ h => h.drop (.cons_cons _ <| .cons_cons _ <| .refl _)) (fun _ _ _ h => h) (Ag (A7 rfl <| A9 rfl <| A0 rfl <| Ap rfl <| Al rfl <| Am rfl <| A0 rfl <| Al rfl <| Am rfl <| Bp rfl <| A9 rfl <| Al rfl <| Am rfl <| Al rfl <| Am rfl <| A7 rfl <| Ap rfl <| Al rfl <| Ac)) ?_
         refine Az 3 rfl (by kernel_rfl) (by kernel_rfl) (by kernel_rfl) (by kernel_rfl) rfl rfl (fun _ h => h.drop (.cons_cons _ <| .cons_cons _ <| .refl _)) (fun _ _ _ h => h) (Ag (Bp rfl <| Am rfl <| A0 rfl <| Al rfl <| Am rfl <| Bp rfl <| A9 rfl <| Al rfl <| At rfl hs14)) ?_
         refine Az 5 rfl (by kernel_rfl) (by kernel_rfl) (by kernel_rfl) (by kernel_rfl) rfl rfl (fun _ h => h.drop (.cons_cons _ <| .cons_cons _ <| .refl _)) (fun _ _ _ h => h) (Ag (Bp rfl <| Al rfl <| Am rfl <| A0 rfl <| Al rfl <| Am rfl <| Bp rfl <| A9 rfl <| Al rfl <| At rfl hs14)) ?_
         refine Az 6 rfl (by kernel_rfl) (by kernel_rfl) (by kernel_rfl) (by kernel_rfl) rfl rfl (fun _ h => h.drop (.cons_cons _ <| .cons_cons _ <| .refl _)) (fun _ _ _ h => h) (Be (k := 0) D9 (Ac) hrs.plain Ab rfl hz0) ?_
         refine Az 7 rfl (by kernel_rfl) (by kernel_rfl) (by kernel_rfl) (by kernel_rfl) rfl rfl (fun _ h => h.drop (.cons_cons _ <| .cons_cons _ <| .refl _)) (fun _ _ _ h => h) (Bj agg_77 (Ac) rfl rfl (hrs.whole hz0)) ?_
         refine Ex [2, 8] (by kernel_rfl) (by decide) (in2 ?_ ?_)
         ·
          refine Dh rfl rfl (x_build0 D9 fun b44 hb44 nb44 => ⟨fun _ _ => (fun _ h => h.drop (.cons _ <| .cons_cons _ <| .cons_cons _ <| .refl _)), ?_⟩)
          refine Ex [4, 8] (by kernel_rfl) (by decide) (in2 ?_ ?_)
          ·
           refine Dh rfl rfl (Cv D9 el_77 (Ac) (own_box rfl) (A0 rfl <| Ac) (hrs.src (fun _ => rfl) (fun _ => Back.enc_one)) (by omega) (by omega) (.z) .box fun v45 R46 ho47 => ⟨fun _ _ => (fun _ h => h.drop (List.sublist_append_of_sublist_right <| .cons_cons _ <| .cons_cons _ <| .refl _)), ?_⟩)
           have hoA : Own 77 2 v45 (retTo s (castL (ringN s ka)) kb ((x : Int) % (s.days + 1)) s.lots.length).length ((retTo s (castL (ringN s ka)) kb ((x : Int) % (s.days + 1)) s.lots.length).flatMap Back.enc) R46 := by simpa using ho47
           refine C4 8 rfl (by kernel_rfl) rfl (C8 (offs := [(0, 2)]) (zl := [.int .i64 0, .int .i64 0]) D9 zr_77 rfl (.cons (Ap rfl <| Ac) rfl .nil) (by intro i p h; rcases i with _ | i <;> simp at h <;> subst h <;> rfl) (.cons rfl rfl (Nat.le_of_ble_eq_true rfl) (.cons (.here) (.cons (.next <| .here) .nil)) .nil) (by decide) (by decide) fun b48 hb48 nb48 => ⟨fun _ _ => (fun _ h => h.drop (.cons _ <| List.sublist_append_of_sublist_right <| .cons_cons _ <| .cons_cons _ <| .refl _)), ?_⟩)
           refine C4 9 rfl (by kernel_rfl) rfl (Cv D9 el_77 (Al rfl <| Ac) hoA (Ac) (Dn (s := 2) 0 rfl rfl (by simp [Value.oneCell'])) (by omega) (by omega) (.s <| .z) .more fun v49 R50 ho51 => ⟨fun _ _ => (fun _ h => h.drop (.cons _ <| List.sublist_append_of_sublist_right <| .cons_cons _ <| .cons_cons _ <| .refl _)), ?_⟩)
           have hoT := ho51.snoc (x := (retTo s (castL (ringN s ka)) kb ((x : Int) % (s.days + 1)) s.lots.length)[0]) rfl rfl
           refine WX_freezeR (σ := ⟨_, _⟩) (by rfl) hoT (.s <| .z) .more fun F52 hF53 hz54 => ?_
           replace hr := hr.mono hF53
           replace hx := hx.mono hF53
           have htw := hoT.sl (fun _ => rfl) hz54 (by rw [List.length_append, List.length_singleton]; omega)
           refine C4 10 rfl (by kernel_rfl) rfl (Ct bd_23 A1 (.cons (A9 rfl <| Al rfl <| Ac) (.cons (A9 rfl <| Ac) (.cons (Ac) .nil))) ((Ej hr hx htw).mono fun u F2 _ h => (by rw [Fe (E5 h0) (twice_err hdd hz0) (by decide)] at h; exact h : ∃ w w2, u = .tuple #[w, w2, .int .i64 0, .int .i64 5] ∧ Ints F2 w ([]) ∧ Ints F2 w2 ([]))) fun v55 F56 hr57 hF58 => ⟨fun _ _ _ h => (h.drop (.cons _ <| .cons_cons _ <| .cons_cons _ <| .refl _)).weak (Heap.le_trans hF53 hF58) hleS, ?_⟩)
           obtain ⟨hp3_, hg3_, rfl, hp3, hg3⟩ := hr57
           refine Az 11 rfl (by kernel_rfl) (by kernel_rfl) (by kernel_rfl) (by kernel_rfl) rfl rfl (fun _ h => (h.drop (.cons _ <| .cons_cons _ <| .cons_cons _ <| .refl _)).weak (Heap.le_trans hF53 hF58) hleS) (fun _ _ _ h => h) (Ag (Ac)) ?_
           refine Az 12 rfl (by kernel_rfl) (by kernel_rfl) (by kernel_rfl) (by kernel_rfl) rfl rfl (fun _ h => (h.drop (.cons _ <| .cons_cons _ <| .cons_cons _ <| .refl _)).weak (Heap.le_trans hF53 hF58) hleS) (fun _ _ _ h => h) (Ay (Ac) rfl) ?_
           refine Az 13 rfl (by kernel_rfl) (by kernel_rfl) (by kernel_rfl) (by kernel_rfl) rfl rfl (fun _ h => (h.drop (.cons _ <| .cons_cons _ <| .cons_cons _ <| .refl _)).weak (Heap.le_trans hF53 hF58) hleS) (fun _ _ _ h => h) (Ay (Al rfl <| Ac) rfl) ?_
           refine Az 14 rfl (by kernel_rfl) (by kernel_rfl) (by kernel_rfl) (by kernel_rfl) rfl rfl (fun _ h => (h.drop (.cons _ <| .cons_cons _ <| .cons_cons _ <| .refl _)).weak (Heap.le_trans hF53 hF58) hleS) (fun _ _ _ h => h) (Ay (Ap rfl <| Ac) rfl) ?_
           refine Az 15 rfl (by kernel_rfl) (by kernel_rfl) (by kernel_rfl) (by kernel_rfl) rfl rfl (fun _ h => (h.drop (.cons _ <| .cons_cons _ <| .cons_cons _ <| .refl _)).weak (Heap.le_trans hF53 hF58) hleS) (fun _ _ _ h => h) (Ay (Ap rfl <| Al rfl <| Ac) rfl) ?_
           refine Az 16 rfl (by kernel_rfl) (by kernel_rfl) (by kernel_rfl) (by kernel_rfl) rfl rfl (fun _ h => (h.drop (.cons _ <| .cons_cons _ <| .cons_cons _ <| .refl _)).weak (Heap.le_trans hF53 hF58) hleS) (fun _ _ _ h => h) (Ad (Ap rfl <| Al rfl <| Ac)) ?_
           refine Az 17 rfl (by kernel_rfl) (by kernel_rfl) (by kernel_rfl) (by kernel_rfl) rfl rfl (fun _ h => (h.drop (.cons _ <| .cons_cons _ <| .cons_cons _ <| .refl _)).weak (Heap.le_trans hF53 hF58) hleS) (fun _ _ _ h => h) (Ad (Ap rfl <| Al rfl <| Ac)) ?_
           refine Az 18 rfl (by kernel_rfl) (by kernel_rfl) (by kernel_rfl) (by kernel_rfl) rfl rfl (fun _ h => (h.drop (.cons _ <| .cons_cons _ <| .cons_cons _ <| .refl _)).weak (Heap.le_trans hF53 hF58) hleS) (fun _ _ _ h => h) (Ad (Ap rfl <| Al rfl <| Ac)) ?_
           refine Az 19 rfl (by kernel_rfl) (by kernel_rfl) (by kernel_rfl) (by kernel_rfl) rfl rfl (fun _ h => (h.drop (.cons _ <| .cons_cons _ <| .cons_cons _ <| .refl _)).weak (Heap.le_trans hF53 hF58) hleS) (fun _ _ _ h => h) (Ad (Ap rfl <| Al rfl <| Ac)) ?_
           refine Cs (by kernel_rfl) ?_ _
           refine Ae <| Af <| Ai fun ds => Aa rfl (Ag (Bp rfl <| A7 rfl <| Ap rfl <| At rfl hs22)) ?_
           refine Aa rfl (B4 (Ac) Ab) ?_
           refine Aa rfl (Ag (Ac)) ?_
           refine Ar rfl rfl (Ac) (decide_eq_true h00) ?_
           refine Aa rfl (Ag (A7 rfl <| A0 rfl <| Ap rfl <| Al rfl <| Ac)) ?_
           refine Ar rfl rfl (Al rfl <| Ac) (decide_eq_true h00) ?_
           refine Aa rfl (B4 (Ac) Ab) ?_
           refine Aa rfl (A3 (Ap rfl <| Ac) (decide_eq_true h00) (Ac)) ?_
           refine Aa rfl (Ag (Ac)) ?_
           refine Ar rfl rfl (Ac) (by first | rfl | decide) ?_
           refine Aa rfl (Ag (A0 rfl <| Ap rfl <| Al rfl <| Ac)) ?_
           refine Ar rfl rfl (Al rfl <| Ac) (by first | rfl | decide) ?_
           refine Aa rfl (B4 (Ac) Ab) ?_
           refine Aa rfl (A3 (Ap rfl <| Ac) (by first | rfl | decide) (Ac)) ?_
           refine Aa rfl (Ag (Ac)) ?_
           refine Ar rfl rfl (Ac) (by first | rfl | decide) ?_
           refine Bv rfl (Ba bd_22 A1 .nil awake_ok (fun _ _ h => h)) ?_
           refine Aa rfl (A3 (Al rfl <| Ac) (by first | rfl | decide) (Ac)) ?_
           refine Aa rfl (Ad (Ac)) ?_
           refine Ah <| Ae <| A4 <| Aw rfl (.tmp (Ac) .nil) ?_
           rfl
          ·
           refine Dh rfl rfl (C8 (offs := [(0, 2)]) (zl := [.int .i64 0, .int .i64 0]) D9 zr_77 rfl (.cons (Al rfl <| Ac) rfl .nil) (by intro i p h; rcases i with _ | i <;> simp at h <;> subst h <;> rfl) (.cons rfl rfl (Nat.le_of_ble_eq_true rfl) (.cons (.here) (.cons (.next <| .here) .nil)) .nil) (by decide) (by decide) fun b59 hb59 nb59 => ⟨fun _ _ => (fun _ h => h.drop (.cons _ <| .cons _ <| .cons_cons _ <| .cons_cons _ <| .refl _)), ?_⟩)
           refine C4 4 rfl (by kernel_rfl) rfl (Cv D9 el_77 (Al rfl <| Ac) (own_box rfl) (A0 rfl <| Al rfl <| Ac) (hrs.src (fun _ => rfl) (fun _ => Back.enc_one)) (by omega) (by omega) (.s <| .z) .box fun v60 R61 ho62 => ⟨fun _ _ => (fun _ h => h.drop (.cons _ <| List.sublist_append_of_sublist_right <| .cons_cons _ <| .cons_cons _ <| .refl _)), ?_⟩)
           have hoA : Own 77 2 v60 (retTo s (castL (ringN s ka)) kb ((x : Int) % (s.days + 1)) s.lots.length).length ((retTo s (castL (ringN s ka)) kb ((x : Int) % (s.days + 1)) s.lots.length).flatMap Back.enc) R61 := by simpa using ho62
           refine C4 9 rfl (by kernel_rfl) rfl (Cv D9 el_77 (Ac) hoA (Al rfl <| Ac) (Dn (s := 2) 0 rfl rfl (by simp [Value.oneCell'])) (by omega) (by omega) (.s <| .z) .more fun v63 R64 ho65 => ⟨fun _ _ => (fun _ h => h.drop (.cons _ <| List.sublist_append_of_sublist_right <| .cons_cons _ <| .cons_cons _ <| .refl _)), ?_⟩)
           have hoT := ho65.snoc (x := (retTo s (castL (ringN s ka)) kb ((x : Int) % (s.days + 1)) s.lots.length)[0]) rfl rfl
           refine WX_freezeR (σ := ⟨_, _⟩) (by rfl) hoT (.s <| .z) .more fun F66 hF67 hz68 => ?_
           replace hr := hr.mono hF67
           replace hx := hx.mono hF67
           have htw := hoT.sl (fun _ => rfl) hz68 (by rw [List.length_append, List.length_singleton]; omega)
           refine C4 10 rfl (by kernel_rfl) rfl (Ct bd_23 A1 (.cons (A9 rfl <| Al rfl <| Ac) (.cons (A9 rfl <| Ac) (.cons (Ac) .nil))) ((Ej hr hx htw).mono fun u F2 _ h => (by rw [Fe (E5 h0) (twice_err hdd hz0) (by decide)] at h; exact h : ∃ w w2, u = .tuple #[w, w2, .int .i64 0, .int .i64 5] ∧ Ints F2 w ([]) ∧ Ints F2 w2 ([]))) fun v69 F70 hr71 hF72 => ⟨fun _ _ _ h => (h.drop (.cons _ <| .cons_cons _ <| .cons_cons _ <| .refl _)).weak (Heap.le_trans hF67 hF72) hleS, ?_⟩)
           obtain ⟨hp3_, hg3_, rfl, hp3, hg3⟩ := hr71
           refine Az 11 rfl (by kernel_rfl) (by kernel_rfl) (by kernel_rfl) (by kernel_rfl) rfl rfl (fun _ h => (h.drop (.cons _ <| .cons_cons _ <| .cons_cons _ <| .refl _)).weak (Heap.le_trans hF67 hF72) hleS) (fun _ _ _ h => h) (Ag (Ac)) ?_
           refine Az 12 rfl (by kernel_rfl) (by kernel_rfl) (by kernel_rfl) (by kernel_rfl) rfl rfl (fun _ h => (h.drop (.cons _ <| .cons_cons _ <| .cons_cons _ <| .refl _)).weak (Heap.le_trans hF67 hF72) hleS) (fun _ _ _ h => h) (Ay (Ac) rfl) ?_
           refine Az 13 rfl (by kernel_rfl) (by kernel_rfl) (by kernel_rfl) (by kernel_rfl) rfl rfl (fun _ h => (h.drop (.cons _ <| .cons_cons _ <| .cons_cons _ <| .refl _)).weak (Heap.le_trans hF67 hF72) hleS) (fun _ _ _ h => h) (Ay (Al rfl <| Ac) rfl) ?_
           refine Az 14 rfl (by kernel_rfl) (by kernel_rfl) (by kernel_rfl) (by kernel_rfl) rfl rfl (fun _ h => (h.drop (.cons _ <| .cons_cons _ <| .cons_cons _ <| .refl _)).weak (Heap.le_trans hF67 hF72) hleS) (fun _ _ _ h => h) (Ay (Ap rfl <| Ac) rfl) ?_
           refine Az 15 rfl (by kernel_rfl) (by kernel_rfl) (by kernel_rfl) (by kernel_rfl) rfl rfl (fun _ h => (h.drop (.cons _ <| .cons_cons _ <| .cons_cons _ <| .refl _)).weak (Heap.le_trans hF67 hF72) hleS) (fun _ _ _ h => h) (Ay (Ap rfl <| Al rfl <| Ac) rfl) ?_
           refine Az 16 rfl (by kernel_rfl) (by kernel_rfl) (by kernel_rfl) (by kernel_rfl) rfl rfl (fun _ h => (h.drop (.cons _ <| .cons_cons _ <| .cons_cons _ <| .refl _)).weak (Heap.le_trans hF67 hF72) hleS) (fun _ _ _ h => h) (Ad (Ap rfl <| Al rfl <| Ac)) ?_
           refine Az 17 rfl (by kernel_rfl) (by kernel_rfl) (by kernel_rfl) (by kernel_rfl) rfl rfl (fun _ h => (h.drop (.cons _ <| .cons_cons _ <| .cons_cons _ <| .refl _)).weak (Heap.le_trans hF67 hF72) hleS) (fun _ _ _ h => h) (Ad (Ap rfl <| Al rfl <| Ac)) ?_
           refine Az 18 rfl (by kernel_rfl) (by kernel_rfl) (by kernel_rfl) (by kernel_rfl) rfl rfl (fun _ h => (h.drop (.cons _ <| .cons_cons _ <| .cons_cons _ <| .refl _)).weak (Heap.le_trans hF67 hF72) hleS) (fun _ _ _ h => h) (Ad (Ap rfl <| Al rfl <| Ac)) ?_
           refine Az 19 rfl (by kernel_rfl) (by kernel_rfl) (by kernel_rfl) (by kernel_rfl) rfl rfl (fun _ h => (h.drop (.cons _ <| .cons_cons _ <| .cons_cons _ <| .refl _)).weak (Heap.le_trans hF67 hF72) hleS) (fun _ _ _ h => h) (Ad (Ap rfl <| Al rfl <| Ac)) ?_
           refine Cs (by kernel_rfl) ?_ _
           refine Ae <| Af <| Ai fun ds => Aa rfl (Ag (Bp rfl <| A7 rfl <| Ap rfl <| At rfl hs22)) ?_
           refine Aa rfl (B4 (Ac) Ab) ?_
           refine Aa rfl (Ag (Ac)) ?_
           refine Ar rfl rfl (Ac) (decide_eq_true h00) ?_
           refine Aa rfl (Ag (A7 rfl <| A0 rfl <| Ap rfl <| Al rfl <| Ac)) ?_
           refine Ar rfl rfl (Al rfl <| Ac) (decide_eq_true h00) ?_
           refine Aa rfl (B4 (Ac) Ab) ?_
           refine Aa rfl (A3 (Ap rfl <| Ac) (decide_eq_true h00) (Ac)) ?_
           refine Aa rfl (Ag (Ac)) ?_
           refine Ar rfl rfl (Ac) (by first | rfl | decide) ?_
           refine Aa rfl (Ag (A0 rfl <| Ap rfl <| Al rfl <| Ac)) ?_
           refine Ar rfl rfl (Al rfl <| Ac) (by first | rfl | decide) ?_
           refine Aa rfl (B4 (Ac) Ab) ?_
           refine Aa rfl (A3 (Ap rfl <| Ac) (by first | rfl | decide) (Ac)) ?_
           refine Aa rfl (Ag (Ac)) ?_
           refine Ar rfl rfl (Ac) (by first | rfl | decide) ?_
           refine Bv rfl (Ba bd_22 A1 .nil awake_ok (fun _ _ h => h)) ?_
           refine Aa rfl (A3 (Al rfl <| Ac) (by first | rfl | decide) (Ac)) ?_
           refine Aa rfl (Ad (Ac)) ?_
           refine Ah <| Ae <| A4 <| Aw rfl (.tmp (Ac) .nil) ?_
           rfl
         ·
          refine Dh rfl rfl (C8 (offs := [(0, 2)]) (zl := [.int .i64 0, .int .i64 0]) D9 zr_77 rfl (.cons (Ac) rfl .nil) (by intro i p h; rcases i with _ | i <;> simp at h <;> subst h <;> rfl) (.cons rfl rfl (Nat.le_of_ble_eq_true rfl) (.cons (.here) (.cons (.next <| .here) .nil)) .nil) (by decide) (by decide) fun b73 hb73 nb73 => ⟨fun _ _ => (fun _ h => h.drop (.cons _ <| .cons_cons _ <| .cons_cons _ <| .refl _)), ?_⟩)
          refine C4 2 rfl (by kernel_rfl) rfl (x_build0 D9 fun b74 hb74 nb74 => ⟨fun _ _ => (fun _ h => h.drop (.cons _ <| .cons _ <| .cons_cons _ <| .cons_cons _ <| .refl _)), ?_⟩)
          refine C4 4 rfl (by kernel_rfl) rfl (Cv D9 el_77 (Ac) (own_box rfl) (A0 rfl <| Al rfl <| Ac) (hrs.src (fun _ => rfl) (fun _ => Back.enc_one)) (by omega) (by omega) (.z) .box fun v75 R76 ho77 => ⟨fun _ _ => (fun _ h => h.drop (List.sublist_append_of_sublist_right <| .cons _ <| .cons_cons _ <| .cons_cons _ <| .refl _)), ?_⟩)
          have hoA : Own 77 2 v75 (retTo s (castL (ringN s ka)) kb ((x : Int) % (s.days + 1)) s.lots.length).length ((retTo s (castL (ringN s ka)) kb ((x : Int) % (s.days + 1)) s.lots.length).flatMap Back.enc) R76 := by simpa using ho77
          refine C4 9 rfl (by kernel_rfl) rfl (Cv D9 el_77 (Ac) hoA (Ap rfl <| Ac) (src_boxM (s := 2) (List.mem_append_right _ <| .head _) rfl (by simp [Value.oneCell'])) (by omega) (by omega) (.z) .more fun v78 R79 ho80 => ⟨fun _ _ => (fun _ h => h.drop (List.sublist_append_of_sublist_right <| .cons _ <| .cons_cons _ <| .cons_cons _ <| .refl _)), ?_⟩)
          have hoT := ho80.snoc (x := (retTo s (castL (ringN s ka)) kb ((x : Int) % (s.days + 1)) s.lots.length)[0]) rfl rfl
          refine WX_freezeR (σ := ⟨_, _⟩) (by rfl) hoT (.z) .more fun F81 hF82 hz83 => ?_
          replace hr := hr.mono hF82
          replace hx := hx.mono hF82
          have htw := hoT.sl (fun _ => rfl) hz83 (by rw [List.length_append, List.length_singleton]; omega)
          refine C4 10 rfl (by kernel_rfl) rfl (Ct bd_23 A1 (.cons (A9 rfl <| Al rfl <| Ac) (.cons (A9 rfl <| Ac) (.cons (Ac) .nil))) ((Ej hr hx htw).mono fun u F2 _ h => (by rw [Fe (E5 h0) (twice_err hdd hz0) (by decide)] at h; exact h : ∃ w w2, u = .tuple #[w, w2, .int .i64 0, .int .i64 5] ∧ Ints F2 w ([]) ∧ Ints F2 w2 ([]))) fun v84 F85 hr86 hF87 => ⟨fun _ _ _ h => (h.drop (.cons _ <| .cons_cons _ <| .cons_cons _ <| .refl _)).weak (Heap.le_trans hF82 hF87) hleS, ?_⟩)
          obtain ⟨hp3_, hg3_, rfl, hp3, hg3⟩ := hr86
          refine Az 11 rfl (by kernel_rfl) (by kernel_rfl) (by kernel_rfl) (by kernel_rfl) rfl rfl (fun _ h => (h.drop (.cons _ <| .cons_cons _ <| .cons_cons _ <| .refl _)).weak (Heap.le_trans hF82 hF87) hleS) (fun _ _ _ h => h) (Ag (Ac)) ?_
          refine Az 12 rfl (by kernel_rfl) (by kernel_rfl) (by kernel_rfl) (by kernel_rfl) rfl rfl (fun _ h => (h.drop (.cons _ <| .cons_cons _ <| .cons_cons _ <| .refl _)).weak (Heap.le_trans hF82 hF87) hleS) (fun _ _ _ h => h) (Ay (Ac) rfl) ?_
          refine Az 13 rfl (by kernel_rfl) (by kernel_rfl) (by kernel_rfl) (by kernel_rfl) rfl rfl (fun _ h => (h.drop (.cons _ <| .cons_cons _ <| .cons_cons _ <| .refl _)).weak (Heap.le_trans hF82 hF87) hleS) (fun _ _ _ h => h) (Ay (Al rfl <| Ac) rfl) ?_
          refine Az 14 rfl (by kernel_rfl) (by kernel_rfl) (by kernel_rfl) (by kernel_rfl) rfl rfl (fun _ h => (h.drop (.cons _ <| .cons_cons _ <| .cons_cons _ <| .refl _)).weak (Heap.le_trans hF82 hF87) hleS) (fun _ _ _ h => h) (Ay (Ap rfl <| Ac) rfl) ?_
          refine Az 15 rfl (by kernel_rfl) (by kernel_rfl) (by kernel_rfl) (by kernel_rfl) rfl rfl (fun _ h => (h.drop (.cons _ <| .cons_cons _ <| .cons_cons _ <| .refl _)).weak (Heap.le_trans hF82 hF87) hleS) (fun _ _ _ h => h) (Ay (Ap rfl <| Al rfl <| Ac) rfl) ?_
          refine Az 16 rfl (by kernel_rfl) (by kernel_rfl) (by kernel_rfl) (by kernel_rfl) rfl rfl (fun _ h => (h.drop (.cons _ <| .cons_cons _ <| .cons_cons _ <| .refl _)).weak (Heap.le_trans hF82 hF87) hleS) (fun _ _ _ h => h) (Ad (Ap rfl <| Al rfl <| Ac)) ?_
          refine Az 17 rfl (by kernel_rfl) (by kernel_rfl) (by kernel_rfl) (by kernel_rfl) rfl rfl (fun _ h => (h.drop (.cons _ <| .cons_cons _ <| .cons_cons _ <| .refl _)).weak (Heap.le_trans hF82 hF87) hleS) (fun _ _ _ h => h) (Ad (Ap rfl <| Al rfl <| Ac)) ?_
          refine Az 18 rfl (by kernel_rfl) (by kernel_rfl) (by kernel_rfl) (by kernel_rfl) rfl rfl (fun _ h => (h.drop (.cons _ <| .cons_cons _ <| .cons_cons _ <| .refl _)).weak (Heap.le_trans hF82 hF87) hleS) (fun _ _ _ h => h) (Ad (Ap rfl <| Al rfl <| Ac)) ?_
          refine Az 19 rfl (by kernel_rfl) (by kernel_rfl) (by kernel_rfl) (by kernel_rfl) rfl rfl (fun _ h => (h.drop (.cons _ <| .cons_cons _ <| .cons_cons _ <| .refl _)).weak (Heap.le_trans hF82 hF87) hleS) (fun _ _ _ h => h) (Ad (Ap rfl <| Al rfl <| Ac)) ?_
          refine Cs (by kernel_rfl) ?_ _
          refine Ae <| Af <| Ai fun ds => Aa rfl (Ag (Bp rfl <| A7 rfl <| Ap rfl <| At rfl hs22)) ?_
          refine Aa rfl (B4 (Ac) Ab) ?_
          refine Aa rfl (Ag (Ac)) ?_
          refine Ar rfl rfl (Ac) (decide_eq_true h00) ?_
          refine Aa rfl (Ag (A7 rfl <| A0 rfl <| Ap rfl <| Al rfl <| Ac)) ?_
          refine Ar rfl rfl (Al rfl <| Ac) (decide_eq_true h00) ?_
          refine Aa rfl (B4 (Ac) Ab) ?_
          refine Aa rfl (A3 (Ap rfl <| Ac) (decide_eq_true h00) (Ac)) ?_
          refine Aa rfl (Ag (Ac)) ?_
          refine Ar rfl rfl (Ac) (by first | rfl | decide) ?_
          refine Aa rfl (Ag (A0 rfl <| Ap rfl <| Al rfl <| Ac)) ?_
          refine Ar rfl rfl (Al rfl <| Ac) (by first | rfl | decide) ?_
          refine Aa rfl (B4 (Ac) Ab) ?_
          refine Aa rfl (A3 (Ap rfl <| Ac) (by first | rfl | decide) (Ac)) ?_
          refine Aa rfl (Ag (Ac)) ?_
          refine Ar rfl rfl (Ac) (by first | rfl | decide) ?_
          refine Bv rfl (Ba bd_22 A1 .nil awake_ok (fun _ _ h => h)) ?_
          refine Aa rfl (A3 (Al rfl <| Ac) (by first | rfl | decide) (Ac)) ?_
          refine Aa rfl (Ad (Ac)) ?_
          refine Ah <| Ae <| A4 <| Aw rfl (.tmp (Ac) .nil) ?_
          rfl
 ·
  refine Af <| Ai fun ds => Bl rfl (Cc (Ak rfl) rfl fun b88 hb88 nb88 => ?_)
  refine Bl rfl (Cc (Al rfl <| Ak rfl) rfl fun b89 hb89 nb89 => ?_)
  refine Aa rfl (Ad Ab) ?_
  refine Ah <| Ae <| Af <| Af <| Ai fun ds => Aa rfl (Bj Cd (Ap rfl <| Ac) rfl rfl (Bo 1 rfl)) ?_
  refine Bv rfl (Ba bd_38 A1 (.cons (Ac) .nil) (valid_ok hr) (fun _ _ h => h)) ?_
  refine Aa rfl (C0 (Ac)) ?_
  refine Ah <| Ae <| As (Ac) (by simp [h0]) ?_
  refine Af <| Ai fun ds => Aa rfl (Bj Cd (A0 rfl <| Al rfl <| Ac) rfl rfl (Bo 1 rfl)) ?_
  refine Bl rfl (Ct bd_23 A1 (.cons (Ac) (.cons Ab (.cons Ab .nil))) (Ej hr Sl.nil Sl.nil) fun v90 F91 hr92 hF93 => ?_)
  obtain ⟨w0_, w1_, rfl, hq0, hq00⟩ := hr92
  have hb0 : (accE s [] []).2.2.2 ≠ 0 := by rw [accE_bad (bad_sell h0)]; exact bad_sell h0
  refine Aa rfl (Ag (Ac)) ?_
  refine Aa rfl (Ay (Ac) rfl) ?_
  refine Aa rfl (Ay (Al rfl <| Ac) rfl) ?_
  refine Aa rfl (Ay (Ap rfl <| Ac) rfl) ?_
  refine Aa rfl (Ay (Ap rfl <| Al rfl <| Ac) rfl) ?_
  refine Aa rfl (Ad (Ap rfl <| Al rfl <| Ac)) ?_
  refine Aa rfl (Ad (Ap rfl <| Al rfl <| Ac)) ?_
  refine Aa rfl (Ad (Ap rfl <| Al rfl <| Ac)) ?_
  refine Aa rfl (Ad (Ap rfl <| Al rfl <| Ac)) ?_
  refine Ah <| Ae <| Af <| Ai fun ds => Aa rfl (Ag (Ac)) ?_
  refine Aa rfl (B8 (Ac) Ab) ?_
  refine Aa rfl (Ag (Ac)) ?_
  refine Ar rfl rfl (Ac) (by simp [hb0]) ?_
  refine Bv rfl (Ba bd_22 A1 .nil awake_ok (fun _ _ h => h)) ?_
  refine Aa rfl (A3 (Al rfl <| Ac) (by simp [hb0]) (Ac)) ?_
  refine Aa rfl (Ad (Ac)) ?_
  refine Ah <| Ae <| A4 <| A5 ?_
  refine Aw rfl (.tmp (Ac) .nil) ?_
  rfl
end Go.Proofs.Ytaikojfonleccaa
namespace Go.Proofs.Ytaikojfonleccaa
open Go.ChangeShapes Go.WideShapes Go.ChangeAt Go.RowKit
set_option maxRecDepth 100000 in
theorem saleAccountedLifted (os : Os) (started : os.Started) (H : Type) (enc : TypeId × Value → H) :
   ReturnsInHanded {} Try.checked os 9 .any (Rows.saleAccountedSpec.pre6 enc Try.prog Try.f9 Rows.saleAccountedRow.domain false) (Rows.saleAccountedSpec.post enc Try.prog Try.f9 false true false false) := by
 refine returnsInHanded_of_change_sized (C := Try.checked) ownKnob0 started (by kernel_rfl) Try.func9
   (ChangeSpec.witness6 (enc := enc) (C := Try.checked) false ⟨#[], #[.agg #[.slice none 0 0, .int .i64 0, .int .i64 0, .int .i64 0, .slice none 0 0, .slice none 0 0, .slice none 0 0, .slice none 0 0], .agg #[.int .u8 0, .int .u8 0], .int .u8 0], []⟩ 8 (by kernel_rfl) (by kernel_rfl) (by kernel_rfl) (by kernel_rfl)) ?_
 intro W base args ds gs before hval0 hW hcnd hsz _
 have hval : ∀ (j : Nat) t v, Try.f9.params[j]? = some t → args[j]? = some v → Value.okWide Try.prog W .any base t v := hval0
 have hW' := hW
 obtain ⟨p, q, hA0, hV, rfl, hfz, hnd⟩ := hW
 have hA : DataW.TrodAll enc Try.prog W 0 (fun _ => true) true Try.f9.params.toList args.toList ds p := hA0
 rw [Try.params9] at hA hval
 obtain ⟨v0, vs0, d0, ds0, p0, q0, hargs, rfl, rfl, h0, r0⟩ := trodAll_cons hA
 obtain ⟨v1, vs1, d1, ds1, p1, q1, rfl, rfl, rfl, h1, r1⟩ := trodAll_cons r0
 obtain ⟨v2, vs2, d2, ds2, p2, q2, rfl, rfl, rfl, h2, r2⟩ := trodAll_cons r1
 obtain ⟨rfl, rfl, rfl⟩ := trodAll_nil r2
 obtain rfl : args = #[v0, v1, v2] := by cases args; simp_all
 obtain ⟨rfl, rfl⟩ := trodVars_none hV
 have hsz' : (DataW.weightsEach Try.prog (Try.f9.params.toList ++ []) ([d0, d1, d2] ++ [])).all (· ≤ reachBytes) = true := hsz
 rw [Try.params9] at hsz'
 have k0 := h0
 have lt0 : ∀ x ∈ p0, x.block < W.heap.size := by obtain ⟨m, hm⟩ := k0; exact DataW.trod_lt m _ _ _ hm
 have k1 := h1
 have lt1 : ∀ x ∈ p1, x.block < W.heap.size := by obtain ⟨m, hm⟩ := k1; exact DataW.trod_lt m _ _ _ hm
 have k2 := h2
 have lt2 : ∀ x ∈ p2, x.block < W.heap.size := by obtain ⟨m, hm⟩ := k2; exact DataW.trod_lt m _ _ _ hm
 obtain ⟨vs, vb, vl, vn, vd, s, rfl, hr⟩ := arg_sale (hval 0 27 v0 rfl rfl) h0 (weights_at hsz' (j := 0) rfl rfl)
 obtain ⟨ka, kb, rfl, hka, hkb⟩ := arg_bits (hval 1 74 v1 rfl rfl) h1 (weights_at hsz' (j := 1) rfl rfl)
 obtain ⟨x, rfl, hx8⟩ := arg_u8 (hval 2 5 v2 rfl rfl) h2 (weights_at hsz' (j := 2) rfl rfl)
 clear hA0 hval0
 refine (Ok.law (accountedLaw_ok hr (ka := ka) (kb := kb) hx8)).mono fun e W' ⟨he, bel⟩ => ?_
 subst he
 exact ⟨_, rfl, _, _, _, [], _, [], hW', trodAll_mk1 (shut_bool Try.underlying4 _), (trodAll_cons_mk (Below.trod laidOut (by kernel_rfl) (of_decide_eq_true (by kernel_rfl)) k0 bel lt0) (trodAll_cons_mk (Below.trod laidOut (by kernel_rfl) (of_decide_eq_true (by kernel_rfl)) k1 bel lt1) (trodAll_cons_mk (Below.trod laidOut (by kernel_rfl) (of_decide_eq_true (by kernel_rfl)) k2 bel lt2) trodAll_mk0))), rfl, bel.frame _, fun h => by cases h⟩
theorem saleAccounted : Rows.SaleAccountedSaid :=
 OpenClaim.holds_of_wide 9 Try.f9 rfl rfl rfl rfl rfl rfl rfl ⟨rfl, rfl, rfl, rfl, rfl⟩ rfl rfl rfl rfl rfl (by kernel_rfl) Try.func9 (by kernel_rfl)
   (of_decide_eq_true (by kernel_rfl)) (by unfold Func.isWrapper; first | (rw [if_pos (by decide +kernel)]; kernel_rfl) | (rw [if_neg (by decide +kernel)]; exact ⟨rfl, rfl⟩))
   (fun os started H enc _ => saleAccountedLifted os started H enc)
#print axioms saleAccounted
end Go.Proofs.Ytaikojfonleccaa
