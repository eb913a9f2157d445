/-
  SaleWithin returns true of any sale and ring by bits, and leaves what it is handed as it was. No conditions.
-/
import Derived.Test.YtaikojfonleccaaPae
namespace Go.Proofs.Ytaikojfonleccaa
open Go.RowKit
theorem bd_17 : Body Try.prog 17 := Br (by kernel_rfl)
theorem bd_19 : Body Try.prog 19 := Br (by kernel_rfl)
theorem bd_21 : Body Try.prog 21 := Br (by kernel_rfl)
theorem bd_23 : Body Try.prog 23 := Br (by kernel_rfl)
theorem bd_26 : Body Try.prog 26 := Br (by kernel_rfl)
theorem bd_30 : Body Try.prog 30 := Br (by kernel_rfl)
theorem bd_31 : Body Try.prog 31 := Br (by kernel_rfl)
theorem bd_33 : Body Try.prog 33 := Br (by kernel_rfl)
theorem bd_35 : Body Try.prog 35 := Br (by kernel_rfl)
theorem bd_36 : Body Try.prog 36 := Br (by kernel_rfl)
theorem bd_37 : Body Try.prog 37 := Br (by kernel_rfl)
theorem bt_77 : BuildT Try.prog 77 [.int .i64 0, .int .i64 0] [(0, 1), (1, 1)] := Eo zr_77 (by kernel_rfl) (by decide)
theorem n13_box2 {F : Heap} {b T : Nat} (h : F b = some (bx T [.int .i64 1, .int .i64 3])) : Nats F (.slice (some ⟨b, 0, none⟩) 2 2) [1, 3] :=
 Dw (xs := ([1, 3] : List Nat)) h rfl rfl (fun _ => rfl) (by decide)
theorem n013_box3 {F : Heap} {b T : Nat} (h : F b = some (bx T [.int .i64 0, .int .i64 1, .int .i64 3])) : Nats F (.slice (some ⟨b, 0, none⟩) 3 3) [0, 1, 3] :=
 Dw (xs := ([0, 1, 3] : List Nat)) h rfl rfl (fun _ => rfl) (by decide)
theorem n123_box3 {F : Heap} {b T : Nat} (h : F b = some (bx T [.int .i64 1, .int .i64 2, .int .i64 3])) : Nats F (.slice (some ⟨b, 0, none⟩) 3 3) [1, 2, 3] :=
 Dw (xs := ([1, 2, 3] : List Nat)) h rfl rfl (fun _ => rfl) (by decide)
theorem n02_box2 {F : Heap} {b T : Nat} (h : F b = some (bx T [.int .i64 0, .int .i64 2])) : Nats F (.slice (some ⟨b, 0, none⟩) 2 2) [0, 2] :=
 Dw (xs := ([0, 2] : List Nat)) h rfl rfl (fun _ => rfl) (by decide)
theorem n0123_box4 {F : Heap} {b T : Nat} (h : F b = some (bx T [.int .i64 0, .int .i64 1, .int .i64 2, .int .i64 3])) : Nats F (.slice (some ⟨b, 0, none⟩) 4 4) [0, 1, 2, 3] :=
 Dw (xs := ([0, 1, 2, 3] : List Nat)) h rfl rfl (fun _ => rfl) (by decide)
theorem entA_box2 {F : Heap} {b T : Nat} (h : F b = some (bx T [.int .i64 0, .bool true, .int .i64 60, .int .i64 60, .int .i64 1, .bool true, .int .i64 48, .int .i64 48])) : Sl F (.slice (some ⟨b, 0, none⟩) 2 2) 4 Ent.enc [ent1 0 60 60, ent1 1 48 48] :=
 Dw (xs := [ent1 0 60 60, ent1 1 48 48]) h rfl rfl (fun _ => rfl) (by decide)
theorem entB_box1 {F : Heap} {b T : Nat} (h : F b = some (bx T [.int .i64 0, .bool true, .int .i64 20, .int .i64 50])) : Sl F (.slice (some ⟨b, 0, none⟩) 1 1) 4 Ent.enc [ent1 0 20 50] :=
 Dw (xs := [ent1 0 20 50]) h rfl rfl (fun _ => rfl) (by decide)
theorem entC_box3 {F : Heap} {b T : Nat} (h : F b = some (bx T [.int .i64 0, .bool true, .int .i64 45, .int .i64 45, .int .i64 1, .bool true, .int .i64 48, .int .i64 48, .int .i64 2, .bool true, .int .i64 30, .int .i64 30])) : Sl F (.slice (some ⟨b, 0, none⟩) 3 3) 4 Ent.enc [ent1 0 45 45, ent1 1 48 48, ent1 2 30 30] :=
 Dw (xs := [ent1 0 45 45, ent1 1 48 48, ent1 2 30 30]) h rfl rfl (fun _ => rfl) (by decide)
theorem entD_box1 {F : Heap} {b T : Nat} (h : F b = some (bx T [.int .i64 2, .bool true, .int .i64 30, .int .i64 30])) : Sl F (.slice (some ⟨b, 0, none⟩) 1 1) 4 Ent.enc [ent1 2 30 30] :=
 Dw (xs := [ent1 2 30 30]) h rfl rfl (fun _ => rfl) (by decide)
theorem resA_box3 {F : Heap} {b T : Nat} (h : F b = some (bx T [.int .i64 (0), .int .i64 60, .int .i64 (1), .int .i64 73, .int .i64 (-1), .int .i64 0])) : Sl F (.slice (some ⟨b, 0, none⟩) 3 3) 2 Res.enc [⟨0, 60⟩, ⟨1, 73⟩, ⟨-1, 0⟩] :=
 Dw (xs := ([⟨0, 60⟩, ⟨1, 73⟩, ⟨-1, 0⟩] : List Res)) h rfl rfl (fun _ => rfl) (by decide)
theorem resB_box3 {F : Heap} {b T : Nat} (h : F b = some (bx T [.int .i64 (0), .int .i64 20, .int .i64 (1), .int .i64 73, .int .i64 (-1), .int .i64 0])) : Sl F (.slice (some ⟨b, 0, none⟩) 3 3) 2 Res.enc [⟨0, 20⟩, ⟨1, 73⟩, ⟨-1, 0⟩] :=
 Dw (xs := ([⟨0, 20⟩, ⟨1, 73⟩, ⟨-1, 0⟩] : List Res)) h rfl rfl (fun _ => rfl) (by decide)
theorem backA_box1 {F : Heap} {b T : Nat} (h : F b = some (bx T [.int .i64 0, .int .i64 14])) : Sl F (.slice (some ⟨b, 0, none⟩) 1 1) 2 Back.enc (back1 14) :=
 Dw (xs := back1 14) h rfl rfl (fun _ => rfl) (by decide)
theorem backB_box1 {F : Heap} {b T : Nat} (h : F b = some (bx T [.int .i64 0, .int .i64 15])) : Sl F (.slice (some ⟨b, 0, none⟩) 1 1) 2 Back.enc (back1 15) :=
 Dw (xs := back1 15) h rfl rfl (fun _ => rfl) (by decide)
theorem ints_box3 {F : Heap} {b T : Nat} {x y z : Int} (h : F b = some (bx T [.int .i64 x, .int .i64 y, .int .i64 z])) : Ints F (.slice (some ⟨b, 0, none⟩) 3 3) [x, y, z] :=
 Dw (xs := [x, y, z]) h rfl rfl (fun _ => rfl) (by decide)
theorem ints_box4 {F : Heap} {b T : Nat} {x y z w : Int} (h : F b = some (bx T [.int .i64 x, .int .i64 y, .int .i64 z, .int .i64 w])) : Ints F (.slice (some ⟨b, 0, none⟩) 4 4) [x, y, z, w] :=
 Dw (xs := [x, y, z, w]) h rfl rfl (fun _ => rfl) (by decide)
def valE (v : Value) : List Value := [v]
theorem vals_box3 {F : Heap} {b T : Nat} {x y z : Value} (h : F b = some (bx T [x, y, z])) : Sl F (.slice (some ⟨b, 0, none⟩) 3 3) 1 valE [x, y, z] :=
 Dw (xs := [x, y, z]) h rfl rfl (fun _ => rfl) (by decide)
theorem Sl.val {F : Heap} {v : Value} {ps : List (Value × List Nat)} (h : Sl F v 1 valE (ps.map (·.1))) : Sl F v 1 slE ps := by
 refine ⟨by simpa using h.plain, fun i hi j u hu => h.cells i (by simpa using hi) j u ?_⟩
 simpa [valE, slE] using hu
theorem lsts3 {F : Heap} {v x y z : Value} {a b c : List Nat} (h : Sl F v 1 valE [x, y, z]) (h1 : Nats F x a) (h2 : Nats F y b) (h3 : Nats F z c) : Lsts F v [a, b, c] :=
 ⟨[(x, a), (y, b), (z, c)], Sl.val h, by simp [h1, h2, h3], rfl⟩
def tupA (v : Value) (i : Nat) : Value := match v with
 | .tuple a => a.toList[i]?.getD v
 | _ => v
theorem LstsR.ans {F : Heap} {u : Value} {p q : List (List Nat) × Int} (h : LstsR F u p) (e : p = q) : u = .tuple #[tupA u 0, .int .i64 q.2] ∧ Lsts F (tupA u 0) q.1 := by
 subst e; obtain ⟨v, rfl, h⟩ := h; exact ⟨rfl, h⟩
theorem NatsR.ans {F : Heap} {u : Value} {p q : List Nat × Int} (h : NatsR F u p) (e : p = q) : u = .tuple #[tupA u 0, .int .i64 q.2] ∧ Nats F (tupA u 0) q.1 := by
 subst e; obtain ⟨v, rfl, h⟩ := h; exact ⟨rfl, h⟩
theorem MemR.ans {F : Heap} {u : Value} {p q : Mem} (h : MemR F u p) (e : p = q) : u = .tuple #[tupA u 0, tupA u 1, .int .i64 q.2.2] ∧ Nats F (tupA u 0) q.1 ∧ Nats F (tupA u 1) q.2.1 := by
 subst e; obtain ⟨v, w, rfl, h1, h2⟩ := h; exact ⟨rfl, h1, h2⟩
set_option maxRecDepth 100000 in
theorem awake_ok {F : Heap} : Ok Try.prog 22 [].toArray F fun u _ => u = .bool true := by
 refine Ok.intro Try.func22 rfl Try.ntmps22 rfl fun w0 => ?_
 refine Af <| Ai fun ds => Aa rfl (Ae Ab) ?_
 refine Ah <| Ad <| Af <| Ai fun ds => Bm rfl (C1 bd_35 Az .nil sale_ok fun v1 F2 hr3 hF4 => ?_)
 obtain ⟨vs, vb, vl, vn, vd, rfl, hr⟩ := hr3
 refine Bm rfl (B6 zr_27 rfl fun b5 hb5 nb5 => ?_)
 refine Cp (B7 sz_27 (Ac) (Al rfl <| Ac) (i := 0) rfl rfl rfl rfl hr.ones (.here) ?_)
 refine Ah <| Ad <| Af <| Ai fun ds => Aa rfl (Bj Cd (Ac) rfl rfl (Bn 0 rfl)) ?_
 refine Bz rfl (Bb bd_17 Az (.cons (Ac) (.cons Ab .nil)) (next_ok hr 50) (fun _ _ h => h.trans (show _ = Value.tuple #[.int .i64 60, .int .i64 0] by rw [ev_n1]))) ?_
 refine Aa rfl (Ag (Ac)) ?_
 refine Aa rfl (A0 (Ac) rfl) ?_
 refine Aa rfl (A0 (Al rfl <| Ac) rfl) ?_
 refine Aa rfl (Ae (Al rfl <| Ac)) ?_
 refine Aa rfl (Ae (Al rfl <| Ac)) ?_
 refine Ah <| Ad <| Af <| Ai fun ds => Aa rfl (Bj Cd (Ay rfl <| Ap rfl <| Al rfl <| Ac) rfl rfl (Bn 0 rfl)) ?_
 refine Bm rfl (C1 bd_19 Az (.cons (Ac) (.cons Ab .nil)) ((sellTop_ok hr Sl.nil).mono fun u F2 _ h => (by rw [ev_s1] at h; exact h : ∃ ws0, u = .tuple #[ws0, .int .i64 0] ∧ Sl F2 ws0 2 Res.enc [⟨0, 60⟩, ⟨1, 73⟩, ⟨-1, 0⟩])) fun v6 F7 hr8 hF9 => ?_)
 replace hr := hr.mono hF9
 obtain ⟨hq1_, rfl, hq1⟩ := hr8
 refine Aa rfl (Ag (Ac)) ?_
 refine Aa rfl (A0 (Ac) rfl) ?_
 refine Aa rfl (A0 (Al rfl <| Ac) rfl) ?_
 refine Aa rfl (Ae (Al rfl <| Ac)) ?_
 refine Aa rfl (Ae (Al rfl <| Ac)) ?_
 refine Ah <| Ad <| Af <| Ai fun ds => Aa rfl (Bj Cd (A9 rfl <| Ay rfl <| Ap rfl <| Ac) rfl rfl (Bn 0 rfl)) ?_
 refine Bm rfl (B0 Bp C3 rfl (.cons Ab (.cons Ab (.cons Ab .nil))) rfl rfl (by decide) (by simp [Value.oneCell']) fun b10 hb10 nb10 => ?_)
 refine Bq (i := 0) rfl hb10 .here fun F11 hF12 hz13 => ?_
 replace hr := hr.mono hF12
 replace hq1 := hq1.mono hF12
 have hsl14 := ints_box3 hz13
 refine Bm rfl (C1 bd_19 Az (.cons (Al rfl <| Ac) (.cons (Ac) .nil)) ((sellTop_ok hr hsl14).mono fun u F2 _ h => (by rw [ev_s2] at h; exact h : ∃ ws0, u = .tuple #[ws0, .int .i64 0] ∧ Sl F2 ws0 2 Res.enc [⟨0, 20⟩, ⟨1, 73⟩, ⟨-1, 0⟩])) fun v15 F16 hr17 hF18 => ?_)
 replace hr := hr.mono hF18
 replace hq1 := hq1.mono hF18
 obtain ⟨hq2_, rfl, hq2⟩ := hr17
 refine Aa rfl (Ag (Ac)) ?_
 refine Aa rfl (A0 (Ac) rfl) ?_
 refine Aa rfl (A0 (Al rfl <| Ac) rfl) ?_
 refine Aa rfl (Ae (Al rfl <| Ac)) ?_
 refine Aa rfl (Ae (Al rfl <| Ac)) ?_
 refine Ah <| Ad <| Af <| Ai fun ds => Aa rfl (Bj Cd (Ba rfl <| Ay rfl <| Ap rfl <| Ac) rfl rfl (Bn 0 rfl)) ?_
 refine Bm rfl (B0 Bp C3 rfl (.cons Ab (.cons Ab .nil)) rfl rfl (by decide) (by simp [Value.oneCell']) fun b19 hb19 nb19 => ?_)
 refine Bq (i := 0) rfl hb19 .here fun F20 hF21 hz22 => ?_
 replace hr := hr.mono hF21
 replace hq1 := hq1.mono hF21
 replace hq2 := hq2.mono hF21
 have hsl23 := Dm hz22
 refine Aa rfl (Dh bt_77 (.cons Ab rfl (.cons Ab rfl .nil)) (.cons rfl rfl (Nat.le_of_ble_eq_true rfl) (.cons (.here) .nil) (.cons rfl rfl (Nat.le_of_ble_eq_true rfl) (.cons (.next <| .here) .nil) .nil))) ?_
 refine Bm rfl (Do (offs := [(0, 2)]) (zl := [.int .i64 0, .int .i64 0]) sl_40 zr_77 rfl (.cons (Ac) rfl .nil) (by intro i p h; rcases i with _ | i <;> simp at h <;> subst h <;> rfl) (.cons rfl rfl (Nat.le_of_ble_eq_true rfl) (.cons (.here) (.cons (.next <| .here) .nil)) .nil) (by decide) (by decide) fun b24 hb24 nb24 => ?_)
 refine Bq (i := 0) rfl hb24 .here fun F25 hF26 hz27 => ?_
 replace hr := hr.mono hF26
 replace hq1 := hq1.mono hF26
 replace hq2 := hq2.mono hF26
 replace hsl23 := hsl23.mono hF26
 have hsl28 := backA_box1 hz27
 refine Bm rfl (C1 bd_23 Az (.cons (Ap rfl <| Al rfl <| Ac) (.cons (Ap rfl <| Ac) (.cons (Ac) .nil))) ((account_ok hr hsl23 hsl28).mono fun u F2 _ h => (by rw [ev_a1] at h; exact h : ∃ ws0 ws1, u = .tuple #[ws0, ws1, .int .i64 12, .int .i64 0] ∧ Ints F2 ws0 [0, 53, 0, 0] ∧ Ints F2 ws1 [41])) fun v29 F30 hr31 hF32 => ?_)
 replace hr := hr.mono hF32
 replace hq1 := hq1.mono hF32
 replace hq2 := hq2.mono hF32
 obtain ⟨hq3_, hq4_, rfl, hq3, hq4⟩ := hr31
 refine Aa rfl (Ag (Ac)) ?_
 refine Aa rfl (A0 (Ac) rfl) ?_
 refine Aa rfl (A0 (Al rfl <| Ac) rfl) ?_
 refine Aa rfl (A0 (Ap rfl <| Ac) rfl) ?_
 refine Aa rfl (A0 (Ap rfl <| Al rfl <| Ac) rfl) ?_
 refine Aa rfl (Ae (Ap rfl <| Al rfl <| Ac)) ?_
 refine Aa rfl (Ae (Ap rfl <| Al rfl <| Ac)) ?_
 refine Aa rfl (Ae (Ap rfl <| Al rfl <| Ac)) ?_
 refine Aa rfl (Ae (Ap rfl <| Al rfl <| Ac)) ?_
 refine Ah <| Ad <| Af <| Ai fun ds => Aa rfl (Bj Cd (Bs rfl <| Ay rfl <| Ac) rfl rfl (Bn 0 rfl)) ?_
 refine Bm rfl (B0 Bp C3 rfl (.cons Ab (.cons Ab .nil)) rfl rfl (by decide) (by simp [Value.oneCell']) fun b33 hb33 nb33 => ?_)
 refine Bq (i := 0) rfl hb33 .here fun F34 hF35 hz36 => ?_
 replace hr := hr.mono hF35
 replace hq1 := hq1.mono hF35
 replace hq2 := hq2.mono hF35
 replace hq3 := hq3.mono hF35
 replace hq4 := hq4.mono hF35
 have hsl37 := Dm hz36
 refine Aa rfl (Dh bt_77 (.cons Ab rfl (.cons Ab rfl .nil)) (.cons rfl rfl (Nat.le_of_ble_eq_true rfl) (.cons (.here) .nil) (.cons rfl rfl (Nat.le_of_ble_eq_true rfl) (.cons (.next <| .here) .nil) .nil))) ?_
 refine Bm rfl (Do (offs := [(0, 2)]) (zl := [.int .i64 0, .int .i64 0]) sl_40 zr_77 rfl (.cons (Ac) rfl .nil) (by intro i p h; rcases i with _ | i <;> simp at h <;> subst h <;> rfl) (.cons rfl rfl (Nat.le_of_ble_eq_true rfl) (.cons (.here) (.cons (.next <| .here) .nil)) .nil) (by decide) (by decide) fun b38 hb38 nb38 => ?_)
 refine Bq (i := 0) rfl hb38 .here fun F39 hF40 hz41 => ?_
 replace hr := hr.mono hF40
 replace hq1 := hq1.mono hF40
 replace hq2 := hq2.mono hF40
 replace hq3 := hq3.mono hF40
 replace hq4 := hq4.mono hF40
 replace hsl37 := hsl37.mono hF40
 have hsl42 := backB_box1 hz41
 refine Bm rfl (C1 bd_23 Az (.cons (Ap rfl <| Al rfl <| Ac) (.cons (Ap rfl <| Ac) (.cons (Ac) .nil))) ((account_ok hr hsl37 hsl42).mono fun u F2 _ h => (by rw [ev_a2] at h; exact h : ∃ ws0 ws1, u = .tuple #[ws0, ws1, .int .i64 0, .int .i64 7] ∧ Ints F2 ws0 [] ∧ Ints F2 ws1 [])) fun v43 F44 hr45 hF46 => ?_)
 replace hr := hr.mono hF46
 replace hq1 := hq1.mono hF46
 replace hq2 := hq2.mono hF46
 replace hq3 := hq3.mono hF46
 replace hq4 := hq4.mono hF46
 obtain ⟨hq5_, hq6_, rfl, hq5, hq6⟩ := hr45
 refine Aa rfl (Ag (Ac)) ?_
 refine Aa rfl (A0 (Ac) rfl) ?_
 refine Aa rfl (A0 (Al rfl <| Ac) rfl) ?_
 refine Aa rfl (A0 (Ap rfl <| Ac) rfl) ?_
 refine Aa rfl (A0 (Ap rfl <| Al rfl <| Ac) rfl) ?_
 refine Aa rfl (Ae (Ap rfl <| Al rfl <| Ac)) ?_
 refine Aa rfl (Ae (Ap rfl <| Al rfl <| Ac)) ?_
 refine Aa rfl (Ae (Ap rfl <| Al rfl <| Ac)) ?_
 refine Aa rfl (Ae (Ap rfl <| Al rfl <| Ac)) ?_
 refine Ah <| Ad <| Af <| Ai fun ds => Aa rfl (Bj Cd (Bs rfl <| Ba rfl <| Ap rfl <| Ac) rfl rfl (Bn 0 rfl)) ?_
 refine Bm rfl (B0 Bp C3 rfl (.cons Ab (.cons Ab (.cons Ab .nil))) rfl rfl (by decide) (by simp [Value.oneCell']) fun b47 hb47 nb47 => ?_)
 refine Bq (i := 0) rfl hb47 .here fun F48 hF49 hz50 => ?_
 replace hr := hr.mono hF49
 replace hq1 := hq1.mono hF49
 replace hq2 := hq2.mono hF49
 replace hq3 := hq3.mono hF49
 replace hq4 := hq4.mono hF49
 have hsl51 := ints_box3 hz50
 refine Bm rfl (C1 bd_26 Az (.cons (Al rfl <| Ac) (.cons (Ac) .nil)) ((share_ok hr hsl51).mono fun u F2 _ h => (by rw [ev_h1] at h; exact h : ∃ ws0, u = .tuple #[ws0, .int .i64 0] ∧ Ints F2 ws0 [14, 13, 13])) fun v52 F53 hr54 hF55 => ?_)
 replace hr := hr.mono hF55
 replace hq1 := hq1.mono hF55
 replace hq2 := hq2.mono hF55
 replace hq3 := hq3.mono hF55
 replace hq4 := hq4.mono hF55
 obtain ⟨hq7_, rfl, hq7⟩ := hr54
 refine Aa rfl (Ag (Ac)) ?_
 refine Aa rfl (A0 (Ac) rfl) ?_
 refine Aa rfl (A0 (Al rfl <| Ac) rfl) ?_
 refine Aa rfl (Ae (Al rfl <| Ac)) ?_
 refine Aa rfl (Ae (Al rfl <| Ac)) ?_
 refine Ah <| Ad <| Af <| WC_drawF 10 (.inl rfl) (fun _ _ h => h) (by kernel_rfl) (by kernel_rfl) false rfl ([fun F v => v = .agg #[vs, .int .i64 100, .int .i64 150, .int .i64 14, vb, vl, vn, vd], fun F v => v = .agg #[.int .i64 0, .bool true, .int .i64 60, .int .i64 60], fun F v => v = .agg #[.int .i64 1, .bool true, .int .i64 48, .int .i64 48], fun F v => Sl F v 4 Ent.enc [ent1 0 60 60, ent1 1 48 48], fun F v => v = .tuple #[tupA v 0, .int .i64 0] ∧ Lsts F (tupA v 0) [[1, 3], [0, 1, 3], [1, 2, 3]], fun F v => v = .tuple #[tupA v 0, .int .i64 0] ∧ Lsts F (tupA v 0) [[1, 3], [0, 1, 3], [1, 2, 3]], fun F v => Lsts F v [[1, 3], [0, 1, 3], [1, 2, 3]], fun F v => v = .int .i64 0, fun F v => Lsts F v [[1, 3], [0, 1, 3], [1, 2, 3]], fun F v => v = .int .i64 0]) (⟨fun F F2 v hF h => h, fun F F2 v hF h => h, fun F F2 v hF h => h, fun F F2 v hF h => h.mono hF, fun F F2 v hF h => ⟨h.1, h.2.mono hF⟩, fun F F2 v hF h => ⟨h.1, h.2.mono hF⟩, fun F F2 v hF h => h.mono hF, fun F F2 v hF h => h, fun F F2 v hF h => h.mono hF, fun F F2 v hF h => h, trivial⟩) (fun ds => ?_) (fun ds => ?_)
 ·
  refine ⟨⟨⟨⟨⟨⟨⟨⟨⟨⟨trivial, ?_⟩, ?_⟩, ?_⟩, ?_⟩, ?_⟩, ?_⟩, ?_⟩, ?_⟩, ?_⟩, ?_⟩
  ·
   intro e1 F1 hF1 he hj
   refine ⟨_, _, _, _, _, rfl, ?_⟩
   refine Bo (Bj Cd (B2 (Ca he (by kernel_rfl)) <| Bs rfl <| Ba rfl <| A9 rfl <| Ap rfl <| Ac) rfl rfl (Bn 0 rfl)).quiet ⟨_, rfl, Heap.le_refl _, rfl⟩
  ·
   intro e1 F1 hF1 he hj
   refine ⟨_, _, _, _, _, rfl, ?_⟩
   refine Bo (Bb bd_36 Az (.cons Ab (.cons Ab (.cons Ab .nil))) (entry_ok _ _ _) (fun _ _ h => h)) ⟨_, rfl, Heap.le_refl _, rfl⟩
  ·
   intro e1 F1 hF1 he hj
   have g72 : (e1 72) = .agg #[.int .i64 0, .bool true, .int .i64 60, .int .i64 60] := hj 1 (by kernel_rfl) (by decide)
   refine ⟨_, _, _, _, _, rfl, ?_⟩
   refine Bo (Bb bd_36 Az (.cons Ab (.cons Ab (.cons Ab .nil))) (entry_ok _ _ _) (fun _ _ h => h)) ⟨_, rfl, Heap.le_refl _, rfl⟩
  ·
   intro e1 F1 hF1 he hj
   have g72 : (e1 72) = .agg #[.int .i64 0, .bool true, .int .i64 60, .int .i64 60] := hj 1 (by kernel_rfl) (by decide)
   have g73 : (e1 73) = .agg #[.int .i64 1, .bool true, .int .i64 48, .int .i64 48] := hj 2 (by kernel_rfl) (by decide)
   refine ⟨_, _, _, _, _, rfl, ?_⟩
   refine OpX_freeze (Do (offs := [(0, 4), (4, 4)]) (zl := [.int .i64 0, .bool false, .int .i64 0, .int .i64 0, .int .i64 0, .bool false, .int .i64 0, .int .i64 0]) sl_47 zr_60 rfl (.cons (Cw g72) rfl (.cons (Cw g73) rfl .nil)) (by intro i p h; rcases i with _ | _ | i <;> simp at h <;> subst h <;> rfl) (.cons rfl rfl (Nat.le_of_ble_eq_true rfl) (.cons (.here) (.cons (.next <| .here) (.cons (.next <| .next <| .here) (.cons (.next <| .next <| .next <| .here) .nil)))) (.cons rfl rfl (Nat.le_of_ble_eq_true rfl) (.cons (.next <| .next <| .next <| .next <| .here) (.cons (.next <| .next <| .next <| .next <| .next <| .here) (.cons (.next <| .next <| .next <| .next <| .next <| .next <| .here) (.cons (.next <| .next <| .next <| .next <| .next <| .next <| .next <| .here) .nil)))) .nil)) (by decide) (by decide) fun b hb nb => ⟨b, _, hb, rfl, fun F2 hF2 hz => ⟨F2, rfl, hF2, (entA_box2 hz)⟩⟩)
  ·
   intro e1 F1 hF1 he hj
   replace hr := hr.mono hF1
   have g71 : (e1 71) = .agg #[vs, .int .i64 100, .int .i64 150, .int .i64 14, vb, vl, vn, vd] := hj 0 (by kernel_rfl) (by decide)
   have g73 : (e1 73) = .agg #[.int .i64 1, .bool true, .int .i64 48, .int .i64 48] := hj 2 (by kernel_rfl) (by decide)
   have g74 : Sl F1 (e1 74) 4 Ent.enc [ent1 0 60 60, ent1 1 48 48] := hj 3 (by kernel_rfl) (by decide)
   refine ⟨_, _, _, _, _, rfl, ?_⟩
   refine C1 bd_28 Az (.cons (Cw g71) (.cons (Cw rfl) .nil)) (rings_top_ok hr g74) fun v2 F2 hr hF2 => ⟨F2, rfl, hF2, (hr.ans ev_r1)⟩
  ·
   intro e1 F1 hF1 he hj
   have g75 : (e1 75) = .tuple #[tupA (e1 75) 0, .int .i64 0] ∧ Lsts F1 (tupA (e1 75) 0) [[1, 3], [0, 1, 3], [1, 2, 3]] := hj 4 (by kernel_rfl) (by decide)
   refine ⟨_, _, _, _, _, rfl, ?_⟩
   refine Bo (Ag (Cw g75.1)).quiet ⟨_, rfl, Heap.le_refl _, ⟨rfl, g75.2⟩⟩
  ·
   intro e1 F1 hF1 he hj
   have g70 : (e1 70) = .tuple #[tupA (e1 70) 0, .int .i64 0] ∧ Lsts F1 (tupA (e1 70) 0) [[1, 3], [0, 1, 3], [1, 2, 3]] := hj 5 (by kernel_rfl) (by decide)
   refine ⟨_, _, _, _, _, rfl, ?_⟩
   refine Bo (A0 (Cw g70.1) rfl).quiet ⟨_, rfl, Heap.le_refl _, g70.2⟩
  ·
   intro e1 F1 hF1 he hj
   have g70 : (e1 70) = .tuple #[tupA (e1 70) 0, .int .i64 0] ∧ Lsts F1 (tupA (e1 70) 0) [[1, 3], [0, 1, 3], [1, 2, 3]] := hj 5 (by kernel_rfl) (by decide)
   refine ⟨_, _, _, _, _, rfl, ?_⟩
   refine Bo (A0 (Cw g70.1) rfl).quiet ⟨_, rfl, Heap.le_refl _, rfl⟩
  ·
   intro e1 F1 hF1 he hj
   have g71 : (e1 71) = .agg #[vs, .int .i64 100, .int .i64 150, .int .i64 14, vb, vl, vn, vd] := hj 0 (by kernel_rfl) (by decide)
   have g72 : (e1 72) = .agg #[.int .i64 0, .bool true, .int .i64 60, .int .i64 60] := hj 1 (by kernel_rfl) (by decide)
   have g73 : (e1 73) = .agg #[.int .i64 1, .bool true, .int .i64 48, .int .i64 48] := hj 2 (by kernel_rfl) (by decide)
   have g74 : Sl F1 (e1 74) 4 Ent.enc [ent1 0 60 60, ent1 1 48 48] := hj 3 (by kernel_rfl) (by decide)
   have g75 : (e1 75) = .tuple #[tupA (e1 75) 0, .int .i64 0] ∧ Lsts F1 (tupA (e1 75) 0) [[1, 3], [0, 1, 3], [1, 2, 3]] := hj 4 (by kernel_rfl) (by decide)
   have g70 : (e1 70) = .tuple #[tupA (e1 70) 0, .int .i64 0] ∧ Lsts F1 (tupA (e1 70) 0) [[1, 3], [0, 1, 3], [1, 2, 3]] := hj 5 (by kernel_rfl) (by decide)
   have g76 : Lsts F1 (e1 76) [[1, 3], [0, 1, 3], [1, 2, 3]] := hj 6 (by kernel_rfl) (by decide)
   refine ⟨_, _, _, _, _, rfl, ?_⟩
   refine Bo (Ae (Cw rfl)).quiet ⟨_, rfl, Heap.le_refl _, g76⟩
  ·
   intro e1 F1 hF1 he hj
   have g71 : (e1 71) = .agg #[vs, .int .i64 100, .int .i64 150, .int .i64 14, vb, vl, vn, vd] := hj 0 (by kernel_rfl) (by decide)
   have g72 : (e1 72) = .agg #[.int .i64 0, .bool true, .int .i64 60, .int .i64 60] := hj 1 (by kernel_rfl) (by decide)
   have g73 : (e1 73) = .agg #[.int .i64 1, .bool true, .int .i64 48, .int .i64 48] := hj 2 (by kernel_rfl) (by decide)
   have g74 : Sl F1 (e1 74) 4 Ent.enc [ent1 0 60 60, ent1 1 48 48] := hj 3 (by kernel_rfl) (by decide)
   have g75 : (e1 75) = .tuple #[tupA (e1 75) 0, .int .i64 0] ∧ Lsts F1 (tupA (e1 75) 0) [[1, 3], [0, 1, 3], [1, 2, 3]] := hj 4 (by kernel_rfl) (by decide)
   have g70 : (e1 70) = .tuple #[tupA (e1 70) 0, .int .i64 0] ∧ Lsts F1 (tupA (e1 70) 0) [[1, 3], [0, 1, 3], [1, 2, 3]] := hj 5 (by kernel_rfl) (by decide)
   have g76 : Lsts F1 (e1 76) [[1, 3], [0, 1, 3], [1, 2, 3]] := hj 6 (by kernel_rfl) (by decide)
   have g77 : (e1 77) = .int .i64 0 := hj 7 (by kernel_rfl) (by decide)
   have g18 : Lsts F1 (e1 18) [[1, 3], [0, 1, 3], [1, 2, 3]] := hj 8 (by kernel_rfl) (by decide)
   refine ⟨_, _, _, _, _, rfl, ?_⟩
   refine Bo (Ae (Cw g77)).quiet ⟨_, rfl, Heap.le_refl _, rfl⟩
 intro e59 F56 hF57 he58 hj
 replace hr := hr.mono hF57
 replace hq1 := hq1.mono hF57
 replace hq2 := hq2.mono hF57
 replace hq3 := hq3.mono hF57
 replace hq4 := hq4.mono hF57
 replace hq7 := hq7.mono hF57
 have g71 : (e59 71) = .agg #[vs, .int .i64 100, .int .i64 150, .int .i64 14, vb, vl, vn, vd] := hj 0 (by decide)
 have g72 : (e59 72) = .agg #[.int .i64 0, .bool true, .int .i64 60, .int .i64 60] := hj 1 (by decide)
 have g73 : (e59 73) = .agg #[.int .i64 1, .bool true, .int .i64 48, .int .i64 48] := hj 2 (by decide)
 have g74 : Sl F56 (e59 74) 4 Ent.enc [ent1 0 60 60, ent1 1 48 48] := hj 3 (by decide)
 have g75 : (e59 75) = .tuple #[tupA (e59 75) 0, .int .i64 0] ∧ Lsts F56 (tupA (e59 75) 0) [[1, 3], [0, 1, 3], [1, 2, 3]] := hj 4 (by decide)
 have g70 : (e59 70) = .tuple #[tupA (e59 70) 0, .int .i64 0] ∧ Lsts F56 (tupA (e59 70) 0) [[1, 3], [0, 1, 3], [1, 2, 3]] := hj 5 (by decide)
 have g76 : Lsts F56 (e59 76) [[1, 3], [0, 1, 3], [1, 2, 3]] := hj 6 (by decide)
 have g77 : (e59 77) = .int .i64 0 := hj 7 (by decide)
 have g18 : Lsts F56 (e59 18) [[1, 3], [0, 1, 3], [1, 2, 3]] := hj 8 (by decide)
 have g19 : (e59 19) = .int .i64 0 := hj 9 (by decide)
 refine Ad <| Af <| WC_drawF 11 (.inl rfl) (fun _ _ h => h) (by kernel_rfl) (by kernel_rfl) false rfl ([fun F v => v = .agg #[vs, .int .i64 100, .int .i64 150, .int .i64 14, vb, vl, vn, vd], fun F v => v = .agg #[.int .i64 0, .bool true, .int .i64 20, .int .i64 50], fun F v => Sl F v 4 Ent.enc [ent1 0 20 50], fun F v => v = .tuple #[tupA v 0, tupA v 1, .int .i64 0] ∧ Nats F (tupA v 0) [0, 2] ∧ Nats F (tupA v 1) [0, 1, 2, 3], fun F v => v = .tuple #[tupA v 0, tupA v 1, .int .i64 0] ∧ Nats F (tupA v 0) [0, 2] ∧ Nats F (tupA v 1) [0, 1, 2, 3], fun F v => Nats F v [0, 2], fun F v => Nats F v [0, 1, 2, 3], fun F v => v = .int .i64 0, fun F v => Nats F v [0, 2], fun F v => Nats F v [0, 1, 2, 3], fun F v => v = .int .i64 0]) (⟨fun F F2 v hF h => h, fun F F2 v hF h => h, fun F F2 v hF h => h.mono hF, fun F F2 v hF h => ⟨h.1, h.2.1.mono hF, h.2.2.mono hF⟩, fun F F2 v hF h => ⟨h.1, h.2.1.mono hF, h.2.2.mono hF⟩, fun F F2 v hF h => h.mono hF, fun F F2 v hF h => h.mono hF, fun F F2 v hF h => h, fun F F2 v hF h => h.mono hF, fun F F2 v hF h => h.mono hF, fun F F2 v hF h => h, trivial⟩) (fun ds => ?_) (fun ds => ?_)
 ·
  refine ⟨⟨⟨⟨⟨⟨⟨⟨⟨⟨⟨trivial, ?_⟩, ?_⟩, ?_⟩, ?_⟩, ?_⟩, ?_⟩, ?_⟩, ?_⟩, ?_⟩, ?_⟩, ?_⟩
  ·
   intro e1 F1 hF1 he hj
   refine ⟨_, _, _, _, _, rfl, ?_⟩
   refine Bo (Bj Cd (B2 (Ca he (by kernel_rfl)) <| B2 (Ca he58 (by kernel_rfl)) <| Bs rfl <| Ba rfl <| A9 rfl <| Ap rfl <| Ac) rfl rfl (Bn 0 rfl)).quiet ⟨_, rfl, Heap.le_refl _, rfl⟩
  ·
   intro e1 F1 hF1 he hj
   refine ⟨_, _, _, _, _, rfl, ?_⟩
   refine Bo (Bb bd_36 Az (.cons Ab (.cons Ab (.cons Ab .nil))) (entry_ok _ _ _) (fun _ _ h => h)) ⟨_, rfl, Heap.le_refl _, rfl⟩
  ·
   intro e1 F1 hF1 he hj
   have g80 : (e1 80) = .agg #[.int .i64 0, .bool true, .int .i64 20, .int .i64 50] := hj 1 (by kernel_rfl) (by decide)
   refine ⟨_, _, _, _, _, rfl, ?_⟩
   refine OpX_freeze (Do (offs := [(0, 4)]) (zl := [.int .i64 0, .bool false, .int .i64 0, .int .i64 0]) sl_47 zr_60 rfl (.cons (Cw g80) rfl .nil) (by intro i p h; rcases i with _ | i <;> simp at h <;> subst h <;> rfl) (.cons rfl rfl (Nat.le_of_ble_eq_true rfl) (.cons (.here) (.cons (.next <| .here) (.cons (.next <| .next <| .here) (.cons (.next <| .next <| .next <| .here) .nil)))) .nil) (by decide) (by decide) fun b hb nb => ⟨b, _, hb, rfl, fun F2 hF2 hz => ⟨F2, rfl, hF2, (entB_box1 hz)⟩⟩)
  ·
   intro e1 F1 hF1 he hj
   replace hr := hr.mono hF1
   have g79 : (e1 79) = .agg #[vs, .int .i64 100, .int .i64 150, .int .i64 14, vb, vl, vn, vd] := hj 0 (by kernel_rfl) (by decide)
   have g80 : (e1 80) = .agg #[.int .i64 0, .bool true, .int .i64 20, .int .i64 50] := hj 1 (by kernel_rfl) (by decide)
   have g81 : Sl F1 (e1 81) 4 Ent.enc [ent1 0 20 50] := hj 2 (by kernel_rfl) (by decide)
   refine ⟨_, _, _, _, _, rfl, ?_⟩
   refine C1 bd_31 Az (.cons (Cw g79) (.cons (Cw rfl) .nil)) (members_ok hr g81) fun v2 F2 hr hF2 => ⟨F2, rfl, hF2, (hr.ans ev_m1)⟩
  ·
   intro e1 F1 hF1 he hj
   have g82 : (e1 82) = .tuple #[tupA (e1 82) 0, tupA (e1 82) 1, .int .i64 0] ∧ Nats F1 (tupA (e1 82) 0) [0, 2] ∧ Nats F1 (tupA (e1 82) 1) [0, 1, 2, 3] := hj 3 (by kernel_rfl) (by decide)
   refine ⟨_, _, _, _, _, rfl, ?_⟩
   refine Bo (Ag (Cw g82.1)).quiet ⟨_, rfl, Heap.le_refl _, ⟨rfl, g82.2⟩⟩
  ·
   intro e1 F1 hF1 he hj
   have g78 : (e1 78) = .tuple #[tupA (e1 78) 0, tupA (e1 78) 1, .int .i64 0] ∧ Nats F1 (tupA (e1 78) 0) [0, 2] ∧ Nats F1 (tupA (e1 78) 1) [0, 1, 2, 3] := hj 4 (by kernel_rfl) (by decide)
   refine ⟨_, _, _, _, _, rfl, ?_⟩
   refine Bo (A0 (Cw g78.1) rfl).quiet ⟨_, rfl, Heap.le_refl _, g78.2.1⟩
  ·
   intro e1 F1 hF1 he hj
   have g78 : (e1 78) = .tuple #[tupA (e1 78) 0, tupA (e1 78) 1, .int .i64 0] ∧ Nats F1 (tupA (e1 78) 0) [0, 2] ∧ Nats F1 (tupA (e1 78) 1) [0, 1, 2, 3] := hj 4 (by kernel_rfl) (by decide)
   refine ⟨_, _, _, _, _, rfl, ?_⟩
   refine Bo (A0 (Cw g78.1) rfl).quiet ⟨_, rfl, Heap.le_refl _, g78.2.2⟩
  ·
   intro e1 F1 hF1 he hj
   have g78 : (e1 78) = .tuple #[tupA (e1 78) 0, tupA (e1 78) 1, .int .i64 0] ∧ Nats F1 (tupA (e1 78) 0) [0, 2] ∧ Nats F1 (tupA (e1 78) 1) [0, 1, 2, 3] := hj 4 (by kernel_rfl) (by decide)
   refine ⟨_, _, _, _, _, rfl, ?_⟩
   refine Bo (A0 (Cw g78.1) rfl).quiet ⟨_, rfl, Heap.le_refl _, rfl⟩
  ·
   intro e1 F1 hF1 he hj
   have g79 : (e1 79) = .agg #[vs, .int .i64 100, .int .i64 150, .int .i64 14, vb, vl, vn, vd] := hj 0 (by kernel_rfl) (by decide)
   have g80 : (e1 80) = .agg #[.int .i64 0, .bool true, .int .i64 20, .int .i64 50] := hj 1 (by kernel_rfl) (by decide)
   have g81 : Sl F1 (e1 81) 4 Ent.enc [ent1 0 20 50] := hj 2 (by kernel_rfl) (by decide)
   have g82 : (e1 82) = .tuple #[tupA (e1 82) 0, tupA (e1 82) 1, .int .i64 0] ∧ Nats F1 (tupA (e1 82) 0) [0, 2] ∧ Nats F1 (tupA (e1 82) 1) [0, 1, 2, 3] := hj 3 (by kernel_rfl) (by decide)
   have g78 : (e1 78) = .tuple #[tupA (e1 78) 0, tupA (e1 78) 1, .int .i64 0] ∧ Nats F1 (tupA (e1 78) 0) [0, 2] ∧ Nats F1 (tupA (e1 78) 1) [0, 1, 2, 3] := hj 4 (by kernel_rfl) (by decide)
   have g83 : Nats F1 (e1 83) [0, 2] := hj 5 (by kernel_rfl) (by decide)
   refine ⟨_, _, _, _, _, rfl, ?_⟩
   refine Bo (Ae (Cw rfl)).quiet ⟨_, rfl, Heap.le_refl _, g83⟩
  ·
   intro e1 F1 hF1 he hj
   have g79 : (e1 79) = .agg #[vs, .int .i64 100, .int .i64 150, .int .i64 14, vb, vl, vn, vd] := hj 0 (by kernel_rfl) (by decide)
   have g80 : (e1 80) = .agg #[.int .i64 0, .bool true, .int .i64 20, .int .i64 50] := hj 1 (by kernel_rfl) (by decide)
   have g81 : Sl F1 (e1 81) 4 Ent.enc [ent1 0 20 50] := hj 2 (by kernel_rfl) (by decide)
   have g82 : (e1 82) = .tuple #[tupA (e1 82) 0, tupA (e1 82) 1, .int .i64 0] ∧ Nats F1 (tupA (e1 82) 0) [0, 2] ∧ Nats F1 (tupA (e1 82) 1) [0, 1, 2, 3] := hj 3 (by kernel_rfl) (by decide)
   have g78 : (e1 78) = .tuple #[tupA (e1 78) 0, tupA (e1 78) 1, .int .i64 0] ∧ Nats F1 (tupA (e1 78) 0) [0, 2] ∧ Nats F1 (tupA (e1 78) 1) [0, 1, 2, 3] := hj 4 (by kernel_rfl) (by decide)
   have g83 : Nats F1 (e1 83) [0, 2] := hj 5 (by kernel_rfl) (by decide)
   have g84 : Nats F1 (e1 84) [0, 1, 2, 3] := hj 6 (by kernel_rfl) (by decide)
   have g20 : Nats F1 (e1 20) [0, 2] := hj 8 (by kernel_rfl) (by decide)
   refine ⟨_, _, _, _, _, rfl, ?_⟩
   refine Bo (Ae (Cw rfl)).quiet ⟨_, rfl, Heap.le_refl _, g84⟩
  ·
   intro e1 F1 hF1 he hj
   have g79 : (e1 79) = .agg #[vs, .int .i64 100, .int .i64 150, .int .i64 14, vb, vl, vn, vd] := hj 0 (by kernel_rfl) (by decide)
   have g80 : (e1 80) = .agg #[.int .i64 0, .bool true, .int .i64 20, .int .i64 50] := hj 1 (by kernel_rfl) (by decide)
   have g81 : Sl F1 (e1 81) 4 Ent.enc [ent1 0 20 50] := hj 2 (by kernel_rfl) (by decide)
   have g82 : (e1 82) = .tuple #[tupA (e1 82) 0, tupA (e1 82) 1, .int .i64 0] ∧ Nats F1 (tupA (e1 82) 0) [0, 2] ∧ Nats F1 (tupA (e1 82) 1) [0, 1, 2, 3] := hj 3 (by kernel_rfl) (by decide)
   have g78 : (e1 78) = .tuple #[tupA (e1 78) 0, tupA (e1 78) 1, .int .i64 0] ∧ Nats F1 (tupA (e1 78) 0) [0, 2] ∧ Nats F1 (tupA (e1 78) 1) [0, 1, 2, 3] := hj 4 (by kernel_rfl) (by decide)
   have g83 : Nats F1 (e1 83) [0, 2] := hj 5 (by kernel_rfl) (by decide)
   have g84 : Nats F1 (e1 84) [0, 1, 2, 3] := hj 6 (by kernel_rfl) (by decide)
   have g85 : (e1 85) = .int .i64 0 := hj 7 (by kernel_rfl) (by decide)
   have g20 : Nats F1 (e1 20) [0, 2] := hj 8 (by kernel_rfl) (by decide)
   have g21 : Nats F1 (e1 21) [0, 1, 2, 3] := hj 9 (by kernel_rfl) (by decide)
   refine ⟨_, _, _, _, _, rfl, ?_⟩
   refine Bo (Ae (Cw g85)).quiet ⟨_, rfl, Heap.le_refl _, rfl⟩
 intro e63 F60 hF61 he62 hj
 replace hr := hr.mono hF61
 replace hq1 := hq1.mono hF61
 replace hq2 := hq2.mono hF61
 replace hq3 := hq3.mono hF61
 replace hq4 := hq4.mono hF61
 replace hq7 := hq7.mono hF61
 replace g18 := g18.mono hF61
 have g79 : (e63 79) = .agg #[vs, .int .i64 100, .int .i64 150, .int .i64 14, vb, vl, vn, vd] := hj 0 (by decide)
 have g80 : (e63 80) = .agg #[.int .i64 0, .bool true, .int .i64 20, .int .i64 50] := hj 1 (by decide)
 have g81 : Sl F60 (e63 81) 4 Ent.enc [ent1 0 20 50] := hj 2 (by decide)
 have g82 : (e63 82) = .tuple #[tupA (e63 82) 0, tupA (e63 82) 1, .int .i64 0] ∧ Nats F60 (tupA (e63 82) 0) [0, 2] ∧ Nats F60 (tupA (e63 82) 1) [0, 1, 2, 3] := hj 3 (by decide)
 have g78 : (e63 78) = .tuple #[tupA (e63 78) 0, tupA (e63 78) 1, .int .i64 0] ∧ Nats F60 (tupA (e63 78) 0) [0, 2] ∧ Nats F60 (tupA (e63 78) 1) [0, 1, 2, 3] := hj 4 (by decide)
 have g83 : Nats F60 (e63 83) [0, 2] := hj 5 (by decide)
 have g84 : Nats F60 (e63 84) [0, 1, 2, 3] := hj 6 (by decide)
 have g85 : (e63 85) = .int .i64 0 := hj 7 (by decide)
 have g20 : Nats F60 (e63 20) [0, 2] := hj 8 (by decide)
 have g21 : Nats F60 (e63 21) [0, 1, 2, 3] := hj 9 (by decide)
 have g22 : (e63 22) = .int .i64 0 := hj 10 (by decide)
 refine Ad <| Af <| WC_drawF 11 (.inl rfl) (fun _ _ h => h) (by kernel_rfl) (by kernel_rfl) false rfl ([fun F v => v = .agg #[vs, .int .i64 100, .int .i64 150, .int .i64 14, vb, vl, vn, vd], fun F v => v = .agg #[.int .i64 0, .bool true, .int .i64 45, .int .i64 45], fun F v => v = .agg #[.int .i64 1, .bool true, .int .i64 48, .int .i64 48], fun F v => v = .agg #[.int .i64 2, .bool true, .int .i64 30, .int .i64 30], fun F v => Sl F v 4 Ent.enc [ent1 0 45 45, ent1 1 48 48, ent1 2 30 30], fun F v => v = .tuple #[tupA v 0, .int .i64 0] ∧ Nats F (tupA v 0) [0, 2], fun F v => v = .tuple #[tupA v 0, .int .i64 0] ∧ Nats F (tupA v 0) [0, 2], fun F v => Nats F v [0, 2], fun F v => v = .int .i64 0, fun F v => Nats F v [0, 2], fun F v => v = .int .i64 0]) (⟨fun F F2 v hF h => h, fun F F2 v hF h => h, fun F F2 v hF h => h, fun F F2 v hF h => h, fun F F2 v hF h => h.mono hF, fun F F2 v hF h => ⟨h.1, h.2.mono hF⟩, fun F F2 v hF h => ⟨h.1, h.2.mono hF⟩, fun F F2 v hF h => h.mono hF, fun F F2 v hF h => h, fun F F2 v hF h => h.mono hF, fun F F2 v hF h => h, trivial⟩) (fun ds => ?_) (fun ds => ?_)
 ·
  refine ⟨⟨⟨⟨⟨⟨⟨⟨⟨⟨⟨trivial, ?_⟩, ?_⟩, ?_⟩, ?_⟩, ?_⟩, ?_⟩, ?_⟩, ?_⟩, ?_⟩, ?_⟩, ?_⟩
  ·
   intro e1 F1 hF1 he hj
   refine ⟨_, _, _, _, _, rfl, ?_⟩
   refine Bo (Bj Cd (B2 (Ca he (by kernel_rfl)) <| B2 (Ca he62 (by kernel_rfl)) <| B2 (Ca he58 (by kernel_rfl)) <| Bs rfl <| Ba rfl <| A9 rfl <| Ap rfl <| Ac) rfl rfl (Bn 0 rfl)).quiet ⟨_, rfl, Heap.le_refl _, rfl⟩
  ·
   intro e1 F1 hF1 he hj
   refine ⟨_, _, _, _, _, rfl, ?_⟩
   refine Bo (Bb bd_36 Az (.cons Ab (.cons Ab (.cons Ab .nil))) (entry_ok _ _ _) (fun _ _ h => h)) ⟨_, rfl, Heap.le_refl _, rfl⟩
  ·
   intro e1 F1 hF1 he hj
   have g88 : (e1 88) = .agg #[.int .i64 0, .bool true, .int .i64 45, .int .i64 45] := hj 1 (by kernel_rfl) (by decide)
   refine ⟨_, _, _, _, _, rfl, ?_⟩
   refine Bo (Bb bd_36 Az (.cons Ab (.cons Ab (.cons Ab .nil))) (entry_ok _ _ _) (fun _ _ h => h)) ⟨_, rfl, Heap.le_refl _, rfl⟩
  ·
   intro e1 F1 hF1 he hj
   have g89 : (e1 89) = .agg #[.int .i64 1, .bool true, .int .i64 48, .int .i64 48] := hj 2 (by kernel_rfl) (by decide)
   refine ⟨_, _, _, _, _, rfl, ?_⟩
   refine Bo (Bb bd_36 Az (.cons Ab (.cons Ab (.cons Ab .nil))) (entry_ok _ _ _) (fun _ _ h => h)) ⟨_, rfl, Heap.le_refl _, rfl⟩
  ·
   intro e1 F1 hF1 he hj
   have g88 : (e1 88) = .agg #[.int .i64 0, .bool true, .int .i64 45, .int .i64 45] := hj 1 (by kernel_rfl) (by decide)
   have g89 : (e1 89) = .agg #[.int .i64 1, .bool true, .int .i64 48, .int .i64 48] := hj 2 (by kernel_rfl) (by decide)
   have g90 : (e1 90) = .agg #[.int .i64 2, .bool true, .int .i64 30, .int .i64 30] := hj 3 (by kernel_rfl) (by decide)
   refine ⟨_, _, _, _, _, rfl, ?_⟩
   refine OpX_freeze (Do (offs := [(0, 4), (4, 4), (8, 4)]) (zl := [.int .i64 0, .bool false, .int .i64 0, .int .i64 0, .int .i64 0, .bool false, .int .i64 0, .int .i64 0, .int .i64 0, .bool false, .int .i64 0, .int .i64 0]) sl_47 zr_60 rfl (.cons (Cw g88) rfl (.cons (Cw g89) rfl (.cons (Cw g90) rfl .nil))) (by intro i p h; rcases i with _ | _ | _ | i <;> simp at h <;> subst h <;> rfl) (.cons rfl rfl (Nat.le_of_ble_eq_true rfl) (.cons (.here) (.cons (.next <| .here) (.cons (.next <| .next <| .here) (.cons (.next <| .next <| .next <| .here) .nil)))) (.cons rfl rfl (Nat.le_of_ble_eq_true rfl) (.cons (.next <| .next <| .next <| .next <| .here) (.cons (.next <| .next <| .next <| .next <| .next <| .here) (.cons (.next <| .next <| .next <| .next <| .next <| .next <| .here) (.cons (.next <| .next <| .next <| .next <| .next <| .next <| .next <| .here) .nil)))) (.cons rfl rfl (Nat.le_of_ble_eq_true rfl) (.cons (.next <| .next <| .next <| .next <| .next <| .next <| .next <| .next <| .here) (.cons (.next <| .next <| .next <| .next <| .next <| .next <| .next <| .next <| .next <| .here) (.cons (.next <| .next <| .next <| .next <| .next <| .next <| .next <| .next <| .next <| .next <| .here) (.cons (.next <| .next <| .next <| .next <| .next <| .next <| .next <| .next <| .next <| .next <| .next <| .here) .nil)))) .nil))) (by decide) (by decide) fun b hb nb => ⟨b, _, hb, rfl, fun F2 hF2 hz => ⟨F2, rfl, hF2, (entC_box3 hz)⟩⟩)
  ·
   intro e1 F1 hF1 he hj
   replace hr := hr.mono hF1
   have g87 : (e1 87) = .agg #[vs, .int .i64 100, .int .i64 150, .int .i64 14, vb, vl, vn, vd] := hj 0 (by kernel_rfl) (by decide)
   have g90 : (e1 90) = .agg #[.int .i64 2, .bool true, .int .i64 30, .int .i64 30] := hj 3 (by kernel_rfl) (by decide)
   have g91 : Sl F1 (e1 91) 4 Ent.enc [ent1 0 45 45, ent1 1 48 48, ent1 2 30 30] := hj 4 (by kernel_rfl) (by decide)
   refine ⟨_, _, _, _, _, rfl, ?_⟩
   refine C1 bd_33 Az (.cons (Cw g87) (.cons (Cw rfl) .nil)) (wrong_ok hr g91) fun v2 F2 hr hF2 => ⟨F2, rfl, hF2, (hr.ans ev_w1)⟩
  ·
   intro e1 F1 hF1 he hj
   have g92 : (e1 92) = .tuple #[tupA (e1 92) 0, .int .i64 0] ∧ Nats F1 (tupA (e1 92) 0) [0, 2] := hj 5 (by kernel_rfl) (by decide)
   refine ⟨_, _, _, _, _, rfl, ?_⟩
   refine Bo (Ag (Cw g92.1)).quiet ⟨_, rfl, Heap.le_refl _, ⟨rfl, g92.2⟩⟩
  ·
   intro e1 F1 hF1 he hj
   have g86 : (e1 86) = .tuple #[tupA (e1 86) 0, .int .i64 0] ∧ Nats F1 (tupA (e1 86) 0) [0, 2] := hj 6 (by kernel_rfl) (by decide)
   refine ⟨_, _, _, _, _, rfl, ?_⟩
   refine Bo (A0 (Cw g86.1) rfl).quiet ⟨_, rfl, Heap.le_refl _, g86.2⟩
  ·
   intro e1 F1 hF1 he hj
   have g86 : (e1 86) = .tuple #[tupA (e1 86) 0, .int .i64 0] ∧ Nats F1 (tupA (e1 86) 0) [0, 2] := hj 6 (by kernel_rfl) (by decide)
   refine ⟨_, _, _, _, _, rfl, ?_⟩
   refine Bo (A0 (Cw g86.1) rfl).quiet ⟨_, rfl, Heap.le_refl _, rfl⟩
  ·
   intro e1 F1 hF1 he hj
   have g87 : (e1 87) = .agg #[vs, .int .i64 100, .int .i64 150, .int .i64 14, vb, vl, vn, vd] := hj 0 (by kernel_rfl) (by decide)
   have g88 : (e1 88) = .agg #[.int .i64 0, .bool true, .int .i64 45, .int .i64 45] := hj 1 (by kernel_rfl) (by decide)
   have g89 : (e1 89) = .agg #[.int .i64 1, .bool true, .int .i64 48, .int .i64 48] := hj 2 (by kernel_rfl) (by decide)
   have g90 : (e1 90) = .agg #[.int .i64 2, .bool true, .int .i64 30, .int .i64 30] := hj 3 (by kernel_rfl) (by decide)
   have g91 : Sl F1 (e1 91) 4 Ent.enc [ent1 0 45 45, ent1 1 48 48, ent1 2 30 30] := hj 4 (by kernel_rfl) (by decide)
   have g92 : (e1 92) = .tuple #[tupA (e1 92) 0, .int .i64 0] ∧ Nats F1 (tupA (e1 92) 0) [0, 2] := hj 5 (by kernel_rfl) (by decide)
   have g86 : (e1 86) = .tuple #[tupA (e1 86) 0, .int .i64 0] ∧ Nats F1 (tupA (e1 86) 0) [0, 2] := hj 6 (by kernel_rfl) (by decide)
   have g93 : Nats F1 (e1 93) [0, 2] := hj 7 (by kernel_rfl) (by decide)
   refine ⟨_, _, _, _, _, rfl, ?_⟩
   refine Bo (Ae (Cw rfl)).quiet ⟨_, rfl, Heap.le_refl _, g93⟩
  ·
   intro e1 F1 hF1 he hj
   have g87 : (e1 87) = .agg #[vs, .int .i64 100, .int .i64 150, .int .i64 14, vb, vl, vn, vd] := hj 0 (by kernel_rfl) (by decide)
   have g88 : (e1 88) = .agg #[.int .i64 0, .bool true, .int .i64 45, .int .i64 45] := hj 1 (by kernel_rfl) (by decide)
   have g89 : (e1 89) = .agg #[.int .i64 1, .bool true, .int .i64 48, .int .i64 48] := hj 2 (by kernel_rfl) (by decide)
   have g90 : (e1 90) = .agg #[.int .i64 2, .bool true, .int .i64 30, .int .i64 30] := hj 3 (by kernel_rfl) (by decide)
   have g91 : Sl F1 (e1 91) 4 Ent.enc [ent1 0 45 45, ent1 1 48 48, ent1 2 30 30] := hj 4 (by kernel_rfl) (by decide)
   have g92 : (e1 92) = .tuple #[tupA (e1 92) 0, .int .i64 0] ∧ Nats F1 (tupA (e1 92) 0) [0, 2] := hj 5 (by kernel_rfl) (by decide)
   have g86 : (e1 86) = .tuple #[tupA (e1 86) 0, .int .i64 0] ∧ Nats F1 (tupA (e1 86) 0) [0, 2] := hj 6 (by kernel_rfl) (by decide)
   have g93 : Nats F1 (e1 93) [0, 2] := hj 7 (by kernel_rfl) (by decide)
   have g94 : (e1 94) = .int .i64 0 := hj 8 (by kernel_rfl) (by decide)
   have g23 : Nats F1 (e1 23) [0, 2] := hj 9 (by kernel_rfl) (by decide)
   refine ⟨_, _, _, _, _, rfl, ?_⟩
   refine Bo (Ae (Cw g94)).quiet ⟨_, rfl, Heap.le_refl _, rfl⟩
 intro e67 F64 hF65 he66 hj
 replace hr := hr.mono hF65
 replace hq1 := hq1.mono hF65
 replace hq2 := hq2.mono hF65
 replace hq3 := hq3.mono hF65
 replace hq4 := hq4.mono hF65
 replace hq7 := hq7.mono hF65
 replace g18 := g18.mono hF65
 replace g20 := g20.mono hF65
 replace g21 := g21.mono hF65
 have g87 : (e67 87) = .agg #[vs, .int .i64 100, .int .i64 150, .int .i64 14, vb, vl, vn, vd] := hj 0 (by decide)
 have g88 : (e67 88) = .agg #[.int .i64 0, .bool true, .int .i64 45, .int .i64 45] := hj 1 (by decide)
 have g89 : (e67 89) = .agg #[.int .i64 1, .bool true, .int .i64 48, .int .i64 48] := hj 2 (by decide)
 have g90 : (e67 90) = .agg #[.int .i64 2, .bool true, .int .i64 30, .int .i64 30] := hj 3 (by decide)
 have g91 : Sl F64 (e67 91) 4 Ent.enc [ent1 0 45 45, ent1 1 48 48, ent1 2 30 30] := hj 4 (by decide)
 have g92 : (e67 92) = .tuple #[tupA (e67 92) 0, .int .i64 0] ∧ Nats F64 (tupA (e67 92) 0) [0, 2] := hj 5 (by decide)
 have g86 : (e67 86) = .tuple #[tupA (e67 86) 0, .int .i64 0] ∧ Nats F64 (tupA (e67 86) 0) [0, 2] := hj 6 (by decide)
 have g93 : Nats F64 (e67 93) [0, 2] := hj 7 (by decide)
 have g94 : (e67 94) = .int .i64 0 := hj 8 (by decide)
 have g23 : Nats F64 (e67 23) [0, 2] := hj 9 (by decide)
 have g24 : (e67 24) = .int .i64 0 := hj 10 (by decide)
 refine Ad <| Af <| WC_drawF 9 (.inl rfl) (fun _ _ h => h) (by kernel_rfl) (by kernel_rfl) false rfl ([fun F v => v = .agg #[vs, .int .i64 100, .int .i64 150, .int .i64 14, vb, vl, vn, vd], fun F v => v = .agg #[.int .i64 2, .bool true, .int .i64 30, .int .i64 30], fun F v => Sl F v 4 Ent.enc [ent1 2 30 30], fun F v => v = .tuple #[tupA v 0, .int .i64 8] ∧ Lsts F (tupA v 0) [], fun F v => v = .tuple #[tupA v 0, .int .i64 8] ∧ Lsts F (tupA v 0) [], fun F v => Lsts F v [], fun F v => v = .int .i64 8, fun F v => Lsts F v [], fun F v => v = .int .i64 8]) (⟨fun F F2 v hF h => h, fun F F2 v hF h => h, fun F F2 v hF h => h.mono hF, fun F F2 v hF h => ⟨h.1, h.2.mono hF⟩, fun F F2 v hF h => ⟨h.1, h.2.mono hF⟩, fun F F2 v hF h => h.mono hF, fun F F2 v hF h => h, fun F F2 v hF h => h.mono hF, fun F F2 v hF h => h, trivial⟩) (fun ds => ?_) (fun ds => ?_)
 ·
  refine ⟨⟨⟨⟨⟨⟨⟨⟨⟨trivial, ?_⟩, ?_⟩, ?_⟩, ?_⟩, ?_⟩, ?_⟩, ?_⟩, ?_⟩, ?_⟩
  ·
   intro e1 F1 hF1 he hj
   refine ⟨_, _, _, _, _, rfl, ?_⟩
   refine Bo (Bj Cd (B2 (Ca he (by kernel_rfl)) <| B2 (Ca he66 (by kernel_rfl)) <| B2 (Ca he62 (by kernel_rfl)) <| B2 (Ca he58 (by kernel_rfl)) <| Bs rfl <| Ba rfl <| A9 rfl <| Ap rfl <| Ac) rfl rfl (Bn 0 rfl)).quiet ⟨_, rfl, Heap.le_refl _, rfl⟩
  ·
   intro e1 F1 hF1 he hj
   refine ⟨_, _, _, _, _, rfl, ?_⟩
   refine Bo (Bb bd_36 Az (.cons Ab (.cons Ab (.cons Ab .nil))) (entry_ok _ _ _) (fun _ _ h => h)) ⟨_, rfl, Heap.le_refl _, rfl⟩
  ·
   intro e1 F1 hF1 he hj
   have g97 : (e1 97) = .agg #[.int .i64 2, .bool true, .int .i64 30, .int .i64 30] := hj 1 (by kernel_rfl) (by decide)
   refine ⟨_, _, _, _, _, rfl, ?_⟩
   refine OpX_freeze (Do (offs := [(0, 4)]) (zl := [.int .i64 0, .bool false, .int .i64 0, .int .i64 0]) sl_47 zr_60 rfl (.cons (Cw g97) rfl .nil) (by intro i p h; rcases i with _ | i <;> simp at h <;> subst h <;> rfl) (.cons rfl rfl (Nat.le_of_ble_eq_true rfl) (.cons (.here) (.cons (.next <| .here) (.cons (.next <| .next <| .here) (.cons (.next <| .next <| .next <| .here) .nil)))) .nil) (by decide) (by decide) fun b hb nb => ⟨b, _, hb, rfl, fun F2 hF2 hz => ⟨F2, rfl, hF2, (entD_box1 hz)⟩⟩)
  ·
   intro e1 F1 hF1 he hj
   replace hr := hr.mono hF1
   have g96 : (e1 96) = .agg #[vs, .int .i64 100, .int .i64 150, .int .i64 14, vb, vl, vn, vd] := hj 0 (by kernel_rfl) (by decide)
   have g97 : (e1 97) = .agg #[.int .i64 2, .bool true, .int .i64 30, .int .i64 30] := hj 1 (by kernel_rfl) (by decide)
   have g98 : Sl F1 (e1 98) 4 Ent.enc [ent1 2 30 30] := hj 2 (by kernel_rfl) (by decide)
   refine ⟨_, _, _, _, _, rfl, ?_⟩
   refine C1 bd_28 Az (.cons (Cw g96) (.cons (Cw rfl) .nil)) (rings_top_ok hr g98) fun v2 F2 hr hF2 => ⟨F2, rfl, hF2, (hr.ans ev_r2)⟩
  ·
   intro e1 F1 hF1 he hj
   have g99 : (e1 99) = .tuple #[tupA (e1 99) 0, .int .i64 8] ∧ Lsts F1 (tupA (e1 99) 0) [] := hj 3 (by kernel_rfl) (by decide)
   refine ⟨_, _, _, _, _, rfl, ?_⟩
   refine Bo (Ag (Cw g99.1)).quiet ⟨_, rfl, Heap.le_refl _, ⟨rfl, g99.2⟩⟩
  ·
   intro e1 F1 hF1 he hj
   have g95 : (e1 95) = .tuple #[tupA (e1 95) 0, .int .i64 8] ∧ Lsts F1 (tupA (e1 95) 0) [] := hj 4 (by kernel_rfl) (by decide)
   refine ⟨_, _, _, _, _, rfl, ?_⟩
   refine Bo (A0 (Cw g95.1) rfl).quiet ⟨_, rfl, Heap.le_refl _, g95.2⟩
  ·
   intro e1 F1 hF1 he hj
   have g95 : (e1 95) = .tuple #[tupA (e1 95) 0, .int .i64 8] ∧ Lsts F1 (tupA (e1 95) 0) [] := hj 4 (by kernel_rfl) (by decide)
   refine ⟨_, _, _, _, _, rfl, ?_⟩
   refine Bo (A0 (Cw g95.1) rfl).quiet ⟨_, rfl, Heap.le_refl _, rfl⟩
  ·
   intro e1 F1 hF1 he hj
   have g96 : (e1 96) = .agg #[vs, .int .i64 100, .int .i64 150, .int .i64 14, vb, vl, vn, vd] := hj 0 (by kernel_rfl) (by decide)
   have g97 : (e1 97) = .agg #[.int .i64 2, .bool true, .int .i64 30, .int .i64 30] := hj 1 (by kernel_rfl) (by decide)
   have g98 : Sl F1 (e1 98) 4 Ent.enc [ent1 2 30 30] := hj 2 (by kernel_rfl) (by decide)
   have g99 : (e1 99) = .tuple #[tupA (e1 99) 0, .int .i64 8] ∧ Lsts F1 (tupA (e1 99) 0) [] := hj 3 (by kernel_rfl) (by decide)
   have g95 : (e1 95) = .tuple #[tupA (e1 95) 0, .int .i64 8] ∧ Lsts F1 (tupA (e1 95) 0) [] := hj 4 (by kernel_rfl) (by decide)
   have g100 : Lsts F1 (e1 100) [] := hj 5 (by kernel_rfl) (by decide)
   refine ⟨_, _, _, _, _, rfl, ?_⟩
   refine Bo (Ae (Cw rfl)).quiet ⟨_, rfl, Heap.le_refl _, g100⟩
  ·
   intro e1 F1 hF1 he hj
   have g96 : (e1 96) = .agg #[vs, .int .i64 100, .int .i64 150, .int .i64 14, vb, vl, vn, vd] := hj 0 (by kernel_rfl) (by decide)
   have g97 : (e1 97) = .agg #[.int .i64 2, .bool true, .int .i64 30, .int .i64 30] := hj 1 (by kernel_rfl) (by decide)
   have g98 : Sl F1 (e1 98) 4 Ent.enc [ent1 2 30 30] := hj 2 (by kernel_rfl) (by decide)
   have g99 : (e1 99) = .tuple #[tupA (e1 99) 0, .int .i64 8] ∧ Lsts F1 (tupA (e1 99) 0) [] := hj 3 (by kernel_rfl) (by decide)
   have g95 : (e1 95) = .tuple #[tupA (e1 95) 0, .int .i64 8] ∧ Lsts F1 (tupA (e1 95) 0) [] := hj 4 (by kernel_rfl) (by decide)
   have g100 : Lsts F1 (e1 100) [] := hj 5 (by kernel_rfl) (by decide)
   have g101 : (e1 101) = .int .i64 8 := hj 6 (by kernel_rfl) (by decide)
   have g25 : Lsts F1 (e1 25) [] := hj 7 (by kernel_rfl) (by decide)
   refine ⟨_, _, _, _, _, rfl, ?_⟩
   refine Bo (Ae (Cw g101)).quiet ⟨_, rfl, Heap.le_refl _, rfl⟩
 intro e71 F68 hF69 he70 hj
 replace hq1 := hq1.mono hF69
 replace hq2 := hq2.mono hF69
 replace hq3 := hq3.mono hF69
 replace hq4 := hq4.mono hF69
 replace hq7 := hq7.mono hF69
 replace g18 := g18.mono hF69
 replace g20 := g20.mono hF69
 replace g21 := g21.mono hF69
 replace g23 := g23.mono hF69
 have g96 : (e71 96) = .agg #[vs, .int .i64 100, .int .i64 150, .int .i64 14, vb, vl, vn, vd] := hj 0 (by decide)
 have g97 : (e71 97) = .agg #[.int .i64 2, .bool true, .int .i64 30, .int .i64 30] := hj 1 (by decide)
 have g98 : Sl F68 (e71 98) 4 Ent.enc [ent1 2 30 30] := hj 2 (by decide)
 have g99 : (e71 99) = .tuple #[tupA (e71 99) 0, .int .i64 8] ∧ Lsts F68 (tupA (e71 99) 0) [] := hj 3 (by decide)
 have g95 : (e71 95) = .tuple #[tupA (e71 95) 0, .int .i64 8] ∧ Lsts F68 (tupA (e71 95) 0) [] := hj 4 (by decide)
 have g100 : Lsts F68 (e71 100) [] := hj 5 (by decide)
 have g101 : (e71 101) = .int .i64 8 := hj 6 (by decide)
 have g25 : Lsts F68 (e71 25) [] := hj 7 (by decide)
 have g26 : (e71 26) = .int .i64 8 := hj 8 (by decide)
 refine Ad <| Af <| Ai fun ds => Aa rfl (Ag (B2 (Ca he70 (by kernel_rfl)) <| B2 (Ca he66 (by kernel_rfl)) <| B2 (Ca he62 (by kernel_rfl)) <| B2 (Ca he58 (by kernel_rfl)) <| Bs rfl <| Ba rfl <| Ap rfl <| Al rfl <| Ac)) ?_
 refine Aa rfl (B5 (Ac) Ab) ?_
 refine Aa rfl (Ag (Ac)) ?_
 refine As rfl rfl (Ac) (by first | rfl | decide) ?_
 refine Aa rfl (Ag (Ap rfl <| Al rfl <| B2 (Ca he70 (by kernel_rfl)) <| B2 (Ca he66 (by kernel_rfl)) <| B2 (Ca he62 (by kernel_rfl)) <| B2 (Ca he58 (by kernel_rfl)) <| Bs rfl <| A9 rfl <| Ay rfl <| Ac)) ?_
 refine As rfl rfl (Al rfl <| Ac) (by first | rfl | decide) ?_
 refine Aa rfl (B5 (Ac) Ab) ?_
 refine Aa rfl (A5 (Ap rfl <| Ac) (by first | rfl | decide) (Ac)) ?_
 refine Aa rfl (Ag (Ac)) ?_
 refine As rfl rfl (Ac) (by first | rfl | decide) ?_
 refine Aa rfl (Ag (Ay rfl <| Ap rfl <| Al rfl <| B2 (Ca he70 (by kernel_rfl)) <| B2 (Ca he66 (by kernel_rfl)) <| B2 (Ca he62 (by kernel_rfl)) <| B2 (Ca he58 (by kernel_rfl)) <| Bs rfl <| Ay rfl <| Ac)) ?_
 refine As rfl rfl (Al rfl <| Ac) (by first | rfl | decide) ?_
 refine Aa rfl (B5 (Ac) Ab) ?_
 refine Aa rfl (A5 (Ap rfl <| Ac) (by first | rfl | decide) (Ac)) ?_
 refine Aa rfl (Ag (Ac)) ?_
 refine As rfl rfl (Ac) (by first | rfl | decide) ?_
 refine Aa rfl (Ag (A9 rfl <| Ap rfl <| Al rfl <| B2 (Ca he70 (by kernel_rfl)) <| B2 (Ca he66 (by kernel_rfl)) <| B2 (Ca he62 (by kernel_rfl)) <| B2 (Ca he58 (by kernel_rfl)) <| Ba rfl <| Ay rfl <| Ap rfl <| Ac)) ?_
 refine As rfl rfl (Al rfl <| Ac) (by first | rfl | decide) ?_
 refine Aa rfl (B5 (Ac) Ab) ?_
 refine Aa rfl (A5 (Ap rfl <| Ac) (by first | rfl | decide) (Ac)) ?_
 refine Aa rfl (Ag (Ac)) ?_
 refine As rfl rfl (Ac) (by first | rfl | decide) ?_
 refine Aa rfl (Ag (A9 rfl <| Ay rfl <| Ap rfl <| Al rfl <| B2 (Ca he70 (by kernel_rfl)) <| B2 (Ca he66 (by kernel_rfl)) <| B2 (Ca he62 (by kernel_rfl)) <| B2 (Ca he58 (by kernel_rfl)) <| Ac)) ?_
 refine As rfl rfl (Al rfl <| Ac) (by first | rfl | decide) ?_
 refine Aa rfl (B5 (Ac) Ab) ?_
 refine Aa rfl (A5 (Ap rfl <| Ac) (by first | rfl | decide) (Ac)) ?_
 refine Aa rfl (Ag (Ac)) ?_
 refine As rfl rfl (Ac) (by first | rfl | decide) ?_
 refine Aa rfl (Ag (Ba rfl <| Ap rfl <| Al rfl <| B2 (Ca he70 (by kernel_rfl)) <| B2 (Ca he66 (by kernel_rfl)) <| B2 (Ca he62 (by kernel_rfl)) <| Cw g19)) ?_
 refine As rfl rfl (Al rfl <| Ac) (by first | rfl | decide) ?_
 refine Aa rfl (B5 (Ac) Ab) ?_
 refine Aa rfl (A5 (Ap rfl <| Ac) (by first | rfl | decide) (Ac)) ?_
 refine Aa rfl (Ag (Ac)) ?_
 refine As rfl rfl (Ac) (by first | rfl | decide) ?_
 refine Aa rfl (Ag (Ba rfl <| Ay rfl <| Ap rfl <| Al rfl <| B2 (Ca he70 (by kernel_rfl)) <| B2 (Ca he66 (by kernel_rfl)) <| Cw g22)) ?_
 refine As rfl rfl (Al rfl <| Ac) (by first | rfl | decide) ?_
 refine Aa rfl (B5 (Ac) Ab) ?_
 refine Aa rfl (A5 (Ap rfl <| Ac) (by first | rfl | decide) (Ac)) ?_
 refine Aa rfl (Ag (Ac)) ?_
 refine As rfl rfl (Ac) (by first | rfl | decide) ?_
 refine Aa rfl (Ag (Ba rfl <| A9 rfl <| Ap rfl <| Al rfl <| B2 (Ca he70 (by kernel_rfl)) <| Cw g24)) ?_
 refine As rfl rfl (Al rfl <| Ac) (by first | rfl | decide) ?_
 refine Aa rfl (B5 (Ac) Ab) ?_
 refine Aa rfl (A5 (Ap rfl <| Ac) (by first | rfl | decide) (Ac)) ?_
 refine Aa rfl (Ag (Ac)) ?_
 refine As rfl rfl (Ac) (by first | rfl | decide) ?_
 refine Aa rfl (Ag (Ba rfl <| A9 rfl <| Ay rfl <| Ap rfl <| Al rfl <| B2 (Ca he70 (by kernel_rfl)) <| B2 (Ca he66 (by kernel_rfl)) <| B2 (Ca he62 (by kernel_rfl)) <| B2 (Ca he58 (by kernel_rfl)) <| A9 rfl <| Ac)) ?_
 refine As rfl rfl (Al rfl <| Ac) (by first | rfl | decide) ?_
 refine Aa rfl (B5 (Ac) Ab) ?_
 refine Aa rfl (A5 (Ap rfl <| Ac) (by first | rfl | decide) (Ac)) ?_
 refine Aa rfl (Ag (Ac)) ?_
 refine As rfl rfl (Ac) (by first | rfl | decide) ?_
 refine Aa rfl (Ag (Bs rfl <| Ap rfl <| Al rfl <| Cw g26)) ?_
 refine As rfl rfl (Al rfl <| Ac) (by first | rfl | decide) ?_
 refine Aa rfl (B5 (Ac) Ab) ?_
 refine Aa rfl (A5 (Ap rfl <| Ac) (by first | rfl | decide) (Ac)) ?_
 refine Aa rfl (Ag (Ac)) ?_
 refine As rfl rfl (Ac) (by first | rfl | decide) ?_
 refine Aa rfl (Ag (Bs rfl <| Ay rfl <| Ap rfl <| Al rfl <| B2 (Ca he70 (by kernel_rfl)) <| B2 (Ca he66 (by kernel_rfl)) <| B2 (Ca he62 (by kernel_rfl)) <| B2 (Ca he58 (by kernel_rfl)) <| Bs rfl <| Ba rfl <| Ay rfl <| Ac)) ?_
 refine As rfl rfl (Al rfl <| Ac) (by first | rfl | decide) ?_
 refine Aa rfl (B5 (Ac) Ab) ?_
 refine Aa rfl (A5 (Ap rfl <| Ac) (by first | rfl | decide) (Ac)) ?_
 refine Aa rfl (Ag (Ac)) ?_
 refine As rfl rfl (Ac) (by first | rfl | decide) ?_
 refine Aa rfl (Ag (Bs rfl <| A9 rfl <| Ap rfl <| Al rfl <| B2 (Ca he70 (by kernel_rfl)) <| B2 (Ca he66 (by kernel_rfl)) <| B2 (Ca he62 (by kernel_rfl)) <| B2 (Ca he58 (by kernel_rfl)) <| Bs rfl <| A9 rfl <| Ay rfl <| Al rfl <| Ac)) ?_
 refine As rfl rfl (Al rfl <| Ac) (by first | rfl | decide) ?_
 refine Bz rfl (Bb bd_37 Az (.cons Ab (.cons Ab .nil)) (result_ok _ _) (fun _ _ h => h)) ?_
 refine As rfl rfl (Ap rfl <| Ac) (by first | rfl | decide) ?_
 refine Bz rfl (Bb bd_37 Az (.cons Ab (.cons Ab .nil)) (result_ok _ _) (fun _ _ h => h)) ?_
 refine As rfl rfl (Ap rfl <| Al rfl <| Ac) (by first | rfl | decide) ?_
 refine Bz rfl (Bb bd_37 Az (.cons Ab (.cons Ab .nil)) (result_ok _ _) (fun _ _ h => h)) ?_
 refine As rfl rfl (Ay rfl <| Ac) (by first | rfl | decide) ?_
 refine Bm rfl (Do (offs := [(0, 2), (2, 2), (4, 2)]) (zl := [.int .i64 0, .int .i64 0, .int .i64 0, .int .i64 0, .int .i64 0, .int .i64 0]) Cz zr_63 rfl (.cons (Ap rfl <| Ac) rfl (.cons (Al rfl <| Ac) rfl (.cons (Ac) rfl .nil))) (by intro i p h; rcases i with _ | _ | _ | i <;> simp at h <;> subst h <;> rfl) (.cons rfl rfl (Nat.le_of_ble_eq_true rfl) (.cons (.here) (.cons (.next <| .here) .nil)) (.cons rfl rfl (Nat.le_of_ble_eq_true rfl) (.cons (.next <| .next <| .here) (.cons (.next <| .next <| .next <| .here) .nil)) (.cons rfl rfl (Nat.le_of_ble_eq_true rfl) (.cons (.next <| .next <| .next <| .next <| .here) (.cons (.next <| .next <| .next <| .next <| .next <| .here) .nil)) .nil))) (by decide) (by decide) fun b72 hb72 nb72 => ?_)
 refine Bq (i := 0) rfl hb72 .here fun F73 hF74 hz75 => ?_
 replace hq1 := hq1.mono hF74
 replace hq2 := hq2.mono hF74
 replace hq3 := hq3.mono hF74
 replace hq4 := hq4.mono hF74
 replace hq7 := hq7.mono hF74
 replace g18 := g18.mono hF74
 replace g20 := g20.mono hF74
 replace g21 := g21.mono hF74
 replace g23 := g23.mono hF74
 have hsl76 := resA_box3 hz75
 refine As rfl rfl (Ay rfl <| Al rfl <| Ac) (by first | rfl | decide) ?_
 refine Bz rfl (Bb bd_21 Az (.cons (Ay rfl <| Ac) (.cons (Ac) .nil)) (refSame_ok hq1 hsl76) (fun _ _ h => h)) ?_
 refine Aa rfl (A5 (Ay rfl <| Ap rfl <| Ac) (by first | rfl | decide) (Ac)) ?_
 refine Aa rfl (Ag (Ac)) ?_
 refine As rfl rfl (Ac) (by first | rfl | decide) ?_
 refine Aa rfl (Ag (Bs rfl <| Ba rfl <| Ap rfl <| Al rfl <| B2 (Ca he70 (by kernel_rfl)) <| B2 (Ca he66 (by kernel_rfl)) <| B2 (Ca he62 (by kernel_rfl)) <| B2 (Ca he58 (by kernel_rfl)) <| Bs rfl <| Ay rfl <| Al rfl <| Ac)) ?_
 refine As rfl rfl (Al rfl <| Ac) (by first | rfl | decide) ?_
 refine Bz rfl (Bb bd_37 Az (.cons Ab (.cons Ab .nil)) (result_ok _ _) (fun _ _ h => h)) ?_
 refine As rfl rfl (Ap rfl <| Ac) (by first | rfl | decide) ?_
 refine Bz rfl (Bb bd_37 Az (.cons Ab (.cons Ab .nil)) (result_ok _ _) (fun _ _ h => h)) ?_
 refine As rfl rfl (Ap rfl <| Al rfl <| Ac) (by first | rfl | decide) ?_
 refine Bz rfl (Bb bd_37 Az (.cons Ab (.cons Ab .nil)) (result_ok _ _) (fun _ _ h => h)) ?_
 refine As rfl rfl (Ay rfl <| Ac) (by first | rfl | decide) ?_
 refine Bm rfl (Do (offs := [(0, 2), (2, 2), (4, 2)]) (zl := [.int .i64 0, .int .i64 0, .int .i64 0, .int .i64 0, .int .i64 0, .int .i64 0]) Cz zr_63 rfl (.cons (Ap rfl <| Ac) rfl (.cons (Al rfl <| Ac) rfl (.cons (Ac) rfl .nil))) (by intro i p h; rcases i with _ | _ | _ | i <;> simp at h <;> subst h <;> rfl) (.cons rfl rfl (Nat.le_of_ble_eq_true rfl) (.cons (.here) (.cons (.next <| .here) .nil)) (.cons rfl rfl (Nat.le_of_ble_eq_true rfl) (.cons (.next <| .next <| .here) (.cons (.next <| .next <| .next <| .here) .nil)) (.cons rfl rfl (Nat.le_of_ble_eq_true rfl) (.cons (.next <| .next <| .next <| .next <| .here) (.cons (.next <| .next <| .next <| .next <| .next <| .here) .nil)) .nil))) (by decide) (by decide) fun b77 hb77 nb77 => ?_)
 refine Bq (i := 0) rfl hb77 .here fun F78 hF79 hz80 => ?_
 replace hq2 := hq2.mono hF79
 replace hq3 := hq3.mono hF79
 replace hq4 := hq4.mono hF79
 replace hq7 := hq7.mono hF79
 replace g18 := g18.mono hF79
 replace g20 := g20.mono hF79
 replace g21 := g21.mono hF79
 replace g23 := g23.mono hF79
 have hsl81 := resB_box3 hz80
 refine As rfl rfl (Ay rfl <| Al rfl <| Ac) (by first | rfl | decide) ?_
 refine Bz rfl (Bb bd_21 Az (.cons (Ay rfl <| Ac) (.cons (Ac) .nil)) (refSame_ok hq2 hsl81) (fun _ _ h => h)) ?_
 refine Aa rfl (A5 (Ay rfl <| Ap rfl <| Ac) (by first | rfl | decide) (Ac)) ?_
 refine Aa rfl (Ag (Ac)) ?_
 refine As rfl rfl (Ac) (by first | rfl | decide) ?_
 refine Aa rfl (Ag (Bs rfl <| Ba rfl <| A9 rfl <| Ap rfl <| Al rfl <| B2 (Ca he70 (by kernel_rfl)) <| B2 (Ca he66 (by kernel_rfl)) <| B2 (Ca he62 (by kernel_rfl)) <| B2 (Ca he58 (by kernel_rfl)) <| Ba rfl <| A9 rfl <| Al rfl <| Ac)) ?_
 refine As rfl rfl (Al rfl <| Ac) (by first | rfl | decide) ?_
 refine Bm rfl (B0 Bp C3 rfl (.cons Ab (.cons Ab (.cons Ab (.cons Ab .nil)))) rfl rfl (by decide) (by simp [Value.oneCell']) fun b82 hb82 nb82 => ?_)
 refine Bq (i := 0) rfl hb82 .here fun F83 hF84 hz85 => ?_
 replace hq3 := hq3.mono hF84
 replace hq4 := hq4.mono hF84
 replace hq7 := hq7.mono hF84
 replace g18 := g18.mono hF84
 replace g20 := g20.mono hF84
 replace g21 := g21.mono hF84
 replace g23 := g23.mono hF84
 have hsl86 := ints_box4 hz85
 refine As rfl rfl (Ap rfl <| Ac) (by first | rfl | decide) ?_
 refine Bz rfl (Bb bd_25 Az (.cons (Al rfl <| Ac) (.cons (Ac) .nil)) (refInts_ok hq3 hsl86) (fun _ _ h => h)) ?_
 refine Aa rfl (A5 (Ap rfl <| Al rfl <| Ac) (by first | rfl | decide) (Ac)) ?_
 refine Aa rfl (Ag (Ac)) ?_
 refine As rfl rfl (Ac) (by first | rfl | decide) ?_
 refine Aa rfl (Ag (Bs rfl <| Bs rfl <| B2 (Ca he70 (by kernel_rfl)) <| B2 (Ca he66 (by kernel_rfl)) <| B2 (Ca he62 (by kernel_rfl)) <| B2 (Ca he58 (by kernel_rfl)) <| Ba rfl <| A9 rfl <| Ac)) ?_
 refine As rfl rfl (Al rfl <| Ac) (by first | rfl | decide) ?_
 refine Bm rfl (B0 Bp C3 rfl (.cons Ab .nil) rfl rfl (by decide) (by simp [Value.oneCell']) fun b87 hb87 nb87 => ?_)
 refine Bq (i := 0) rfl hb87 .here fun F88 hF89 hz90 => ?_
 replace hq4 := hq4.mono hF89
 replace hq7 := hq7.mono hF89
 replace g18 := g18.mono hF89
 replace g20 := g20.mono hF89
 replace g21 := g21.mono hF89
 replace g23 := g23.mono hF89
 have hsl91 := Cj hz90
 refine As rfl rfl (Ap rfl <| Ac) (by first | rfl | decide) ?_
 refine Bz rfl (Bb bd_25 Az (.cons (Al rfl <| Ac) (.cons (Ac) .nil)) (refInts_ok hq4 hsl91) (fun _ _ h => h)) ?_
 refine Aa rfl (A5 (Ap rfl <| Al rfl <| Ac) (by first | rfl | decide) (Ac)) ?_
 refine Aa rfl (Ag (Ac)) ?_
 refine As rfl rfl (Ac) (by first | rfl | decide) ?_
 refine Aa rfl (Ag (Bs rfl <| Bs rfl <| Ay rfl <| Al rfl <| B2 (Ca he70 (by kernel_rfl)) <| B2 (Ca he66 (by kernel_rfl)) <| B2 (Ca he62 (by kernel_rfl)) <| B2 (Ca he58 (by kernel_rfl)) <| Ba rfl <| Ay rfl <| Ap rfl <| Al rfl <| Ac)) ?_
 refine As rfl rfl (Al rfl <| Ac) (by first | rfl | decide) ?_
 refine Aa rfl (B5 (Ac) Ab) ?_
 refine Aa rfl (A5 (Ap rfl <| Ac) (by first | rfl | decide) (Ac)) ?_
 refine Aa rfl (Ag (Ac)) ?_
 refine As rfl rfl (Ac) (by first | rfl | decide) ?_
 refine Aa rfl (Ag (Bs rfl <| Bs rfl <| A9 rfl <| Al rfl <| B2 (Ca he70 (by kernel_rfl)) <| B2 (Ca he66 (by kernel_rfl)) <| B2 (Ca he62 (by kernel_rfl)) <| B2 (Ca he58 (by kernel_rfl)) <| Al rfl <| Ac)) ?_
 refine As rfl rfl (Al rfl <| Ac) (by first | rfl | decide) ?_
 refine Bm rfl (B0 Bp C3 rfl (.cons Ab (.cons Ab (.cons Ab .nil))) rfl rfl (by decide) (by simp [Value.oneCell']) fun b92 hb92 nb92 => ?_)
 refine Bq (i := 0) rfl hb92 .here fun F93 hF94 hz95 => ?_
 replace hq7 := hq7.mono hF94
 replace g18 := g18.mono hF94
 replace g20 := g20.mono hF94
 replace g21 := g21.mono hF94
 replace g23 := g23.mono hF94
 have hsl96 := ints_box3 hz95
 refine As rfl rfl (Ap rfl <| Ac) (by first | rfl | decide) ?_
 refine Bz rfl (Bb bd_25 Az (.cons (Al rfl <| Ac) (.cons (Ac) .nil)) (refInts_ok hq7 hsl96) (fun _ _ h => h)) ?_
 refine Aa rfl (A5 (Ap rfl <| Al rfl <| Ac) (by first | rfl | decide) (Ac)) ?_
 refine Aa rfl (Ag (Ac)) ?_
 refine As rfl rfl (Ac) (by first | rfl | decide) ?_
 refine Aa rfl (Ag (Bs rfl <| Bs rfl <| A9 rfl <| Ay rfl <| Ap rfl <| B2 (Ca he70 (by kernel_rfl)) <| B2 (Ca he66 (by kernel_rfl)) <| B2 (Ca he62 (by kernel_rfl)) <| Cw rfl)) ?_
 refine As rfl rfl (Al rfl <| Ac) (by first | rfl | decide) ?_
 refine Bm rfl (B0 Bp C3 rfl (.cons Ab (.cons Ab .nil)) rfl rfl (by decide) (by simp [Value.oneCell']) fun b97 hb97 nb97 => ?_)
 refine Bq (i := 0) rfl hb97 .here fun F98 hF99 hz100 => ?_
 replace g18 := g18.mono hF99
 replace g20 := g20.mono hF99
 replace g21 := g21.mono hF99
 replace g23 := g23.mono hF99
 have hsl101 := n13_box2 hz100
 refine As rfl rfl (Ap rfl <| Ac) (by first | rfl | decide) ?_
 refine Bm rfl (B0 Bp C3 rfl (.cons Ab (.cons Ab (.cons Ab .nil))) rfl rfl (by decide) (by simp [Value.oneCell']) fun b102 hb102 nb102 => ?_)
 refine Bq (i := 0) rfl hb102 .here fun F103 hF104 hz105 => ?_
 replace g18 := g18.mono hF104
 replace g20 := g20.mono hF104
 replace g21 := g21.mono hF104
 replace g23 := g23.mono hF104
 replace hsl101 := hsl101.mono hF104
 have hsl106 := n013_box3 hz105
 refine As rfl rfl (Ap rfl <| Al rfl <| Ac) (by first | rfl | decide) ?_
 refine Bm rfl (B0 Bp C3 rfl (.cons Ab (.cons Ab (.cons Ab .nil))) rfl rfl (by decide) (by simp [Value.oneCell']) fun b107 hb107 nb107 => ?_)
 refine Bq (i := 0) rfl hb107 .here fun F108 hF109 hz110 => ?_
 replace g18 := g18.mono hF109
 replace g20 := g20.mono hF109
 replace g21 := g21.mono hF109
 replace g23 := g23.mono hF109
 replace hsl101 := hsl101.mono hF109
 replace hsl106 := hsl106.mono hF109
 have hsl111 := n123_box3 hz110
 refine As rfl rfl (Ay rfl <| Ac) (by first | rfl | decide) ?_
 refine Bm rfl (B0 Ey zr_28 rfl (.cons (Ap rfl <| Ac) (.cons (Al rfl <| Ac) (.cons (Ac) .nil))) rfl rfl (by decide) (by simp [Value.oneCell']) fun b112 hb112 nb112 => ?_)
 refine Bq (i := 0) rfl hb112 .here fun F113 hF114 hz115 => ?_
 replace g18 := g18.mono hF114
 replace g20 := g20.mono hF114
 replace g21 := g21.mono hF114
 replace g23 := g23.mono hF114
 replace hsl101 := hsl101.mono hF114
 replace hsl106 := hsl106.mono hF114
 replace hsl111 := hsl111.mono hF114
 have hsl116 := vals_box3 hz115
 refine As rfl rfl (Ay rfl <| Al rfl <| Ac) (by first | rfl | decide) ?_
 refine Bz rfl (Bb bd_30 Az (.cons (Ay rfl <| Ac) (.cons (Ac) .nil)) (alike_ok g18 (lsts3 hsl116 hsl101 hsl106 hsl111)) (fun _ _ h => h)) ?_
 refine Aa rfl (A5 (Ay rfl <| Ap rfl <| Ac) (by first | rfl | decide) (Ac)) ?_
 refine Aa rfl (Ag (Ac)) ?_
 refine As rfl rfl (Ac) (by first | rfl | decide) ?_
 refine Aa rfl (Ag (Bs rfl <| Bs rfl <| Ba rfl <| Ay rfl <| Ap rfl <| B2 (Ca he70 (by kernel_rfl)) <| B2 (Ca he66 (by kernel_rfl)) <| Cw rfl)) ?_
 refine As rfl rfl (Al rfl <| Ac) (by first | rfl | decide) ?_
 refine Bm rfl (B0 Bp C3 rfl (.cons Ab (.cons Ab .nil)) rfl rfl (by decide) (by simp [Value.oneCell']) fun b117 hb117 nb117 => ?_)
 refine Bq (i := 0) rfl hb117 .here fun F118 hF119 hz120 => ?_
 replace g20 := g20.mono hF119
 replace g21 := g21.mono hF119
 replace g23 := g23.mono hF119
 have hsl121 := n02_box2 hz120
 refine As rfl rfl (Ap rfl <| Ac) (by first | rfl | decide) ?_
 refine Bz rfl (Bb bd_25 Az (.cons (Al rfl <| Ac) (.cons (Ac) .nil)) (refInts_nat g20 hsl121) (fun _ _ h => h)) ?_
 refine Aa rfl (A5 (Ap rfl <| Al rfl <| Ac) (by first | rfl | decide) (Ac)) ?_
 refine Aa rfl (Ag (Ac)) ?_
 refine As rfl rfl (Ac) (by first | rfl | decide) ?_
 refine Aa rfl (Ag (Bs rfl <| Bs rfl <| Ba rfl <| A9 rfl <| Ap rfl <| Al rfl <| B2 (Ca he70 (by kernel_rfl)) <| B2 (Ca he66 (by kernel_rfl)) <| Cw rfl)) ?_
 refine As rfl rfl (Al rfl <| Ac) (by first | rfl | decide) ?_
 refine Bm rfl (B0 Bp C3 rfl (.cons Ab (.cons Ab (.cons Ab (.cons Ab .nil)))) rfl rfl (by decide) (by simp [Value.oneCell']) fun b122 hb122 nb122 => ?_)
 refine Bq (i := 0) rfl hb122 .here fun F123 hF124 hz125 => ?_
 replace g21 := g21.mono hF124
 replace g23 := g23.mono hF124
 have hsl126 := n0123_box4 hz125
 refine As rfl rfl (Ap rfl <| Ac) (by first | rfl | decide) ?_
 refine Bz rfl (Bb bd_25 Az (.cons (Al rfl <| Ac) (.cons (Ac) .nil)) (refInts_nat g21 hsl126) (fun _ _ h => h)) ?_
 refine Aa rfl (A5 (Ap rfl <| Al rfl <| Ac) (by first | rfl | decide) (Ac)) ?_
 refine Aa rfl (Ag (Ac)) ?_
 refine As rfl rfl (Ac) (by first | rfl | decide) ?_
 refine Aa rfl (Ag (Bs rfl <| Bs rfl <| Bs rfl <| B2 (Ca he70 (by kernel_rfl)) <| Cw rfl)) ?_
 refine As rfl rfl (Al rfl <| Ac) (by first | rfl | decide) ?_
 refine Bm rfl (B0 Bp C3 rfl (.cons Ab (.cons Ab .nil)) rfl rfl (by decide) (by simp [Value.oneCell']) fun b127 hb127 nb127 => ?_)
 refine Bq (i := 0) rfl hb127 .here fun F128 hF129 hz130 => ?_
 replace g23 := g23.mono hF129
 have hsl131 := n02_box2 hz130
 refine As rfl rfl (Ap rfl <| Ac) (by first | rfl | decide) ?_
 refine Bz rfl (Bb bd_25 Az (.cons (Al rfl <| Ac) (.cons (Ac) .nil)) (refInts_nat g23 hsl131) (fun _ _ h => h)) ?_
 refine Aa rfl (A5 (Ap rfl <| Al rfl <| Ac) (by first | rfl | decide) (Ac)) ?_
 refine Aa rfl (Ae (Ac)) ?_
 refine Ah <| Ad <| A6 <| Aw rfl (.tmp (Ac) .nil) ?_
 show _ = _
 first | rfl | decide
end Go.Proofs.Ytaikojfonleccaa
namespace Go.Proofs.Ytaikojfonleccaa
open Go.RowKit
theorem bd_22 : Body Try.prog 22 := Br (by kernel_rfl)
end Go.Proofs.Ytaikojfonleccaa
namespace Go.Proofs.Ytaikojfonleccaa
def ringL (bits n : Nat) : List Nat := selTo bits.testBit n
def ringN (s : Sale) (bits : Nat) : List Nat := if (ringL bits s.bidders.length).length = 1 then [] else ringL bits s.bidders.length
theorem mem_selTo {p : Nat → Bool} {k i : Nat} : i ∈ selTo p k ↔ i < k ∧ p i = true := by unfold selTo; simp
theorem selTo_asc {p : Nat → Bool} {k : Nat} : Asc (selTo p k) := List.Pairwise.sublist List.filter_sublist List.pairwise_lt_range
theorem ringN_asc {s : Sale} {bits : Nat} : Asc (ringN s bits) := by
 unfold ringN; split
 · exact .nil
 · exact selTo_asc
theorem ringN_lt {s : Sale} {bits : Nat} : ∀ i ∈ ringN s bits, i < s.bidders.length := by
 intro i hi; unfold ringN at hi; split at hi
 · cases hi
 · exact (mem_selTo.1 hi).1
theorem ringN_one {s : Sale} {bits : Nat} : (ringN s bits).length ≠ 1 := by
 unfold ringN; split
 · simp
 · assumption
theorem asc_cast {l : List Nat} (h : Asc l) : notAsc (castL l) = false := by
 unfold notAsc
 rw [List.any_eq_false]
 intro i hi
 have hi := List.mem_range.1 hi
 have hl : i < l.length := by simpa [castL] using hi
 simp only [decide_eq_true_eq, not_and, Int.not_le]
 intro h0
 have := List.pairwise_iff_getElem.1 h (i - 1) i (by omega) hl (by omega)
 simp [castL, hl, show i - 1 < l.length by omega]
 exact this
theorem ring_err {s : Sale} {l : List Nat} (h1 : Asc l) (h2 : ∀ b ∈ l, b < s.bidders.length) (h3 : l.length ≠ 1) : ringErr s (castL l) = 0 := by
 unfold ringErr
 rw [if_neg, if_neg (by rw [asc_cast h1]; simp), if_neg (by simpa [castL] using h3)]
 simp only [List.any_eq_true, not_exists, not_and]
 intro z hz
 obtain ⟨b, hb, rfl⟩ := List.mem_map.1 hz
 have := h2 b hb
 unfold inB
 simp; omega
theorem enterN_ring {s : Sale} (h0 : (checkS s).2.2 = 0) {bits : Nat} : enterErr s (castL (ringN s bits)) = 0 := by
 unfold enterErr; rw [if_neg (fun k => k h0)]; exact ring_err ringN_asc ringN_lt ringN_one
theorem enterN_bad {s : Sale} (h0 : (checkS s).2.2 ≠ 0) {ring : List Int} : enterErr s ring ≠ 0 := by
 unfold enterErr; rw [if_pos h0]; exact h0
theorem most_first {s : Sale} (hv : ValidS s) {l b k : Nat} (hk : k < s.bids.length) (h1 : (s.bid k).bidder = (b : Int)) (h2 : (s.bid k).lot = (l : Int)) : mostN s l b = (s.bid k).most := (bid_most hv hk ⟨h2, h1⟩).2
theorem most_none {s : Sale} {l b : Nat} (h : ∀ k, k < s.bids.length → ¬ ((s.bid k).bidder = (b : Int) ∧ (s.bid k).lot = (l : Int))) : mostN s l b = 0 := by
 rcases bid_or (s := s) (l := l) (b := b) s.bids.length with ⟨i, h1, h2, -, -⟩ | ⟨-, -, h2⟩
 · exact absurd ⟨h2.2, h2.1⟩ (h i h1)
 · exact h2
end Go.Proofs.Ytaikojfonleccaa
namespace Go.Proofs.Ytaikojfonleccaa
open Go.RowKit
theorem bit8_eq {m k : Nat} : decide ((((m / 2 ^ k : Nat) : Int) % 2) = 1) = m.testBit k := by
 rw [Nat.testBit_eq_decide_div_mod_eq]
 by_cases h : m / 2 ^ k % 2 = 1
 · rw [decide_eq_true h]; exact decide_eq_true (by omega)
 · rw [decide_eq_false h]; exact decide_eq_false (by omega)
set_option maxRecDepth 100000 in
theorem valid_ok {F : Heap} {vs vb vl vn vd : Value} {s : Sale} (hr : SaleR F vs vb vl vn vd s) : Ok Try.prog 38 [.agg #[vs, .int .i64 s.premium, .int .i64 s.fee, .int .i64 s.days, vb, vl, vn, vd]].toArray F fun u _ => u = .bool (decide ((checkS s).2.2 = 0)) := by
 refine Ok.intro Try.func38 rfl Try.ntmps38 rfl fun w0 => ?_
 refine Af <| Ai fun ds => Bm rfl (Ce (Ak rfl) rfl fun b1 hb1 nb1 => ?_)
 refine Aa rfl (Ae Ab) ?_
 refine Ah <| Ad <| Af <| Ai fun ds => Aa rfl (Bj Cd (Al rfl <| Ac) rfl rfl (Bn 0 rfl)) ?_
 refine Bz rfl (Bb bd_16 Az (.cons (Ac) .nil) (refCheckS_ok hr) (fun _ _ h => h.trans (show checkSV s = .tuple #[.int .i64 (checkS s).1, .int .i64 (checkS s).2.1, .int .i64 (checkS s).2.2] from rfl))) ?_
 refine Aa rfl (Ag (Ac)) ?_
 refine Aa rfl (A0 (Ac) rfl) ?_
 refine Aa rfl (A0 (Al rfl <| Ac) rfl) ?_
 refine Aa rfl (A0 (Ap rfl <| Ac) rfl) ?_
 refine Aa rfl (Ae (Ap rfl <| Ac)) ?_
 refine Aa rfl (Ae (Ap rfl <| Ac)) ?_
 refine Aa rfl (Ae (Ap rfl <| Ac)) ?_
 refine Ah <| Ad <| Af <| Ai fun ds => Aa rfl (Ag (Ac)) ?_
 refine Aa rfl (B5 (Ac) Ab) ?_
 refine Aa rfl (Ae (Ac)) ?_
 refine Ah <| Ad <| A6 <| Aw rfl (.tmp (Ac) .nil) ?_
 rfl
set_option maxRecDepth 100000 in
theorem ring_ok {F : Heap} {vs vb vl vn vd : Value} {s : Sale} (hr : SaleR F vs vb vl vn vd s) (hv : ValidS s) {bits : Nat} : Ok Try.prog 39 [.agg #[vs, .int .i64 s.premium, .int .i64 s.fee, .int .i64 s.days, vb, vl, vn, vd], .int .u8 (bits : Int)].toArray F fun u F' => Nats F' u (ringN s bits) := by
 refine Ok.intro Try.func39 rfl Try.ntmps39 rfl fun w0 => ?_
 have hL1 := hr.bidders.plain.lt
 have hnb := hv.nb
 refine Af <| Ai fun ds => Bm rfl (Ce (Ak rfl) rfl fun b1 hb1 nb1 => ?_)
 refine Aa rfl (Ae Ab) ?_
 refine Ah <| Ad <| Af <| Ai fun ds => Aa rfl (Ae Ab) ?_
 refine Ah <| Ad <| Af <| Af <| Ai fun ds => Aa rfl (Ae Ab) ?_
 refine Ah <| Ad <| A1 <| B1 [5, 6, 7, 8, 9, 10, 11, 12, 13, 14, 15, 16, 17, 18, 19, 20, 21, 22] (fun m e σ => ∃ k : Nat, m + k = s.bidders.length ∧ e 6 = .int .i64 (k : Int) ∧ ∃ v R, e 5 = v ∧ Own 3 1 v (ringL bits k).length ((ringL bits k).flatMap natE) R ∧ σ = ⟨F, (b1, bx 27 [vs, .int .i64 s.premium, .int .i64 s.fee, .int .i64 s.days, vb, vl, vn, vd]) :: R⟩) (s.bidders.length) ?_ ?_
 · exact ⟨0, by omega, (Ac), _, _, (Al rfl <| Ac), Own.nil, rfl⟩
 ·
  rintro m e _ ⟨k, hm, hs6, v5, R2, hs5, ho, rfl⟩; have hbl : (ringL bits k).length ≤ k := selTo_length
  by_cases hlt : k < s.bidders.length
  ·
   refine Af <| Af <| Ai fun ds => Aa rfl (Ag (At rfl hs6)) ?_
   refine Aa rfl (Aj C0 (Al rfl <| Am rfl <| Ap rfl <| Al rfl <| Ac)) ?_
   refine Aa rfl (Aq Cr (Ac) (Cell.own 0 rfl rfl)) ?_
   refine Aa rfl (Bi Cq (Ac) hr.bidders.plain) ?_
   refine Aa rfl (Bv (Ap rfl <| Al rfl <| Ac) (Ac)) ?_
   refine Ah <| Ad <| Ar (Ac) (by first | rfl | exact decide_eq_true (by omega)) ?_
   by_cases hb : bits.testBit k = true
   ·
    refine Ax <| Ad <| Af <| A1 <| Af <| Ai fun ds => Aa rfl (Ag (Ay rfl <| Al rfl <| Am rfl <| Ay rfl <| Ak rfl)) ?_
    refine Aa rfl (Ag (Ay rfl <| Ap rfl <| At rfl hs6)) ?_
    refine Aa rfl (q_shr (Al rfl <| Ac) (Ac) (k := k) rfl (by show k < 8; omega) E4) ?_
    refine Aa rfl (q_rem (Ac) Ab (Int.natCast_nonneg _) (by decide)) ?_
    refine Aa rfl (B5 (Ac) Ab) ?_
    refine Ah <| Ad <| Ar (Ac) (by rw [bit8_eq]; exact hb) ?_
    refine Ai fun ds => Aa rfl (Ag (A9 rfl <| Ap rfl <| At rfl hs5)) ?_
    refine Aa rfl (Ag (A9 rfl <| Ap rfl <| Al rfl <| At rfl hs6)) ?_
    refine Bm rfl (B0 Bp C3 rfl (.cons (Ac) .nil) rfl rfl (by decide) (by simp [Value.oneCell']) fun b3 hb3 nb3 => ?_)
    refine Bm rfl (Dg Bp el_3 (Ap rfl <| Ac) ho (Ac) (Dq (s := 1) 0 rfl rfl (by simp [Value.oneCell'])) (by omega) (by omega) (.s <| .s <| .z) .last fun v4 R5 ho6 => ?_)
    have ho2 := ho6.snoc (x := k) rfl rfl
    refine Aa rfl (Ae (Ac)) ?_
    refine Ah <| Bg <| Ad <| Cf (fun _ _ h => h.drop (.cons _ <| .cons_cons _ <| .refl _)) ?_
    refine Ai fun ds => Aa rfl (Ag (A9 rfl <| Ay rfl <| Ap rfl <| Al rfl <| At rfl hs6)) ?_
    refine Aa rfl (Bx (Ac) Ab rfl (by omega) (by omega)) ?_
    refine Aa rfl (Ae (Ac)) ?_
    refine Ah <| Ad ⟨_, m - 1, Off.eq (C4 rfl <| Ec rfl <| Bf), by omega, ?_⟩
    refine ⟨k + 1, by omega, (Ac), _, _, (Ap rfl <| Al rfl <| Ac), by rw [ringL, Dx, if_pos hb]; exact ho2, rfl⟩
   ·
    replace hb : bits.testBit k = false := by simpa using hb
    refine Ax <| Ad <| Af <| A1 <| Af <| Ai fun ds => Aa rfl (Ag (Ay rfl <| Al rfl <| Am rfl <| Ay rfl <| Ak rfl)) ?_
    refine Aa rfl (Ag (Ay rfl <| Ap rfl <| At rfl hs6)) ?_
    refine Aa rfl (q_shr (Al rfl <| Ac) (Ac) (k := k) rfl (by show k < 8; omega) E4) ?_
    refine Aa rfl (q_rem (Ac) Ab (Int.natCast_nonneg _) (by decide)) ?_
    refine Aa rfl (B5 (Ac) Ab) ?_
    refine Ah <| Ad <| Ao (Ac) (by rw [bit8_eq]; exact hb) ?_
    refine Ax <| Bg <| Ad <| Ai fun ds => Aa rfl (Ag (A9 rfl <| Ap rfl <| At rfl hs6)) ?_
    refine Aa rfl (Bx (Ac) Ab rfl (by omega) (by omega)) ?_
    refine Aa rfl (Ae (Ac)) ?_
    refine Ah <| Ad ⟨_, m - 1, Off.eq (D2 rfl <| Er rfl <| Es rfl <| Bf), by omega, ?_⟩
    refine ⟨k + 1, by omega, (Ac), _, _, (A9 rfl <| Ay rfl <| Al rfl <| At rfl hs5), by rw [ringL, Dx, if_neg (by rw [hb]; simp)]; exact ho, rfl⟩
  ·
   refine Af <| Af <| Ai fun ds => Aa rfl (Ag (At rfl hs6)) ?_
   refine Aa rfl (Aj C0 (Al rfl <| Am rfl <| Ap rfl <| Al rfl <| Ac)) ?_
   refine Aa rfl (Aq Cr (Ac) (Cell.own 0 rfl rfl)) ?_
   refine Aa rfl (Bi Cq (Ac) hr.bidders.plain) ?_
   refine Aa rfl (Bv (Ap rfl <| Al rfl <| Ac) (Ac)) ?_
   refine Ah <| Ad <| Ao (Ac) (by first | rfl | exact decide_eq_false (by omega)) ?_
   obtain rfl : k = s.bidders.length := by omega
   refine WC_freezeR (σ := ⟨_, _⟩) (by rfl) ho (.s <| .z) .last fun F7 hF8 hz9 => ?_
   have hn2 := ho.sl (fun _ => rfl) hz9 (by have := selTo_length (p := bits.testBit) (k := s.bidders.length); unfold ringL; omega)
   by_cases h1 : (ringL bits s.bidders.length).length = 1
   ·
    refine Bu ?_
    refine Bk <| Bk <| Bl <| Ad <| Af <| Af <| Ai fun ds => Aa rfl (Ag (Ay rfl <| Al rfl <| At rfl hs5)) ?_
    refine Aa rfl (Bi Bp (Ac) hn2.plain) ?_
    refine Aa rfl (B5 (Ac) Ab) ?_
    refine Ah <| Ad <| Ar (Ac) (decide_eq_true (by omega)) ?_
    refine Af <| Ai fun ds => Aa rfl (Ae Ab) ?_
    refine Ah <| Ad <| A6 <| A7 ?_
    refine Aw rfl (.tmp (Ac) .nil) ?_
    unfold ringN; rw [if_pos h1]
    exact Sl.nil
   ·
    refine Bu ?_
    refine Bk <| Bk <| Bl <| Ad <| Af <| Af <| Ai fun ds => Aa rfl (Ag (Ay rfl <| Al rfl <| At rfl hs5)) ?_
    refine Aa rfl (Bi Bp (Ac) hn2.plain) ?_
    refine Aa rfl (B5 (Ac) Ab) ?_
    refine Ah <| Ad <| Ao (Ac) (decide_eq_false (by omega)) ?_
    refine Ax <| Ad <| Af <| Ai fun ds => Aa rfl (Ag (A9 rfl <| At rfl hs5)) ?_
    refine Aa rfl (Ae (Ac)) ?_
    refine Ah <| Ad <| A6 <| Aw rfl (.tmp (Ac) .nil) ?_
    unfold ringN; rw [if_neg h1]
    exact hn2
set_option maxRecDepth 100000 in
theorem most_ok {F : Heap} {vs vb vl vn vd : Value} {s : Sale} (hr : SaleR F vs vb vl vn vd s) (hv : ValidS s) (b l : Nat) : Ok Try.prog 40 [.agg #[vs, .int .i64 s.premium, .int .i64 s.fee, .int .i64 s.days, vb, vl, vn, vd], .int .i64 (b : Int), .int .i64 (l : Int)].toArray F fun u _ => u = .int .i64 (mostN s l b) := by
 refine Ok.intro Try.func40 rfl Try.ntmps40 rfl fun w0 => ?_
 have hL1 := hr.bids.plain.lt
 refine Af <| Ai fun ds => Bm rfl (Ce (Ak rfl) rfl fun b1 hb1 nb1 => ?_)
 refine Aa rfl (Ae Ab) ?_
 refine Ah <| Ad <| Af <| Af <| Ai fun ds => Aa rfl (Ae Ab) ?_
 refine Ah <| Ad <| A1 <| B1 [6, 7, 8, 9, 10, 11, 12, 13, 14, 15, 16, 17, 18, 19, 20, 21, 22, 23, 24, 25, 26, 27, 28, 29, 30, 31, 32, 33, 34, 35, 36, 37, 38] (fun m e σ => ∃ k : Nat, m + k = s.bids.length ∧ e 7 = .int .i64 (k : Int) ∧ σ = ⟨F, [(b1, bx 27 [vs, .int .i64 s.premium, .int .i64 s.fee, .int .i64 s.days, vb, vl, vn, vd])]⟩ ∧ ∀ j, j < k → ¬ ((s.bid j).bidder = (b : Int) ∧ (s.bid j).lot = (l : Int))) (s.bids.length) ?_ ?_
 · exact ⟨0, by omega, (Ac), rfl, fun j hj => absurd hj (by omega)⟩
 ·
  rintro m e _ ⟨k, hm, hs7, rfl, hno⟩
  by_cases hlt : k < s.bids.length
  ·
   refine Af <| Af <| Ai fun ds => Aa rfl (Ag (At rfl hs7)) ?_
   refine Aa rfl (Aj Cn (Al rfl <| Am rfl <| Ap rfl <| Ac)) ?_
   refine Aa rfl (Aq Cy (Ac) (Cell.own 0 rfl rfl)) ?_
   refine Aa rfl (Bi C2 (Ac) hr.bids.plain) ?_
   refine Aa rfl (Bv (Ap rfl <| Al rfl <| Ac) (Ac)) ?_
   refine Ah <| Ad <| Ar (Ac) (by first | rfl | exact decide_eq_true (by omega)) ?_
   by_cases hq1 : (s.bid k).bidder = (b : Int)
   ·
    refine Ax <| Ad <| Af <| A1 <| Af <| Ai fun ds => Aa rfl (Aj Cn (Ay rfl <| Al rfl <| Am rfl <| Ap rfl <| Ac)) ?_
    refine Aa rfl (Aq Cy (Ac) (Cell.own 0 rfl rfl)) ?_
    refine Aa rfl (Ag (Ay rfl <| Ap rfl <| Al rfl <| At rfl hs7)) ?_
    refine Aa rfl (Be  C2 (Al rfl <| Ac) hr.bids.plain (Ac) rfl hlt) ?_
    refine Aa rfl (Bt Dd (Ac)) ?_
    refine Aa rfl (Aq Bd (Ac) (hr.bids.cell hlt rfl)) ?_
    refine Aa rfl (Ag (A9 rfl <| Ap rfl <| Al rfl <| Am rfl <| Ap rfl <| Al rfl <| Ak rfl)) ?_
    refine Aa rfl (B5 (Al rfl <| Ac) (Ac)) ?_
    refine Aa rfl (Ag (Ac)) ?_
    refine As rfl rfl (Ac) (by rw [Bw hlt]; exact decide_eq_true hq1) ?_
    refine Aa rfl (Aj Cn (A9 rfl <| Ay rfl <| Ap rfl <| Am rfl <| Ap rfl <| Ac)) ?_
    refine As rfl rfl (Al rfl <| Ac) (by rw [Bw hlt]; exact decide_eq_true hq1) ?_
    refine Aa rfl (Aq Cy (Ac) (Cell.own 0 rfl rfl)) ?_
    refine As rfl rfl (Ap rfl <| Ac) (by rw [Bw hlt]; exact decide_eq_true hq1) ?_
    refine Aa rfl (Ag (Ba rfl <| At rfl hs7)) ?_
    refine As rfl rfl (Ap rfl <| Al rfl <| Ac) (by rw [Bw hlt]; exact decide_eq_true hq1) ?_
    refine Aa rfl (Be  C2 (Al rfl <| Ac) hr.bids.plain (Ac) rfl hlt) ?_
    refine As rfl rfl (Ay rfl <| Ac) (by rw [Bw hlt]; exact decide_eq_true hq1) ?_
    refine Aa rfl (Bt En (Ac)) ?_
    refine As rfl rfl (Ay rfl <| Al rfl <| Ac) (by rw [Bw hlt]; exact decide_eq_true hq1) ?_
    refine Aa rfl (Aq Bd (Ac) (hr.bids.cell hlt rfl)) ?_
    refine As rfl rfl (Ay rfl <| Ap rfl <| Ac) (by rw [Bw hlt]; exact decide_eq_true hq1) ?_
    refine Aa rfl (Ag (Ba rfl <| Ay rfl <| Am rfl <| Ap rfl <| Al rfl <| Ak rfl)) ?_
    refine As rfl rfl (Ay rfl <| Ap rfl <| Al rfl <| Ac) (by rw [Bw hlt]; exact decide_eq_true hq1) ?_
    refine Aa rfl (B5 (Al rfl <| Ac) (Ac)) ?_
    refine Aa rfl (A5 (A9 rfl <| Ac) (by rw [Bw hlt]; exact decide_eq_true hq1) (Ac)) ?_
    refine Ah <| Ad ?_
    by_cases hq2 : (s.bid k).lot = (l : Int)
    ·
     refine Ar (Ac) (by rw [Bw hlt]; exact decide_eq_true hq2) ?_
     refine Af <| Ai fun ds => Aa rfl (Aj Cn (Ba rfl <| Ay rfl <| Ap rfl <| Al rfl <| Am rfl <| Ap rfl <| Ac)) ?_
     refine Aa rfl (Aq Cy (Ac) (Cell.own 0 rfl rfl)) ?_
     refine Aa rfl (Ag (Ba rfl <| A9 rfl <| Al rfl <| At rfl hs7)) ?_
     refine Aa rfl (Be  C2 (Al rfl <| Ac) hr.bids.plain (Ac) rfl hlt) ?_
     refine Aa rfl (Bt E6 (Ac)) ?_
     refine Aa rfl (Aq Bd (Ac) (hr.bids.cell hlt rfl)) ?_
     refine Aa rfl (Ae (Ac)) ?_
     refine Ah <| Ad <| A6 <| Bc (A7 (A7 (Bc (A7 ?_))))
     refine Aw rfl (.tmp (Ac) .nil) ?_
     show _ = _
     rw [most_first hv hlt hq1 hq2, ← Bw hlt]; rfl
    ·
     refine Ao (Ac) (by rw [Bw hlt]; exact decide_eq_false hq2) ?_
     refine Ax <| Bg <| Ad <| Ai fun ds => Aa rfl (Ag (Ba rfl <| Ay rfl <| Ap rfl <| Al rfl <| At rfl hs7)) ?_
     refine Aa rfl (Bx (Ac) Ab rfl (by omega) (by omega)) ?_
     refine Aa rfl (Ae (Ac)) ?_
     refine Ah <| Ad ⟨_, m - 1, Off.eq (C4 rfl <| D2 rfl <| Ec rfl <| Bf), by omega, ?_⟩
     refine ⟨k + 1, by omega, (Ac), rfl, fun j hj => ?_⟩
     rcases Nat.lt_succ_iff_lt_or_eq.1 hj with hj | rfl
     · exact hno j hj
     · exact fun h => hq2 h.2
   ·
    refine Ax <| Ad <| Af <| A1 <| Af <| Ai fun ds => Aa rfl (Aj Cn (Ay rfl <| Al rfl <| Am rfl <| Ap rfl <| Ac)) ?_
    refine Aa rfl (Aq Cy (Ac) (Cell.own 0 rfl rfl)) ?_
    refine Aa rfl (Ag (Ay rfl <| Ap rfl <| Al rfl <| At rfl hs7)) ?_
    refine Aa rfl (Be  C2 (Al rfl <| Ac) hr.bids.plain (Ac) rfl hlt) ?_
    refine Aa rfl (Bt Dd (Ac)) ?_
    refine Aa rfl (Aq Bd (Ac) (hr.bids.cell hlt rfl)) ?_
    refine Aa rfl (Ag (A9 rfl <| Ap rfl <| Al rfl <| Am rfl <| Ap rfl <| Al rfl <| Ak rfl)) ?_
    refine Aa rfl (B5 (Al rfl <| Ac) (Ac)) ?_
    refine Aa rfl (Ag (Ac)) ?_
    refine Au rfl rfl (Ac) (.inl (congrArg Value.bool (by rw [Bw hlt]; exact decide_eq_false hq1))) rfl ?_
    refine Au rfl rfl (Al rfl <| Ac) (.inl (congrArg Value.bool (by rw [Bw hlt]; exact decide_eq_false hq1))) rfl ?_
    refine Au rfl rfl (Ap rfl <| Ac) (.inl (congrArg Value.bool (by rw [Bw hlt]; exact decide_eq_false hq1))) rfl ?_
    refine Au rfl rfl (Ap rfl <| Al rfl <| Ac) (.inl (congrArg Value.bool (by rw [Bw hlt]; exact decide_eq_false hq1))) rfl ?_
    refine Au rfl rfl (Ay rfl <| Ac) (.inl (congrArg Value.bool (by rw [Bw hlt]; exact decide_eq_false hq1))) rfl ?_
    refine Au rfl rfl (Ay rfl <| Al rfl <| Ac) (.inl (congrArg Value.bool (by rw [Bw hlt]; exact decide_eq_false hq1))) rfl ?_
    refine Au rfl rfl (Ay rfl <| Ap rfl <| Ac) (.inl (congrArg Value.bool (by rw [Bw hlt]; exact decide_eq_false hq1))) rfl ?_
    refine Au rfl rfl (Ay rfl <| Ap rfl <| Al rfl <| Ac) (.inl (congrArg Value.bool (by rw [Bw hlt]; exact decide_eq_false hq1))) rfl ?_
    refine Aa rfl (A8 (A9 rfl <| Ac) (by rw [Bw hlt]; exact decide_eq_false hq1) Ab) ?_
    refine Ah <| Ad <| Ao (Ac) rfl ?_
    refine Ax <| Bg <| Ad <| Ai fun ds => Aa rfl (Ag (Ba rfl <| Ay rfl <| Ap rfl <| Al rfl <| At rfl hs7)) ?_
    refine Aa rfl (Bx (Ac) Ab rfl (by omega) (by omega)) ?_
    refine Aa rfl (Ae (Ac)) ?_
    refine Ah <| Ad ⟨_, m - 1, Off.eq (C4 rfl <| D2 rfl <| Ec rfl <| Bf), by omega, ?_⟩
    refine ⟨k + 1, by omega, (Ac), rfl, fun j hj => ?_⟩
    rcases Nat.lt_succ_iff_lt_or_eq.1 hj with hj | rfl
    · exact hno j hj
    · exact fun h => hq1 h.1
  ·
   refine Af <| Af <| Ai fun ds => Aa rfl (Ag (At rfl hs7)) ?_
   refine Aa rfl (Aj Cn (Al rfl <| Am rfl <| Ap rfl <| Ac)) ?_
   refine Aa rfl (Aq Cy (Ac) (Cell.own 0 rfl rfl)) ?_
   refine Aa rfl (Bi C2 (Ac) hr.bids.plain) ?_
   refine Aa rfl (Bv (Ap rfl <| Al rfl <| Ac) (Ac)) ?_
   refine Ah <| Ad <| Ao (Ac) (by first | rfl | exact decide_eq_false (by omega)) ?_
   obtain rfl : k = s.bids.length := by omega
   refine Bu ?_
   refine Bk <| Bk <| Bl <| Ad <| Af <| Ai fun ds => Aa rfl (Ae Ab) ?_
   refine Ah <| Ad <| A6 <| Aw rfl (.tmp (Ac) .nil) ?_
   show _ = _
   rw [most_none hno]; rfl
end Go.Proofs.Ytaikojfonleccaa
namespace Go.Proofs.Ytaikojfonleccaa
open Go.RowKit
theorem bd_39 : Body Try.prog 39 := Br (by kernel_rfl)
section
variable {s : Sale} {rg : List Int} {off : List Nat} {lots bits k : Nat}
end
end Go.Proofs.Ytaikojfonleccaa
namespace Go.Proofs.Ytaikojfonleccaa
section
variable {s : Sale} {r : Nat} {off : List Nat} {lb : Nat}
end
theorem bad_sell {s : Sale} {r : List Int} (h0 : (checkS s).2.2 ≠ 0) : enterErr s r ≠ 0 := enterN_bad h0
section
variable {s : Sale} {l : List Ent}
end
section
variable {s : Sale} {l : List Ent} {o : List Nat}
end
end Go.Proofs.Ytaikojfonleccaa
namespace Go.Proofs.Ytaikojfonleccaa
open Go.RowKit
theorem bd_38 : Body Try.prog 38 := Br (by kernel_rfl)
end Go.Proofs.Ytaikojfonleccaa
namespace Go.Proofs.Ytaikojfonleccaa
def greatTo (s : Sale) (l : Nat) : Nat → Int
 | 0 => 0
 | k + 1 => max (greatTo s l k) (mostN s l k)
theorem great_nonneg {s : Sale} {l : Nat} : ∀ k, 0 ≤ greatTo s l k
 | 0 => Int.le_refl _
 | k + 1 => by have := great_nonneg (s := s) (l := l) k; unfold greatTo; omega
theorem great_le {s : Sale} {l : Nat} {M : Int} (h0 : 0 ≤ M) : ∀ k, (∀ b, b < k → mostN s l b ≤ M) → greatTo s l k ≤ M
 | 0, _ => h0
 | k + 1, h => by have := great_le h0 k fun b hb => h b (by omega); have := h k (by omega); unfold greatTo; omega
theorem great_ge {s : Sale} {l b : Nat} : ∀ k, b < k → mostN s l b ≤ greatTo s l k
 | 0, h => absurd h (by omega)
 | k + 1, h => by
   unfold greatTo
   by_cases hb : b = k
   · subst hb; omega
   · have := great_ge (s := s) (l := l) (b := b) k (by omega); omega
theorem most_le {s : Sale} (hv : ValidS s) {l b : Nat} : 0 ≤ mostN s l b ∧ mostN s l b ≤ 100000 := most_bound hv (Nat.le_refl _)
theorem great_bound {s : Sale} (hv : ValidS s) {l k : Nat} : 0 ≤ greatTo s l k ∧ greatTo s l k ≤ 100000 := ⟨great_nonneg k, great_le (by omega) k fun _ _ => (most_le hv).2⟩
theorem most_or {s : Sale} {l b : Nat} : mostN s l b = 0 ∨ ∃ j, j < s.bids.length ∧ isBid s l b j ∧ mostN s l b = (s.bid j).most := by
 rcases bid_or (s := s) (l := l) (b := b) s.bids.length with ⟨i, h1, h2, -, h3⟩ | ⟨-, -, h2⟩
 · exact .inr ⟨i, h1, h2, h3⟩
 · exact .inl h2
/-- The greatest bid is the first one's. -/
theorem great_top {s : Sale} (hv : ValidS s) {l i b : Nat} (ht : topS s l (fun _ => true) = (i : Int)) (hb : b < s.bidders.length) (hi : isBid s l b i) : greatTo s l s.bidders.length = (s.bid i).most ∧ mostN s l b = (s.bid i).most := by
 obtain ⟨h1, h2, -, h4⟩ := top_lt ht
 have hm := (bid_most hv h1 hi).2
 have h0 := hv.bd i h1
 refine ⟨Int.le_antisymm (great_le (by omega) _ fun c hc => ?_) (by rw [← hm]; exact great_ge _ hb), hm⟩
 rcases most_or (s := s) (l := l) (b := c) with h | ⟨j, h5, h6, h7⟩
 · omega
 · have := h4 j h5 h6.1 rfl; omega
theorem great_none {s : Sale} {l : Nat} (ht : topS s l (fun _ => true) < 0) : greatTo s l s.bidders.length = 0 := by
 refine Int.le_antisymm (great_le (by omega) _ fun c hc => ?_) (great_nonneg _)
 rcases most_or (s := s) (l := l) (b := c) with h | ⟨j, h5, h6, h7⟩
 · omega
 · rcases E3 (s := s) (lot := l) (mem := fun _ => true) s.bids.length with ⟨-, h2⟩ | ⟨i, -, -, -, h3, -⟩
   · exact (h2 j h5 h6.1 rfl).elim
   · unfold topS at ht; omega
theorem wi_nobody {s : Sale} (hv : ValidS s) {l : Nat} (hl : l < s.lots.length) {ring : List Int} (h : (soldS s l ring).bidder = -1) : (soldS s l ring).price = 0 ∧ greatTo s l s.bidders.length < (s.lot l).reserve := by
 have hr := hv.lo l hl
 rcases sold_or hv hl ring with ⟨h1, h2⟩ | ⟨i, b, h1, h2, h3, h4, h5, h6⟩
 · rw [h1]
   refine ⟨rfl, ?_⟩
   rcases E3 (s := s) (lot := l) (mem := fun _ => true) s.bids.length with ⟨h3, -⟩ | ⟨i, h3, h4, -, h5, -⟩
   · have h3' : topS s l (fun _ => true) = -1 := h3
     rw [great_none (by omega)]; omega
   · have h5' : topS s l (fun _ => true) = (i : Int) := h5
     obtain ⟨b, hb, -, hib⟩ := isBid_of hv h3 h4
     rw [(great_top hv h5' hb hib).1]
     rw [h5'] at h2
     simp only [Int.toNat_natCast] at h2
     omega
 · rw [h6] at h; simp only at h; omega
theorem wi_some {s : Sale} (hv : ValidS s) {l : Nat} (hl : l < s.lots.length) {ring : List Int} (h : (soldS s l ring).bidder ≠ -1) :
   ∃ b : Nat, b < s.bidders.length ∧ (soldS s l ring).bidder = (b : Int) ∧ mostN s l b = greatTo s l s.bidders.length ∧ (s.lot l).reserve ≤ (soldS s l ring).price ∧ (soldS s l ring).price ≤ greatTo s l s.bidders.length ∧
     ∀ j ∈ biddingL s l ring, (s.bid j).bidder ≠ (soldS s l ring).bidder → (s.bid j).most < behindS s (soldS s l ring).price := by
 have hr := hv.lo l hl
 rcases sold_or hv hl ring with ⟨h1, -⟩ | ⟨i, b, h1, h2, h3, h4, h5, h6⟩
 · rw [h1] at h; exact absurd rfl h
 · obtain ⟨hg, hm⟩ := great_top hv h3 h2 h4
   have h7 := climb_le hv (o := othersL s i (biddingL s l ring)) (show 0 ≤ (s.lot l).reserve by omega) h5
   have h8 := climb_ge hv (o := othersL s i (biddingL s l ring)) (m := (s.bid i).most) (show 0 ≤ (s.lot l).reserve by omega)
   have h9 := climb_not hv (o := othersL s i (biddingL s l ring)) (show 0 ≤ (s.lot l).reserve by omega) h5
   rw [h6]
   refine ⟨b, h2, rfl, by rw [hg, hm], h8, by rw [hg]; exact h7, fun j hj hne => ?_⟩
   simp only at hne ⊢
   have hjl := Ei j hj
   have hlot : (s.bid j).lot = (l : Int) := by
     have := (List.mem_filter.1 hj).2
     unfold biddingP at this
     rw [Bool.and_eq_true, decide_eq_true_iff] at this
     exact this.1
   have hji : (j : Int) ≠ (i : Int) := fun he => by
     have : j = i := by omega
     subst this
     exact hne h4.2
   have h10 := (E1 (c := fun i_ : Nat => (i_ : Int) ≠ (i : Int)) (f := fun i_ => (s.bid i_).most) (l := biddingL s l ring) (a := 0)).2 j hj hji
   have h11 : (s.bid j).most ≤ othersL s i (biddingL s l ring) := h10
   have h12 := (top_lt h3).2.2.2 j hjl hlot rfl
   have h13 := behindS_lt hv (p := climbS s (s.lot l).reserve (othersL s i (biddingL s l ring)) (s.bid i).most) (by omega)
   by_cases hc : behindS s (climbS s (s.lot l).reserve (othersL s i (biddingL s l ring)) (s.bid i).most) ≤ (s.bid j).most
   · exact absurd ⟨by omega, by omega⟩ h9
   · omega
theorem next_ok' {s : Sale} (h0 : (checkS s).2.2 = 0) {p : Int} (h1 : 0 ≤ p) (h2 : p ≤ 100000) : nextE s p = (behindS s p, 0) := by
 unfold nextE
 rw [if_neg (fun k => k h0), if_neg (by unfold inB; simp; omega)]
end Go.Proofs.Ytaikojfonleccaa
namespace Go.Proofs.Ytaikojfonleccaa
open Go.RowKit
theorem bd_40 : Body Try.prog 40 := Br (by kernel_rfl)
theorem most_okI {F : Heap} {vs vb vl vn vd : Value} {s : Sale} (hr : SaleR F vs vb vl vn vd s) (hv : ValidS s) {b l : Nat} {z y : Int} (hz : z = (b : Int)) (hy : y = (l : Int)) : Ok Try.prog 40 [.agg #[vs, .int .i64 s.premium, .int .i64 s.fee, .int .i64 s.days, vb, vl, vn, vd], .int .i64 z, .int .i64 y].toArray F fun u _ => u = .int .i64 (mostN s l b) := by
 subst hz; subst hy; exact most_ok hr hv b l
set_option maxRecDepth 100000 in
theorem withinLaw_ok {F : Heap} {vs vb vl vn vd : Value} {s : Sale} (hr : SaleR F vs vb vl vn vd s) {bits : Nat} : Ok Try.prog 7 [.agg #[vs, .int .i64 s.premium, .int .i64 s.fee, .int .i64 s.days, vb, vl, vn, vd], .int .u8 (bits : Int)].toArray F fun u _ => u = .bool true := by
 refine Ok.intro Try.func7 rfl Try.ntmps7 rfl fun w0 => ?_
 have hle0 : F.le F := Heap.le_refl _
 by_cases h0 : (checkS s).2.2 = 0
 ·
  have hv := C8 h0
  have hL := hv.nl
  have hL2 := hv.nb
  have hL3 := hv.nd
  have hal := Ej (s := s) (ring := castL (ringN s bits))
  refine Af <| Ai fun ds => Bm rfl (Ce (Ak rfl) rfl fun b1 hb1 nb1 => ?_)
  refine Aa rfl (Ae Ab) ?_
  refine Ah <| Ad <| Af <| Af <| Ai fun ds => Aa rfl (Bj Cd (Al rfl <| Ac) rfl rfl (Bn 0 rfl)) ?_
  refine Bz rfl (Bb bd_38 Az (.cons (Ac) .nil) (valid_ok hr) (fun _ _ h => h)) ?_
  refine Aa rfl (Cv (Ac)) ?_
  refine Ah <| Ad <| Ao (Ac) (by simp [h0]) ?_
  refine Ax <| Ad <| Af <| Ai fun ds => Aa rfl (Bj Cd (Ay rfl <| Ac) rfl rfl (Bn 0 rfl)) ?_
  refine Aa rfl (Ag (Ay rfl <| Ap rfl <| Ak rfl)) ?_
  refine Bm rfl (C1 bd_39 Az (.cons (Al rfl <| Ac) (.cons (Ac) .nil)) (ring_ok hr hv) fun v2 F3 hr4 hF5 => ?_)
  replace hr := hr.mono hF5
  replace hle0 := Heap.le_trans hle0 hF5
  have hn := hr4
  have hx := hn.ints
  change Ints _ _ (castL (ringN s bits)) at hx
  refine Aa rfl (Ae (Ac)) ?_
  refine Ah <| Ad <| Af <| Ai fun ds => Aa rfl (Bj Cd (A9 rfl <| Ac) rfl rfl (Bn 0 rfl)) ?_
  refine Aa rfl (Ag (Al rfl <| Ac)) ?_
  refine Bm rfl (C1 bd_19 Az (.cons (Al rfl <| Ac) (.cons (Ac) .nil)) ((sellTop_ok hr hx).mono fun u F2 _ h => (by rw [sellE_ok (enterN_ring h0)] at h; exact h : ∃ w, u = .tuple #[w, .int .i64 0] ∧ Sl F2 w 2 Res.enc (allS s (castL (ringN s bits))))) fun v6 F7 hr8 hF9 => ?_)
  replace hr := hr.mono hF9
  replace hle0 := Heap.le_trans hle0 hF9
  replace hx := hx.mono hF9
  obtain ⟨hq_, rfl, hq⟩ := hr8
  refine Aa rfl (Ag (Ac)) ?_
  refine Aa rfl (A0 (Ac) rfl) ?_
  refine Aa rfl (A0 (Al rfl <| Ac) rfl) ?_
  refine Aa rfl (Ae (Al rfl <| Ac)) ?_
  refine Aa rfl (Ae (Al rfl <| Ac)) ?_
  refine Ah <| Ad <| Af <| Af <| Ai fun ds => Aa rfl (Ag (Ac)) ?_
  refine Aa rfl (B8 (Ac) Ab) ?_
  refine Aa rfl (Ag (Ac)) ?_
  refine As rfl rfl (Ac) (by first | rfl | decide) ?_
  refine Aa rfl (Ag (Ay rfl <| Ac)) ?_
  refine As rfl rfl (Al rfl <| Ac) (by first | rfl | decide) ?_
  refine Aa rfl (Bi Cz (Ac) hq.plain) ?_
  refine As rfl rfl (Ap rfl <| Ac) (by first | rfl | decide) ?_
  refine Aa rfl (Aj Cu (Ba rfl <| Ay rfl <| Al rfl <| Ac)) ?_
  refine As rfl rfl (Ap rfl <| Al rfl <| Ac) (by first | rfl | decide) ?_
  refine Aa rfl (Aq C9 (Ac) (Cell.own 0 rfl rfl)) ?_
  refine As rfl rfl (Ay rfl <| Ac) (by first | rfl | decide) ?_
  refine Aa rfl (Bi Da (Ac) hr.lots.plain) ?_
  refine As rfl rfl (Ay rfl <| Al rfl <| Ac) (by first | rfl | decide) ?_
  refine Aa rfl (B8 (Ap rfl <| Al rfl <| Ac) (Ac)) ?_
  refine Aa rfl (A8 (Ay rfl <| Ap rfl <| Ac) (by first | rfl | decide) (Ac)) ?_
  refine Ah <| Ad <| Ao (Ac) (decide_eq_false (by omega)) ?_
  refine Ax <| Ad <| Af <| Af <| Ai fun ds => Aa rfl (Ae Ab) ?_
  refine Ah <| Ad <| A1 <| B1 [4, 10, 11, 12, 13, 14, 15, 16, 17, 50, 51, 52, 53, 54, 55, 56, 57, 58, 59, 60, 61, 62, 63, 64, 65, 66, 67, 68, 69, 70, 71, 72, 73, 74, 75, 76, 77, 78, 79, 80, 81, 82, 83, 84, 85, 86, 87, 88, 89, 90, 91, 92, 93, 94, 95, 96, 97, 98, 99, 100, 101, 102, 103, 104, 105, 106, 107, 108, 109, 110, 111, 112, 113, 114, 115, 116, 117, 118, 119, 120, 121, 122, 123, 124, 125, 126, 127, 128, 129, 130, 131, 132, 133, 134, 135, 136, 137, 138, 139, 140, 141, 142, 143, 144, 145, 146, 147, 148, 149, 150, 151, 152, 153, 154, 155, 156, 157, 158, 159, 160, 161, 162, 163, 164, 165, 166, 167, 168, 169, 170, 171, 172, 173, 174, 175, 176, 177, 178, 179, 180, 181, 182, 183, 184, 185, 186] (fun m e σ => ∃ G, F.le G ∧ F7.le G ∧ ∃ k : Nat, m + k = (allS s (castL (ringN s bits))).length ∧ e 10 = .int .i64 (k : Int) ∧ σ = ⟨G, [(b1, bx 27 [vs, .int .i64 s.premium, .int .i64 s.fee, .int .i64 s.days, vb, vl, vn, vd])]⟩) ((allS s (castL (ringN s bits))).length) ?_ ?_
  · exact ⟨_, hle0, Heap.le_refl _, 0, by omega, (Ac), rfl⟩
  ·
   rintro m e _ ⟨G, hle0, hFG, k, hm, hs10, rfl⟩; replace hr := hr.mono hFG; replace hx := hx.mono hFG; replace hq := hq.mono hFG
   by_cases hlt : k < (allS s (castL (ringN s bits))).length
   ·
    have hk1 : k < s.lots.length := by rw [Ej] at hlt; exact hlt
    have ha1 : (allS s (castL (ringN s bits)))[k] = soldS s k (castL (ringN s bits)) := allS_at hlt
    have hbd := (Eu hv hk1 (castL (ringN s bits))).2.2
    rw [← ha1] at hbd
    refine Af <| Af <| Ai fun ds => Aa rfl (Ag (At rfl hs10)) ?_
    refine Aa rfl (Ag (Al rfl <| Am rfl <| A9 rfl <| Ay rfl <| Ac)) ?_
    refine Aa rfl (Bi Cz (Ac) hq.plain) ?_
    refine Aa rfl (Bv (Ap rfl <| Ac) (Ac)) ?_
    refine Ah <| Ad <| Ar (Ac) (by first | rfl | exact decide_eq_true (by omega)) ?_
    refine Ax <| Ad <| Af <| A1 <| Af <| Ai fun ds => Aa rfl (Ae Ab) ?_
    refine Ah <| Ad <| Af <| Af <| Ai fun ds => Aa rfl (Ae Ab) ?_
    refine Ah <| Ad <| A1 <| B1 [11, 12, 56, 57, 58, 59, 60, 61, 62, 63, 64, 65, 66, 67, 68] (fun m e σ => ∃ b : Nat, m + b = s.bidders.length ∧ e 12 = .int .i64 (b : Int) ∧ e 11 = .int .i64 (greatTo s k b) ∧ σ = ⟨G, [(b1, bx 27 [vs, .int .i64 s.premium, .int .i64 s.fee, .int .i64 s.days, vb, vl, vn, vd])]⟩) (s.bidders.length) ?_ ?_
    · exact ⟨0, by omega, (Ac), (Al rfl <| Ac), rfl⟩
    ·
     rintro m2 e2 _ ⟨b, hm2, ht12, ht11, rfl⟩
     by_cases hb : b < s.bidders.length
     ·
      have hgb := great_bound hv (l := k) (k := b)
      have hmb := most_le hv (l := k) (b := b)
      refine Af <| Af <| Ai fun ds => Aa rfl (Ag (At rfl ht12)) ?_
      refine Aa rfl (Aj C0 (Al rfl <| Am rfl <| Ay rfl <| Ap rfl <| Am rfl <| Ba rfl <| A9 rfl <| Ap rfl <| Al rfl <| Ac)) ?_
      refine Aa rfl (Aq Cr (Ac) (Cell.own 0 rfl rfl)) ?_
      refine Aa rfl (Bi Cq (Ac) hr.bidders.plain) ?_
      refine Aa rfl (Bv (Ap rfl <| Al rfl <| Ac) (Ac)) ?_
      refine Ah <| Ad <| Ar (Ac) (by first | rfl | exact decide_eq_true (by omega)) ?_
      refine Ax <| Ad <| Af <| A1 <| Ai fun ds => Aa rfl (Ag (Ay rfl <| Al rfl <| At rfl ht11)) ?_
      refine Aa rfl (Bj Cd (Ay rfl <| Ap rfl <| Am rfl <| Ay rfl <| Ap rfl <| Am rfl <| Ba rfl <| A9 rfl <| Ap rfl <| Al rfl <| Ac) rfl rfl (Bn 0 rfl)) ?_
      refine Aa rfl (Ag (Ay rfl <| Ap rfl <| Al rfl <| At rfl ht12)) ?_
      refine Aa rfl (Ag (A9 rfl <| Am rfl <| Ay rfl <| Ap rfl <| At rfl hs10)) ?_
      refine Bz rfl (Bb bd_40 Az (.cons (Ap rfl <| Ac) (.cons (Al rfl <| Ac) (.cons (Ac) .nil))) (most_ok hr hv b k) (fun _ _ h => h)) ?_
      refine Aa rfl (q_max2 (Ay rfl <| Ac) (Ac)) ?_
      refine Aa rfl (Ae (Ac)) ?_
      refine Ah <| Bg <| Ad <| Ai fun ds => Aa rfl (Ag (A9 rfl <| Ay rfl <| At rfl ht12)) ?_
      refine Aa rfl (Bx (Ac) Ab rfl (by omega) (by omega)) ?_
      refine Aa rfl (Ae (Ac)) ?_
      refine Ah <| Ad ⟨_, m2 - 1, Off.eq (D2 rfl <| Er rfl <| Ec rfl <| Es rfl <| Bf), by omega, ?_⟩
      exact ⟨b + 1, by omega, (Ac), (Ap rfl <| Al rfl <| Ac), rfl⟩
     ·
      refine Af <| Af <| Ai fun ds => Aa rfl (Ag (At rfl ht12)) ?_
      refine Aa rfl (Aj C0 (Al rfl <| Am rfl <| Ay rfl <| Ap rfl <| Am rfl <| Ba rfl <| A9 rfl <| Ap rfl <| Al rfl <| Ac)) ?_
      refine Aa rfl (Aq Cr (Ac) (Cell.own 0 rfl rfl)) ?_
      refine Aa rfl (Bi Cq (Ac) hr.bidders.plain) ?_
      refine Aa rfl (Bv (Ap rfl <| Al rfl <| Ac) (Ac)) ?_
      refine Ah <| Ad <| Ao (Ac) (by first | rfl | exact decide_eq_false (by omega)) ?_
      obtain rfl : b = s.bidders.length := by omega
      by_cases hno : (soldS s k (castL (ringN s bits))).bidder = -1
      ·
       obtain ⟨hw1, hw2⟩ := wi_nobody hv hk1 hno
       refine Bu ?_
       refine Bk <| Bk <| Bl <| Ad <| Af <| Af <| Ai fun ds => Aa rfl (Ag (Ay rfl <| Al rfl <| Am rfl <| Ay rfl <| Ap rfl <| Am rfl <| A9 rfl <| Ay rfl <| Ac)) ?_
       refine Aa rfl (Ag (Ay rfl <| Ap rfl <| Am rfl <| Ay rfl <| Ap rfl <| At rfl hs10)) ?_
       refine Aa rfl (Be  Cz (Al rfl <| Ac) hq.plain (Ac) rfl hlt) ?_
       refine Aa rfl (Bt D5 (Ac)) ?_
       refine Aa rfl (Aq Bd (Ac) (hq.cell hlt rfl)) ?_
       refine Aa rfl (B5 (Ac) Ab) ?_
       refine Ah <| Ad <| Ar (Ac) (by rw [ha1]; exact decide_eq_true hno) ?_
       refine Af <| Af <| Ai fun ds => Aa rfl (Ag (A9 rfl <| Ap rfl <| Al rfl <| Am rfl <| Ay rfl <| Ap rfl <| Am rfl <| A9 rfl <| Ay rfl <| Ac)) ?_
       refine Aa rfl (Ag (A9 rfl <| Ay rfl <| Am rfl <| Ay rfl <| Ap rfl <| At rfl hs10)) ?_
       refine Aa rfl (Be  Cz (Al rfl <| Ac) hq.plain (Ac) rfl hlt) ?_
       refine Aa rfl (Bt Et (Ac)) ?_
       refine Aa rfl (Aq Bd (Ac) (hq.cell hlt rfl)) ?_
       refine Aa rfl (B8 (Ac) Ab) ?_
       refine Aa rfl (Ag (Ac)) ?_
       refine As rfl rfl (Ac) (by rw [ha1]; exact decide_eq_false (fun h => h hw1)) ?_
       refine Aa rfl (Ag (Ba rfl <| Ap rfl <| At rfl ht11)) ?_
       refine As rfl rfl (Al rfl <| Ac) (by rw [ha1]; exact decide_eq_false (fun h => h hw1)) ?_
       refine Aa rfl (Aj Cu (Ba rfl <| Ap rfl <| Al rfl <| Am rfl <| Ay rfl <| Ap rfl <| Am rfl <| Ba rfl <| A9 rfl <| Ap rfl <| Al rfl <| Ac)) ?_
       refine As rfl rfl (Ap rfl <| Ac) (by rw [ha1]; exact decide_eq_false (fun h => h hw1)) ?_
       refine Aa rfl (Aq C9 (Ac) (Cell.own 0 rfl rfl)) ?_
       refine As rfl rfl (Ap rfl <| Al rfl <| Ac) (by rw [ha1]; exact decide_eq_false (fun h => h hw1)) ?_
       refine Aa rfl (Ag (Ba rfl <| Ay rfl <| Al rfl <| Am rfl <| Ay rfl <| Ap rfl <| At rfl hs10)) ?_
       refine As rfl rfl (Ay rfl <| Ac) (by rw [ha1]; exact decide_eq_false (fun h => h hw1)) ?_
       refine Aa rfl (Be  Da (Al rfl <| Ac) hr.lots.plain (Ac) rfl hk1) ?_
       refine As rfl rfl (Ay rfl <| Al rfl <| Ac) (by rw [ha1]; exact decide_eq_false (fun h => h hw1)) ?_
       refine Aa rfl (Bt fd_69_2 (Ac)) ?_
       refine As rfl rfl (Ay rfl <| Ap rfl <| Ac) (by rw [ha1]; exact decide_eq_false (fun h => h hw1)) ?_
       refine Aa rfl (Aq Bd (Ac) (hr.lots.cell hk1 rfl)) ?_
       refine As rfl rfl (Ay rfl <| Ap rfl <| Al rfl <| Ac) (by rw [ha1]; exact decide_eq_false (fun h => h hw1)) ?_
       refine Aa rfl (Di (Ay rfl <| Ap rfl <| Ac) (Ac)) ?_
       refine Aa rfl (A8 (A9 rfl <| Ac) (by rw [ha1]; exact decide_eq_false (fun h => h hw1)) (Ac)) ?_
       refine Ah <| Ad <| Ao (Ac) (by rw [lot_at hk1]; exact decide_eq_false (by omega)) ?_
       refine Ax <| Ad <| Bu ?_
       refine Bk (Bl ?_)
       refine Ad <| Ai fun ds => Aa rfl (Ag (Ba rfl <| A9 rfl <| Ap rfl <| Al rfl <| Am rfl <| Ay rfl <| Ap rfl <| At rfl hs10)) ?_
       refine Aa rfl (Bx (Ac) Ab rfl (by omega) (by omega)) ?_
       refine Aa rfl (Ae (Ac)) ?_
       refine Ah <| Ad ⟨_, m - 1, Off.eq (C4 rfl <| D2 rfl <| Er rfl <| Ec rfl <| off_in rfl <| Er rfl <| Ec rfl <| Bf), by omega, ?_⟩
       exact ⟨_, hle0, hFG, k + 1, by omega, (Ac), rfl⟩
      ·
       obtain ⟨b, hw1, hbe, hw3, hw4, hw5, hw6⟩ := wi_some hv hk1 hno
       rw [← ha1] at hbe hw4 hw5 hw6
       refine Bu ?_
       refine Bk <| Bk <| Bl <| Ad <| Af <| Af <| Ai fun ds => Aa rfl (Ag (Ay rfl <| Al rfl <| Am rfl <| Ay rfl <| Ap rfl <| Am rfl <| A9 rfl <| Ay rfl <| Ac)) ?_
       refine Aa rfl (Ag (Ay rfl <| Ap rfl <| Am rfl <| Ay rfl <| Ap rfl <| At rfl hs10)) ?_
       refine Aa rfl (Be  Cz (Al rfl <| Ac) hq.plain (Ac) rfl hlt) ?_
       refine Aa rfl (Bt D5 (Ac)) ?_
       refine Aa rfl (Aq Bd (Ac) (hq.cell hlt rfl)) ?_
       refine Aa rfl (B5 (Ac) Ab) ?_
       refine Ah <| Ad <| Ao (Ac) (by rw [ha1]; exact decide_eq_false hno) ?_
       refine Ax <| Ad <| Af <| Af <| Cm (.inl rfl) (fun _ _ h => h) (by kernel_rfl) (by kernel_rfl) fun ds => ?_
       refine A2 rfl (Ag (A9 rfl <| Ap rfl <| Al rfl <| Am rfl <| Ay rfl <| Ap rfl <| Am rfl <| A9 rfl <| Ay rfl <| Ac)) ?_
       refine A2 rfl (Ag (A9 rfl <| Ay rfl <| Am rfl <| Ay rfl <| Ap rfl <| At rfl hs10)) ?_
       refine A2 rfl (Be  Cz (Al rfl <| Ac) hq.plain (Ac) rfl hlt) ?_
       refine A2 rfl (Bt D5 (Ac)) ?_
       refine A2 rfl (Aq Bd (Ac) (hq.cell hlt rfl)) ?_
       refine A2 rfl (Bv (Ac) Ab) ?_
       refine A2 rfl (Ag (Ac)) ?_
       refine A4 rfl rfl (Ac) (decide_eq_false (by omega)) ?_
       refine A2 rfl (Ag (Ba rfl <| Ap rfl <| Am rfl <| Ay rfl <| Ap rfl <| Am rfl <| A9 rfl <| Ay rfl <| Ac)) ?_
       refine A4 rfl rfl (Al rfl <| Ac) (decide_eq_false (by omega)) ?_
       refine A2 rfl (Ag (Ba rfl <| Ap rfl <| Al rfl <| Am rfl <| Ay rfl <| Ap rfl <| At rfl hs10)) ?_
       refine A4 rfl rfl (Ap rfl <| Ac) (decide_eq_false (by omega)) ?_
       refine A2 rfl (Be  Cz (Al rfl <| Ac) hq.plain (Ac) rfl hlt) ?_
       refine A4 rfl rfl (Ap rfl <| Al rfl <| Ac) (decide_eq_false (by omega)) ?_
       refine A2 rfl (Bt D5 (Ac)) ?_
       refine A4 rfl rfl (Ay rfl <| Ac) (decide_eq_false (by omega)) ?_
       refine A2 rfl (Aq Bd (Ac) (hq.cell hlt rfl)) ?_
       refine A4 rfl rfl (Ay rfl <| Al rfl <| Ac) (decide_eq_false (by omega)) ?_
       refine A2 rfl (Aj C0 (Ba rfl <| Ay rfl <| Ap rfl <| Al rfl <| Am rfl <| Ay rfl <| Ap rfl <| Am rfl <| Ba rfl <| A9 rfl <| Ap rfl <| Al rfl <| Ac)) ?_
       refine A4 rfl rfl (Ay rfl <| Ap rfl <| Ac) (decide_eq_false (by omega)) ?_
       refine A2 rfl (Aq Cr (Ac) (Cell.own 0 rfl rfl)) ?_
       refine A4 rfl rfl (Ay rfl <| Ap rfl <| Al rfl <| Ac) (decide_eq_false (by omega)) ?_
       refine A2 rfl (Bi Cq (Ac) hr.bidders.plain) ?_
       refine A4 rfl rfl (A9 rfl <| Ac) (decide_eq_false (by omega)) ?_
       refine A2 rfl (Di (Ap rfl <| Al rfl <| Ac) (Ac)) ?_
       refine A2 rfl (A8 (A9 rfl <| Al rfl <| Ac) (decide_eq_false (by omega)) (Ac)) ?_
       refine A2 rfl (Ag (Ac)) ?_
       refine A4 rfl rfl (Ac) (decide_eq_false (by omega)) ?_
       refine A2 rfl (Bj Cd (Ba rfl <| A9 rfl <| Ay rfl <| Al rfl <| Am rfl <| Ay rfl <| Ap rfl <| Am rfl <| Ba rfl <| A9 rfl <| Ap rfl <| Al rfl <| Ac) rfl rfl (Bn 0 rfl)) ?_
       refine A4 rfl rfl (Al rfl <| Ac) (decide_eq_false (by omega)) ?_
       refine A2 rfl (Ag (Ba rfl <| A9 rfl <| Ay rfl <| Ap rfl <| Am rfl <| Ay rfl <| Ap rfl <| Am rfl <| A9 rfl <| Ay rfl <| Ac)) ?_
       refine A4 rfl rfl (Ap rfl <| Ac) (decide_eq_false (by omega)) ?_
       refine A2 rfl (Ag (Ba rfl <| A9 rfl <| Ay rfl <| Ap rfl <| Al rfl <| Am rfl <| Ay rfl <| Ap rfl <| At rfl hs10)) ?_
       refine A4 rfl rfl (Ap rfl <| Al rfl <| Ac) (decide_eq_false (by omega)) ?_
       refine A2 rfl (Be  Cz (Al rfl <| Ac) hq.plain (Ac) rfl hlt) ?_
       refine A4 rfl rfl (Ay rfl <| Ac) (decide_eq_false (by omega)) ?_
       refine A2 rfl (Bt D5 (Ac)) ?_
       refine A4 rfl rfl (Ay rfl <| Al rfl <| Ac) (decide_eq_false (by omega)) ?_
       refine A2 rfl (Aq Bd (Ac) (hq.cell hlt rfl)) ?_
       refine A4 rfl rfl (Ay rfl <| Ap rfl <| Ac) (decide_eq_false (by omega)) ?_
       refine A2 rfl (Ag (Bs rfl <| Ap rfl <| Al rfl <| Am rfl <| Ay rfl <| Ap rfl <| At rfl hs10)) ?_
       refine A4 rfl rfl (Ay rfl <| Ap rfl <| Al rfl <| Ac) (decide_eq_false (by omega)) ?_
       refine WQ_c rfl (Bb bd_40 Az (.cons (Ay rfl <| Ap rfl <| Ac) (.cons (Al rfl <| Ac) (.cons (Ac) .nil))) (most_okI hr hv hbe rfl) (fun _ _ h => h)) ?_
       refine A4 rfl rfl (A9 rfl <| Ac) (decide_eq_false (by omega)) ?_
       refine A2 rfl (Ag (Bs rfl <| Ay rfl <| Al rfl <| At rfl ht11)) ?_
       refine A4 rfl rfl (A9 rfl <| Al rfl <| Ac) (decide_eq_false (by omega)) ?_
       refine A2 rfl (B8 (Al rfl <| Ac) (Ac)) ?_
       refine A2 rfl (A8 (A9 rfl <| Ap rfl <| Ac) (decide_eq_false (by omega)) (Ac)) ?_
       refine A2 rfl (Ag (Ac)) ?_
       refine A4 rfl rfl (Ac) (decide_eq_false (fun h => h hw3)) ?_
       refine A2 rfl (Ag (Bs rfl <| A9 rfl <| Al rfl <| Am rfl <| Ay rfl <| Ap rfl <| Am rfl <| A9 rfl <| Ay rfl <| Ac)) ?_
       refine A4 rfl rfl (Al rfl <| Ac) (decide_eq_false (fun h => h hw3)) ?_
       refine A2 rfl (Ag (Bs rfl <| A9 rfl <| Ap rfl <| Am rfl <| Ay rfl <| Ap rfl <| At rfl hs10)) ?_
       refine A4 rfl rfl (Ap rfl <| Ac) (decide_eq_false (fun h => h hw3)) ?_
       refine A2 rfl (Be  Cz (Al rfl <| Ac) hq.plain (Ac) rfl hlt) ?_
       refine A4 rfl rfl (Ap rfl <| Al rfl <| Ac) (decide_eq_false (fun h => h hw3)) ?_
       refine A2 rfl (Bt Et (Ac)) ?_
       refine A4 rfl rfl (Ay rfl <| Ac) (decide_eq_false (fun h => h hw3)) ?_
       refine A2 rfl (Aq Bd (Ac) (hq.cell hlt rfl)) ?_
       refine A4 rfl rfl (Ay rfl <| Al rfl <| Ac) (decide_eq_false (fun h => h hw3)) ?_
       refine A2 rfl (Aj Cu (Bs rfl <| A9 rfl <| Ay rfl <| Ap rfl <| Am rfl <| Ay rfl <| Ap rfl <| Am rfl <| Ba rfl <| A9 rfl <| Ap rfl <| Al rfl <| Ac)) ?_
       refine A4 rfl rfl (Ay rfl <| Ap rfl <| Ac) (decide_eq_false (fun h => h hw3)) ?_
       refine A2 rfl (Aq C9 (Ac) (Cell.own 0 rfl rfl)) ?_
       refine A4 rfl rfl (Ay rfl <| Ap rfl <| Al rfl <| Ac) (decide_eq_false (fun h => h hw3)) ?_
       refine A2 rfl (Ag (Bs rfl <| Ba rfl <| Am rfl <| Ay rfl <| Ap rfl <| At rfl hs10)) ?_
       refine A4 rfl rfl (A9 rfl <| Ac) (decide_eq_false (fun h => h hw3)) ?_
       refine A2 rfl (Be  Da (Al rfl <| Ac) hr.lots.plain (Ac) rfl hk1) ?_
       refine A4 rfl rfl (A9 rfl <| Al rfl <| Ac) (decide_eq_false (fun h => h hw3)) ?_
       refine A2 rfl (Bt fd_69_2 (Ac)) ?_
       refine A4 rfl rfl (A9 rfl <| Ap rfl <| Ac) (decide_eq_false (fun h => h hw3)) ?_
       refine A2 rfl (Aq Bd (Ac) (hr.lots.cell hk1 rfl)) ?_
       refine A4 rfl rfl (A9 rfl <| Ap rfl <| Al rfl <| Ac) (decide_eq_false (fun h => h hw3)) ?_
       refine A2 rfl (Bv (Ay rfl <| Ap rfl <| Ac) (Ac)) ?_
       refine A2 rfl (A8 (A9 rfl <| Ay rfl <| Ac) (decide_eq_false (fun h => h hw3)) (Ac)) ?_
       refine A2 rfl (Ag (Ac)) ?_
       refine A4 rfl rfl (Ac) (by rw [lot_at hk1]; exact decide_eq_false (by omega)) ?_
       refine A2 rfl (Ag (Bs rfl <| Ba rfl <| Ay rfl <| Ap rfl <| Al rfl <| Am rfl <| Ay rfl <| Ap rfl <| Am rfl <| A9 rfl <| Ay rfl <| Ac)) ?_
       refine A4 rfl rfl (Al rfl <| Ac) (by rw [lot_at hk1]; exact decide_eq_false (by omega)) ?_
       refine A2 rfl (Ag (Bs rfl <| Ba rfl <| A9 rfl <| Am rfl <| Ay rfl <| Ap rfl <| At rfl hs10)) ?_
       refine A4 rfl rfl (Ap rfl <| Ac) (by rw [lot_at hk1]; exact decide_eq_false (by omega)) ?_
       refine A2 rfl (Be  Cz (Al rfl <| Ac) hq.plain (Ac) rfl hlt) ?_
       refine A4 rfl rfl (Ap rfl <| Al rfl <| Ac) (by rw [lot_at hk1]; exact decide_eq_false (by omega)) ?_
       refine A2 rfl (Bt Et (Ac)) ?_
       refine A4 rfl rfl (Ay rfl <| Ac) (by rw [lot_at hk1]; exact decide_eq_false (by omega)) ?_
       refine A2 rfl (Aq Bd (Ac) (hq.cell hlt rfl)) ?_
       refine A4 rfl rfl (Ay rfl <| Al rfl <| Ac) (by rw [lot_at hk1]; exact decide_eq_false (by omega)) ?_
       refine A2 rfl (Ag (Bs rfl <| Ba rfl <| A9 rfl <| Ay rfl <| At rfl ht11)) ?_
       refine A4 rfl rfl (Ay rfl <| Ap rfl <| Ac) (by rw [lot_at hk1]; exact decide_eq_false (by omega)) ?_
       refine A2 rfl (Ck (Al rfl <| Ac) (Ac)) ?_
       refine A2 rfl (A8 (Ay rfl <| Ap rfl <| Al rfl <| Ac) (by rw [lot_at hk1]; exact decide_eq_false (by omega)) (Ac)) ?_
       refine Cl ?_
       refine Ad <| Ao (Ac) (decide_eq_false (by omega)) ?_
       refine Ax <| Ad <| Af <| Cm (.inl rfl) (fun _ _ h => h) (by kernel_rfl) (by kernel_rfl) fun ds => ?_
       refine A2 rfl (Bj Cd (Bs rfl <| Ba rfl <| A9 rfl <| Ay rfl <| Ap rfl <| Al rfl <| Am rfl <| Ay rfl <| Ap rfl <| Am rfl <| Ba rfl <| A9 rfl <| Ap rfl <| Al rfl <| Ac) rfl rfl (Bn 0 rfl)) ?_
       refine A2 rfl (Ag (Bs rfl <| Bs rfl <| Am rfl <| Ay rfl <| Ap rfl <| Am rfl <| A9 rfl <| Ay rfl <| Ac)) ?_
       refine A2 rfl (Ag (Bs rfl <| Bs rfl <| Al rfl <| Am rfl <| Ay rfl <| Ap rfl <| At rfl hs10)) ?_
       refine A2 rfl (Be  Cz (Al rfl <| Ac) hq.plain (Ac) rfl hlt) ?_
       refine A2 rfl (Bt Et (Ac)) ?_
       refine A2 rfl (Aq Bd (Ac) (hq.cell hlt rfl)) ?_
       refine WQ_c rfl (Bb bd_17 Az (.cons (Ay rfl <| Al rfl <| Ac) (.cons (Ac) .nil)) (next_ok hr (allS s (castL (ringN s bits)))[k].price) (fun _ _ h => h.trans (show Value.tuple #[.int .i64 (nextE s (allS s (castL (ringN s bits)))[k].price).1, .int .i64 (nextE s (allS s (castL (ringN s bits)))[k].price).2] = Value.tuple #[.int .i64 (behindS s (allS s (castL (ringN s bits)))[k].price), .int .i64 0] by rw [next_ok' h0 hbd.1 hbd.2]))) ?_
       refine A2 rfl (Ag (Ac)) ?_
       refine A2 rfl (A0 (Ac) rfl) ?_
       refine A2 rfl (A0 (Al rfl <| Ac) rfl) ?_
       refine A2 rfl (Ae (Al rfl <| Ac)) ?_
       refine A2 rfl (Ae (Al rfl <| Ac)) ?_
       refine Cl ?_
       refine Ad <| Af <| Af <| Ai fun ds => Aa rfl (Ag (Ac)) ?_
       refine Aa rfl (B8 (Ac) Ab) ?_
       refine Ah <| Ad <| Ao (Ac) (by first | rfl | decide) ?_
       refine Ax <| Ad <| Af <| Ai fun ds => Aa rfl (Bj Cd (Bs rfl <| Bs rfl <| A9 rfl <| Ay rfl <| Al rfl <| Am rfl <| Ay rfl <| Ap rfl <| Am rfl <| Ba rfl <| A9 rfl <| Ap rfl <| Al rfl <| Ac) rfl rfl (Bn 0 rfl)) ?_
       refine Aa rfl (Ag (Bs rfl <| Bs rfl <| A9 rfl <| Ay rfl <| Ap rfl <| Am rfl <| Ay rfl <| Ap rfl <| At rfl hs10)) ?_
       refine Aa rfl (Ag (Bs rfl <| Bs rfl <| A9 rfl <| Ay rfl <| Ap rfl <| Al rfl <| Am rfl <| Ay rfl <| Ap rfl <| Am rfl <| Ba rfl <| Ap rfl <| Al rfl <| Ac)) ?_
       refine Bm rfl (C1 bd_41 Az (.cons (Ap rfl <| Ac) (.cons (Al rfl <| Ac) (.cons (Ac) .nil))) (refBidding_ok hr (by omega) hx (k : Int)) fun v12 F13 hr14 hF15 => ?_)
       replace hr := hr.mono hF15
       replace hq := hq.mono hF15
       replace hle0 := Heap.le_trans hle0 hF15
       replace hFG := Heap.le_trans hFG hF15
       have hbl : Nats _ _ (biddingL s (k : Int) (castL (ringN s bits))) := hr14
       refine Aa rfl (Ae (Ac)) ?_
       refine Ah <| Ad <| Af <| Ai fun ds => Aa rfl (Ae Ab) ?_
       refine Ah <| Ad <| A1 <| B1 [4, 16, 17, 159, 160, 161, 162, 163, 164, 165, 166, 167, 168, 169, 170, 171, 172, 173, 174, 175, 176, 177, 178, 179, 180, 181, 182, 183, 184, 185, 186] (fun m e σ => ∃ j : Nat, m + j = (biddingL s (k : Int) (castL (ringN s bits))).length ∧ e 16 = .int .i64 (j : Int) ∧ σ = ⟨F13, [(b1, bx 27 [vs, .int .i64 s.premium, .int .i64 s.fee, .int .i64 s.days, vb, vl, vn, vd])]⟩) ((biddingL s (k : Int) (castL (ringN s bits))).length) ?_ ?_
       · exact ⟨0, by omega, (Ac), rfl⟩
       ·
        have hbl6 := hbl.plain.lt; rintro m2 e2 _ ⟨j, hm2, hu16, rfl⟩
        by_cases hjl : j < (biddingL s (k : Int) (castL (ringN s bits))).length
        ·
         have hjb : (biddingL s (k : Int) (castL (ringN s bits)))[j] < s.bids.length := Ei _ (List.getElem_mem hjl)
         have hj6 := hw6 _ (List.getElem_mem hjl)
         refine Af <| Af <| Ai fun ds => Aa rfl (Ag (At rfl hu16)) ?_
         refine Aa rfl (Ag (Al rfl <| Am rfl <| Al rfl <| Ac)) ?_
         refine Aa rfl (Bi Bp (Ac) hbl.plain) ?_
         refine Aa rfl (Bv (Ap rfl <| Ac) (Ac)) ?_
         refine Ah <| Ad <| Ar (Ac) (by first | rfl | exact decide_eq_true (by omega)) ?_
         by_cases hne : (s.bid (biddingL s (k : Int) (castL (ringN s bits)))[j]).bidder ≠ (allS s (castL (ringN s bits)))[k].bidder
         ·
          refine Ax <| Ad <| Af <| A1 <| Af ?_
          have hleS := hle0
          refine D7 (.inl rfl) (fun _ _ h => h) (.cons_cons _ <| .refl _) [9] (by kernel_rfl) fun ds => ?_
          refine Bh 0 rfl (by kernel_rfl) (by kernel_rfl) (by kernel_rfl) (by kernel_rfl) rfl rfl (fun _ h => h.drop (.cons_cons _ <| .refl _)) (fun _ _ _ h => h) (Aj Cn (Ay rfl <| Am rfl <| Bs rfl <| Bs rfl <| Ba rfl <| Ap rfl <| Al rfl <| Am rfl <| Ay rfl <| Ap rfl <| Am rfl <| Ba rfl <| A9 rfl <| Ap rfl <| Al rfl <| Ac)) ?_
          refine Bh 1 rfl (by kernel_rfl) (by kernel_rfl) (by kernel_rfl) (by kernel_rfl) rfl rfl (fun _ h => h.drop (.cons_cons _ <| .refl _)) (fun _ _ _ h => h) (Aq Cy (Ac) (Cell.own 0 rfl rfl)) ?_
          refine Bh 2 rfl (by kernel_rfl) (by kernel_rfl) (by kernel_rfl) (by kernel_rfl) rfl rfl (fun _ h => h.drop (.cons_cons _ <| .refl _)) (fun _ _ _ h => h) (Ag (Ay rfl <| Ap rfl <| Am rfl <| Al rfl <| Ac)) ?_
          refine Bh 3 rfl (by kernel_rfl) (by kernel_rfl) (by kernel_rfl) (by kernel_rfl) rfl rfl (fun _ h => h.drop (.cons_cons _ <| .refl _)) (fun _ _ _ h => h) (Ag (Ay rfl <| Ap rfl <| Al rfl <| At rfl hu16)) ?_
          refine Bh 4 rfl (by kernel_rfl) (by kernel_rfl) (by kernel_rfl) (by kernel_rfl) rfl rfl (fun _ h => h.drop (.cons_cons _ <| .refl _)) (fun _ _ _ h => h) (Be  Bp (Al rfl <| Ac) hbl.plain (Ac) rfl hjl) ?_
          refine Bh 5 rfl (by kernel_rfl) (by kernel_rfl) (by kernel_rfl) (by kernel_rfl) rfl rfl (fun _ h => h.drop (.cons_cons _ <| .refl _)) (fun _ _ _ h => h) (Aq Bd (Ac) (hbl.cell1 hjl rfl)) ?_
          refine Bh 6 rfl (by kernel_rfl) (by kernel_rfl) (by kernel_rfl) (by kernel_rfl) rfl rfl (fun _ h => h.drop (.cons_cons _ <| .refl _)) (fun _ _ _ h => h) (Be (k := (biddingL s (k : Int) (castL (ringN s bits)))[j]) C2 (Ay rfl <| Ac) hr.bids.plain (Ac) rfl hjb) ?_
          refine Bh 7 rfl (by kernel_rfl) (by kernel_rfl) (by kernel_rfl) (by kernel_rfl) rfl rfl (fun _ h => h.drop (.cons_cons _ <| .refl _)) (fun _ _ _ h => h) (Bj E9 (Ac) rfl rfl (hr.bids.whole hjb)) ?_
          refine Df 8 rfl (by kernel_rfl) rfl (B6 zr_72 rfl fun b17 hb17 nb17 => ⟨fun _ _ => (fun _ h => h.drop (.cons _ <| .cons_cons _ <| .refl _)), ?_⟩)
          refine WX_x0 9 rfl (by kernel_rfl) (B7 sz_72 (Ac) (Al rfl <| Ac) (i := 0) rfl rfl rfl rfl Bid.enc_one (.here) ⟨(fun h => nomatch h), ?_⟩)
          refine Db (by kernel_rfl) ?_ _
          refine Ad <| Af <| Cm (.inl rfl) (fun _ _ h => h) (by kernel_rfl) (by kernel_rfl) fun ds => ?_
          refine A2 rfl (Aj Dd (Ac)) ?_
          refine A2 rfl (Aq Bd (Ac) (Cell.own 0 rfl rfl)) ?_
          refine A2 rfl (Ag (A9 rfl <| Ay rfl <| Ap rfl <| Al rfl <| Am rfl <| Bs rfl <| Bs rfl <| Ba rfl <| Ap rfl <| Al rfl <| Am rfl <| Ay rfl <| Ap rfl <| Am rfl <| A9 rfl <| Ay rfl <| Ac)) ?_
          refine A2 rfl (Ag (Ba rfl <| Am rfl <| Bs rfl <| Bs rfl <| Ba rfl <| Ap rfl <| Al rfl <| Am rfl <| Ay rfl <| Ap rfl <| At rfl hs10)) ?_
          refine A2 rfl (Be  Cz (Al rfl <| Ac) hq.plain (Ac) rfl hlt) ?_
          refine A2 rfl (Bt D5 (Ac)) ?_
          refine A2 rfl (Aq Bd (Ac) (hq.cell hlt rfl)) ?_
          refine A2 rfl (B8 (Ay rfl <| Al rfl <| Ac) (Ac)) ?_
          refine A2 rfl (Ag (Ac)) ?_
          refine A4 rfl rfl (Ac) (by rw [Bw hjb]; exact decide_eq_true hne) ?_
          refine A2 rfl (Aj E6 (A9 rfl <| Al rfl <| Ac)) ?_
          refine A4 rfl rfl (Al rfl <| Ac) (by rw [Bw hjb]; exact decide_eq_true hne) ?_
          refine A2 rfl (Aq Bd (Ac) (Cell.own 0 rfl rfl)) ?_
          refine A4 rfl rfl (Ap rfl <| Ac) (by rw [Bw hjb]; exact decide_eq_true hne) ?_
          refine A2 rfl (Ag (Ba rfl <| A9 rfl <| Am rfl <| A9 rfl <| Al rfl <| Ac)) ?_
          refine A4 rfl rfl (Ap rfl <| Al rfl <| Ac) (by rw [Bw hjb]; exact decide_eq_true hne) ?_
          refine A2 rfl (Di (Al rfl <| Ac) (Ac)) ?_
          refine A2 rfl (A5 (Ay rfl <| Ac) (by rw [Bw hjb]; exact decide_eq_true hne) (Ac)) ?_
          refine Cl ?_
          refine Ad <| Ao (Ac) (by rw [Bw hjb]; exact decide_eq_false (by have := hj6 hne; omega)) ?_
          refine Ax <| Bg <| Ad <| Cf (fun _ _ h => h.drop (.cons _ <| .cons_cons _ <| .refl _)) ?_
          refine Ai fun ds => Aa rfl (Ag (Ba rfl <| A9 rfl <| Ap rfl <| Al rfl <| At rfl hu16)) ?_
          refine Aa rfl (Bx (Ac) Ab rfl (by omega) (by omega)) ?_
          refine Aa rfl (Ae (Ac)) ?_
          refine Ah <| Ad ⟨_, m2 - 1, Off.eq (C4 rfl <| D2 rfl <| Er rfl <| Ec rfl <| Bf), by omega, ?_⟩
          exact ⟨j + 1, by omega, (Ac), rfl⟩
         ·
          refine Ax <| Ad <| Af <| A1 <| Af ?_
          have hleS := hle0
          refine D7 (.inl rfl) (fun _ _ h => h) (.cons_cons _ <| .refl _) [9] (by kernel_rfl) fun ds => ?_
          refine Bh 0 rfl (by kernel_rfl) (by kernel_rfl) (by kernel_rfl) (by kernel_rfl) rfl rfl (fun _ h => h.drop (.cons_cons _ <| .refl _)) (fun _ _ _ h => h) (Aj Cn (Ay rfl <| Am rfl <| Bs rfl <| Bs rfl <| Ba rfl <| Ap rfl <| Al rfl <| Am rfl <| Ay rfl <| Ap rfl <| Am rfl <| Ba rfl <| A9 rfl <| Ap rfl <| Al rfl <| Ac)) ?_
          refine Bh 1 rfl (by kernel_rfl) (by kernel_rfl) (by kernel_rfl) (by kernel_rfl) rfl rfl (fun _ h => h.drop (.cons_cons _ <| .refl _)) (fun _ _ _ h => h) (Aq Cy (Ac) (Cell.own 0 rfl rfl)) ?_
          refine Bh 2 rfl (by kernel_rfl) (by kernel_rfl) (by kernel_rfl) (by kernel_rfl) rfl rfl (fun _ h => h.drop (.cons_cons _ <| .refl _)) (fun _ _ _ h => h) (Ag (Ay rfl <| Ap rfl <| Am rfl <| Al rfl <| Ac)) ?_
          refine Bh 3 rfl (by kernel_rfl) (by kernel_rfl) (by kernel_rfl) (by kernel_rfl) rfl rfl (fun _ h => h.drop (.cons_cons _ <| .refl _)) (fun _ _ _ h => h) (Ag (Ay rfl <| Ap rfl <| Al rfl <| At rfl hu16)) ?_
          refine Bh 4 rfl (by kernel_rfl) (by kernel_rfl) (by kernel_rfl) (by kernel_rfl) rfl rfl (fun _ h => h.drop (.cons_cons _ <| .refl _)) (fun _ _ _ h => h) (Be  Bp (Al rfl <| Ac) hbl.plain (Ac) rfl hjl) ?_
          refine Bh 5 rfl (by kernel_rfl) (by kernel_rfl) (by kernel_rfl) (by kernel_rfl) rfl rfl (fun _ h => h.drop (.cons_cons _ <| .refl _)) (fun _ _ _ h => h) (Aq Bd (Ac) (hbl.cell1 hjl rfl)) ?_
          refine Bh 6 rfl (by kernel_rfl) (by kernel_rfl) (by kernel_rfl) (by kernel_rfl) rfl rfl (fun _ h => h.drop (.cons_cons _ <| .refl _)) (fun _ _ _ h => h) (Be (k := (biddingL s (k : Int) (castL (ringN s bits)))[j]) C2 (Ay rfl <| Ac) hr.bids.plain (Ac) rfl hjb) ?_
          refine Bh 7 rfl (by kernel_rfl) (by kernel_rfl) (by kernel_rfl) (by kernel_rfl) rfl rfl (fun _ h => h.drop (.cons_cons _ <| .refl _)) (fun _ _ _ h => h) (Bj E9 (Ac) rfl rfl (hr.bids.whole hjb)) ?_
          refine Df 8 rfl (by kernel_rfl) rfl (B6 zr_72 rfl fun b18 hb18 nb18 => ⟨fun _ _ => (fun _ h => h.drop (.cons _ <| .cons_cons _ <| .refl _)), ?_⟩)
          refine WX_x0 9 rfl (by kernel_rfl) (B7 sz_72 (Ac) (Al rfl <| Ac) (i := 0) rfl rfl rfl rfl Bid.enc_one (.here) ⟨(fun h => nomatch h), ?_⟩)
          refine Db (by kernel_rfl) ?_ _
          refine Ad <| Af <| Cm (.inl rfl) (fun _ _ h => h) (by kernel_rfl) (by kernel_rfl) fun ds => ?_
          refine A2 rfl (Aj Dd (Ac)) ?_
          refine A2 rfl (Aq Bd (Ac) (Cell.own 0 rfl rfl)) ?_
          refine A2 rfl (Ag (A9 rfl <| Ay rfl <| Ap rfl <| Al rfl <| Am rfl <| Bs rfl <| Bs rfl <| Ba rfl <| Ap rfl <| Al rfl <| Am rfl <| Ay rfl <| Ap rfl <| Am rfl <| A9 rfl <| Ay rfl <| Ac)) ?_
          refine A2 rfl (Ag (Ba rfl <| Am rfl <| Bs rfl <| Bs rfl <| Ba rfl <| Ap rfl <| Al rfl <| Am rfl <| Ay rfl <| Ap rfl <| At rfl hs10)) ?_
          refine A2 rfl (Be  Cz (Al rfl <| Ac) hq.plain (Ac) rfl hlt) ?_
          refine A2 rfl (Bt D5 (Ac)) ?_
          refine A2 rfl (Aq Bd (Ac) (hq.cell hlt rfl)) ?_
          refine A2 rfl (B8 (Ay rfl <| Al rfl <| Ac) (Ac)) ?_
          refine A2 rfl (Ag (Ac)) ?_
          refine A3 rfl rfl (Ac) (.inl (congrArg Value.bool (by rw [Bw hjb]; exact decide_eq_false hne))) rfl ?_
          refine A3 rfl rfl (Al rfl <| Ac) (.inl (congrArg Value.bool (by rw [Bw hjb]; exact decide_eq_false hne))) rfl ?_
          refine A3 rfl rfl (Ap rfl <| Ac) (.inl (congrArg Value.bool (by rw [Bw hjb]; exact decide_eq_false hne))) rfl ?_
          refine A3 rfl rfl (Ap rfl <| Al rfl <| Ac) (.inl (congrArg Value.bool (by rw [Bw hjb]; exact decide_eq_false hne))) rfl ?_
          refine A2 rfl (A8 (Ay rfl <| Ac) (by rw [Bw hjb]; exact decide_eq_false hne) Ab) ?_
          refine Cl ?_
          refine Ad <| Ao (Ac) rfl ?_
          refine Ax <| Bg <| Ad <| Cf (fun _ _ h => h.drop (.cons _ <| .cons_cons _ <| .refl _)) ?_
          refine Ai fun ds => Aa rfl (Ag (Ba rfl <| A9 rfl <| Ap rfl <| Al rfl <| At rfl hu16)) ?_
          refine Aa rfl (Bx (Ac) Ab rfl (by omega) (by omega)) ?_
          refine Aa rfl (Ae (Ac)) ?_
          refine Ah <| Ad ⟨_, m2 - 1, Off.eq (C4 rfl <| D2 rfl <| Er rfl <| Ec rfl <| Bf), by omega, ?_⟩
          exact ⟨j + 1, by omega, (Ac), rfl⟩
        ·
         refine Af <| Af <| Ai fun ds => Aa rfl (Ag (At rfl hu16)) ?_
         refine Aa rfl (Ag (Al rfl <| Am rfl <| Al rfl <| Ac)) ?_
         refine Aa rfl (Bi Bp (Ac) hbl.plain) ?_
         refine Aa rfl (Bv (Ap rfl <| Ac) (Ac)) ?_
         refine Ah <| Ad <| Ao (Ac) (by first | rfl | exact decide_eq_false (by omega)) ?_
         refine Bu ?_
         refine Bk <| Bk <| Bl <| Bg <| Ad <| Ai fun ds => Aa rfl (Ag (Ay rfl <| Am rfl <| Bs rfl <| Bs rfl <| Ba rfl <| Ap rfl <| Al rfl <| Am rfl <| Ay rfl <| Ap rfl <| At rfl hs10)) ?_
         refine Aa rfl (Bx (Ac) Ab rfl (by omega) (by omega)) ?_
         refine Aa rfl (Ae (Ac)) ?_
         refine Ah <| Ad ⟨_, m - 1, Off.eq (Er rfl <| Ec rfl <| Es rfl <| off_in rfl <| ou32 rfl <| ou32 rfl <| C4 rfl <| Ec rfl <| Es rfl <| off_in rfl <| Er rfl <| Ec rfl <| Bf), by omega, ?_⟩
         exact ⟨_, hle0, hFG, k + 1, by omega, (Ac), rfl⟩
   ·
    refine Af <| Af <| Ai fun ds => Aa rfl (Ag (At rfl hs10)) ?_
    refine Aa rfl (Ag (Al rfl <| Am rfl <| A9 rfl <| Ay rfl <| Ac)) ?_
    refine Aa rfl (Bi Cz (Ac) hq.plain) ?_
    refine Aa rfl (Bv (Ap rfl <| Ac) (Ac)) ?_
    refine Ah <| Ad <| Ao (Ac) (by first | rfl | exact decide_eq_false (by omega)) ?_
    refine Bu ?_
    refine Bk <| Bk <| Bl <| Ad <| Af <| Ai fun ds => Bz rfl (Bb bd_22 Az .nil awake_ok (fun _ _ h => h)) ?_
    refine Aa rfl (Ae (Ac)) ?_
    refine Ah <| Ad <| A6 <| Aw rfl (.tmp (Ac) .nil) ?_
    rfl
 ·
  refine Af <| Ai fun ds => Bm rfl (Ce (Ak rfl) rfl fun b19 hb19 nb19 => ?_)
  refine Aa rfl (Ae Ab) ?_
  refine Ah <| Ad <| Af <| Af <| Ai fun ds => Aa rfl (Bj Cd (Al rfl <| Ac) rfl rfl (Bn 0 rfl)) ?_
  refine Bz rfl (Bb bd_38 Az (.cons (Ac) .nil) (valid_ok hr) (fun _ _ h => h)) ?_
  refine Aa rfl (Cv (Ac)) ?_
  refine Ah <| Ad <| Ar (Ac) (by simp [h0]) ?_
  refine Af <| Ai fun ds => Aa rfl (Bj Cd (Ay rfl <| Ac) rfl rfl (Bn 0 rfl)) ?_
  refine Bm rfl (C1 bd_19 Az (.cons (Ac) (.cons Ab .nil)) (sellTop_ok hr Sl.nil) fun v20 F21 hr22 hF23 => ?_)
  obtain ⟨w0_, rfl, hq0⟩ := hr22
  have hb0 : (sellE s []).2 ≠ 0 := by rw [sellE_bad rfl (bad_sell h0)]; exact bad_sell h0
  refine Aa rfl (Ag (Ac)) ?_
  refine Aa rfl (A0 (Ac) rfl) ?_
  refine Aa rfl (A0 (Al rfl <| Ac) rfl) ?_
  refine Aa rfl (Ae (Al rfl <| Ac)) ?_
  refine Aa rfl (Ae (Al rfl <| Ac)) ?_
  refine Ah <| Ad <| Af <| Ai fun ds => Aa rfl (Ag (Ac)) ?_
  refine Aa rfl (B8 (Ac) Ab) ?_
  refine Aa rfl (Ag (Ac)) ?_
  refine As rfl rfl (Ac) (by simp [hb0]) ?_
  refine Bz rfl (Bb bd_22 Az .nil awake_ok (fun _ _ h => h)) ?_
  refine Aa rfl (A5 (Al rfl <| Ac) (by simp [hb0]) (Ac)) ?_
  refine Aa rfl (Ae (Ac)) ?_
  refine Ah <| Ad <| A6 <| A7 ?_
  refine Aw rfl (.tmp (Ac) .nil) ?_
  rfl
end Go.Proofs.Ytaikojfonleccaa
namespace Go.Proofs.Ytaikojfonleccaa
open Go.ChangeShapes Go.WideShapes Go.ChangeAt Go.RowKit
set_option maxRecDepth 100000 in
theorem saleWithinLifted (os : Os) (started : os.Started) (H : Type) (enc : TypeId × Value → H) :
   ReturnsInHanded {} Try.checked os 7 .any (Rows.saleWithinSpec.pre6 enc Try.prog Try.f7 Rows.saleWithinRow.domain false) (Rows.saleWithinSpec.post enc Try.prog Try.f7 false true false false) := by
 refine returnsInHanded_of_change_sized (C := Try.checked) ownKnob0 started (by kernel_rfl) Try.func7
   (ChangeSpec.witness6 (enc := enc) (C := Try.checked) false ⟨#[], #[.agg #[.slice none 0 0, .int .i64 0, .int .i64 0, .int .i64 0, .slice none 0 0, .slice none 0 0, .slice none 0 0, .slice none 0 0], .int .u8 0], []⟩ 8 (by kernel_rfl) (by kernel_rfl) (by kernel_rfl) (by kernel_rfl)) ?_
 intro W base args ds gs before hval0 hW hcnd hsz _
 have hval : ∀ (j : Nat) t v, Try.f7.params[j]? = some t → args[j]? = some v → Value.okWide Try.prog W .any base t v := hval0
 have hW' := hW
 obtain ⟨p, q, hA0, hV, rfl, hfz, hnd⟩ := hW
 have hA : DataW.TrodAll enc Try.prog W 0 (fun _ => true) true Try.f7.params.toList args.toList ds p := hA0
 rw [Try.params7] at hA hval
 obtain ⟨v0, vs0, d0, ds0, p0, q0, hargs, rfl, rfl, h0, r0⟩ := trodAll_cons hA
 obtain ⟨v1, vs1, d1, ds1, p1, q1, rfl, rfl, rfl, h1, r1⟩ := trodAll_cons r0
 obtain ⟨rfl, rfl, rfl⟩ := trodAll_nil r1
 obtain rfl : args = #[v0, v1] := by cases args; simp_all
 obtain ⟨rfl, rfl⟩ := trodVars_none hV
 have hsz' : (DataW.weightsEach Try.prog (Try.f7.params.toList ++ []) ([d0, d1] ++ [])).all (· ≤ reachBytes) = true := hsz
 rw [Try.params7] at hsz'
 have k0 := h0
 have lt0 : ∀ x ∈ p0, x.block < W.heap.size := by obtain ⟨m, hm⟩ := k0; exact DataW.trod_lt m _ _ _ hm
 have k1 := h1
 have lt1 : ∀ x ∈ p1, x.block < W.heap.size := by obtain ⟨m, hm⟩ := k1; exact DataW.trod_lt m _ _ _ hm
 obtain ⟨vs, vb, vl, vn, vd, s, rfl, hr⟩ := arg_sale (hval 0 27 v0 rfl rfl) h0 (weights_at hsz' (j := 0) rfl rfl)
 obtain ⟨x, rfl, hx8⟩ := arg_u8 (hval 1 5 v1 rfl rfl) h1 (weights_at hsz' (j := 1) rfl rfl)
 clear hA0 hval0
 refine (Ok.law (withinLaw_ok hr (bits := x))).mono fun e W' ⟨he, bel⟩ => ?_
 subst he
 exact ⟨_, rfl, _, _, _, [], _, [], hW', trodAll_mk1 (shut_bool Try.underlying4 _), (trodAll_cons_mk (Below.trod laidOut (by kernel_rfl) (of_decide_eq_true (by kernel_rfl)) k0 bel lt0) (trodAll_cons_mk (Below.trod laidOut (by kernel_rfl) (of_decide_eq_true (by kernel_rfl)) k1 bel lt1) trodAll_mk0)), rfl, bel.frame _, fun h => by cases h⟩
theorem saleWithin : Rows.SaleWithinSaid :=
 OpenClaim.holds_of_wide 7 Try.f7 rfl rfl rfl rfl rfl rfl rfl ⟨rfl, rfl, rfl, rfl, rfl⟩ rfl rfl rfl rfl rfl (by kernel_rfl) Try.func7 (by kernel_rfl)
   (of_decide_eq_true (by kernel_rfl)) (by unfold Func.isWrapper; first | (rw [if_pos (by decide +kernel)]; kernel_rfl) | (rw [if_neg (by decide +kernel)]; exact ⟨rfl, rfl⟩))
   (fun os started H enc _ => saleWithinLifted os started H enc)
#print axioms saleWithin
end Go.Proofs.Ytaikojfonleccaa
