/-
  SaleLess returns true of any sale, catalogue and entry, and leaves what it is handed as it was. No conditions.
-/
import Derived.Test.YtaikojfonleccaaPae
namespace Go.Proofs.Ytaikojfonleccaa
open Go.RowKit
theorem bd_17 : Body Try.prog 17 := Bq (by kernel_rfl)
theorem bd_19 : Body Try.prog 19 := Bq (by kernel_rfl)
theorem bd_21 : Body Try.prog 21 := Bq (by kernel_rfl)
theorem bd_23 : Body Try.prog 23 := Bq (by kernel_rfl)
theorem bd_26 : Body Try.prog 26 := Bq (by kernel_rfl)
theorem bd_30 : Body Try.prog 30 := Bq (by kernel_rfl)
theorem bd_31 : Body Try.prog 31 := Bq (by kernel_rfl)
theorem bd_33 : Body Try.prog 33 := Bq (by kernel_rfl)
theorem bd_35 : Body Try.prog 35 := Bq (by kernel_rfl)
theorem bd_36 : Body Try.prog 36 := Bq (by kernel_rfl)
theorem bd_37 : Body Try.prog 37 := Bq (by kernel_rfl)
theorem bt_77 : BuildT Try.prog 77 [.int .i64 0, .int .i64 0] [(0, 1), (1, 1)] := Ek zr_77 (by kernel_rfl) (by decide)
theorem n13_box2 {F : Heap} {b T : Nat} (h : F b = some (bx T [.int .i64 1, .int .i64 3])) : Nats F (.slice (some ⟨b, 0, none⟩) 2 2) [1, 3] :=
 Dl (xs := ([1, 3] : List Nat)) h rfl rfl (fun _ => rfl) (by decide)
theorem n013_box3 {F : Heap} {b T : Nat} (h : F b = some (bx T [.int .i64 0, .int .i64 1, .int .i64 3])) : Nats F (.slice (some ⟨b, 0, none⟩) 3 3) [0, 1, 3] :=
 Dl (xs := ([0, 1, 3] : List Nat)) h rfl rfl (fun _ => rfl) (by decide)
theorem n123_box3 {F : Heap} {b T : Nat} (h : F b = some (bx T [.int .i64 1, .int .i64 2, .int .i64 3])) : Nats F (.slice (some ⟨b, 0, none⟩) 3 3) [1, 2, 3] :=
 Dl (xs := ([1, 2, 3] : List Nat)) h rfl rfl (fun _ => rfl) (by decide)
theorem n02_box2 {F : Heap} {b T : Nat} (h : F b = some (bx T [.int .i64 0, .int .i64 2])) : Nats F (.slice (some ⟨b, 0, none⟩) 2 2) [0, 2] :=
 Dl (xs := ([0, 2] : List Nat)) h rfl rfl (fun _ => rfl) (by decide)
theorem n0123_box4 {F : Heap} {b T : Nat} (h : F b = some (bx T [.int .i64 0, .int .i64 1, .int .i64 2, .int .i64 3])) : Nats F (.slice (some ⟨b, 0, none⟩) 4 4) [0, 1, 2, 3] :=
 Dl (xs := ([0, 1, 2, 3] : List Nat)) h rfl rfl (fun _ => rfl) (by decide)
theorem entA_box2 {F : Heap} {b T : Nat} (h : F b = some (bx T [.int .i64 0, .bool true, .int .i64 60, .int .i64 60, .int .i64 1, .bool true, .int .i64 48, .int .i64 48])) : Sl F (.slice (some ⟨b, 0, none⟩) 2 2) 4 Ent.enc [ent1 0 60 60, ent1 1 48 48] :=
 Dl (xs := [ent1 0 60 60, ent1 1 48 48]) h rfl rfl (fun _ => rfl) (by decide)
theorem entB_box1 {F : Heap} {b T : Nat} (h : F b = some (bx T [.int .i64 0, .bool true, .int .i64 20, .int .i64 50])) : Sl F (.slice (some ⟨b, 0, none⟩) 1 1) 4 Ent.enc [ent1 0 20 50] :=
 Dl (xs := [ent1 0 20 50]) h rfl rfl (fun _ => rfl) (by decide)
theorem entC_box3 {F : Heap} {b T : Nat} (h : F b = some (bx T [.int .i64 0, .bool true, .int .i64 45, .int .i64 45, .int .i64 1, .bool true, .int .i64 48, .int .i64 48, .int .i64 2, .bool true, .int .i64 30, .int .i64 30])) : Sl F (.slice (some ⟨b, 0, none⟩) 3 3) 4 Ent.enc [ent1 0 45 45, ent1 1 48 48, ent1 2 30 30] :=
 Dl (xs := [ent1 0 45 45, ent1 1 48 48, ent1 2 30 30]) h rfl rfl (fun _ => rfl) (by decide)
theorem entD_box1 {F : Heap} {b T : Nat} (h : F b = some (bx T [.int .i64 2, .bool true, .int .i64 30, .int .i64 30])) : Sl F (.slice (some ⟨b, 0, none⟩) 1 1) 4 Ent.enc [ent1 2 30 30] :=
 Dl (xs := [ent1 2 30 30]) h rfl rfl (fun _ => rfl) (by decide)
theorem resA_box3 {F : Heap} {b T : Nat} (h : F b = some (bx T [.int .i64 (0), .int .i64 60, .int .i64 (1), .int .i64 73, .int .i64 (-1), .int .i64 0])) : Sl F (.slice (some ⟨b, 0, none⟩) 3 3) 2 Res.enc [⟨0, 60⟩, ⟨1, 73⟩, ⟨-1, 0⟩] :=
 Dl (xs := ([⟨0, 60⟩, ⟨1, 73⟩, ⟨-1, 0⟩] : List Res)) h rfl rfl (fun _ => rfl) (by decide)
theorem resB_box3 {F : Heap} {b T : Nat} (h : F b = some (bx T [.int .i64 (0), .int .i64 20, .int .i64 (1), .int .i64 73, .int .i64 (-1), .int .i64 0])) : Sl F (.slice (some ⟨b, 0, none⟩) 3 3) 2 Res.enc [⟨0, 20⟩, ⟨1, 73⟩, ⟨-1, 0⟩] :=
 Dl (xs := ([⟨0, 20⟩, ⟨1, 73⟩, ⟨-1, 0⟩] : List Res)) h rfl rfl (fun _ => rfl) (by decide)
theorem backA_box1 {F : Heap} {b T : Nat} (h : F b = some (bx T [.int .i64 0, .int .i64 14])) : Sl F (.slice (some ⟨b, 0, none⟩) 1 1) 2 Back.enc (back1 14) :=
 Dl (xs := back1 14) h rfl rfl (fun _ => rfl) (by decide)
theorem backB_box1 {F : Heap} {b T : Nat} (h : F b = some (bx T [.int .i64 0, .int .i64 15])) : Sl F (.slice (some ⟨b, 0, none⟩) 1 1) 2 Back.enc (back1 15) :=
 Dl (xs := back1 15) h rfl rfl (fun _ => rfl) (by decide)
theorem ints_box3 {F : Heap} {b T : Nat} {x y z : Int} (h : F b = some (bx T [.int .i64 x, .int .i64 y, .int .i64 z])) : Ints F (.slice (some ⟨b, 0, none⟩) 3 3) [x, y, z] :=
 Dl (xs := [x, y, z]) h rfl rfl (fun _ => rfl) (by decide)
theorem ints_box4 {F : Heap} {b T : Nat} {x y z w : Int} (h : F b = some (bx T [.int .i64 x, .int .i64 y, .int .i64 z, .int .i64 w])) : Ints F (.slice (some ⟨b, 0, none⟩) 4 4) [x, y, z, w] :=
 Dl (xs := [x, y, z, w]) h rfl rfl (fun _ => rfl) (by decide)
def valE (v : Value) : List Value := [v]
theorem vals_box3 {F : Heap} {b T : Nat} {x y z : Value} (h : F b = some (bx T [x, y, z])) : Sl F (.slice (some ⟨b, 0, none⟩) 3 3) 1 valE [x, y, z] :=
 Dl (xs := [x, y, z]) h rfl rfl (fun _ => rfl) (by decide)
theorem Sl.val {F : Heap} {v : Value} {ps : List (Value × List Nat)} (h : Sl F v 1 valE (ps.map (·.1))) : Sl F v 1 slE ps := by
 refine ⟨by simpa using h.plain, fun i hi j u hu => h.cells i (by simpa using hi) j u ?_⟩
 simpa [valE, slE] using hu
theorem lsts3 {F : Heap} {v x y z : Value} {a b c : List Nat} (h : Sl F v 1 valE [x, y, z]) (h1 : Nats F x a) (h2 : Nats F y b) (h3 : Nats F z c) : Lsts F v [a, b, c] :=
 ⟨[(x, a), (y, b), (z, c)], Sl.val h, by simp [h1, h2, h3], rfl⟩
def tupA (v : Value) (i : Nat) : Value := match v with
 | .tuple a => a.toList[i]?.getD v
 | _ => v
theorem LstsR.ans {F : Heap} {u : Value} {p q : List (List Nat) × Int} (h : LstsR F u p) (e : p = q) : u = .tuple #[tupA u 0, .int .i64 q.2] ∧ Lsts F (tupA u 0) q.1 := by
 subst e; obtain ⟨v, rfl, h⟩ := h; exact ⟨rfl, h⟩
theorem NatsR.ans {F : Heap} {u : Value} {p q : List Nat × Int} (h : NatsR F u p) (e : p = q) : u = .tuple #[tupA u 0, .int .i64 q.2] ∧ Nats F (tupA u 0) q.1 := by
 subst e; obtain ⟨v, rfl, h⟩ := h; exact ⟨rfl, h⟩
theorem MemR.ans {F : Heap} {u : Value} {p q : Mem} (h : MemR F u p) (e : p = q) : u = .tuple #[tupA u 0, tupA u 1, .int .i64 q.2.2] ∧ Nats F (tupA u 0) q.1 ∧ Nats F (tupA u 1) q.2.1 := by
 subst e; obtain ⟨v, w, rfl, h1, h2⟩ := h; exact ⟨rfl, h1, h2⟩
set_option maxRecDepth 100000 in
theorem awake_ok {F : Heap} : Ok Try.prog 22 [].toArray F fun u _ => u = .bool true := by
 refine Ok.intro Try.func22 rfl Try.ntmps22 rfl fun w0 => ?_
 refine Af <| Ai fun ds => Aa rfl (Ae Ab) ?_
 refine Ah <| Ad <| Af <| Ai fun ds => Bl rfl (Cx bd_35 Ay .nil sale_ok fun v1 F2 hr3 hF4 => ?_)
 obtain ⟨vs, vb, vl, vn, vd, rfl, hr⟩ := hr3
 refine Bl rfl (B5 zr_27 rfl fun b5 hb5 nb5 => ?_)
 refine Cm (B9 sz_27 (Ac) (Al rfl <| Ac) (i := 0) rfl rfl rfl rfl hr.ones (.here) ?_)
 refine Ah <| Ad <| Af <| Ai fun ds => Aa rfl (Bd Cc (Ac) rfl rfl (Bm 0 rfl)) ?_
 refine Bs rfl (A6 bd_17 Ay (.cons (Ac) (.cons Ab .nil)) (next_ok hr 50) (fun _ _ h => h.trans (show _ = Value.tuple #[.int .i64 60, .int .i64 0] by rw [ev_n1]))) ?_
 refine Aa rfl (Ag (Ac)) ?_
 refine Aa rfl (Az (Ac) rfl) ?_
 refine Aa rfl (Az (Al rfl <| Ac) rfl) ?_
 refine Aa rfl (Ae (Al rfl <| Ac)) ?_
 refine Aa rfl (Ae (Al rfl <| Ac)) ?_
 refine Ah <| Ad <| Af <| Ai fun ds => Aa rfl (Bd Cc (A0 rfl <| Ao rfl <| Al rfl <| Ac) rfl rfl (Bm 0 rfl)) ?_
 refine Bl rfl (Cx bd_19 Ay (.cons (Ac) (.cons Ab .nil)) ((sellTop_ok hr Sl.nil).mono fun u F2 _ h => (by rw [ev_s1] at h; exact h : ∃ ws0, u = .tuple #[ws0, .int .i64 0] ∧ Sl F2 ws0 2 Res.enc [⟨0, 60⟩, ⟨1, 73⟩, ⟨-1, 0⟩])) fun v6 F7 hr8 hF9 => ?_)
 replace hr := hr.mono hF9
 obtain ⟨hq1_, rfl, hq1⟩ := hr8
 refine Aa rfl (Ag (Ac)) ?_
 refine Aa rfl (Az (Ac) rfl) ?_
 refine Aa rfl (Az (Al rfl <| Ac) rfl) ?_
 refine Aa rfl (Ae (Al rfl <| Ac)) ?_
 refine Aa rfl (Ae (Al rfl <| Ac)) ?_
 refine Ah <| Ad <| Af <| Ai fun ds => Aa rfl (Bd Cc (Bb rfl <| A0 rfl <| Ao rfl <| Ac) rfl rfl (Bm 0 rfl)) ?_
 refine Bl rfl (Bw Br Cy rfl (.cons Ab (.cons Ab (.cons Ab .nil))) rfl rfl (by decide) (by simp [Value.oneCell']) fun b10 hb10 nb10 => ?_)
 refine Bp (i := 0) rfl hb10 .here fun F11 hF12 hz13 => ?_
 replace hr := hr.mono hF12
 replace hq1 := hq1.mono hF12
 have hsl14 := ints_box3 hz13
 refine Bl rfl (Cx bd_19 Ay (.cons (Al rfl <| Ac) (.cons (Ac) .nil)) ((sellTop_ok hr hsl14).mono fun u F2 _ h => (by rw [ev_s2] at h; exact h : ∃ ws0, u = .tuple #[ws0, .int .i64 0] ∧ Sl F2 ws0 2 Res.enc [⟨0, 20⟩, ⟨1, 73⟩, ⟨-1, 0⟩])) fun v15 F16 hr17 hF18 => ?_)
 replace hr := hr.mono hF18
 replace hq1 := hq1.mono hF18
 obtain ⟨hq2_, rfl, hq2⟩ := hr17
 refine Aa rfl (Ag (Ac)) ?_
 refine Aa rfl (Az (Ac) rfl) ?_
 refine Aa rfl (Az (Al rfl <| Ac) rfl) ?_
 refine Aa rfl (Ae (Al rfl <| Ac)) ?_
 refine Aa rfl (Ae (Al rfl <| Ac)) ?_
 refine Ah <| Ad <| Af <| Ai fun ds => Aa rfl (Bd Cc (Bc rfl <| A0 rfl <| Ao rfl <| Ac) rfl rfl (Bm 0 rfl)) ?_
 refine Bl rfl (Bw Br Cy rfl (.cons Ab (.cons Ab .nil)) rfl rfl (by decide) (by simp [Value.oneCell']) fun b19 hb19 nb19 => ?_)
 refine Bp (i := 0) rfl hb19 .here fun F20 hF21 hz22 => ?_
 replace hr := hr.mono hF21
 replace hq1 := hq1.mono hF21
 replace hq2 := hq2.mono hF21
 have hsl23 := Dn hz22
 refine Aa rfl (C6 bt_77 (.cons Ab rfl (.cons Ab rfl .nil)) (.cons rfl rfl (Nat.le_of_ble_eq_true rfl) (.cons (.here) .nil) (.cons rfl rfl (Nat.le_of_ble_eq_true rfl) (.cons (.next <| .here) .nil) .nil))) ?_
 refine Bl rfl (Dg (offs := [(0, 2)]) (zl := [.int .i64 0, .int .i64 0]) sl_40 zr_77 rfl (.cons (Ac) rfl .nil) (by intro i p h; rcases i with _ | i <;> simp at h <;> subst h <;> rfl) (.cons rfl rfl (Nat.le_of_ble_eq_true rfl) (.cons (.here) (.cons (.next <| .here) .nil)) .nil) (by decide) (by decide) fun b24 hb24 nb24 => ?_)
 refine Bp (i := 0) rfl hb24 .here fun F25 hF26 hz27 => ?_
 replace hr := hr.mono hF26
 replace hq1 := hq1.mono hF26
 replace hq2 := hq2.mono hF26
 replace hsl23 := hsl23.mono hF26
 have hsl28 := backA_box1 hz27
 refine Bl rfl (Cx bd_23 Ay (.cons (Ao rfl <| Al rfl <| Ac) (.cons (Ao rfl <| Ac) (.cons (Ac) .nil))) ((account_ok hr hsl23 hsl28).mono fun u F2 _ h => (by rw [ev_a1] at h; exact h : ∃ ws0 ws1, u = .tuple #[ws0, ws1, .int .i64 12, .int .i64 0] ∧ Ints F2 ws0 [0, 53, 0, 0] ∧ Ints F2 ws1 [41])) fun v29 F30 hr31 hF32 => ?_)
 replace hr := hr.mono hF32
 replace hq1 := hq1.mono hF32
 replace hq2 := hq2.mono hF32
 obtain ⟨hq3_, hq4_, rfl, hq3, hq4⟩ := hr31
 refine Aa rfl (Ag (Ac)) ?_
 refine Aa rfl (Az (Ac) rfl) ?_
 refine Aa rfl (Az (Al rfl <| Ac) rfl) ?_
 refine Aa rfl (Az (Ao rfl <| Ac) rfl) ?_
 refine Aa rfl (Az (Ao rfl <| Al rfl <| Ac) rfl) ?_
 refine Aa rfl (Ae (Ao rfl <| Al rfl <| Ac)) ?_
 refine Aa rfl (Ae (Ao rfl <| Al rfl <| Ac)) ?_
 refine Aa rfl (Ae (Ao rfl <| Al rfl <| Ac)) ?_
 refine Aa rfl (Ae (Ao rfl <| Al rfl <| Ac)) ?_
 refine Ah <| Ad <| Af <| Ai fun ds => Aa rfl (Bd Cc (Bv rfl <| A0 rfl <| Ac) rfl rfl (Bm 0 rfl)) ?_
 refine Bl rfl (Bw Br Cy rfl (.cons Ab (.cons Ab .nil)) rfl rfl (by decide) (by simp [Value.oneCell']) fun b33 hb33 nb33 => ?_)
 refine Bp (i := 0) rfl hb33 .here fun F34 hF35 hz36 => ?_
 replace hr := hr.mono hF35
 replace hq1 := hq1.mono hF35
 replace hq2 := hq2.mono hF35
 replace hq3 := hq3.mono hF35
 replace hq4 := hq4.mono hF35
 have hsl37 := Dn hz36
 refine Aa rfl (C6 bt_77 (.cons Ab rfl (.cons Ab rfl .nil)) (.cons rfl rfl (Nat.le_of_ble_eq_true rfl) (.cons (.here) .nil) (.cons rfl rfl (Nat.le_of_ble_eq_true rfl) (.cons (.next <| .here) .nil) .nil))) ?_
 refine Bl rfl (Dg (offs := [(0, 2)]) (zl := [.int .i64 0, .int .i64 0]) sl_40 zr_77 rfl (.cons (Ac) rfl .nil) (by intro i p h; rcases i with _ | i <;> simp at h <;> subst h <;> rfl) (.cons rfl rfl (Nat.le_of_ble_eq_true rfl) (.cons (.here) (.cons (.next <| .here) .nil)) .nil) (by decide) (by decide) fun b38 hb38 nb38 => ?_)
 refine Bp (i := 0) rfl hb38 .here fun F39 hF40 hz41 => ?_
 replace hr := hr.mono hF40
 replace hq1 := hq1.mono hF40
 replace hq2 := hq2.mono hF40
 replace hq3 := hq3.mono hF40
 replace hq4 := hq4.mono hF40
 replace hsl37 := hsl37.mono hF40
 have hsl42 := backB_box1 hz41
 refine Bl rfl (Cx bd_23 Ay (.cons (Ao rfl <| Al rfl <| Ac) (.cons (Ao rfl <| Ac) (.cons (Ac) .nil))) ((account_ok hr hsl37 hsl42).mono fun u F2 _ h => (by rw [ev_a2] at h; exact h : ∃ ws0 ws1, u = .tuple #[ws0, ws1, .int .i64 0, .int .i64 7] ∧ Ints F2 ws0 [] ∧ Ints F2 ws1 [])) fun v43 F44 hr45 hF46 => ?_)
 replace hr := hr.mono hF46
 replace hq1 := hq1.mono hF46
 replace hq2 := hq2.mono hF46
 replace hq3 := hq3.mono hF46
 replace hq4 := hq4.mono hF46
 obtain ⟨hq5_, hq6_, rfl, hq5, hq6⟩ := hr45
 refine Aa rfl (Ag (Ac)) ?_
 refine Aa rfl (Az (Ac) rfl) ?_
 refine Aa rfl (Az (Al rfl <| Ac) rfl) ?_
 refine Aa rfl (Az (Ao rfl <| Ac) rfl) ?_
 refine Aa rfl (Az (Ao rfl <| Al rfl <| Ac) rfl) ?_
 refine Aa rfl (Ae (Ao rfl <| Al rfl <| Ac)) ?_
 refine Aa rfl (Ae (Ao rfl <| Al rfl <| Ac)) ?_
 refine Aa rfl (Ae (Ao rfl <| Al rfl <| Ac)) ?_
 refine Aa rfl (Ae (Ao rfl <| Al rfl <| Ac)) ?_
 refine Ah <| Ad <| Af <| Ai fun ds => Aa rfl (Bd Cc (Bv rfl <| Bc rfl <| Ao rfl <| Ac) rfl rfl (Bm 0 rfl)) ?_
 refine Bl rfl (Bw Br Cy rfl (.cons Ab (.cons Ab (.cons Ab .nil))) rfl rfl (by decide) (by simp [Value.oneCell']) fun b47 hb47 nb47 => ?_)
 refine Bp (i := 0) rfl hb47 .here fun F48 hF49 hz50 => ?_
 replace hr := hr.mono hF49
 replace hq1 := hq1.mono hF49
 replace hq2 := hq2.mono hF49
 replace hq3 := hq3.mono hF49
 replace hq4 := hq4.mono hF49
 have hsl51 := ints_box3 hz50
 refine Bl rfl (Cx bd_26 Ay (.cons (Al rfl <| Ac) (.cons (Ac) .nil)) ((share_ok hr hsl51).mono fun u F2 _ h => (by rw [ev_h1] at h; exact h : ∃ ws0, u = .tuple #[ws0, .int .i64 0] ∧ Ints F2 ws0 [14, 13, 13])) fun v52 F53 hr54 hF55 => ?_)
 replace hr := hr.mono hF55
 replace hq1 := hq1.mono hF55
 replace hq2 := hq2.mono hF55
 replace hq3 := hq3.mono hF55
 replace hq4 := hq4.mono hF55
 obtain ⟨hq7_, rfl, hq7⟩ := hr54
 refine Aa rfl (Ag (Ac)) ?_
 refine Aa rfl (Az (Ac) rfl) ?_
 refine Aa rfl (Az (Al rfl <| Ac) rfl) ?_
 refine Aa rfl (Ae (Al rfl <| Ac)) ?_
 refine Aa rfl (Ae (Al rfl <| Ac)) ?_
 refine Ah <| Ad <| Af <| WC_drawF 10 (.inl rfl) (fun _ _ h => h) (by kernel_rfl) (by kernel_rfl) false rfl ([fun F v => v = .agg #[vs, .int .i64 100, .int .i64 150, .int .i64 14, vb, vl, vn, vd], fun F v => v = .agg #[.int .i64 0, .bool true, .int .i64 60, .int .i64 60], fun F v => v = .agg #[.int .i64 1, .bool true, .int .i64 48, .int .i64 48], fun F v => Sl F v 4 Ent.enc [ent1 0 60 60, ent1 1 48 48], fun F v => v = .tuple #[tupA v 0, .int .i64 0] ∧ Lsts F (tupA v 0) [[1, 3], [0, 1, 3], [1, 2, 3]], fun F v => v = .tuple #[tupA v 0, .int .i64 0] ∧ Lsts F (tupA v 0) [[1, 3], [0, 1, 3], [1, 2, 3]], fun F v => Lsts F v [[1, 3], [0, 1, 3], [1, 2, 3]], fun F v => v = .int .i64 0, fun F v => Lsts F v [[1, 3], [0, 1, 3], [1, 2, 3]], fun F v => v = .int .i64 0]) (⟨fun F F2 v hF h => h, fun F F2 v hF h => h, fun F F2 v hF h => h, fun F F2 v hF h => h.mono hF, fun F F2 v hF h => ⟨h.1, h.2.mono hF⟩, fun F F2 v hF h => ⟨h.1, h.2.mono hF⟩, fun F F2 v hF h => h.mono hF, fun F F2 v hF h => h, fun F F2 v hF h => h.mono hF, fun F F2 v hF h => h, trivial⟩) (fun ds => ?_) (fun ds => ?_)
 ·
  refine ⟨⟨⟨⟨⟨⟨⟨⟨⟨⟨trivial, ?_⟩, ?_⟩, ?_⟩, ?_⟩, ?_⟩, ?_⟩, ?_⟩, ?_⟩, ?_⟩, ?_⟩
  ·
   intro e1 F1 hF1 he hj
   refine ⟨_, _, _, _, _, rfl, ?_⟩
   refine Bo (Bd Cc (Bz (B8 he (by kernel_rfl)) <| Bv rfl <| Bc rfl <| Bb rfl <| Ao rfl <| Ac) rfl rfl (Bm 0 rfl)).quiet ⟨_, rfl, Heap.le_refl _, rfl⟩
  ·
   intro e1 F1 hF1 he hj
   refine ⟨_, _, _, _, _, rfl, ?_⟩
   refine Bo (A6 bd_36 Ay (.cons Ab (.cons Ab (.cons Ab .nil))) (entry_ok _ _ _) (fun _ _ h => h)) ⟨_, rfl, Heap.le_refl _, rfl⟩
  ·
   intro e1 F1 hF1 he hj
   have g72 : (e1 72) = .agg #[.int .i64 0, .bool true, .int .i64 60, .int .i64 60] := hj 1 (by kernel_rfl) (by decide)
   refine ⟨_, _, _, _, _, rfl, ?_⟩
   refine Bo (A6 bd_36 Ay (.cons Ab (.cons Ab (.cons Ab .nil))) (entry_ok _ _ _) (fun _ _ h => h)) ⟨_, rfl, Heap.le_refl _, rfl⟩
  ·
   intro e1 F1 hF1 he hj
   have g72 : (e1 72) = .agg #[.int .i64 0, .bool true, .int .i64 60, .int .i64 60] := hj 1 (by kernel_rfl) (by decide)
   have g73 : (e1 73) = .agg #[.int .i64 1, .bool true, .int .i64 48, .int .i64 48] := hj 2 (by kernel_rfl) (by decide)
   refine ⟨_, _, _, _, _, rfl, ?_⟩
   refine OpX_freeze (Dg (offs := [(0, 4), (4, 4)]) (zl := [.int .i64 0, .bool false, .int .i64 0, .int .i64 0, .int .i64 0, .bool false, .int .i64 0, .int .i64 0]) De zr_60 rfl (.cons (Ct g72) rfl (.cons (Ct g73) rfl .nil)) (by intro i p h; rcases i with _ | _ | i <;> simp at h <;> subst h <;> rfl) (.cons rfl rfl (Nat.le_of_ble_eq_true rfl) (.cons (.here) (.cons (.next <| .here) (.cons (.next <| .next <| .here) (.cons (.next <| .next <| .next <| .here) .nil)))) (.cons rfl rfl (Nat.le_of_ble_eq_true rfl) (.cons (.next <| .next <| .next <| .next <| .here) (.cons (.next <| .next <| .next <| .next <| .next <| .here) (.cons (.next <| .next <| .next <| .next <| .next <| .next <| .here) (.cons (.next <| .next <| .next <| .next <| .next <| .next <| .next <| .here) .nil)))) .nil)) (by decide) (by decide) fun b hb nb => ⟨b, _, hb, rfl, fun F2 hF2 hz => ⟨F2, rfl, hF2, (entA_box2 hz)⟩⟩)
  ·
   intro e1 F1 hF1 he hj
   replace hr := hr.mono hF1
   have g71 : (e1 71) = .agg #[vs, .int .i64 100, .int .i64 150, .int .i64 14, vb, vl, vn, vd] := hj 0 (by kernel_rfl) (by decide)
   have g73 : (e1 73) = .agg #[.int .i64 1, .bool true, .int .i64 48, .int .i64 48] := hj 2 (by kernel_rfl) (by decide)
   have g74 : Sl F1 (e1 74) 4 Ent.enc [ent1 0 60 60, ent1 1 48 48] := hj 3 (by kernel_rfl) (by decide)
   refine ⟨_, _, _, _, _, rfl, ?_⟩
   refine Cx bd_28 Ay (.cons (Ct g71) (.cons (Ct rfl) .nil)) (Ei hr g74) fun v2 F2 hr hF2 => ⟨F2, rfl, hF2, (hr.ans ev_r1)⟩
  ·
   intro e1 F1 hF1 he hj
   have g75 : (e1 75) = .tuple #[tupA (e1 75) 0, .int .i64 0] ∧ Lsts F1 (tupA (e1 75) 0) [[1, 3], [0, 1, 3], [1, 2, 3]] := hj 4 (by kernel_rfl) (by decide)
   refine ⟨_, _, _, _, _, rfl, ?_⟩
   refine Bo (Ag (Ct g75.1)).quiet ⟨_, rfl, Heap.le_refl _, ⟨rfl, g75.2⟩⟩
  ·
   intro e1 F1 hF1 he hj
   have g70 : (e1 70) = .tuple #[tupA (e1 70) 0, .int .i64 0] ∧ Lsts F1 (tupA (e1 70) 0) [[1, 3], [0, 1, 3], [1, 2, 3]] := hj 5 (by kernel_rfl) (by decide)
   refine ⟨_, _, _, _, _, rfl, ?_⟩
   refine Bo (Az (Ct g70.1) rfl).quiet ⟨_, rfl, Heap.le_refl _, g70.2⟩
  ·
   intro e1 F1 hF1 he hj
   have g70 : (e1 70) = .tuple #[tupA (e1 70) 0, .int .i64 0] ∧ Lsts F1 (tupA (e1 70) 0) [[1, 3], [0, 1, 3], [1, 2, 3]] := hj 5 (by kernel_rfl) (by decide)
   refine ⟨_, _, _, _, _, rfl, ?_⟩
   refine Bo (Az (Ct g70.1) rfl).quiet ⟨_, rfl, Heap.le_refl _, rfl⟩
  ·
   intro e1 F1 hF1 he hj
   have g71 : (e1 71) = .agg #[vs, .int .i64 100, .int .i64 150, .int .i64 14, vb, vl, vn, vd] := hj 0 (by kernel_rfl) (by decide)
   have g72 : (e1 72) = .agg #[.int .i64 0, .bool true, .int .i64 60, .int .i64 60] := hj 1 (by kernel_rfl) (by decide)
   have g73 : (e1 73) = .agg #[.int .i64 1, .bool true, .int .i64 48, .int .i64 48] := hj 2 (by kernel_rfl) (by decide)
   have g74 : Sl F1 (e1 74) 4 Ent.enc [ent1 0 60 60, ent1 1 48 48] := hj 3 (by kernel_rfl) (by decide)
   have g75 : (e1 75) = .tuple #[tupA (e1 75) 0, .int .i64 0] ∧ Lsts F1 (tupA (e1 75) 0) [[1, 3], [0, 1, 3], [1, 2, 3]] := hj 4 (by kernel_rfl) (by decide)
   have g70 : (e1 70) = .tuple #[tupA (e1 70) 0, .int .i64 0] ∧ Lsts F1 (tupA (e1 70) 0) [[1, 3], [0, 1, 3], [1, 2, 3]] := hj 5 (by kernel_rfl) (by decide)
   have g76 : Lsts F1 (e1 76) [[1, 3], [0, 1, 3], [1, 2, 3]] := hj 6 (by kernel_rfl) (by decide)
   refine ⟨_, _, _, _, _, rfl, ?_⟩
   refine Bo (Ae (Ct rfl)).quiet ⟨_, rfl, Heap.le_refl _, g76⟩
  ·
   intro e1 F1 hF1 he hj
   have g71 : (e1 71) = .agg #[vs, .int .i64 100, .int .i64 150, .int .i64 14, vb, vl, vn, vd] := hj 0 (by kernel_rfl) (by decide)
   have g72 : (e1 72) = .agg #[.int .i64 0, .bool true, .int .i64 60, .int .i64 60] := hj 1 (by kernel_rfl) (by decide)
   have g73 : (e1 73) = .agg #[.int .i64 1, .bool true, .int .i64 48, .int .i64 48] := hj 2 (by kernel_rfl) (by decide)
   have g74 : Sl F1 (e1 74) 4 Ent.enc [ent1 0 60 60, ent1 1 48 48] := hj 3 (by kernel_rfl) (by decide)
   have g75 : (e1 75) = .tuple #[tupA (e1 75) 0, .int .i64 0] ∧ Lsts F1 (tupA (e1 75) 0) [[1, 3], [0, 1, 3], [1, 2, 3]] := hj 4 (by kernel_rfl) (by decide)
   have g70 : (e1 70) = .tuple #[tupA (e1 70) 0, .int .i64 0] ∧ Lsts F1 (tupA (e1 70) 0) [[1, 3], [0, 1, 3], [1, 2, 3]] := hj 5 (by kernel_rfl) (by decide)
   have g76 : Lsts F1 (e1 76) [[1, 3], [0, 1, 3], [1, 2, 3]] := hj 6 (by kernel_rfl) (by decide)
   have g77 : (e1 77) = .int .i64 0 := hj 7 (by kernel_rfl) (by decide)
   have g18 : Lsts F1 (e1 18) [[1, 3], [0, 1, 3], [1, 2, 3]] := hj 8 (by kernel_rfl) (by decide)
   refine ⟨_, _, _, _, _, rfl, ?_⟩
   refine Bo (Ae (Ct g77)).quiet ⟨_, rfl, Heap.le_refl _, rfl⟩
 intro e59 F56 hF57 he58 hj
 replace hr := hr.mono hF57
 replace hq1 := hq1.mono hF57
 replace hq2 := hq2.mono hF57
 replace hq3 := hq3.mono hF57
 replace hq4 := hq4.mono hF57
 replace hq7 := hq7.mono hF57
 have g71 : (e59 71) = .agg #[vs, .int .i64 100, .int .i64 150, .int .i64 14, vb, vl, vn, vd] := hj 0 (by decide)
 have g72 : (e59 72) = .agg #[.int .i64 0, .bool true, .int .i64 60, .int .i64 60] := hj 1 (by decide)
 have g73 : (e59 73) = .agg #[.int .i64 1, .bool true, .int .i64 48, .int .i64 48] := hj 2 (by decide)
 have g74 : Sl F56 (e59 74) 4 Ent.enc [ent1 0 60 60, ent1 1 48 48] := hj 3 (by decide)
 have g75 : (e59 75) = .tuple #[tupA (e59 75) 0, .int .i64 0] ∧ Lsts F56 (tupA (e59 75) 0) [[1, 3], [0, 1, 3], [1, 2, 3]] := hj 4 (by decide)
 have g70 : (e59 70) = .tuple #[tupA (e59 70) 0, .int .i64 0] ∧ Lsts F56 (tupA (e59 70) 0) [[1, 3], [0, 1, 3], [1, 2, 3]] := hj 5 (by decide)
 have g76 : Lsts F56 (e59 76) [[1, 3], [0, 1, 3], [1, 2, 3]] := hj 6 (by decide)
 have g77 : (e59 77) = .int .i64 0 := hj 7 (by decide)
 have g18 : Lsts F56 (e59 18) [[1, 3], [0, 1, 3], [1, 2, 3]] := hj 8 (by decide)
 have g19 : (e59 19) = .int .i64 0 := hj 9 (by decide)
 refine Ad <| Af <| WC_drawF 11 (.inl rfl) (fun _ _ h => h) (by kernel_rfl) (by kernel_rfl) false rfl ([fun F v => v = .agg #[vs, .int .i64 100, .int .i64 150, .int .i64 14, vb, vl, vn, vd], fun F v => v = .agg #[.int .i64 0, .bool true, .int .i64 20, .int .i64 50], fun F v => Sl F v 4 Ent.enc [ent1 0 20 50], fun F v => v = .tuple #[tupA v 0, tupA v 1, .int .i64 0] ∧ Nats F (tupA v 0) [0, 2] ∧ Nats F (tupA v 1) [0, 1, 2, 3], fun F v => v = .tuple #[tupA v 0, tupA v 1, .int .i64 0] ∧ Nats F (tupA v 0) [0, 2] ∧ Nats F (tupA v 1) [0, 1, 2, 3], fun F v => Nats F v [0, 2], fun F v => Nats F v [0, 1, 2, 3], fun F v => v = .int .i64 0, fun F v => Nats F v [0, 2], fun F v => Nats F v [0, 1, 2, 3], fun F v => v = .int .i64 0]) (⟨fun F F2 v hF h => h, fun F F2 v hF h => h, fun F F2 v hF h => h.mono hF, fun F F2 v hF h => ⟨h.1, h.2.1.mono hF, h.2.2.mono hF⟩, fun F F2 v hF h => ⟨h.1, h.2.1.mono hF, h.2.2.mono hF⟩, fun F F2 v hF h => h.mono hF, fun F F2 v hF h => h.mono hF, fun F F2 v hF h => h, fun F F2 v hF h => h.mono hF, fun F F2 v hF h => h.mono hF, fun F F2 v hF h => h, trivial⟩) (fun ds => ?_) (fun ds => ?_)
 ·
  refine ⟨⟨⟨⟨⟨⟨⟨⟨⟨⟨⟨trivial, ?_⟩, ?_⟩, ?_⟩, ?_⟩, ?_⟩, ?_⟩, ?_⟩, ?_⟩, ?_⟩, ?_⟩, ?_⟩
  ·
   intro e1 F1 hF1 he hj
   refine ⟨_, _, _, _, _, rfl, ?_⟩
   refine Bo (Bd Cc (Bz (B8 he (by kernel_rfl)) <| Bz (B8 he58 (by kernel_rfl)) <| Bv rfl <| Bc rfl <| Bb rfl <| Ao rfl <| Ac) rfl rfl (Bm 0 rfl)).quiet ⟨_, rfl, Heap.le_refl _, rfl⟩
  ·
   intro e1 F1 hF1 he hj
   refine ⟨_, _, _, _, _, rfl, ?_⟩
   refine Bo (A6 bd_36 Ay (.cons Ab (.cons Ab (.cons Ab .nil))) (entry_ok _ _ _) (fun _ _ h => h)) ⟨_, rfl, Heap.le_refl _, rfl⟩
  ·
   intro e1 F1 hF1 he hj
   have g80 : (e1 80) = .agg #[.int .i64 0, .bool true, .int .i64 20, .int .i64 50] := hj 1 (by kernel_rfl) (by decide)
   refine ⟨_, _, _, _, _, rfl, ?_⟩
   refine OpX_freeze (Dg (offs := [(0, 4)]) (zl := [.int .i64 0, .bool false, .int .i64 0, .int .i64 0]) De zr_60 rfl (.cons (Ct g80) rfl .nil) (by intro i p h; rcases i with _ | i <;> simp at h <;> subst h <;> rfl) (.cons rfl rfl (Nat.le_of_ble_eq_true rfl) (.cons (.here) (.cons (.next <| .here) (.cons (.next <| .next <| .here) (.cons (.next <| .next <| .next <| .here) .nil)))) .nil) (by decide) (by decide) fun b hb nb => ⟨b, _, hb, rfl, fun F2 hF2 hz => ⟨F2, rfl, hF2, (entB_box1 hz)⟩⟩)
  ·
   intro e1 F1 hF1 he hj
   replace hr := hr.mono hF1
   have g79 : (e1 79) = .agg #[vs, .int .i64 100, .int .i64 150, .int .i64 14, vb, vl, vn, vd] := hj 0 (by kernel_rfl) (by decide)
   have g80 : (e1 80) = .agg #[.int .i64 0, .bool true, .int .i64 20, .int .i64 50] := hj 1 (by kernel_rfl) (by decide)
   have g81 : Sl F1 (e1 81) 4 Ent.enc [ent1 0 20 50] := hj 2 (by kernel_rfl) (by decide)
   refine ⟨_, _, _, _, _, rfl, ?_⟩
   refine Cx bd_31 Ay (.cons (Ct g79) (.cons (Ct rfl) .nil)) (members_ok hr g81) fun v2 F2 hr hF2 => ⟨F2, rfl, hF2, (hr.ans ev_m1)⟩
  ·
   intro e1 F1 hF1 he hj
   have g82 : (e1 82) = .tuple #[tupA (e1 82) 0, tupA (e1 82) 1, .int .i64 0] ∧ Nats F1 (tupA (e1 82) 0) [0, 2] ∧ Nats F1 (tupA (e1 82) 1) [0, 1, 2, 3] := hj 3 (by kernel_rfl) (by decide)
   refine ⟨_, _, _, _, _, rfl, ?_⟩
   refine Bo (Ag (Ct g82.1)).quiet ⟨_, rfl, Heap.le_refl _, ⟨rfl, g82.2⟩⟩
  ·
   intro e1 F1 hF1 he hj
   have g78 : (e1 78) = .tuple #[tupA (e1 78) 0, tupA (e1 78) 1, .int .i64 0] ∧ Nats F1 (tupA (e1 78) 0) [0, 2] ∧ Nats F1 (tupA (e1 78) 1) [0, 1, 2, 3] := hj 4 (by kernel_rfl) (by decide)
   refine ⟨_, _, _, _, _, rfl, ?_⟩
   refine Bo (Az (Ct g78.1) rfl).quiet ⟨_, rfl, Heap.le_refl _, g78.2.1⟩
  ·
   intro e1 F1 hF1 he hj
   have g78 : (e1 78) = .tuple #[tupA (e1 78) 0, tupA (e1 78) 1, .int .i64 0] ∧ Nats F1 (tupA (e1 78) 0) [0, 2] ∧ Nats F1 (tupA (e1 78) 1) [0, 1, 2, 3] := hj 4 (by kernel_rfl) (by decide)
   refine ⟨_, _, _, _, _, rfl, ?_⟩
   refine Bo (Az (Ct g78.1) rfl).quiet ⟨_, rfl, Heap.le_refl _, g78.2.2⟩
  ·
   intro e1 F1 hF1 he hj
   have g78 : (e1 78) = .tuple #[tupA (e1 78) 0, tupA (e1 78) 1, .int .i64 0] ∧ Nats F1 (tupA (e1 78) 0) [0, 2] ∧ Nats F1 (tupA (e1 78) 1) [0, 1, 2, 3] := hj 4 (by kernel_rfl) (by decide)
   refine ⟨_, _, _, _, _, rfl, ?_⟩
   refine Bo (Az (Ct g78.1) rfl).quiet ⟨_, rfl, Heap.le_refl _, rfl⟩
  ·
   intro e1 F1 hF1 he hj
   have g79 : (e1 79) = .agg #[vs, .int .i64 100, .int .i64 150, .int .i64 14, vb, vl, vn, vd] := hj 0 (by kernel_rfl) (by decide)
   have g80 : (e1 80) = .agg #[.int .i64 0, .bool true, .int .i64 20, .int .i64 50] := hj 1 (by kernel_rfl) (by decide)
   have g81 : Sl F1 (e1 81) 4 Ent.enc [ent1 0 20 50] := hj 2 (by kernel_rfl) (by decide)
   have g82 : (e1 82) = .tuple #[tupA (e1 82) 0, tupA (e1 82) 1, .int .i64 0] ∧ Nats F1 (tupA (e1 82) 0) [0, 2] ∧ Nats F1 (tupA (e1 82) 1) [0, 1, 2, 3] := hj 3 (by kernel_rfl) (by decide)
   have g78 : (e1 78) = .tuple #[tupA (e1 78) 0, tupA (e1 78) 1, .int .i64 0] ∧ Nats F1 (tupA (e1 78) 0) [0, 2] ∧ Nats F1 (tupA (e1 78) 1) [0, 1, 2, 3] := hj 4 (by kernel_rfl) (by decide)
   have g83 : Nats F1 (e1 83) [0, 2] := hj 5 (by kernel_rfl) (by decide)
   refine ⟨_, _, _, _, _, rfl, ?_⟩
   refine Bo (Ae (Ct rfl)).quiet ⟨_, rfl, Heap.le_refl _, g83⟩
  ·
   intro e1 F1 hF1 he hj
   have g79 : (e1 79) = .agg #[vs, .int .i64 100, .int .i64 150, .int .i64 14, vb, vl, vn, vd] := hj 0 (by kernel_rfl) (by decide)
   have g80 : (e1 80) = .agg #[.int .i64 0, .bool true, .int .i64 20, .int .i64 50] := hj 1 (by kernel_rfl) (by decide)
   have g81 : Sl F1 (e1 81) 4 Ent.enc [ent1 0 20 50] := hj 2 (by kernel_rfl) (by decide)
   have g82 : (e1 82) = .tuple #[tupA (e1 82) 0, tupA (e1 82) 1, .int .i64 0] ∧ Nats F1 (tupA (e1 82) 0) [0, 2] ∧ Nats F1 (tupA (e1 82) 1) [0, 1, 2, 3] := hj 3 (by kernel_rfl) (by decide)
   have g78 : (e1 78) = .tuple #[tupA (e1 78) 0, tupA (e1 78) 1, .int .i64 0] ∧ Nats F1 (tupA (e1 78) 0) [0, 2] ∧ Nats F1 (tupA (e1 78) 1) [0, 1, 2, 3] := hj 4 (by kernel_rfl) (by decide)
   have g83 : Nats F1 (e1 83) [0, 2] := hj 5 (by kernel_rfl) (by decide)
   have g84 : Nats F1 (e1 84) [0, 1, 2, 3] := hj 6 (by kernel_rfl) (by decide)
   have g20 : Nats F1 (e1 20) [0, 2] := hj 8 (by kernel_rfl) (by decide)
   refine ⟨_, _, _, _, _, rfl, ?_⟩
   refine Bo (Ae (Ct rfl)).quiet ⟨_, rfl, Heap.le_refl _, g84⟩
  ·
   intro e1 F1 hF1 he hj
   have g79 : (e1 79) = .agg #[vs, .int .i64 100, .int .i64 150, .int .i64 14, vb, vl, vn, vd] := hj 0 (by kernel_rfl) (by decide)
   have g80 : (e1 80) = .agg #[.int .i64 0, .bool true, .int .i64 20, .int .i64 50] := hj 1 (by kernel_rfl) (by decide)
   have g81 : Sl F1 (e1 81) 4 Ent.enc [ent1 0 20 50] := hj 2 (by kernel_rfl) (by decide)
   have g82 : (e1 82) = .tuple #[tupA (e1 82) 0, tupA (e1 82) 1, .int .i64 0] ∧ Nats F1 (tupA (e1 82) 0) [0, 2] ∧ Nats F1 (tupA (e1 82) 1) [0, 1, 2, 3] := hj 3 (by kernel_rfl) (by decide)
   have g78 : (e1 78) = .tuple #[tupA (e1 78) 0, tupA (e1 78) 1, .int .i64 0] ∧ Nats F1 (tupA (e1 78) 0) [0, 2] ∧ Nats F1 (tupA (e1 78) 1) [0, 1, 2, 3] := hj 4 (by kernel_rfl) (by decide)
   have g83 : Nats F1 (e1 83) [0, 2] := hj 5 (by kernel_rfl) (by decide)
   have g84 : Nats F1 (e1 84) [0, 1, 2, 3] := hj 6 (by kernel_rfl) (by decide)
   have g85 : (e1 85) = .int .i64 0 := hj 7 (by kernel_rfl) (by decide)
   have g20 : Nats F1 (e1 20) [0, 2] := hj 8 (by kernel_rfl) (by decide)
   have g21 : Nats F1 (e1 21) [0, 1, 2, 3] := hj 9 (by kernel_rfl) (by decide)
   refine ⟨_, _, _, _, _, rfl, ?_⟩
   refine Bo (Ae (Ct g85)).quiet ⟨_, rfl, Heap.le_refl _, rfl⟩
 intro e63 F60 hF61 he62 hj
 replace hr := hr.mono hF61
 replace hq1 := hq1.mono hF61
 replace hq2 := hq2.mono hF61
 replace hq3 := hq3.mono hF61
 replace hq4 := hq4.mono hF61
 replace hq7 := hq7.mono hF61
 replace g18 := g18.mono hF61
 have g79 : (e63 79) = .agg #[vs, .int .i64 100, .int .i64 150, .int .i64 14, vb, vl, vn, vd] := hj 0 (by decide)
 have g80 : (e63 80) = .agg #[.int .i64 0, .bool true, .int .i64 20, .int .i64 50] := hj 1 (by decide)
 have g81 : Sl F60 (e63 81) 4 Ent.enc [ent1 0 20 50] := hj 2 (by decide)
 have g82 : (e63 82) = .tuple #[tupA (e63 82) 0, tupA (e63 82) 1, .int .i64 0] ∧ Nats F60 (tupA (e63 82) 0) [0, 2] ∧ Nats F60 (tupA (e63 82) 1) [0, 1, 2, 3] := hj 3 (by decide)
 have g78 : (e63 78) = .tuple #[tupA (e63 78) 0, tupA (e63 78) 1, .int .i64 0] ∧ Nats F60 (tupA (e63 78) 0) [0, 2] ∧ Nats F60 (tupA (e63 78) 1) [0, 1, 2, 3] := hj 4 (by decide)
 have g83 : Nats F60 (e63 83) [0, 2] := hj 5 (by decide)
 have g84 : Nats F60 (e63 84) [0, 1, 2, 3] := hj 6 (by decide)
 have g85 : (e63 85) = .int .i64 0 := hj 7 (by decide)
 have g20 : Nats F60 (e63 20) [0, 2] := hj 8 (by decide)
 have g21 : Nats F60 (e63 21) [0, 1, 2, 3] := hj 9 (by decide)
 have g22 : (e63 22) = .int .i64 0 := hj 10 (by decide)
 refine Ad <| Af <| WC_drawF 11 (.inl rfl) (fun _ _ h => h) (by kernel_rfl) (by kernel_rfl) false rfl ([fun F v => v = .agg #[vs, .int .i64 100, .int .i64 150, .int .i64 14, vb, vl, vn, vd], fun F v => v = .agg #[.int .i64 0, .bool true, .int .i64 45, .int .i64 45], fun F v => v = .agg #[.int .i64 1, .bool true, .int .i64 48, .int .i64 48], fun F v => v = .agg #[.int .i64 2, .bool true, .int .i64 30, .int .i64 30], fun F v => Sl F v 4 Ent.enc [ent1 0 45 45, ent1 1 48 48, ent1 2 30 30], fun F v => v = .tuple #[tupA v 0, .int .i64 0] ∧ Nats F (tupA v 0) [0, 2], fun F v => v = .tuple #[tupA v 0, .int .i64 0] ∧ Nats F (tupA v 0) [0, 2], fun F v => Nats F v [0, 2], fun F v => v = .int .i64 0, fun F v => Nats F v [0, 2], fun F v => v = .int .i64 0]) (⟨fun F F2 v hF h => h, fun F F2 v hF h => h, fun F F2 v hF h => h, fun F F2 v hF h => h, fun F F2 v hF h => h.mono hF, fun F F2 v hF h => ⟨h.1, h.2.mono hF⟩, fun F F2 v hF h => ⟨h.1, h.2.mono hF⟩, fun F F2 v hF h => h.mono hF, fun F F2 v hF h => h, fun F F2 v hF h => h.mono hF, fun F F2 v hF h => h, trivial⟩) (fun ds => ?_) (fun ds => ?_)
 ·
  refine ⟨⟨⟨⟨⟨⟨⟨⟨⟨⟨⟨trivial, ?_⟩, ?_⟩, ?_⟩, ?_⟩, ?_⟩, ?_⟩, ?_⟩, ?_⟩, ?_⟩, ?_⟩, ?_⟩
  ·
   intro e1 F1 hF1 he hj
   refine ⟨_, _, _, _, _, rfl, ?_⟩
   refine Bo (Bd Cc (Bz (B8 he (by kernel_rfl)) <| Bz (B8 he62 (by kernel_rfl)) <| Bz (B8 he58 (by kernel_rfl)) <| Bv rfl <| Bc rfl <| Bb rfl <| Ao rfl <| Ac) rfl rfl (Bm 0 rfl)).quiet ⟨_, rfl, Heap.le_refl _, rfl⟩
  ·
   intro e1 F1 hF1 he hj
   refine ⟨_, _, _, _, _, rfl, ?_⟩
   refine Bo (A6 bd_36 Ay (.cons Ab (.cons Ab (.cons Ab .nil))) (entry_ok _ _ _) (fun _ _ h => h)) ⟨_, rfl, Heap.le_refl _, rfl⟩
  ·
   intro e1 F1 hF1 he hj
   have g88 : (e1 88) = .agg #[.int .i64 0, .bool true, .int .i64 45, .int .i64 45] := hj 1 (by kernel_rfl) (by decide)
   refine ⟨_, _, _, _, _, rfl, ?_⟩
   refine Bo (A6 bd_36 Ay (.cons Ab (.cons Ab (.cons Ab .nil))) (entry_ok _ _ _) (fun _ _ h => h)) ⟨_, rfl, Heap.le_refl _, rfl⟩
  ·
   intro e1 F1 hF1 he hj
   have g89 : (e1 89) = .agg #[.int .i64 1, .bool true, .int .i64 48, .int .i64 48] := hj 2 (by kernel_rfl) (by decide)
   refine ⟨_, _, _, _, _, rfl, ?_⟩
   refine Bo (A6 bd_36 Ay (.cons Ab (.cons Ab (.cons Ab .nil))) (entry_ok _ _ _) (fun _ _ h => h)) ⟨_, rfl, Heap.le_refl _, rfl⟩
  ·
   intro e1 F1 hF1 he hj
   have g88 : (e1 88) = .agg #[.int .i64 0, .bool true, .int .i64 45, .int .i64 45] := hj 1 (by kernel_rfl) (by decide)
   have g89 : (e1 89) = .agg #[.int .i64 1, .bool true, .int .i64 48, .int .i64 48] := hj 2 (by kernel_rfl) (by decide)
   have g90 : (e1 90) = .agg #[.int .i64 2, .bool true, .int .i64 30, .int .i64 30] := hj 3 (by kernel_rfl) (by decide)
   refine ⟨_, _, _, _, _, rfl, ?_⟩
   refine OpX_freeze (Dg (offs := [(0, 4), (4, 4), (8, 4)]) (zl := [.int .i64 0, .bool false, .int .i64 0, .int .i64 0, .int .i64 0, .bool false, .int .i64 0, .int .i64 0, .int .i64 0, .bool false, .int .i64 0, .int .i64 0]) De zr_60 rfl (.cons (Ct g88) rfl (.cons (Ct g89) rfl (.cons (Ct g90) rfl .nil))) (by intro i p h; rcases i with _ | _ | _ | i <;> simp at h <;> subst h <;> rfl) (.cons rfl rfl (Nat.le_of_ble_eq_true rfl) (.cons (.here) (.cons (.next <| .here) (.cons (.next <| .next <| .here) (.cons (.next <| .next <| .next <| .here) .nil)))) (.cons rfl rfl (Nat.le_of_ble_eq_true rfl) (.cons (.next <| .next <| .next <| .next <| .here) (.cons (.next <| .next <| .next <| .next <| .next <| .here) (.cons (.next <| .next <| .next <| .next <| .next <| .next <| .here) (.cons (.next <| .next <| .next <| .next <| .next <| .next <| .next <| .here) .nil)))) (.cons rfl rfl (Nat.le_of_ble_eq_true rfl) (.cons (.next <| .next <| .next <| .next <| .next <| .next <| .next <| .next <| .here) (.cons (.next <| .next <| .next <| .next <| .next <| .next <| .next <| .next <| .next <| .here) (.cons (.next <| .next <| .next <| .next <| .next <| .next <| .next <| .next <| .next <| .next <| .here) (.cons (.next <| .next <| .next <| .next <| .next <| .next <| .next <| .next <| .next <| .next <| .next <| .here) .nil)))) .nil))) (by decide) (by decide) fun b hb nb => ⟨b, _, hb, rfl, fun F2 hF2 hz => ⟨F2, rfl, hF2, (entC_box3 hz)⟩⟩)
  ·
   intro e1 F1 hF1 he hj
   replace hr := hr.mono hF1
   have g87 : (e1 87) = .agg #[vs, .int .i64 100, .int .i64 150, .int .i64 14, vb, vl, vn, vd] := hj 0 (by kernel_rfl) (by decide)
   have g90 : (e1 90) = .agg #[.int .i64 2, .bool true, .int .i64 30, .int .i64 30] := hj 3 (by kernel_rfl) (by decide)
   have g91 : Sl F1 (e1 91) 4 Ent.enc [ent1 0 45 45, ent1 1 48 48, ent1 2 30 30] := hj 4 (by kernel_rfl) (by decide)
   refine ⟨_, _, _, _, _, rfl, ?_⟩
   refine Cx bd_33 Ay (.cons (Ct g87) (.cons (Ct rfl) .nil)) (wrong_ok hr g91) fun v2 F2 hr hF2 => ⟨F2, rfl, hF2, (hr.ans ev_w1)⟩
  ·
   intro e1 F1 hF1 he hj
   have g92 : (e1 92) = .tuple #[tupA (e1 92) 0, .int .i64 0] ∧ Nats F1 (tupA (e1 92) 0) [0, 2] := hj 5 (by kernel_rfl) (by decide)
   refine ⟨_, _, _, _, _, rfl, ?_⟩
   refine Bo (Ag (Ct g92.1)).quiet ⟨_, rfl, Heap.le_refl _, ⟨rfl, g92.2⟩⟩
  ·
   intro e1 F1 hF1 he hj
   have g86 : (e1 86) = .tuple #[tupA (e1 86) 0, .int .i64 0] ∧ Nats F1 (tupA (e1 86) 0) [0, 2] := hj 6 (by kernel_rfl) (by decide)
   refine ⟨_, _, _, _, _, rfl, ?_⟩
   refine Bo (Az (Ct g86.1) rfl).quiet ⟨_, rfl, Heap.le_refl _, g86.2⟩
  ·
   intro e1 F1 hF1 he hj
   have g86 : (e1 86) = .tuple #[tupA (e1 86) 0, .int .i64 0] ∧ Nats F1 (tupA (e1 86) 0) [0, 2] := hj 6 (by kernel_rfl) (by decide)
   refine ⟨_, _, _, _, _, rfl, ?_⟩
   refine Bo (Az (Ct g86.1) rfl).quiet ⟨_, rfl, Heap.le_refl _, rfl⟩
  ·
   intro e1 F1 hF1 he hj
   have g87 : (e1 87) = .agg #[vs, .int .i64 100, .int .i64 150, .int .i64 14, vb, vl, vn, vd] := hj 0 (by kernel_rfl) (by decide)
   have g88 : (e1 88) = .agg #[.int .i64 0, .bool true, .int .i64 45, .int .i64 45] := hj 1 (by kernel_rfl) (by decide)
   have g89 : (e1 89) = .agg #[.int .i64 1, .bool true, .int .i64 48, .int .i64 48] := hj 2 (by kernel_rfl) (by decide)
   have g90 : (e1 90) = .agg #[.int .i64 2, .bool true, .int .i64 30, .int .i64 30] := hj 3 (by kernel_rfl) (by decide)
   have g91 : Sl F1 (e1 91) 4 Ent.enc [ent1 0 45 45, ent1 1 48 48, ent1 2 30 30] := hj 4 (by kernel_rfl) (by decide)
   have g92 : (e1 92) = .tuple #[tupA (e1 92) 0, .int .i64 0] ∧ Nats F1 (tupA (e1 92) 0) [0, 2] := hj 5 (by kernel_rfl) (by decide)
   have g86 : (e1 86) = .tuple #[tupA (e1 86) 0, .int .i64 0] ∧ Nats F1 (tupA (e1 86) 0) [0, 2] := hj 6 (by kernel_rfl) (by decide)
   have g93 : Nats F1 (e1 93) [0, 2] := hj 7 (by kernel_rfl) (by decide)
   refine ⟨_, _, _, _, _, rfl, ?_⟩
   refine Bo (Ae (Ct rfl)).quiet ⟨_, rfl, Heap.le_refl _, g93⟩
  ·
   intro e1 F1 hF1 he hj
   have g87 : (e1 87) = .agg #[vs, .int .i64 100, .int .i64 150, .int .i64 14, vb, vl, vn, vd] := hj 0 (by kernel_rfl) (by decide)
   have g88 : (e1 88) = .agg #[.int .i64 0, .bool true, .int .i64 45, .int .i64 45] := hj 1 (by kernel_rfl) (by decide)
   have g89 : (e1 89) = .agg #[.int .i64 1, .bool true, .int .i64 48, .int .i64 48] := hj 2 (by kernel_rfl) (by decide)
   have g90 : (e1 90) = .agg #[.int .i64 2, .bool true, .int .i64 30, .int .i64 30] := hj 3 (by kernel_rfl) (by decide)
   have g91 : Sl F1 (e1 91) 4 Ent.enc [ent1 0 45 45, ent1 1 48 48, ent1 2 30 30] := hj 4 (by kernel_rfl) (by decide)
   have g92 : (e1 92) = .tuple #[tupA (e1 92) 0, .int .i64 0] ∧ Nats F1 (tupA (e1 92) 0) [0, 2] := hj 5 (by kernel_rfl) (by decide)
   have g86 : (e1 86) = .tuple #[tupA (e1 86) 0, .int .i64 0] ∧ Nats F1 (tupA (e1 86) 0) [0, 2] := hj 6 (by kernel_rfl) (by decide)
   have g93 : Nats F1 (e1 93) [0, 2] := hj 7 (by kernel_rfl) (by decide)
   have g94 : (e1 94) = .int .i64 0 := hj 8 (by kernel_rfl) (by decide)
   have g23 : Nats F1 (e1 23) [0, 2] := hj 9 (by kernel_rfl) (by decide)
   refine ⟨_, _, _, _, _, rfl, ?_⟩
   refine Bo (Ae (Ct g94)).quiet ⟨_, rfl, Heap.le_refl _, rfl⟩
 intro e67 F64 hF65 he66 hj
 replace hr := hr.mono hF65
 replace hq1 := hq1.mono hF65
 replace hq2 := hq2.mono hF65
 replace hq3 := hq3.mono hF65
 replace hq4 := hq4.mono hF65
 replace hq7 := hq7.mono hF65
 replace g18 := g18.mono hF65
 replace g20 := g20.mono hF65
 replace g21 := g21.mono hF65
 have g87 : (e67 87) = .agg #[vs, .int .i64 100, .int .i64 150, .int .i64 14, vb, vl, vn, vd] := hj 0 (by decide)
 have g88 : (e67 88) = .agg #[.int .i64 0, .bool true, .int .i64 45, .int .i64 45] := hj 1 (by decide)
 have g89 : (e67 89) = .agg #[.int .i64 1, .bool true, .int .i64 48, .int .i64 48] := hj 2 (by decide)
 have g90 : (e67 90) = .agg #[.int .i64 2, .bool true, .int .i64 30, .int .i64 30] := hj 3 (by decide)
 have g91 : Sl F64 (e67 91) 4 Ent.enc [ent1 0 45 45, ent1 1 48 48, ent1 2 30 30] := hj 4 (by decide)
 have g92 : (e67 92) = .tuple #[tupA (e67 92) 0, .int .i64 0] ∧ Nats F64 (tupA (e67 92) 0) [0, 2] := hj 5 (by decide)
 have g86 : (e67 86) = .tuple #[tupA (e67 86) 0, .int .i64 0] ∧ Nats F64 (tupA (e67 86) 0) [0, 2] := hj 6 (by decide)
 have g93 : Nats F64 (e67 93) [0, 2] := hj 7 (by decide)
 have g94 : (e67 94) = .int .i64 0 := hj 8 (by decide)
 have g23 : Nats F64 (e67 23) [0, 2] := hj 9 (by decide)
 have g24 : (e67 24) = .int .i64 0 := hj 10 (by decide)
 refine Ad <| Af <| WC_drawF 9 (.inl rfl) (fun _ _ h => h) (by kernel_rfl) (by kernel_rfl) false rfl ([fun F v => v = .agg #[vs, .int .i64 100, .int .i64 150, .int .i64 14, vb, vl, vn, vd], fun F v => v = .agg #[.int .i64 2, .bool true, .int .i64 30, .int .i64 30], fun F v => Sl F v 4 Ent.enc [ent1 2 30 30], fun F v => v = .tuple #[tupA v 0, .int .i64 8] ∧ Lsts F (tupA v 0) [], fun F v => v = .tuple #[tupA v 0, .int .i64 8] ∧ Lsts F (tupA v 0) [], fun F v => Lsts F v [], fun F v => v = .int .i64 8, fun F v => Lsts F v [], fun F v => v = .int .i64 8]) (⟨fun F F2 v hF h => h, fun F F2 v hF h => h, fun F F2 v hF h => h.mono hF, fun F F2 v hF h => ⟨h.1, h.2.mono hF⟩, fun F F2 v hF h => ⟨h.1, h.2.mono hF⟩, fun F F2 v hF h => h.mono hF, fun F F2 v hF h => h, fun F F2 v hF h => h.mono hF, fun F F2 v hF h => h, trivial⟩) (fun ds => ?_) (fun ds => ?_)
 ·
  refine ⟨⟨⟨⟨⟨⟨⟨⟨⟨trivial, ?_⟩, ?_⟩, ?_⟩, ?_⟩, ?_⟩, ?_⟩, ?_⟩, ?_⟩, ?_⟩
  ·
   intro e1 F1 hF1 he hj
   refine ⟨_, _, _, _, _, rfl, ?_⟩
   refine Bo (Bd Cc (Bz (B8 he (by kernel_rfl)) <| Bz (B8 he66 (by kernel_rfl)) <| Bz (B8 he62 (by kernel_rfl)) <| Bz (B8 he58 (by kernel_rfl)) <| Bv rfl <| Bc rfl <| Bb rfl <| Ao rfl <| Ac) rfl rfl (Bm 0 rfl)).quiet ⟨_, rfl, Heap.le_refl _, rfl⟩
  ·
   intro e1 F1 hF1 he hj
   refine ⟨_, _, _, _, _, rfl, ?_⟩
   refine Bo (A6 bd_36 Ay (.cons Ab (.cons Ab (.cons Ab .nil))) (entry_ok _ _ _) (fun _ _ h => h)) ⟨_, rfl, Heap.le_refl _, rfl⟩
  ·
   intro e1 F1 hF1 he hj
   have g97 : (e1 97) = .agg #[.int .i64 2, .bool true, .int .i64 30, .int .i64 30] := hj 1 (by kernel_rfl) (by decide)
   refine ⟨_, _, _, _, _, rfl, ?_⟩
   refine OpX_freeze (Dg (offs := [(0, 4)]) (zl := [.int .i64 0, .bool false, .int .i64 0, .int .i64 0]) De zr_60 rfl (.cons (Ct g97) rfl .nil) (by intro i p h; rcases i with _ | i <;> simp at h <;> subst h <;> rfl) (.cons rfl rfl (Nat.le_of_ble_eq_true rfl) (.cons (.here) (.cons (.next <| .here) (.cons (.next <| .next <| .here) (.cons (.next <| .next <| .next <| .here) .nil)))) .nil) (by decide) (by decide) fun b hb nb => ⟨b, _, hb, rfl, fun F2 hF2 hz => ⟨F2, rfl, hF2, (entD_box1 hz)⟩⟩)
  ·
   intro e1 F1 hF1 he hj
   replace hr := hr.mono hF1
   have g96 : (e1 96) = .agg #[vs, .int .i64 100, .int .i64 150, .int .i64 14, vb, vl, vn, vd] := hj 0 (by kernel_rfl) (by decide)
   have g97 : (e1 97) = .agg #[.int .i64 2, .bool true, .int .i64 30, .int .i64 30] := hj 1 (by kernel_rfl) (by decide)
   have g98 : Sl F1 (e1 98) 4 Ent.enc [ent1 2 30 30] := hj 2 (by kernel_rfl) (by decide)
   refine ⟨_, _, _, _, _, rfl, ?_⟩
   refine Cx bd_28 Ay (.cons (Ct g96) (.cons (Ct rfl) .nil)) (Ei hr g98) fun v2 F2 hr hF2 => ⟨F2, rfl, hF2, (hr.ans ev_r2)⟩
  ·
   intro e1 F1 hF1 he hj
   have g99 : (e1 99) = .tuple #[tupA (e1 99) 0, .int .i64 8] ∧ Lsts F1 (tupA (e1 99) 0) [] := hj 3 (by kernel_rfl) (by decide)
   refine ⟨_, _, _, _, _, rfl, ?_⟩
   refine Bo (Ag (Ct g99.1)).quiet ⟨_, rfl, Heap.le_refl _, ⟨rfl, g99.2⟩⟩
  ·
   intro e1 F1 hF1 he hj
   have g95 : (e1 95) = .tuple #[tupA (e1 95) 0, .int .i64 8] ∧ Lsts F1 (tupA (e1 95) 0) [] := hj 4 (by kernel_rfl) (by decide)
   refine ⟨_, _, _, _, _, rfl, ?_⟩
   refine Bo (Az (Ct g95.1) rfl).quiet ⟨_, rfl, Heap.le_refl _, g95.2⟩
  ·
   intro e1 F1 hF1 he hj
   have g95 : (e1 95) = .tuple #[tupA (e1 95) 0, .int .i64 8] ∧ Lsts F1 (tupA (e1 95) 0) [] := hj 4 (by kernel_rfl) (by decide)
   refine ⟨_, _, _, _, _, rfl, ?_⟩
   refine Bo (Az (Ct g95.1) rfl).quiet ⟨_, rfl, Heap.le_refl _, rfl⟩
  ·
   intro e1 F1 hF1 he hj
   have g96 : (e1 96) = .agg #[vs, .int .i64 100, .int .i64 150, .int .i64 14, vb, vl, vn, vd] := hj 0 (by kernel_rfl) (by decide)
   have g97 : (e1 97) = .agg #[.int .i64 2, .bool true, .int .i64 30, .int .i64 30] := hj 1 (by kernel_rfl) (by decide)
   have g98 : Sl F1 (e1 98) 4 Ent.enc [ent1 2 30 30] := hj 2 (by kernel_rfl) (by decide)
   have g99 : (e1 99) = .tuple #[tupA (e1 99) 0, .int .i64 8] ∧ Lsts F1 (tupA (e1 99) 0) [] := hj 3 (by kernel_rfl) (by decide)
   have g95 : (e1 95) = .tuple #[tupA (e1 95) 0, .int .i64 8] ∧ Lsts F1 (tupA (e1 95) 0) [] := hj 4 (by kernel_rfl) (by decide)
   have g100 : Lsts F1 (e1 100) [] := hj 5 (by kernel_rfl) (by decide)
   refine ⟨_, _, _, _, _, rfl, ?_⟩
   refine Bo (Ae (Ct rfl)).quiet ⟨_, rfl, Heap.le_refl _, g100⟩
  ·
   intro e1 F1 hF1 he hj
   have g96 : (e1 96) = .agg #[vs, .int .i64 100, .int .i64 150, .int .i64 14, vb, vl, vn, vd] := hj 0 (by kernel_rfl) (by decide)
   have g97 : (e1 97) = .agg #[.int .i64 2, .bool true, .int .i64 30, .int .i64 30] := hj 1 (by kernel_rfl) (by decide)
   have g98 : Sl F1 (e1 98) 4 Ent.enc [ent1 2 30 30] := hj 2 (by kernel_rfl) (by decide)
   have g99 : (e1 99) = .tuple #[tupA (e1 99) 0, .int .i64 8] ∧ Lsts F1 (tupA (e1 99) 0) [] := hj 3 (by kernel_rfl) (by decide)
   have g95 : (e1 95) = .tuple #[tupA (e1 95) 0, .int .i64 8] ∧ Lsts F1 (tupA (e1 95) 0) [] := hj 4 (by kernel_rfl) (by decide)
   have g100 : Lsts F1 (e1 100) [] := hj 5 (by kernel_rfl) (by decide)
   have g101 : (e1 101) = .int .i64 8 := hj 6 (by kernel_rfl) (by decide)
   have g25 : Lsts F1 (e1 25) [] := hj 7 (by kernel_rfl) (by decide)
   refine ⟨_, _, _, _, _, rfl, ?_⟩
   refine Bo (Ae (Ct g101)).quiet ⟨_, rfl, Heap.le_refl _, rfl⟩
 intro e71 F68 hF69 he70 hj
 replace hq1 := hq1.mono hF69
 replace hq2 := hq2.mono hF69
 replace hq3 := hq3.mono hF69
 replace hq4 := hq4.mono hF69
 replace hq7 := hq7.mono hF69
 replace g18 := g18.mono hF69
 replace g20 := g20.mono hF69
 replace g21 := g21.mono hF69
 replace g23 := g23.mono hF69
 have g96 : (e71 96) = .agg #[vs, .int .i64 100, .int .i64 150, .int .i64 14, vb, vl, vn, vd] := hj 0 (by decide)
 have g97 : (e71 97) = .agg #[.int .i64 2, .bool true, .int .i64 30, .int .i64 30] := hj 1 (by decide)
 have g98 : Sl F68 (e71 98) 4 Ent.enc [ent1 2 30 30] := hj 2 (by decide)
 have g99 : (e71 99) = .tuple #[tupA (e71 99) 0, .int .i64 8] ∧ Lsts F68 (tupA (e71 99) 0) [] := hj 3 (by decide)
 have g95 : (e71 95) = .tuple #[tupA (e71 95) 0, .int .i64 8] ∧ Lsts F68 (tupA (e71 95) 0) [] := hj 4 (by decide)
 have g100 : Lsts F68 (e71 100) [] := hj 5 (by decide)
 have g101 : (e71 101) = .int .i64 8 := hj 6 (by decide)
 have g25 : Lsts F68 (e71 25) [] := hj 7 (by decide)
 have g26 : (e71 26) = .int .i64 8 := hj 8 (by decide)
 refine Ad <| Af <| Ai fun ds => Aa rfl (Ag (Bz (B8 he70 (by kernel_rfl)) <| Bz (B8 he66 (by kernel_rfl)) <| Bz (B8 he62 (by kernel_rfl)) <| Bz (B8 he58 (by kernel_rfl)) <| Bv rfl <| Bc rfl <| Ao rfl <| Al rfl <| Ac)) ?_
 refine Aa rfl (B4 (Ac) Ab) ?_
 refine Aa rfl (Ag (Ac)) ?_
 refine As rfl rfl (Ac) (by first | rfl | decide) ?_
 refine Aa rfl (Ag (Ao rfl <| Al rfl <| Bz (B8 he70 (by kernel_rfl)) <| Bz (B8 he66 (by kernel_rfl)) <| Bz (B8 he62 (by kernel_rfl)) <| Bz (B8 he58 (by kernel_rfl)) <| Bv rfl <| Bb rfl <| A0 rfl <| Ac)) ?_
 refine As rfl rfl (Al rfl <| Ac) (by first | rfl | decide) ?_
 refine Aa rfl (B4 (Ac) Ab) ?_
 refine Aa rfl (A4 (Ao rfl <| Ac) (by first | rfl | decide) (Ac)) ?_
 refine Aa rfl (Ag (Ac)) ?_
 refine As rfl rfl (Ac) (by first | rfl | decide) ?_
 refine Aa rfl (Ag (A0 rfl <| Ao rfl <| Al rfl <| Bz (B8 he70 (by kernel_rfl)) <| Bz (B8 he66 (by kernel_rfl)) <| Bz (B8 he62 (by kernel_rfl)) <| Bz (B8 he58 (by kernel_rfl)) <| Bv rfl <| A0 rfl <| Ac)) ?_
 refine As rfl rfl (Al rfl <| Ac) (by first | rfl | decide) ?_
 refine Aa rfl (B4 (Ac) Ab) ?_
 refine Aa rfl (A4 (Ao rfl <| Ac) (by first | rfl | decide) (Ac)) ?_
 refine Aa rfl (Ag (Ac)) ?_
 refine As rfl rfl (Ac) (by first | rfl | decide) ?_
 refine Aa rfl (Ag (Bb rfl <| Ao rfl <| Al rfl <| Bz (B8 he70 (by kernel_rfl)) <| Bz (B8 he66 (by kernel_rfl)) <| Bz (B8 he62 (by kernel_rfl)) <| Bz (B8 he58 (by kernel_rfl)) <| Bc rfl <| A0 rfl <| Ao rfl <| Ac)) ?_
 refine As rfl rfl (Al rfl <| Ac) (by first | rfl | decide) ?_
 refine Aa rfl (B4 (Ac) Ab) ?_
 refine Aa rfl (A4 (Ao rfl <| Ac) (by first | rfl | decide) (Ac)) ?_
 refine Aa rfl (Ag (Ac)) ?_
 refine As rfl rfl (Ac) (by first | rfl | decide) ?_
 refine Aa rfl (Ag (Bb rfl <| A0 rfl <| Ao rfl <| Al rfl <| Bz (B8 he70 (by kernel_rfl)) <| Bz (B8 he66 (by kernel_rfl)) <| Bz (B8 he62 (by kernel_rfl)) <| Bz (B8 he58 (by kernel_rfl)) <| Ac)) ?_
 refine As rfl rfl (Al rfl <| Ac) (by first | rfl | decide) ?_
 refine Aa rfl (B4 (Ac) Ab) ?_
 refine Aa rfl (A4 (Ao rfl <| Ac) (by first | rfl | decide) (Ac)) ?_
 refine Aa rfl (Ag (Ac)) ?_
 refine As rfl rfl (Ac) (by first | rfl | decide) ?_
 refine Aa rfl (Ag (Bc rfl <| Ao rfl <| Al rfl <| Bz (B8 he70 (by kernel_rfl)) <| Bz (B8 he66 (by kernel_rfl)) <| Bz (B8 he62 (by kernel_rfl)) <| Ct g19)) ?_
 refine As rfl rfl (Al rfl <| Ac) (by first | rfl | decide) ?_
 refine Aa rfl (B4 (Ac) Ab) ?_
 refine Aa rfl (A4 (Ao rfl <| Ac) (by first | rfl | decide) (Ac)) ?_
 refine Aa rfl (Ag (Ac)) ?_
 refine As rfl rfl (Ac) (by first | rfl | decide) ?_
 refine Aa rfl (Ag (Bc rfl <| A0 rfl <| Ao rfl <| Al rfl <| Bz (B8 he70 (by kernel_rfl)) <| Bz (B8 he66 (by kernel_rfl)) <| Ct g22)) ?_
 refine As rfl rfl (Al rfl <| Ac) (by first | rfl | decide) ?_
 refine Aa rfl (B4 (Ac) Ab) ?_
 refine Aa rfl (A4 (Ao rfl <| Ac) (by first | rfl | decide) (Ac)) ?_
 refine Aa rfl (Ag (Ac)) ?_
 refine As rfl rfl (Ac) (by first | rfl | decide) ?_
 refine Aa rfl (Ag (Bc rfl <| Bb rfl <| Ao rfl <| Al rfl <| Bz (B8 he70 (by kernel_rfl)) <| Ct g24)) ?_
 refine As rfl rfl (Al rfl <| Ac) (by first | rfl | decide) ?_
 refine Aa rfl (B4 (Ac) Ab) ?_
 refine Aa rfl (A4 (Ao rfl <| Ac) (by first | rfl | decide) (Ac)) ?_
 refine Aa rfl (Ag (Ac)) ?_
 refine As rfl rfl (Ac) (by first | rfl | decide) ?_
 refine Aa rfl (Ag (Bc rfl <| Bb rfl <| A0 rfl <| Ao rfl <| Al rfl <| Bz (B8 he70 (by kernel_rfl)) <| Bz (B8 he66 (by kernel_rfl)) <| Bz (B8 he62 (by kernel_rfl)) <| Bz (B8 he58 (by kernel_rfl)) <| Bb rfl <| Ac)) ?_
 refine As rfl rfl (Al rfl <| Ac) (by first | rfl | decide) ?_
 refine Aa rfl (B4 (Ac) Ab) ?_
 refine Aa rfl (A4 (Ao rfl <| Ac) (by first | rfl | decide) (Ac)) ?_
 refine Aa rfl (Ag (Ac)) ?_
 refine As rfl rfl (Ac) (by first | rfl | decide) ?_
 refine Aa rfl (Ag (Bv rfl <| Ao rfl <| Al rfl <| Ct g26)) ?_
 refine As rfl rfl (Al rfl <| Ac) (by first | rfl | decide) ?_
 refine Aa rfl (B4 (Ac) Ab) ?_
 refine Aa rfl (A4 (Ao rfl <| Ac) (by first | rfl | decide) (Ac)) ?_
 refine Aa rfl (Ag (Ac)) ?_
 refine As rfl rfl (Ac) (by first | rfl | decide) ?_
 refine Aa rfl (Ag (Bv rfl <| A0 rfl <| Ao rfl <| Al rfl <| Bz (B8 he70 (by kernel_rfl)) <| Bz (B8 he66 (by kernel_rfl)) <| Bz (B8 he62 (by kernel_rfl)) <| Bz (B8 he58 (by kernel_rfl)) <| Bv rfl <| Bc rfl <| A0 rfl <| Ac)) ?_
 refine As rfl rfl (Al rfl <| Ac) (by first | rfl | decide) ?_
 refine Aa rfl (B4 (Ac) Ab) ?_
 refine Aa rfl (A4 (Ao rfl <| Ac) (by first | rfl | decide) (Ac)) ?_
 refine Aa rfl (Ag (Ac)) ?_
 refine As rfl rfl (Ac) (by first | rfl | decide) ?_
 refine Aa rfl (Ag (Bv rfl <| Bb rfl <| Ao rfl <| Al rfl <| Bz (B8 he70 (by kernel_rfl)) <| Bz (B8 he66 (by kernel_rfl)) <| Bz (B8 he62 (by kernel_rfl)) <| Bz (B8 he58 (by kernel_rfl)) <| Bv rfl <| Bb rfl <| A0 rfl <| Al rfl <| Ac)) ?_
 refine As rfl rfl (Al rfl <| Ac) (by first | rfl | decide) ?_
 refine Bs rfl (A6 bd_37 Ay (.cons Ab (.cons Ab .nil)) (result_ok _ _) (fun _ _ h => h)) ?_
 refine As rfl rfl (Ao rfl <| Ac) (by first | rfl | decide) ?_
 refine Bs rfl (A6 bd_37 Ay (.cons Ab (.cons Ab .nil)) (result_ok _ _) (fun _ _ h => h)) ?_
 refine As rfl rfl (Ao rfl <| Al rfl <| Ac) (by first | rfl | decide) ?_
 refine Bs rfl (A6 bd_37 Ay (.cons Ab (.cons Ab .nil)) (result_ok _ _) (fun _ _ h => h)) ?_
 refine As rfl rfl (A0 rfl <| Ac) (by first | rfl | decide) ?_
 refine Bl rfl (Dg (offs := [(0, 2), (2, 2), (4, 2)]) (zl := [.int .i64 0, .int .i64 0, .int .i64 0, .int .i64 0, .int .i64 0, .int .i64 0]) Dk zr_63 rfl (.cons (Ao rfl <| Ac) rfl (.cons (Al rfl <| Ac) rfl (.cons (Ac) rfl .nil))) (by intro i p h; rcases i with _ | _ | _ | i <;> simp at h <;> subst h <;> rfl) (.cons rfl rfl (Nat.le_of_ble_eq_true rfl) (.cons (.here) (.cons (.next <| .here) .nil)) (.cons rfl rfl (Nat.le_of_ble_eq_true rfl) (.cons (.next <| .next <| .here) (.cons (.next <| .next <| .next <| .here) .nil)) (.cons rfl rfl (Nat.le_of_ble_eq_true rfl) (.cons (.next <| .next <| .next <| .next <| .here) (.cons (.next <| .next <| .next <| .next <| .next <| .here) .nil)) .nil))) (by decide) (by decide) fun b72 hb72 nb72 => ?_)
 refine Bp (i := 0) rfl hb72 .here fun F73 hF74 hz75 => ?_
 replace hq1 := hq1.mono hF74
 replace hq2 := hq2.mono hF74
 replace hq3 := hq3.mono hF74
 replace hq4 := hq4.mono hF74
 replace hq7 := hq7.mono hF74
 replace g18 := g18.mono hF74
 replace g20 := g20.mono hF74
 replace g21 := g21.mono hF74
 replace g23 := g23.mono hF74
 have hsl76 := resA_box3 hz75
 refine As rfl rfl (A0 rfl <| Al rfl <| Ac) (by first | rfl | decide) ?_
 refine Bs rfl (A6 bd_21 Ay (.cons (A0 rfl <| Ac) (.cons (Ac) .nil)) (refSame_ok hq1 hsl76) (fun _ _ h => h)) ?_
 refine Aa rfl (A4 (A0 rfl <| Ao rfl <| Ac) (by first | rfl | decide) (Ac)) ?_
 refine Aa rfl (Ag (Ac)) ?_
 refine As rfl rfl (Ac) (by first | rfl | decide) ?_
 refine Aa rfl (Ag (Bv rfl <| Bc rfl <| Ao rfl <| Al rfl <| Bz (B8 he70 (by kernel_rfl)) <| Bz (B8 he66 (by kernel_rfl)) <| Bz (B8 he62 (by kernel_rfl)) <| Bz (B8 he58 (by kernel_rfl)) <| Bv rfl <| A0 rfl <| Al rfl <| Ac)) ?_
 refine As rfl rfl (Al rfl <| Ac) (by first | rfl | decide) ?_
 refine Bs rfl (A6 bd_37 Ay (.cons Ab (.cons Ab .nil)) (result_ok _ _) (fun _ _ h => h)) ?_
 refine As rfl rfl (Ao rfl <| Ac) (by first | rfl | decide) ?_
 refine Bs rfl (A6 bd_37 Ay (.cons Ab (.cons Ab .nil)) (result_ok _ _) (fun _ _ h => h)) ?_
 refine As rfl rfl (Ao rfl <| Al rfl <| Ac) (by first | rfl | decide) ?_
 refine Bs rfl (A6 bd_37 Ay (.cons Ab (.cons Ab .nil)) (result_ok _ _) (fun _ _ h => h)) ?_
 refine As rfl rfl (A0 rfl <| Ac) (by first | rfl | decide) ?_
 refine Bl rfl (Dg (offs := [(0, 2), (2, 2), (4, 2)]) (zl := [.int .i64 0, .int .i64 0, .int .i64 0, .int .i64 0, .int .i64 0, .int .i64 0]) Dk zr_63 rfl (.cons (Ao rfl <| Ac) rfl (.cons (Al rfl <| Ac) rfl (.cons (Ac) rfl .nil))) (by intro i p h; rcases i with _ | _ | _ | i <;> simp at h <;> subst h <;> rfl) (.cons rfl rfl (Nat.le_of_ble_eq_true rfl) (.cons (.here) (.cons (.next <| .here) .nil)) (.cons rfl rfl (Nat.le_of_ble_eq_true rfl) (.cons (.next <| .next <| .here) (.cons (.next <| .next <| .next <| .here) .nil)) (.cons rfl rfl (Nat.le_of_ble_eq_true rfl) (.cons (.next <| .next <| .next <| .next <| .here) (.cons (.next <| .next <| .next <| .next <| .next <| .here) .nil)) .nil))) (by decide) (by decide) fun b77 hb77 nb77 => ?_)
 refine Bp (i := 0) rfl hb77 .here fun F78 hF79 hz80 => ?_
 replace hq2 := hq2.mono hF79
 replace hq3 := hq3.mono hF79
 replace hq4 := hq4.mono hF79
 replace hq7 := hq7.mono hF79
 replace g18 := g18.mono hF79
 replace g20 := g20.mono hF79
 replace g21 := g21.mono hF79
 replace g23 := g23.mono hF79
 have hsl81 := resB_box3 hz80
 refine As rfl rfl (A0 rfl <| Al rfl <| Ac) (by first | rfl | decide) ?_
 refine Bs rfl (A6 bd_21 Ay (.cons (A0 rfl <| Ac) (.cons (Ac) .nil)) (refSame_ok hq2 hsl81) (fun _ _ h => h)) ?_
 refine Aa rfl (A4 (A0 rfl <| Ao rfl <| Ac) (by first | rfl | decide) (Ac)) ?_
 refine Aa rfl (Ag (Ac)) ?_
 refine As rfl rfl (Ac) (by first | rfl | decide) ?_
 refine Aa rfl (Ag (Bv rfl <| Bc rfl <| Bb rfl <| Ao rfl <| Al rfl <| Bz (B8 he70 (by kernel_rfl)) <| Bz (B8 he66 (by kernel_rfl)) <| Bz (B8 he62 (by kernel_rfl)) <| Bz (B8 he58 (by kernel_rfl)) <| Bc rfl <| Bb rfl <| Al rfl <| Ac)) ?_
 refine As rfl rfl (Al rfl <| Ac) (by first | rfl | decide) ?_
 refine Bl rfl (Bw Br Cy rfl (.cons Ab (.cons Ab (.cons Ab (.cons Ab .nil)))) rfl rfl (by decide) (by simp [Value.oneCell']) fun b82 hb82 nb82 => ?_)
 refine Bp (i := 0) rfl hb82 .here fun F83 hF84 hz85 => ?_
 replace hq3 := hq3.mono hF84
 replace hq4 := hq4.mono hF84
 replace hq7 := hq7.mono hF84
 replace g18 := g18.mono hF84
 replace g20 := g20.mono hF84
 replace g21 := g21.mono hF84
 replace g23 := g23.mono hF84
 have hsl86 := ints_box4 hz85
 refine As rfl rfl (Ao rfl <| Ac) (by first | rfl | decide) ?_
 refine Bs rfl (A6 bd_25 Ay (.cons (Al rfl <| Ac) (.cons (Ac) .nil)) (refInts_ok hq3 hsl86) (fun _ _ h => h)) ?_
 refine Aa rfl (A4 (Ao rfl <| Al rfl <| Ac) (by first | rfl | decide) (Ac)) ?_
 refine Aa rfl (Ag (Ac)) ?_
 refine As rfl rfl (Ac) (by first | rfl | decide) ?_
 refine Aa rfl (Ag (Bv rfl <| Bv rfl <| Bz (B8 he70 (by kernel_rfl)) <| Bz (B8 he66 (by kernel_rfl)) <| Bz (B8 he62 (by kernel_rfl)) <| Bz (B8 he58 (by kernel_rfl)) <| Bc rfl <| Bb rfl <| Ac)) ?_
 refine As rfl rfl (Al rfl <| Ac) (by first | rfl | decide) ?_
 refine Bl rfl (Bw Br Cy rfl (.cons Ab .nil) rfl rfl (by decide) (by simp [Value.oneCell']) fun b87 hb87 nb87 => ?_)
 refine Bp (i := 0) rfl hb87 .here fun F88 hF89 hz90 => ?_
 replace hq4 := hq4.mono hF89
 replace hq7 := hq7.mono hF89
 replace g18 := g18.mono hF89
 replace g20 := g20.mono hF89
 replace g21 := g21.mono hF89
 replace g23 := g23.mono hF89
 have hsl91 := Cg hz90
 refine As rfl rfl (Ao rfl <| Ac) (by first | rfl | decide) ?_
 refine Bs rfl (A6 bd_25 Ay (.cons (Al rfl <| Ac) (.cons (Ac) .nil)) (refInts_ok hq4 hsl91) (fun _ _ h => h)) ?_
 refine Aa rfl (A4 (Ao rfl <| Al rfl <| Ac) (by first | rfl | decide) (Ac)) ?_
 refine Aa rfl (Ag (Ac)) ?_
 refine As rfl rfl (Ac) (by first | rfl | decide) ?_
 refine Aa rfl (Ag (Bv rfl <| Bv rfl <| A0 rfl <| Al rfl <| Bz (B8 he70 (by kernel_rfl)) <| Bz (B8 he66 (by kernel_rfl)) <| Bz (B8 he62 (by kernel_rfl)) <| Bz (B8 he58 (by kernel_rfl)) <| Bc rfl <| A0 rfl <| Ao rfl <| Al rfl <| Ac)) ?_
 refine As rfl rfl (Al rfl <| Ac) (by first | rfl | decide) ?_
 refine Aa rfl (B4 (Ac) Ab) ?_
 refine Aa rfl (A4 (Ao rfl <| Ac) (by first | rfl | decide) (Ac)) ?_
 refine Aa rfl (Ag (Ac)) ?_
 refine As rfl rfl (Ac) (by first | rfl | decide) ?_
 refine Aa rfl (Ag (Bv rfl <| Bv rfl <| Bb rfl <| Al rfl <| Bz (B8 he70 (by kernel_rfl)) <| Bz (B8 he66 (by kernel_rfl)) <| Bz (B8 he62 (by kernel_rfl)) <| Bz (B8 he58 (by kernel_rfl)) <| Al rfl <| Ac)) ?_
 refine As rfl rfl (Al rfl <| Ac) (by first | rfl | decide) ?_
 refine Bl rfl (Bw Br Cy rfl (.cons Ab (.cons Ab (.cons Ab .nil))) rfl rfl (by decide) (by simp [Value.oneCell']) fun b92 hb92 nb92 => ?_)
 refine Bp (i := 0) rfl hb92 .here fun F93 hF94 hz95 => ?_
 replace hq7 := hq7.mono hF94
 replace g18 := g18.mono hF94
 replace g20 := g20.mono hF94
 replace g21 := g21.mono hF94
 replace g23 := g23.mono hF94
 have hsl96 := ints_box3 hz95
 refine As rfl rfl (Ao rfl <| Ac) (by first | rfl | decide) ?_
 refine Bs rfl (A6 bd_25 Ay (.cons (Al rfl <| Ac) (.cons (Ac) .nil)) (refInts_ok hq7 hsl96) (fun _ _ h => h)) ?_
 refine Aa rfl (A4 (Ao rfl <| Al rfl <| Ac) (by first | rfl | decide) (Ac)) ?_
 refine Aa rfl (Ag (Ac)) ?_
 refine As rfl rfl (Ac) (by first | rfl | decide) ?_
 refine Aa rfl (Ag (Bv rfl <| Bv rfl <| Bb rfl <| A0 rfl <| Ao rfl <| Bz (B8 he70 (by kernel_rfl)) <| Bz (B8 he66 (by kernel_rfl)) <| Bz (B8 he62 (by kernel_rfl)) <| Ct rfl)) ?_
 refine As rfl rfl (Al rfl <| Ac) (by first | rfl | decide) ?_
 refine Bl rfl (Bw Br Cy rfl (.cons Ab (.cons Ab .nil)) rfl rfl (by decide) (by simp [Value.oneCell']) fun b97 hb97 nb97 => ?_)
 refine Bp (i := 0) rfl hb97 .here fun F98 hF99 hz100 => ?_
 replace g18 := g18.mono hF99
 replace g20 := g20.mono hF99
 replace g21 := g21.mono hF99
 replace g23 := g23.mono hF99
 have hsl101 := n13_box2 hz100
 refine As rfl rfl (Ao rfl <| Ac) (by first | rfl | decide) ?_
 refine Bl rfl (Bw Br Cy rfl (.cons Ab (.cons Ab (.cons Ab .nil))) rfl rfl (by decide) (by simp [Value.oneCell']) fun b102 hb102 nb102 => ?_)
 refine Bp (i := 0) rfl hb102 .here fun F103 hF104 hz105 => ?_
 replace g18 := g18.mono hF104
 replace g20 := g20.mono hF104
 replace g21 := g21.mono hF104
 replace g23 := g23.mono hF104
 replace hsl101 := hsl101.mono hF104
 have hsl106 := n013_box3 hz105
 refine As rfl rfl (Ao rfl <| Al rfl <| Ac) (by first | rfl | decide) ?_
 refine Bl rfl (Bw Br Cy rfl (.cons Ab (.cons Ab (.cons Ab .nil))) rfl rfl (by decide) (by simp [Value.oneCell']) fun b107 hb107 nb107 => ?_)
 refine Bp (i := 0) rfl hb107 .here fun F108 hF109 hz110 => ?_
 replace g18 := g18.mono hF109
 replace g20 := g20.mono hF109
 replace g21 := g21.mono hF109
 replace g23 := g23.mono hF109
 replace hsl101 := hsl101.mono hF109
 replace hsl106 := hsl106.mono hF109
 have hsl111 := n123_box3 hz110
 refine As rfl rfl (A0 rfl <| Ac) (by first | rfl | decide) ?_
 refine Bl rfl (Bw Dy zr_28 rfl (.cons (Ao rfl <| Ac) (.cons (Al rfl <| Ac) (.cons (Ac) .nil))) rfl rfl (by decide) (by simp [Value.oneCell']) fun b112 hb112 nb112 => ?_)
 refine Bp (i := 0) rfl hb112 .here fun F113 hF114 hz115 => ?_
 replace g18 := g18.mono hF114
 replace g20 := g20.mono hF114
 replace g21 := g21.mono hF114
 replace g23 := g23.mono hF114
 replace hsl101 := hsl101.mono hF114
 replace hsl106 := hsl106.mono hF114
 replace hsl111 := hsl111.mono hF114
 have hsl116 := vals_box3 hz115
 refine As rfl rfl (A0 rfl <| Al rfl <| Ac) (by first | rfl | decide) ?_
 refine Bs rfl (A6 bd_30 Ay (.cons (A0 rfl <| Ac) (.cons (Ac) .nil)) (alike_ok g18 (lsts3 hsl116 hsl101 hsl106 hsl111)) (fun _ _ h => h)) ?_
 refine Aa rfl (A4 (A0 rfl <| Ao rfl <| Ac) (by first | rfl | decide) (Ac)) ?_
 refine Aa rfl (Ag (Ac)) ?_
 refine As rfl rfl (Ac) (by first | rfl | decide) ?_
 refine Aa rfl (Ag (Bv rfl <| Bv rfl <| Bc rfl <| A0 rfl <| Ao rfl <| Bz (B8 he70 (by kernel_rfl)) <| Bz (B8 he66 (by kernel_rfl)) <| Ct rfl)) ?_
 refine As rfl rfl (Al rfl <| Ac) (by first | rfl | decide) ?_
 refine Bl rfl (Bw Br Cy rfl (.cons Ab (.cons Ab .nil)) rfl rfl (by decide) (by simp [Value.oneCell']) fun b117 hb117 nb117 => ?_)
 refine Bp (i := 0) rfl hb117 .here fun F118 hF119 hz120 => ?_
 replace g20 := g20.mono hF119
 replace g21 := g21.mono hF119
 replace g23 := g23.mono hF119
 have hsl121 := n02_box2 hz120
 refine As rfl rfl (Ao rfl <| Ac) (by first | rfl | decide) ?_
 refine Bs rfl (A6 bd_25 Ay (.cons (Al rfl <| Ac) (.cons (Ac) .nil)) (Ec g20 hsl121) (fun _ _ h => h)) ?_
 refine Aa rfl (A4 (Ao rfl <| Al rfl <| Ac) (by first | rfl | decide) (Ac)) ?_
 refine Aa rfl (Ag (Ac)) ?_
 refine As rfl rfl (Ac) (by first | rfl | decide) ?_
 refine Aa rfl (Ag (Bv rfl <| Bv rfl <| Bc rfl <| Bb rfl <| Ao rfl <| Al rfl <| Bz (B8 he70 (by kernel_rfl)) <| Bz (B8 he66 (by kernel_rfl)) <| Ct rfl)) ?_
 refine As rfl rfl (Al rfl <| Ac) (by first | rfl | decide) ?_
 refine Bl rfl (Bw Br Cy rfl (.cons Ab (.cons Ab (.cons Ab (.cons Ab .nil)))) rfl rfl (by decide) (by simp [Value.oneCell']) fun b122 hb122 nb122 => ?_)
 refine Bp (i := 0) rfl hb122 .here fun F123 hF124 hz125 => ?_
 replace g21 := g21.mono hF124
 replace g23 := g23.mono hF124
 have hsl126 := n0123_box4 hz125
 refine As rfl rfl (Ao rfl <| Ac) (by first | rfl | decide) ?_
 refine Bs rfl (A6 bd_25 Ay (.cons (Al rfl <| Ac) (.cons (Ac) .nil)) (Ec g21 hsl126) (fun _ _ h => h)) ?_
 refine Aa rfl (A4 (Ao rfl <| Al rfl <| Ac) (by first | rfl | decide) (Ac)) ?_
 refine Aa rfl (Ag (Ac)) ?_
 refine As rfl rfl (Ac) (by first | rfl | decide) ?_
 refine Aa rfl (Ag (Bv rfl <| Bv rfl <| Bv rfl <| Bz (B8 he70 (by kernel_rfl)) <| Ct rfl)) ?_
 refine As rfl rfl (Al rfl <| Ac) (by first | rfl | decide) ?_
 refine Bl rfl (Bw Br Cy rfl (.cons Ab (.cons Ab .nil)) rfl rfl (by decide) (by simp [Value.oneCell']) fun b127 hb127 nb127 => ?_)
 refine Bp (i := 0) rfl hb127 .here fun F128 hF129 hz130 => ?_
 replace g23 := g23.mono hF129
 have hsl131 := n02_box2 hz130
 refine As rfl rfl (Ao rfl <| Ac) (by first | rfl | decide) ?_
 refine Bs rfl (A6 bd_25 Ay (.cons (Al rfl <| Ac) (.cons (Ac) .nil)) (Ec g23 hsl131) (fun _ _ h => h)) ?_
 refine Aa rfl (A4 (Ao rfl <| Al rfl <| Ac) (by first | rfl | decide) (Ac)) ?_
 refine Aa rfl (Ae (Ac)) ?_
 refine Ah <| Ad <| A3 <| Au rfl (.tmp (Ac) .nil) ?_
 show _ = _
 first | rfl | decide
end Go.Proofs.Ytaikojfonleccaa
namespace Go.Proofs.Ytaikojfonleccaa
open Go.RowKit
theorem bd_22 : Body Try.prog 22 := Bq (by kernel_rfl)
end Go.Proofs.Ytaikojfonleccaa
namespace Go.Proofs.Ytaikojfonleccaa
theorem mem_selTo {p : Nat → Bool} {k i : Nat} : i ∈ selTo p k ↔ i < k ∧ p i = true := by unfold selTo; simp
end Go.Proofs.Ytaikojfonleccaa
namespace Go.Proofs.Ytaikojfonleccaa
open Go.RowKit
set_option maxRecDepth 100000 in
theorem valid_ok {F : Heap} {vs vb vl vn vd : Value} {s : Sale} (hr : SaleR F vs vb vl vn vd s) : Ok Try.prog 38 [.agg #[vs, .int .i64 s.premium, .int .i64 s.fee, .int .i64 s.days, vb, vl, vn, vd]].toArray F fun u _ => u = .bool (decide ((checkS s).2.2 = 0)) := by
 refine Ok.intro Try.func38 rfl Try.ntmps38 rfl fun w0 => ?_
 refine Af <| Ai fun ds => Bl rfl (Cd (Ak rfl) rfl fun b1 hb1 nb1 => ?_)
 refine Aa rfl (Ae Ab) ?_
 refine Ah <| Ad <| Af <| Ai fun ds => Aa rfl (Bd Cc (Al rfl <| Ac) rfl rfl (Bm 0 rfl)) ?_
 refine Bs rfl (A6 bd_16 Ay (.cons (Ac) .nil) (refCheckS_ok hr) (fun _ _ h => h.trans (show checkSV s = .tuple #[.int .i64 (checkS s).1, .int .i64 (checkS s).2.1, .int .i64 (checkS s).2.2] from rfl))) ?_
 refine Aa rfl (Ag (Ac)) ?_
 refine Aa rfl (Az (Ac) rfl) ?_
 refine Aa rfl (Az (Al rfl <| Ac) rfl) ?_
 refine Aa rfl (Az (Ao rfl <| Ac) rfl) ?_
 refine Aa rfl (Ae (Ao rfl <| Ac)) ?_
 refine Aa rfl (Ae (Ao rfl <| Ac)) ?_
 refine Aa rfl (Ae (Ao rfl <| Ac)) ?_
 refine Ah <| Ad <| Af <| Ai fun ds => Aa rfl (Ag (Ac)) ?_
 refine Aa rfl (B4 (Ac) Ab) ?_
 refine Aa rfl (Ae (Ac)) ?_
 refine Ah <| Ad <| A3 <| Au rfl (.tmp (Ac) .nil) ?_
 rfl
end Go.Proofs.Ytaikojfonleccaa
namespace Go.Proofs.Ytaikojfonleccaa
def lackTo (l : List Ent) (out : List Nat) : Nat → List Ent
 | 0 => []
 | k + 1 => if k ∈ out then lackTo l out k else lackTo l out k ++ [ent l k]
def lackL (l : List Ent) (out : List Nat) : List Ent := lackTo l out l.length
theorem lack_len {l : List Ent} {out : List Nat} : ∀ k, (lackTo l out k).length ≤ k
 | 0 => Nat.le_refl _
 | k + 1 => by
   have := lack_len (l := l) (out := out) k
   unfold lackTo; split
   · omega
   · rw [List.length_append, List.length_singleton]; omega
theorem lack_at {l : List Ent} {out : List Nat} : ∀ k j (hj : j < (lackTo l out k).length), ∃ i, i < k ∧ i ∉ out ∧ (lackTo l out k)[j] = ent l i ∧ ∀ j' (hj' : j' < (lackTo l out k).length), j' < j → ∃ i', i' < i ∧ (lackTo l out k)[j'] = ent l i'
 | 0, j, hj => absurd hj (by simp [lackTo])
 | k + 1, j, hj => by
   by_cases hl : k ∈ out
   · have he : lackTo l out (k + 1) = lackTo l out k := by rw [lackTo, if_pos hl]
     simp only [he] at hj ⊢
     obtain ⟨i, h1, h2, h3, h4⟩ := lack_at k j hj
     exact ⟨i, by omega, h2, h3, h4⟩
   · have he : lackTo l out (k + 1) = lackTo l out k ++ [ent l k] := by rw [lackTo, if_neg hl]
     simp only [he] at hj ⊢
     rw [List.length_append, List.length_singleton] at hj
     by_cases hjk : j < (lackTo l out k).length
     · obtain ⟨i, h1, h2, h3, h4⟩ := lack_at k j hjk
       refine ⟨i, by omega, h2, by rw [List.getElem_append_left hjk]; exact h3, fun j' hj' hlt => ?_⟩
       rw [List.getElem_append_left (by omega)]
       exact h4 j' (by omega) hlt
     · obtain rfl : j = (lackTo l out k).length := by omega
       refine ⟨k, by omega, hl, by rw [List.getElem_append_right (by omega)]; simp, fun j' hj' hlt => ?_⟩
       rw [List.getElem_append_left hlt]
       obtain ⟨i, h1, h2, h3, h4⟩ := lack_at k j' hlt
       exact ⟨i, h1, h3⟩
theorem lack_has {l : List Ent} {out : List Nat} : ∀ k i, i < k → i ∉ out → ent l i ∈ lackTo l out k
 | 0, i, h, _ => absurd h (by omega)
 | k + 1, i, h, ho => by
   unfold lackTo
   by_cases hik : i = k
   · subst hik; rw [if_neg ho]; simp
   · have := lack_has (l := l) k i (by omega) ho
     split
     · exact this
     · exact List.mem_append_left _ this
theorem asc_any {s : Sale} {l : List Ent} (h : catE s l = 0) {i : Nat} : ∀ {j : Nat}, i < j → j < l.length → (ent l i).lot < (ent l j).lot
 | 0, h1, _ => absurd h1 (by omega)
 | j + 1, h1, h2 => by
   have h3 := ent_asc h h2 (by omega)
   simp only [Nat.add_sub_cancel] at h3
   rw [ent_at, ent_at] at h3
   by_cases hij : i = j
   · subst hij; exact h3
   · have := asc_any h (show i < j by omega) (by omega); omega
theorem lack_cat {s : Sale} {l : List Ent} (h : catE s l = 0) {out : List Nat} : catE s (lackL l out) = 0 := by
 refine catE_ok fun j hj => ?_
 obtain ⟨i, h1, h2, h3, h4⟩ := lack_at l.length j hj
 have h3' : (lackL l out)[j] = ent l i := h3
 have hz := catE_zero h i h1
 rw [Df h1, ent_at h1] at hz
 rw [Df hj, h3']
 split at hz
 · cases hz
 · rename_i hlo
   rw [if_neg hlo]
   split at hz
   · cases hz
   · rename_i h5
     rw [if_neg]
     · exact hz
     · rintro (⟨h6, h7⟩ | h6)
       · rw [List.getElem?_eq_getElem (show j - 1 < (lackL l out).length by omega)] at h7
         simp only [Option.map_some, Option.getD_some] at h7
         obtain ⟨i', h8, h9⟩ := h4 (j - 1) (by show j - 1 < (lackL l out).length; omega) (by omega)
         have h9' : (lackL l out)[j - 1] = ent l i' := h9
         rw [h9'] at h7
         have := asc_any h h8 h1
         omega
       · exact h5 (.inr h6)
theorem lack_right {s : Sale} {l : List Ent} {out ring : List Nat} : rightS s (lackL l out) [] ring = true ↔ ∀ i ∈ badL s l ring, i ∈ out := by
 rw [rightS_iff]
 constructor
 · intro h i hi
   obtain ⟨h1, h2⟩ := badL_mem.1 hi
   by_cases ho : i ∈ out
   · exact ho
   · exfalso
     obtain ⟨j, hj, he⟩ := List.getElem_of_mem (lack_has (l := l) l.length i h1 ho)
     have he' : ent (lackL l out) j = ent l i := by rw [← ent_at (show j < (lackL l out).length from hj)]; exact he
     have := h j (badL_mem.2 ⟨hj, by unfold badB; rw [he']; exact h2⟩)
     cases this
 · intro h j hj
   exfalso
   obtain ⟨h1, h2⟩ := badL_mem.1 hj
   obtain ⟨i, h3, h4, h5, -⟩ := lack_at l.length j h1
   have he : ent (lackL l out) j = ent l i := by rw [← ent_at h1]; exact h5
   unfold badB at h2
   rw [he] at h2
   exact h4 (h i (badL_mem.2 ⟨h3, h2⟩))
theorem mem_fit {s : Sale} {l : List Ent} {out x : List Nat} : x ∈ fitS s l out ↔ x ∈ everyR s.bidders.length ∧ ∀ i ∈ badL s l x, i ∈ out := by
 unfold fitS; rw [List.mem_filter, rightS_iff]
theorem fit_lack {s : Sale} {l : List Ent} {out x : List Nat} : x ∈ fitS s (lackL l out) [] ↔ x ∈ everyR s.bidders.length ∧ ∀ i ∈ badL s l x, i ∈ out := by
 unfold fitS; rw [List.mem_filter, lack_right]
theorem many_all {all : List (List Nat)} {b : Nat} (h : mustB all b = true) {x : List Nat} (hx : x ∈ all) : b ∈ x := by
 unfold mustB manyOf manyTo at h
 rw [decide_eq_true_iff, List.take_length] at h
 have : (all.filter fun l => decide (b ∈ l)).length = all.length := by omega
 have := (List.length_filter_eq_length_iff.1 this) x hx
 simpa using this
theorem many_one {all : List (List Nat)} {b : Nat} {x : List Nat} (hx : x ∈ all) (hb : b ∈ x) : mayB all b = true := by
 unfold mayB manyOf manyTo
 rw [decide_eq_true_iff, List.take_length]
 have : 0 < (all.filter fun l => decide (b ∈ l)).length := List.length_pos_of_mem (List.mem_filter.2 ⟨hx, by simpa using hb⟩)
 omega
theorem may_some {all : List (List Nat)} {b : Nat} (h : mayB all b = true) : ∃ x ∈ all, b ∈ x := by
 unfold mayB manyOf manyTo at h
 rw [decide_eq_true_iff, List.take_length] at h
 obtain ⟨x, hx⟩ := List.length_pos_iff_exists_mem.1 (show 0 < (all.filter fun l => decide (b ∈ l)).length by omega)
 have := List.mem_filter.1 hx
 exact ⟨x, this.1, by simpa using this.2⟩
theorem must_of {all : List (List Nat)} {b : Nat} (h : ∀ x ∈ all, b ∈ x) : mustB all b = true := by
 unfold mustB manyOf manyTo
 rw [decide_eq_true_iff, List.take_length, List.filter_eq_self.2 (fun x hx => by simpa using h x hx)]
def subB (a b : List Nat) : Bool := a.all fun x => decide (x ∈ b)
theorem subB_true {a b : List Nat} (h : ∀ x ∈ a, x ∈ b) : subB a b = true := by unfold subB; rw [List.all_eq_true]; intro x hx; exact decide_eq_true (h x hx)
theorem subB_false {a b : List Nat} {k : Nat} (hk : k < a.length) (h : a[k] ∉ b) : subB a b = false := by
 unfold subB; rw [List.all_eq_false]; exact ⟨a[k], List.getElem_mem hk, by simpa using h⟩
end Go.Proofs.Ytaikojfonleccaa
namespace Go.Proofs.Ytaikojfonleccaa
open Go.RowKit
theorem el_60 : ElemT Try.prog 60 4 32 (.agg #[.int .i64 0, .bool false, .int .i64 0, .int .i64 0]) := elemT_of (by kernel_rfl) rfl (by decide)
set_option maxRecDepth 100000 in
theorem subset_ok {F : Heap} {v u : Value} {a b : List Nat} (ha : Nats F v a) (hb : Nats F u b) : Ok Try.prog 45 [v, u].toArray F fun r _ => r = .bool (subB a b) := by
 refine Ok.intro Try.func45 rfl Try.ntmps45 rfl fun w0 => ?_
 have hL := ha.plain.lt
 refine Af <| Ai fun ds => Aa rfl (Ae Ab) ?_
 refine Ah <| Ad <| Af <| Af <| Ai fun ds => Aa rfl (Ae Ab) ?_
 refine Ah <| Ad <| A2 <| Bx [4, 5, 6, 7, 8, 9, 10, 11, 12, 13, 14, 15, 16, 17, 18] (fun m e σ => ∃ k : Nat, m + k = a.length ∧ e 5 = .int .i64 (k : Int) ∧ σ = ⟨F, []⟩ ∧ ∀ x ∈ a.take k, x ∈ b) (a.length) ?_ ?_
 · exact ⟨0, by omega, (Ac), rfl, by simp⟩
 ·
  rintro m e _ ⟨k, hm9, hs5, rfl, hno⟩
  by_cases hlt : k < a.length
  ·
   refine Af <| Af <| Ai fun ds => Aa rfl (Ag (Aw rfl hs5)) ?_
   refine Aa rfl (Ag (Al rfl <| Ap rfl <| Ao rfl <| Ak rfl)) ?_
   refine Aa rfl (Bf Br (Ac) ha.plain) ?_
   refine Aa rfl (Bt (Ao rfl <| Ac) (Ac)) ?_
   refine Ah <| Ad <| Aq (Ac) (by first | rfl | exact decide_eq_true (by omega)) ?_
   by_cases hm : a[k] ∈ b
   ·
    refine Ax <| Ad <| Af <| A2 <| Af <| Ai fun ds => Aa rfl (Ag (A0 rfl <| Ap rfl <| Ao rfl <| Ak rfl)) ?_
    refine Aa rfl (Ag (A0 rfl <| Al rfl <| Ap rfl <| Ao rfl <| Ak rfl)) ?_
    refine Aa rfl (Ag (A0 rfl <| Ao rfl <| Aw rfl hs5)) ?_
    refine Aa rfl (Bi  Br (Al rfl <| Ac) ha.plain (Ac) rfl hlt) ?_
    refine Aa rfl (Ar Be (Ac) (ha.cell1 hlt rfl)) ?_
    refine Bs rfl (A6 bd_42 Ay (.cons (A0 rfl <| Ac) (.cons (Ac) .nil)) (has_nat hb a[k]) (fun _ _ h => h)) ?_
    refine Aa rfl (Cj (Ac)) ?_
    refine Ah <| Ad <| Am (Ac) (by simp [hm]) ?_
    refine Ax <| Bg <| Ad <| Ai fun ds => Aa rfl (Ag (Bb rfl <| Ao rfl <| Al rfl <| Aw rfl hs5)) ?_
    refine Aa rfl (B2 (Ac) Ab rfl (by omega) (by omega)) ?_
    refine Aa rfl (Ae (Ac)) ?_
    refine Ah <| Ad ⟨_, m - 1, Off.eq (Ed rfl <| ou4 rfl <| Em rfl <| Bh), by omega, ?_⟩
    refine ⟨k + 1, by omega, (Ac), rfl, fun x hx => ?_⟩
    rw [List.take_succ_eq_append_getElem hlt] at hx; rcases List.mem_append.1 hx with hx | hx
    · exact hno x hx
    · simp only [List.mem_singleton] at hx; subst hx; exact hm
   ·
    refine Ax <| Ad <| Af <| A2 <| Af <| Ai fun ds => Aa rfl (Ag (A0 rfl <| Ap rfl <| Ao rfl <| Ak rfl)) ?_
    refine Aa rfl (Ag (A0 rfl <| Al rfl <| Ap rfl <| Ao rfl <| Ak rfl)) ?_
    refine Aa rfl (Ag (A0 rfl <| Ao rfl <| Aw rfl hs5)) ?_
    refine Aa rfl (Bi  Br (Al rfl <| Ac) ha.plain (Ac) rfl hlt) ?_
    refine Aa rfl (Ar Be (Ac) (ha.cell1 hlt rfl)) ?_
    refine Bs rfl (A6 bd_42 Ay (.cons (A0 rfl <| Ac) (.cons (Ac) .nil)) (has_nat hb a[k]) (fun _ _ h => h)) ?_
    refine Aa rfl (Cj (Ac)) ?_
    refine Ah <| Ad <| Aq (Ac) (by simp [hm]) ?_
    refine Af <| Ai fun ds => Aa rfl (Ae Ab) ?_
    refine Ah <| Ad <| A3 <| A9 (A1 (A1 (A9 (A1 ?_))))
    refine Au rfl (.tmp (Ac) .nil) ?_
    show _ = _
    rw [subB_false hlt hm]; rfl
  ·
   refine Af <| Af <| Ai fun ds => Aa rfl (Ag (Aw rfl hs5)) ?_
   refine Aa rfl (Ag (Al rfl <| Ap rfl <| Ao rfl <| Ak rfl)) ?_
   refine Aa rfl (Bf Br (Ac) ha.plain) ?_
   refine Aa rfl (Bt (Ao rfl <| Ac) (Ac)) ?_
   refine Ah <| Ad <| Am (Ac) (by first | rfl | exact decide_eq_false (by omega)) ?_
   obtain rfl : k = a.length := by omega
   refine Bu ?_
   refine Bk <| Bk <| Bn <| Ad <| Af <| Ai fun ds => Aa rfl (Ae Ab) ?_
   refine Ah <| Ad <| A3 <| Au rfl (.tmp (Ac) .nil) ?_
   show _ = _
   rw [subB_true (by rw [List.take_length] at hno; exact hno)]; rfl
set_option maxRecDepth 100000 in
theorem one_ok {F : Heap} {v u : Value} {xs : List (List Nat)} {ring : List Nat} (hx : Lsts F v xs) (hy : Nats F u ring) : Ok Try.prog 44 [v, u].toArray F fun r _ => r = .bool (decide (ring ∈ xs)) := by
 obtain ⟨ps, hxs, hpa, hpm⟩ := hx
 replace hpa : AllN _ ps := hpa
 refine Ok.intro Try.func44 rfl Try.ntmps44 rfl fun w0 => ?_
 have hL := hxs.plain.lt
 refine Af <| Ai fun ds => Aa rfl (Ae Ab) ?_
 refine Ah <| Ad <| Af <| Af <| Ai fun ds => Aa rfl (Ae Ab) ?_
 refine Ah <| Ad <| A2 <| Bx [4, 5, 6, 7, 8, 9, 10, 11, 12, 13, 14, 15, 16, 17] (fun m e σ => ∃ k : Nat, m + k = ps.length ∧ e 5 = .int .i64 (k : Int) ∧ σ = ⟨F, []⟩ ∧ ∀ p ∈ ps.take k, p.2 ≠ ring) (ps.length) ?_ ?_
 · exact ⟨0, by omega, (Ac), rfl, by simp⟩
 ·
  rintro m e _ ⟨k, hm9, hs5, rfl, hno⟩
  by_cases hlt : k < ps.length
  ·
   have hxl : Nats _ _ _ := hpa _ (List.getElem_mem hlt)
   refine Af <| Af <| Ai fun ds => Aa rfl (Ag (Aw rfl hs5)) ?_
   refine Aa rfl (Ag (Al rfl <| Ap rfl <| Ao rfl <| Ak rfl)) ?_
   refine Aa rfl (Bf Dy (Ac) hxs.plain) ?_
   refine Aa rfl (Bt (Ao rfl <| Ac) (Ac)) ?_
   refine Ah <| Ad <| Aq (Ac) (by first | rfl | exact decide_eq_true (by omega)) ?_
   by_cases he : ps[k].2 = ring
   ·
    refine Ax <| Ad <| Af <| A2 <| Af <| Ai fun ds => Aa rfl (Ag (A0 rfl <| Ap rfl <| Ao rfl <| Ak rfl)) ?_
    refine Aa rfl (Ag (A0 rfl <| Al rfl <| Aw rfl hs5)) ?_
    refine Aa rfl (Bi  Dy (Al rfl <| Ac) hxs.plain (Ac) rfl hlt) ?_
    refine Aa rfl (Ar Et (Ac) (hxs.cell1 hlt rfl)) ?_
    refine Aa rfl (Ag (Bb rfl <| Ap rfl <| Ao rfl <| Ak rfl)) ?_
    refine Bs rfl (A6 bd_25 Ay (.cons (Al rfl <| Ac) (.cons (Ac) .nil)) (Ec hxl hy) (fun _ _ h => h)) ?_
    refine Ah <| Ad <| Aq (Ac) (decide_eq_true he) ?_
    refine Af <| Ai fun ds => Aa rfl (Ae Ab) ?_
    refine Ah <| Ad <| A3 <| A9 (A1 (A1 (A9 (A1 ?_))))
    refine Au rfl (.tmp (Ac) .nil) ?_
    show _ = _
    rw [decide_eq_true (show ring ∈ xs by rw [← hpm, ← he]; exact List.mem_map_of_mem (List.getElem_mem hlt))]; rfl
   ·
    refine Ax <| Ad <| Af <| A2 <| Af <| Ai fun ds => Aa rfl (Ag (A0 rfl <| Ap rfl <| Ao rfl <| Ak rfl)) ?_
    refine Aa rfl (Ag (A0 rfl <| Al rfl <| Aw rfl hs5)) ?_
    refine Aa rfl (Bi  Dy (Al rfl <| Ac) hxs.plain (Ac) rfl hlt) ?_
    refine Aa rfl (Ar Et (Ac) (hxs.cell1 hlt rfl)) ?_
    refine Aa rfl (Ag (Bb rfl <| Ap rfl <| Ao rfl <| Ak rfl)) ?_
    refine Bs rfl (A6 bd_25 Ay (.cons (Al rfl <| Ac) (.cons (Ac) .nil)) (Ec hxl hy) (fun _ _ h => h)) ?_
    refine Ah <| Ad <| Am (Ac) (decide_eq_false he) ?_
    refine Ax <| Bg <| Ad <| Ai fun ds => Aa rfl (Ag (Bb rfl <| Ao rfl <| Aw rfl hs5)) ?_
    refine Aa rfl (B2 (Ac) Ab rfl (by omega) (by omega)) ?_
    refine Aa rfl (Ae (Ac)) ?_
    refine Ah <| Ad ⟨_, m - 1, Off.eq (Ed rfl <| ou4 rfl <| Es rfl <| Bh), by omega, ?_⟩
    refine ⟨k + 1, by omega, (Ac), rfl, fun x hx => ?_⟩
    rw [List.take_succ_eq_append_getElem hlt] at hx; rcases List.mem_append.1 hx with hx | hx
    · exact hno x hx
    · simp only [List.mem_singleton] at hx; subst hx; exact he
  ·
   refine Af <| Af <| Ai fun ds => Aa rfl (Ag (Aw rfl hs5)) ?_
   refine Aa rfl (Ag (Al rfl <| Ap rfl <| Ao rfl <| Ak rfl)) ?_
   refine Aa rfl (Bf Dy (Ac) hxs.plain) ?_
   refine Aa rfl (Bt (Ao rfl <| Ac) (Ac)) ?_
   refine Ah <| Ad <| Am (Ac) (by first | rfl | exact decide_eq_false (by omega)) ?_
   obtain rfl : k = ps.length := by omega
   rw [List.take_length] at hno
   refine Bu ?_
   refine Bk <| Bk <| Bn <| Ad <| Af <| Ai fun ds => Aa rfl (Ae Ab) ?_
   refine Ah <| Ad <| A3 <| Au rfl (.tmp (Ac) .nil) ?_
   show _ = _
   rw [decide_eq_false (show ring ∉ xs by rw [← hpm]; intro h; obtain ⟨p, hp, he⟩ := List.mem_map.1 h; exact hno p hp he)]; rfl
set_option maxRecDepth 100000 in
theorem without_ok {F : Heap} {ve vo : Value} {l : List Ent} {o : List Nat} (he : Sl F ve 4 Ent.enc l) (hn : Nats F vo o) (hl6 : l.length ≤ 6) : Ok Try.prog 47 [ve, vo].toArray F fun u F' => Sl F' u 4 Ent.enc (lackL l o) := by
 refine Ok.intro Try.func47 rfl Try.ntmps47 rfl fun w0 => ?_
 have hL := he.plain.lt
 refine Af <| Ai fun ds => Aa rfl (Ae Ab) ?_
 refine Ah <| Ad <| Af <| Ai fun ds => Aa rfl (Ae Ab) ?_
 refine Ah <| Ad <| Af <| Af <| Ai fun ds => Aa rfl (Ae Ab) ?_
 refine Ah <| Ad <| A2 <| Bx [5, 6, 7, 8, 9, 10, 11, 12, 13, 14, 15, 16, 17, 18, 19, 20, 21, 22, 23] (fun m e σ => ∃ k : Nat, m + k = l.length ∧ e 6 = .int .i64 (k : Int) ∧ ∃ v R, e 5 = v ∧ Own 60 4 v (lackTo l o k).length ((lackTo l o k).flatMap Ent.enc) R ∧ σ = ⟨F, R⟩) (l.length) ?_ ?_
 · exact ⟨0, by omega, (Ac), _, _, (Al rfl <| Ac), own_nil, rfl⟩
 ·
  rintro m e _ ⟨k, hm9, hs6, v5, R2, hs5, ho, rfl⟩; have hbl := lack_len (l := l) (out := o) k
  by_cases hlt : k < l.length
  ·
   refine Af <| Af <| Ai fun ds => Aa rfl (Ag (Aw rfl hs6)) ?_
   refine Aa rfl (Ag (Al rfl <| Ap rfl <| Ao rfl <| Al rfl <| Ak rfl)) ?_
   refine Aa rfl (Bf De (Ac) he.plain) ?_
   refine Aa rfl (Bt (Ao rfl <| Ac) (Ac)) ?_
   refine Ah <| Ad <| Aq (Ac) (by first | rfl | exact decide_eq_true (by omega)) ?_
   by_cases hm : k ∈ o
   ·
    refine Ax <| Ad <| Af <| A2 <| Af <| Ai fun ds => Aa rfl (Ag (A0 rfl <| Ap rfl <| Ao rfl <| Al rfl <| Ak rfl)) ?_
    refine Aa rfl (Ag (A0 rfl <| Al rfl <| Aw rfl hs6)) ?_
    refine Bs rfl (A6 bd_42 Ay (.cons (Al rfl <| Ac) (.cons (Ac) .nil)) (has_nat hn k) (fun _ _ h => h)) ?_
    refine Aa rfl (Cj (Ac)) ?_
    refine Ah <| Ad <| Am (Ac) (by simp [hm]) ?_
    refine Ax <| Bg <| Ad <| Ai fun ds => Aa rfl (Ag (Bb rfl <| Aw rfl hs6)) ?_
    refine Aa rfl (B2 (Ac) Ab rfl (by omega) (by omega)) ?_
    refine Aa rfl (Ae (Ac)) ?_
    refine Ah <| Ad ⟨_, m - 1, Off.eq (Ed rfl <| Em rfl <| Es rfl <| Bh), by omega, ?_⟩
    exact ⟨k + 1, by omega, (Ac), _, _, (Bb rfl <| Ao rfl <| Al rfl <| Aw rfl hs5), by rw [lackTo, if_pos hm]; exact ho, rfl⟩
   ·
    refine Ax <| Ad <| Af <| A2 <| Af <| Ai fun ds => Aa rfl (Ag (A0 rfl <| Ap rfl <| Ao rfl <| Al rfl <| Ak rfl)) ?_
    refine Aa rfl (Ag (A0 rfl <| Al rfl <| Aw rfl hs6)) ?_
    refine Bs rfl (A6 bd_42 Ay (.cons (Al rfl <| Ac) (.cons (Ac) .nil)) (has_nat hn k) (fun _ _ h => h)) ?_
    refine Aa rfl (Cj (Ac)) ?_
    refine Ah <| Ad <| Aq (Ac) (by simp [hm]) ?_
    refine Ai fun ds => Aa rfl (Ag (Bb rfl <| Aw rfl hs5)) ?_
    refine Aa rfl (Ag (Bb rfl <| Al rfl <| Ap rfl <| Ao rfl <| Al rfl <| Ak rfl)) ?_
    refine Aa rfl (Ag (Bb rfl <| Ao rfl <| Aw rfl hs6)) ?_
    refine Aa rfl (Bi  De (Al rfl <| Ac) he.plain (Ac) rfl hlt) ?_
    refine Aa rfl (Bd Ep (Ac) rfl rfl (he.whole hlt)) ?_
    refine Bl rfl (Dg (offs := [(0, 4)]) (zl := [.int .i64 0, .bool false, .int .i64 0, .int .i64 0]) De zr_60 rfl (.cons (Ac) rfl .nil) (by intro i p h; rcases i with _ | i <;> simp at h <;> subst h <;> rfl) (.cons rfl rfl (Nat.le_of_ble_eq_true rfl) (.cons (.here) (.cons (.next <| .here) (.cons (.next <| .next <| .here) (.cons (.next <| .next <| .next <| .here) .nil)))) .nil) (by decide) (by decide) fun b2 hb2 nb2 => ?_)
    refine Bl rfl (Dp De el_60 (A0 rfl <| Al rfl <| Ac) ho (Ac) (Dz (s := 4) 0 rfl rfl (by simp [Value.oneCell'])) (by omega) (by omega) (.s <| .z) .last fun v3 R4 ho5 => ?_)
    have ho2 := ho5.snoc (x := (l[k] : Ent)) rfl rfl
    refine Aa rfl (Ae (Ac)) ?_
    refine Ah <| Bg <| Ad <| Co (fun _ _ h => h.drop (.cons _ <| .refl _)) ?_
    refine Ai fun ds => Aa rfl (Ag (Bc rfl <| Aw rfl hs6)) ?_
    refine Aa rfl (B2 (Ac) Ab rfl (by omega) (by omega)) ?_
    refine Aa rfl (Ae (Ac)) ?_
    refine Ah <| Ad ⟨_, m - 1, Off.eq (C5 rfl <| Em rfl <| Es rfl <| Bh), by omega, ?_⟩
    exact ⟨k + 1, by omega, (Ac), _, _, (Ao rfl <| Al rfl <| Ac), by rw [lackTo, if_neg hm, ← ent_at hlt]; exact ho2, rfl⟩
  ·
   refine Af <| Af <| Ai fun ds => Aa rfl (Ag (Aw rfl hs6)) ?_
   refine Aa rfl (Ag (Al rfl <| Ap rfl <| Ao rfl <| Al rfl <| Ak rfl)) ?_
   refine Aa rfl (Bf De (Ac) he.plain) ?_
   refine Aa rfl (Bt (Ao rfl <| Ac) (Ac)) ?_
   refine Ah <| Ad <| Am (Ac) (by first | rfl | exact decide_eq_false (by omega)) ?_
   obtain rfl : k = l.length := by omega
   refine WC_freezeR (σ := ⟨_, _⟩) (by rfl) ho (.z) .last fun F6 hF7 hz8 => ?_
   have hn2 := ho.sl (fun _ => rfl) hz8 (by omega)
   refine Bu ?_
   refine Bk <| Bk <| Bn <| Ad <| Af <| Ai fun ds => Aa rfl (Ag (A0 rfl <| Aw rfl hs5)) ?_
   refine Aa rfl (Ae (Ac)) ?_
   refine Ah <| Ad <| A3 <| Au rfl (.tmp (Ac) .nil) ?_
   exact hn2
section
variable {s : Sale} {rg : List Int} {off : List Nat} {lots bits k : Nat}
end
end Go.Proofs.Ytaikojfonleccaa
namespace Go.Proofs.Ytaikojfonleccaa
section
variable {s : Sale} {r : Nat} {off : List Nat} {lb : Nat}
end
section
variable {s : Sale} {l : List Ent}
theorem fw_asked (h0 : (checkS s).2.2 = 0) (hc : catE s l = 0) : askedE s l = 0 := by rw [askedE_cat h0]; exact hc
end
section
variable {s : Sale} {l : List Ent} {o : List Nat}
theorem ls_fit {x : List Nat} (h : x ∈ fitS s l []) : x ∈ fitS s (lackL l o) [] := by
 obtain ⟨h1, h2⟩ := mem_fit.1 h
 exact fit_lack.2 ⟨h1, fun i hi => by cases h2 i hi⟩
theorem ls_rings (h0 : (checkS s).2.2 = 0) (hc : catE s l = 0) : ((ringsE s l).2 = 8 ∧ fitS s l [] = [] ∧ ((ringsE s (lackL l o)).2 = 0 ∨ (ringsE s (lackL l o)).2 = 8)) ∨ (ringsE s l = (fitS s l [], 0) ∧ ringsE s (lackL l o) = (fitS s (lackL l o) [], 0)) := by
 have h1 := fw_asked h0 hc
 have h2 := fw_asked h0 (lack_cat hc (out := o))
 by_cases hf : fitS s l [] = []
 · refine .inl ⟨by rw [ringsE_none h1 hf], hf, ?_⟩
   by_cases hg : fitS s (lackL l o) [] = []
   · right; rw [ringsE_none h2 hg]
   · left; rw [ringsE_ok h2 hg]
 · refine .inr ⟨ringsE_ok h1 hf, ringsE_ok h2 fun hg => ?_⟩
   obtain ⟨x, hx⟩ := List.exists_mem_of_ne_nil _ hf
   have := ls_fit (o := o) hx
   rw [hg] at this; cases this
theorem ls_must {all few : List (List Nat)} {n : Nat} (h : ∀ x ∈ all, x ∈ few) : subB (selTo (mustB few) n) (selTo (mustB all) n) = true :=
 subB_true fun b hb => by
   obtain ⟨h1, h2⟩ := mem_selTo.1 hb
   exact mem_selTo.2 ⟨h1, must_of fun x hx => many_all h2 (h x hx)⟩
theorem ls_may {all few : List (List Nat)} {n : Nat} (h : ∀ x ∈ all, x ∈ few) : subB (selTo (mayB all) n) (selTo (mayB few) n) = true :=
 subB_true fun b hb => by
   obtain ⟨h1, h2⟩ := mem_selTo.1 hb
   obtain ⟨x, hx, hbx⟩ := may_some h2
   exact mem_selTo.2 ⟨h1, many_one (h x hx) hbx⟩
end
end Go.Proofs.Ytaikojfonleccaa
namespace Go.Proofs.Ytaikojfonleccaa
open Go.RowKit
theorem bd_38 : Body Try.prog 38 := Bq (by kernel_rfl)
theorem bd_44 : Body Try.prog 44 := Bq (by kernel_rfl)
theorem bd_45 : Body Try.prog 45 := Bq (by kernel_rfl)
end Go.Proofs.Ytaikojfonleccaa
namespace Go.Proofs.Ytaikojfonleccaa
open Go.RowKit
theorem bd_47 : Body Try.prog 47 := Bq (by kernel_rfl)
theorem natRem1 {F : Heap} {b T : Nat} {z : Int} {n : Nat} (h : F b = some (bx T [.int .i64 z])) (hz : z = (n : Int) := by rfl) : Nats F (.slice (some ⟨b, 0, none⟩) 1 1) [n] := by
 subst hz; exact Dl (xs := [n]) h rfl rfl (fun _ => rfl) (by decide)
set_option maxRecDepth 100000 in
theorem lessLaw_ok {F : Heap} {vs vb vl vn vd : Value} {s : Sale} (hr : SaleR F vs vb vl vn vd s) {ve : Value} {l : List Ent} (he : Sl F ve 4 Ent.enc l) {x : Nat} (hx8 : x < 256) : Ok Try.prog 14 [.agg #[vs, .int .i64 s.premium, .int .i64 s.fee, .int .i64 s.days, vb, vl, vn, vd], ve, .int .u8 (x : Int)].toArray F fun u _ => u = .bool true := by
 refine Ok.intro Try.func14 rfl Try.ntmps14 rfl fun w0 => ?_
 have hL := he.plain.lt
 by_cases h0 : (checkS s).2.2 = 0
 ·
  by_cases hl0 : l.length = 0
  ·
   refine Af <| Ai fun ds => Bl rfl (Cd (Ak rfl) rfl fun b1 hb1 nb1 => ?_)
   refine Aa rfl (Ae Ab) ?_
   refine Ah <| Ad <| Af <| Af <| Ai fun ds => Aa rfl (Bd Cc (Al rfl <| Ac) rfl rfl (Bm 0 rfl)) ?_
   refine Bs rfl (A6 bd_38 Ay (.cons (Ac) .nil) (valid_ok hr) (fun _ _ h => h)) ?_
   refine Aa rfl (Cj (Ac)) ?_
   refine Aa rfl (Ag (Ac)) ?_
   refine As rfl rfl (Ac) (by simp [h0]) ?_
   refine Aa rfl (Ag (A0 rfl <| Ao rfl <| Ak rfl)) ?_
   refine As rfl rfl (Al rfl <| Ac) (by simp [h0]) ?_
   refine Aa rfl (Bf De (Ac) he.plain) ?_
   refine As rfl rfl (Ao rfl <| Ac) (by simp [h0]) ?_
   refine Aa rfl (B4 (Ac) Ab) ?_
   refine Aa rfl (A5 (Ao rfl <| Al rfl <| Ac) (by simp [h0]) (Ac)) ?_
   refine Aa rfl (Ag (Ac)) ?_
   refine At rfl rfl (Ac) (.inl (congrArg Value.bool (decide_eq_true (by omega)))) rfl ?_
   refine At rfl rfl (Al rfl <| Ac) (.inl (congrArg Value.bool (decide_eq_true (by omega)))) rfl ?_
   refine At rfl rfl (Ao rfl <| Ac) (.inl (congrArg Value.bool (decide_eq_true (by omega)))) rfl ?_
   refine At rfl rfl (Ao rfl <| Al rfl <| Ac) (.inl (congrArg Value.bool (decide_eq_true (by omega)))) rfl ?_
   refine Aa rfl (A4 (A0 rfl <| Ac) (decide_eq_true (by omega)) Ab) ?_
   refine Ah <| Ad <| Aq (Ac) rfl ?_
   refine Af <| Ai fun ds => Bs rfl (A6 bd_22 Ay .nil awake_ok (fun _ _ h => h)) ?_
   refine Aa rfl (Ae (Ac)) ?_
   refine Ah <| Ad <| A3 <| A1 ?_
   refine Au rfl (.tmp (Ac) .nil) ?_
   rfl
  ·
   by_cases hc : catE s l = 0
   ·
    have hv := C4 h0
    have hl6 := ent_len hv hc
    refine Af <| Ai fun ds => Bl rfl (Cd (Ak rfl) rfl fun b2 hb2 nb2 => ?_)
    refine Aa rfl (Ae Ab) ?_
    refine Ah <| Ad <| Af <| Af <| Ai fun ds => Aa rfl (Bd Cc (Al rfl <| Ac) rfl rfl (Bm 0 rfl)) ?_
    refine Bs rfl (A6 bd_38 Ay (.cons (Ac) .nil) (valid_ok hr) (fun _ _ h => h)) ?_
    refine Aa rfl (Cj (Ac)) ?_
    refine Aa rfl (Ag (Ac)) ?_
    refine As rfl rfl (Ac) (by simp [h0]) ?_
    refine Aa rfl (Ag (A0 rfl <| Ao rfl <| Ak rfl)) ?_
    refine As rfl rfl (Al rfl <| Ac) (by simp [h0]) ?_
    refine Aa rfl (Bf De (Ac) he.plain) ?_
    refine As rfl rfl (Ao rfl <| Ac) (by simp [h0]) ?_
    refine Aa rfl (B4 (Ac) Ab) ?_
    refine Aa rfl (A5 (Ao rfl <| Al rfl <| Ac) (by simp [h0]) (Ac)) ?_
    refine Aa rfl (Ag (Ac)) ?_
    refine As rfl rfl (Ac) (decide_eq_false (by omega)) ?_
    refine Aa rfl (Bd Cc (Bb rfl <| Ao rfl <| Ac) rfl rfl (Bm 0 rfl)) ?_
    refine As rfl rfl (Al rfl <| Ac) (decide_eq_false (by omega)) ?_
    refine Aa rfl (Ag (Bb rfl <| A0 rfl <| Ak rfl)) ?_
    refine As rfl rfl (Ao rfl <| Ac) (decide_eq_false (by omega)) ?_
    refine Bs rfl (A6 bd_46 Ay (.cons (Al rfl <| Ac) (.cons (Ac) .nil)) (refCatalogue_ok hr he) (fun _ _ h => h)) ?_
    refine As rfl rfl (Ao rfl <| Al rfl <| Ac) (decide_eq_false (by omega)) ?_
    refine Aa rfl (B3 (Ac) Ab) ?_
    refine Aa rfl (A5 (A0 rfl <| Ac) (decide_eq_false (by omega)) (Ac)) ?_
    refine Ah <| Ad <| Am (Ac) (decide_eq_false (fun h => h hc)) ?_
    refine Ax <| Ad <| Af <| Ai fun ds => Aa rfl (Ag (Bc rfl <| Ak rfl)) ?_
    refine Aa rfl (q_convert ⟨_, Try.underlying5⟩ Try.underlying3 (Ac) (IntWalk.i64_in _ ⟨by omega, by omega⟩)) ?_
    refine Aa rfl (Ag (Bc rfl <| Ao rfl <| Ak rfl)) ?_
    refine Aa rfl (Bf De (Ac) he.plain) ?_
    refine Aa rfl (q_rem (Ao rfl <| Ac) (Ac) (Int.natCast_nonneg _) (by omega)) ?_
    refine Aa rfl (Ae (Ac)) ?_
    refine Ah <| Ad <| Af <| Ai fun ds => Aa rfl (Ag (Bc rfl <| A0 rfl <| Ao rfl <| Ak rfl)) ?_
    refine Aa rfl (Ag (Al rfl <| Ac)) ?_
    refine Bl rfl (Bw Br Cy rfl (.cons (Ac) .nil) rfl rfl (by decide) (by simp [Value.oneCell']) fun b3 hb3 nb3 => ?_)
    refine Bp (i := 0) rfl hb3 .here fun F4 hF5 hz6 => ?_
    replace hr := hr.mono hF5
    replace he := he.mono hF5
    have hsl7 := natRem1 hz6
    refine Bl rfl (Cx bd_47 Ay (.cons (Ao rfl <| Ac) (.cons (Ac) .nil)) (without_ok he hsl7 hl6) fun v8 F9 hr10 hF11 => ?_)
    replace hr := hr.mono hF11
    replace he := he.mono hF11
    have hf : Sl _ _ 4 Ent.enc (lackL l [x % l.length]) := hr10
    refine Aa rfl (Ae (Ac)) ?_
    refine Ah <| Ad <| Af <| Ai fun ds => Aa rfl (Bd Cc (Bc rfl <| Bb rfl <| Ao rfl <| Ac) rfl rfl (Bm 0 rfl)) ?_
    refine Aa rfl (Ag (Al rfl <| Ac)) ?_
    refine Bl rfl (Cx bd_28 Ay (.cons (Al rfl <| Ac) (.cons (Ac) .nil)) (Ei hr hf) fun v12 F13 hr14 hF15 => ?_)
    replace hr := hr.mono hF15
    replace he := he.mono hF15
    replace hf := hf.mono hF15
    obtain ⟨w1_, rfl, hq1⟩ := hr14
    refine Aa rfl (Ag (Ac)) ?_
    refine Aa rfl (Az (Ac) rfl) ?_
    refine Aa rfl (Az (Al rfl <| Ac) rfl) ?_
    refine Aa rfl (Ae (Al rfl <| Ac)) ?_
    refine Aa rfl (Ae (Al rfl <| Ac)) ?_
    refine Ah <| Ad <| Af <| Ai fun ds => Aa rfl (Bd Cc (Bv rfl <| Ao rfl <| Ac) rfl rfl (Bm 0 rfl)) ?_
    refine Aa rfl (Ag (Bv rfl <| A0 rfl <| Ak rfl)) ?_
    refine Bl rfl (Cx bd_28 Ay (.cons (Al rfl <| Ac) (.cons (Ac) .nil)) (Ei hr he) fun v16 F17 hr18 hF19 => ?_)
    replace hr := hr.mono hF19
    replace he := he.mono hF19
    replace hf := hf.mono hF19
    replace hq1 := hq1.mono hF19
    obtain ⟨w2_, rfl, hq2⟩ := hr18
    refine Aa rfl (Ag (Ac)) ?_
    refine Aa rfl (Az (Ac) rfl) ?_
    refine Aa rfl (Az (Al rfl <| Ac) rfl) ?_
    refine Aa rfl (Ae (Al rfl <| Ac)) ?_
    refine Aa rfl (Ae (Al rfl <| Ac)) ?_
    refine Ah <| Ad <| Af <| Af ?_
    rcases ls_rings (o := [x % l.length]) h0 hc with ⟨e1, -, e2⟩ | ⟨e1, e2⟩
    ·
     rcases e2 with e2 | e2
     ·
      refine Ai fun ds => Aa rfl (Ag (Ac)) ?_
      refine Aa rfl (B3 (Ac) Ab) ?_
      refine Ah <| Ad <| Aq (Ac) (by rw [e1]; rfl) ?_
      refine Af <| Ai fun ds => Aa rfl (Ag (Ao rfl <| Ac)) ?_
      refine Aa rfl (B4 (Ac) Ab) ?_
      refine Aa rfl (Ag (Ac)) ?_
      refine As rfl rfl (Ac) (by rw [e1]; rfl) ?_
      refine Aa rfl (Ag (Bb rfl <| A0 rfl <| Al rfl <| Ac)) ?_
      refine As rfl rfl (Al rfl <| Ac) (by rw [e1]; rfl) ?_
      refine Aa rfl (B4 (Ac) Ab) ?_
      refine As rfl rfl (Ao rfl <| Ac) (by rw [e1]; rfl) ?_
      refine Aa rfl (Ag (Ac)) ?_
      refine At rfl rfl (Ac) (.inl (congrArg Value.bool (by rw [e2]; rfl))) rfl ?_
      refine At rfl rfl (Al rfl <| Ac) (.inl (congrArg Value.bool (by rw [e2]; rfl))) rfl ?_
      refine At rfl rfl (Ao rfl <| Ac) (.inl (congrArg Value.bool (by rw [e2]; rfl))) rfl ?_
      refine As rfl rfl (A0 rfl <| Ao rfl <| Ac) (by rw [e1]; rfl) ?_
      refine Aa rfl (A4 (Ao rfl <| Al rfl <| Ac) (by rw [e2]; rfl) Ab) ?_
      refine Aa rfl (A4 (A0 rfl <| Ao rfl <| Al rfl <| Ac) (by rw [e1]; rfl) (Ac)) ?_
      refine Aa rfl (Ag (Ac)) ?_
      refine As rfl rfl (Ac) (by first | rfl | (simp [e1, e2]; done)) ?_
      refine Bs rfl (A6 bd_22 Ay .nil awake_ok (fun _ _ h => h)) ?_
      refine Aa rfl (A4 (Al rfl <| Ac) (by first | rfl | (simp [e1, e2]; done)) (Ac)) ?_
      refine Aa rfl (Ae (Ac)) ?_
      refine Ah <| Ad <| A3 <| A1 ?_
      refine Au rfl (.tmp (Ac) .nil) ?_
      rfl
     ·
      refine Ai fun ds => Aa rfl (Ag (Ac)) ?_
      refine Aa rfl (B3 (Ac) Ab) ?_
      refine Ah <| Ad <| Aq (Ac) (by rw [e1]; rfl) ?_
      refine Af <| Ai fun ds => Aa rfl (Ag (Ao rfl <| Ac)) ?_
      refine Aa rfl (B4 (Ac) Ab) ?_
      refine Aa rfl (Ag (Ac)) ?_
      refine As rfl rfl (Ac) (by rw [e1]; rfl) ?_
      refine Aa rfl (Ag (Bb rfl <| A0 rfl <| Al rfl <| Ac)) ?_
      refine As rfl rfl (Al rfl <| Ac) (by rw [e1]; rfl) ?_
      refine Aa rfl (B4 (Ac) Ab) ?_
      refine As rfl rfl (Ao rfl <| Ac) (by rw [e1]; rfl) ?_
      refine Aa rfl (Ag (Ac)) ?_
      refine As rfl rfl (Ac) (by rw [e2]; rfl) ?_
      refine Aa rfl (Ag (Bc rfl <| Ac)) ?_
      refine As rfl rfl (Al rfl <| Ac) (by rw [e2]; rfl) ?_
      refine Aa rfl (Ag (Bb rfl <| Al rfl <| Ac)) ?_
      refine As rfl rfl (Ao rfl <| Ac) (by rw [e2]; rfl) ?_
      refine Aa rfl (B4 (Al rfl <| Ac) (Ac)) ?_
      refine As rfl rfl (A0 rfl <| Ao rfl <| Ac) (by rw [e1]; rfl) ?_
      refine Aa rfl (A5 (Ao rfl <| Al rfl <| Ac) (by rw [e2]; rfl) (Ac)) ?_
      refine Aa rfl (A4 (A0 rfl <| Ao rfl <| Al rfl <| Ac) (by rw [e1]; rfl) (Ac)) ?_
      refine Aa rfl (Ag (Ac)) ?_
      refine As rfl rfl (Ac) (by first | rfl | (simp [e1, e2]; done)) ?_
      refine Bs rfl (A6 bd_22 Ay .nil awake_ok (fun _ _ h => h)) ?_
      refine Aa rfl (A4 (Al rfl <| Ac) (by first | rfl | (simp [e1, e2]; done)) (Ac)) ?_
      refine Aa rfl (Ae (Ac)) ?_
      refine Ah <| Ad <| A3 <| A1 ?_
      refine Au rfl (.tmp (Ac) .nil) ?_
      rfl
    ·
     rw [e2] at hq1
     replace hq1 : Lsts _ _ (fitS s (lackL l [x % l.length]) []) := hq1
     rw [e1] at hq2
     replace hq2 : Lsts _ _ (fitS s l []) := hq2
     have hsub : ∀ z ∈ fitS s l [], z ∈ fitS s (lackL l [x % l.length]) [] := fun z hz => ls_fit hz
     have hq3 := hq2
     obtain ⟨ps, hqs, hqa, hqm⟩ := hq3
     replace hqa : AllN _ ps := hqa
     have hpl := hqs.plain.lt
     refine Ai fun ds => Aa rfl (Ag (Ac)) ?_
     refine Aa rfl (B3 (Ac) Ab) ?_
     refine Ah <| Ad <| Am (Ac) (by rw [e1]; rfl) ?_
     refine Ax <| Ad <| Af <| Af <| Ai fun ds => Aa rfl (Ag (Bb rfl <| Ao rfl <| Ac)) ?_
     refine Aa rfl (B3 (Ac) Ab) ?_
     refine Ah <| Ad <| Am (Ac) (by rw [e2]; rfl) ?_
     refine Ax <| Ad <| Af <| Af <| Ai fun ds => Aa rfl (Ae Ab) ?_
     refine Ah <| Ad <| A2 <| Bx [6, 13, 74, 75, 76, 77, 78, 79, 80, 81, 82, 83, 84, 85, 86] (fun m e σ => ∃ k : Nat, m + k = ps.length ∧ e 13 = .int .i64 (k : Int) ∧ σ = ⟨F17, [(b2, bx 27 [vs, .int .i64 s.premium, .int .i64 s.fee, .int .i64 s.days, vb, vl, vn, vd])]⟩) (ps.length) ?_ ?_
     · exact ⟨0, by omega, (Ac), rfl⟩
     ·
      rintro m e _ ⟨k, hm9, hs13, rfl⟩
      by_cases hlk : k < ps.length
      ·
       have hql : Nats _ _ _ := hqa _ (List.getElem_mem hlk)
       have hin : ps[k].2 ∈ fitS s (lackL l [x % l.length]) [] := hsub _ (by rw [← hqm]; exact List.mem_map_of_mem (List.getElem_mem hlk))
       refine Af <| Af <| Ai fun ds => Aa rfl (Ag (Aw rfl hs13)) ?_
       refine Aa rfl (Ag (Al rfl <| Ap rfl <| A0 rfl <| Ao rfl <| Ac)) ?_
       refine Aa rfl (Bf Dy (Ac) hqs.plain) ?_
       refine Aa rfl (Bt (Ao rfl <| Ac) (Ac)) ?_
       refine Ah <| Ad <| Aq (Ac) (by first | rfl | exact decide_eq_true (by omega)) ?_
       refine Ax <| Ad <| Af <| A2 <| Af <| Ai fun ds => Aa rfl (Ag (A0 rfl <| Ap rfl <| Bb rfl <| A0 rfl <| Ao rfl <| Ac)) ?_
       refine Aa rfl (Ag (A0 rfl <| Al rfl <| Ap rfl <| A0 rfl <| Ao rfl <| Ac)) ?_
       refine Aa rfl (Ag (A0 rfl <| Ao rfl <| Aw rfl hs13)) ?_
       refine Aa rfl (Bi  Dy (Al rfl <| Ac) hqs.plain (Ac) rfl hlk) ?_
       refine Aa rfl (Ar Et (Ac) (hqs.cell1 hlk rfl)) ?_
       refine Bs rfl (A6 bd_44 Ay (.cons (A0 rfl <| Ac) (.cons (Ac) .nil)) (one_ok hq1 hql) (fun _ _ h => h)) ?_
       refine Aa rfl (Cj (Ac)) ?_
       refine Ah <| Ad <| Am (Ac) (by simp [hin]) ?_
       refine Ax <| Bg <| Ad <| Ai fun ds => Aa rfl (Ag (Bb rfl <| Ao rfl <| Al rfl <| Aw rfl hs13)) ?_
       refine Aa rfl (B2 (Ac) Ab rfl (by omega) (by omega)) ?_
       refine Aa rfl (Ae (Ac)) ?_
       refine Ah <| Ad ⟨_, m - 1, Off.eq (Ed rfl <| ou4 rfl <| Em rfl <| Bh), by omega, ?_⟩
       exact ⟨k + 1, by omega, (Ac), rfl⟩
      ·
       refine Af <| Af <| Ai fun ds => Aa rfl (Ag (Aw rfl hs13)) ?_
       refine Aa rfl (Ag (Al rfl <| Ap rfl <| A0 rfl <| Ao rfl <| Ac)) ?_
       refine Aa rfl (Bf Dy (Ac) hqs.plain) ?_
       refine Aa rfl (Bt (Ao rfl <| Ac) (Ac)) ?_
       refine Ah <| Ad <| Am (Ac) (by first | rfl | exact decide_eq_false (by omega)) ?_
       refine Bu ?_
       refine Bk <| Bk <| Bn <| Ad <| Af <| Ai fun ds => Aa rfl (Bd Cc (A0 rfl <| Ap rfl <| Bv rfl <| Bb rfl <| A0 rfl <| Ao rfl <| Al rfl <| Ac) rfl rfl (Bm 0 rfl)) ?_
       refine Aa rfl (Ag (A0 rfl <| Al rfl <| Ap rfl <| Bc rfl <| A0 rfl <| Al rfl <| Ac)) ?_
       refine Bl rfl (Cx bd_31 Ay (.cons (Al rfl <| Ac) (.cons (Ac) .nil)) ((members_ok hr hf).mono fun u F2 _ h => (by rw [membersE_ok (by rw [e2]), e2] at h; exact h : ∃ w w2, u = .tuple #[w, w2, .int .i64 0] ∧ Nats F2 w (selTo (mustB (fitS s (lackL l [x % l.length]) [])) s.bidders.length) ∧ Nats F2 w2 (selTo (mayB (fitS s (lackL l [x % l.length]) [])) s.bidders.length))) fun v21 F22 hr23 hF24 => ?_)
       replace hr := hr.mono hF24
       replace he := he.mono hF24
       obtain ⟨hm1_, hm2_, rfl, hm1, hm2⟩ := hr23
       refine Aa rfl (Ag (Ac)) ?_
       refine Aa rfl (Az (Ac) rfl) ?_
       refine Aa rfl (Az (Al rfl <| Ac) rfl) ?_
       refine Aa rfl (Az (Ao rfl <| Ac) rfl) ?_
       refine Aa rfl (Ae (Ao rfl <| Ac)) ?_
       refine Aa rfl (Ae (Ao rfl <| Ac)) ?_
       refine Aa rfl (Ae (Ao rfl <| Ac)) ?_
       refine Ah <| Ad <| Af <| Ai fun ds => Aa rfl (Bd Cc (Bb rfl <| A0 rfl <| Ao rfl <| Ap rfl <| Bv rfl <| Bb rfl <| A0 rfl <| Ao rfl <| Al rfl <| Ac) rfl rfl (Bm 0 rfl)) ?_
       refine Aa rfl (Ag (Bb rfl <| A0 rfl <| Ao rfl <| Al rfl <| Ap rfl <| Bv rfl <| Bc rfl <| Ak rfl)) ?_
       refine Bl rfl (Cx bd_31 Ay (.cons (Al rfl <| Ac) (.cons (Ac) .nil)) ((members_ok hr he).mono fun u F2 _ h => (by rw [membersE_ok (by rw [e1]), e1] at h; exact h : ∃ w w2, u = .tuple #[w, w2, .int .i64 0] ∧ Nats F2 w (selTo (mustB (fitS s l [])) s.bidders.length) ∧ Nats F2 w2 (selTo (mayB (fitS s l [])) s.bidders.length))) fun v25 F26 hr27 hF28 => ?_)
       replace hm1 := hm1.mono hF28
       replace hm2 := hm2.mono hF28
       obtain ⟨hm3_, hm4_, rfl, hm3, hm4⟩ := hr27
       refine Aa rfl (Ag (Ac)) ?_
       refine Aa rfl (Az (Ac) rfl) ?_
       refine Aa rfl (Az (Al rfl <| Ac) rfl) ?_
       refine Aa rfl (Az (Ao rfl <| Ac) rfl) ?_
       refine Aa rfl (Ae (Ao rfl <| Ac)) ?_
       refine Aa rfl (Ae (Ao rfl <| Ac)) ?_
       refine Aa rfl (Ae (Ao rfl <| Ac)) ?_
       refine Ah <| Ad <| Af <| Ai fun ds => Aa rfl (Ag (Bb rfl <| Ao rfl <| Ac)) ?_
       refine Aa rfl (B4 (Ac) Ab) ?_
       refine Aa rfl (Ag (Ac)) ?_
       refine As rfl rfl (Ac) (by first | rfl | decide) ?_
       refine Aa rfl (Ag (Ao rfl <| Al rfl <| Ac)) ?_
       refine As rfl rfl (Al rfl <| Ac) (by first | rfl | decide) ?_
       refine Aa rfl (B4 (Ac) Ab) ?_
       refine Aa rfl (A4 (Ao rfl <| Ac) (by first | rfl | decide) (Ac)) ?_
       refine Aa rfl (Ag (Ac)) ?_
       refine As rfl rfl (Ac) (by first | rfl | decide) ?_
       refine Aa rfl (Ag (Bc rfl <| Ao rfl <| Al rfl <| Ac)) ?_
       refine As rfl rfl (Al rfl <| Ac) (by first | rfl | decide) ?_
       refine Aa rfl (Ag (Bb rfl <| Ao rfl <| Ac)) ?_
       refine As rfl rfl (Ao rfl <| Ac) (by first | rfl | decide) ?_
       refine Bs rfl (A6 bd_45 Ay (.cons (Al rfl <| Ac) (.cons (Ac) .nil)) (subset_ok hm1 hm3) (fun _ _ h => h)) ?_
       refine Aa rfl (A4 (Ao rfl <| Al rfl <| Ac) (by first | rfl | decide) (Ac)) ?_
       refine Aa rfl (Ag (Ac)) ?_
       refine As rfl rfl (Ac) (ls_must hsub) ?_
       refine Aa rfl (Ag (Bb rfl <| A0 rfl <| Al rfl <| Ac)) ?_
       refine As rfl rfl (Al rfl <| Ac) (ls_must hsub) ?_
       refine Aa rfl (Ag (Bc rfl <| Bb rfl <| Ac)) ?_
       refine As rfl rfl (Ao rfl <| Ac) (ls_must hsub) ?_
       refine Bs rfl (A6 bd_45 Ay (.cons (Al rfl <| Ac) (.cons (Ac) .nil)) (subset_ok hm4 hm2) (fun _ _ h => h)) ?_
       refine Aa rfl (A4 (Ao rfl <| Al rfl <| Ac) (ls_must hsub) (Ac)) ?_
       refine Aa rfl (Ag (Ac)) ?_
       refine As rfl rfl (Ac) (ls_may hsub) ?_
       refine Bs rfl (A6 bd_22 Ay .nil awake_ok (fun _ _ h => h)) ?_
       refine Aa rfl (A4 (Al rfl <| Ac) (ls_may hsub) (Ac)) ?_
       refine Aa rfl (Ae (Ac)) ?_
       refine Ah <| Ad <| A3 <| Au rfl (.tmp (Ac) .nil) ?_
       rfl
   ·
    refine Af <| Ai fun ds => Bl rfl (Cd (Ak rfl) rfl fun b29 hb29 nb29 => ?_)
    refine Aa rfl (Ae Ab) ?_
    refine Ah <| Ad <| Af <| Af <| Ai fun ds => Aa rfl (Bd Cc (Al rfl <| Ac) rfl rfl (Bm 0 rfl)) ?_
    refine Bs rfl (A6 bd_38 Ay (.cons (Ac) .nil) (valid_ok hr) (fun _ _ h => h)) ?_
    refine Aa rfl (Cj (Ac)) ?_
    refine Aa rfl (Ag (Ac)) ?_
    refine As rfl rfl (Ac) (by simp [h0]) ?_
    refine Aa rfl (Ag (A0 rfl <| Ao rfl <| Ak rfl)) ?_
    refine As rfl rfl (Al rfl <| Ac) (by simp [h0]) ?_
    refine Aa rfl (Bf De (Ac) he.plain) ?_
    refine As rfl rfl (Ao rfl <| Ac) (by simp [h0]) ?_
    refine Aa rfl (B4 (Ac) Ab) ?_
    refine Aa rfl (A5 (Ao rfl <| Al rfl <| Ac) (by simp [h0]) (Ac)) ?_
    refine Aa rfl (Ag (Ac)) ?_
    refine As rfl rfl (Ac) (decide_eq_false (by omega)) ?_
    refine Aa rfl (Bd Cc (Bb rfl <| Ao rfl <| Ac) rfl rfl (Bm 0 rfl)) ?_
    refine As rfl rfl (Al rfl <| Ac) (decide_eq_false (by omega)) ?_
    refine Aa rfl (Ag (Bb rfl <| A0 rfl <| Ak rfl)) ?_
    refine As rfl rfl (Ao rfl <| Ac) (decide_eq_false (by omega)) ?_
    refine Bs rfl (A6 bd_46 Ay (.cons (Al rfl <| Ac) (.cons (Ac) .nil)) (refCatalogue_ok hr he) (fun _ _ h => h)) ?_
    refine As rfl rfl (Ao rfl <| Al rfl <| Ac) (decide_eq_false (by omega)) ?_
    refine Aa rfl (B3 (Ac) Ab) ?_
    refine Aa rfl (A5 (A0 rfl <| Ac) (decide_eq_false (by omega)) (Ac)) ?_
    refine Ah <| Ad <| Aq (Ac) (decide_eq_true hc) ?_
    refine Af <| Ai fun ds => Bs rfl (A6 bd_22 Ay .nil awake_ok (fun _ _ h => h)) ?_
    refine Aa rfl (Ae (Ac)) ?_
    refine Ah <| Ad <| A3 <| A1 ?_
    refine Au rfl (.tmp (Ac) .nil) ?_
    rfl
 ·
  refine Af <| Ai fun ds => Bl rfl (Cd (Ak rfl) rfl fun b30 hb30 nb30 => ?_)
  refine Aa rfl (Ae Ab) ?_
  refine Ah <| Ad <| Af <| Af <| Ai fun ds => Aa rfl (Bd Cc (Al rfl <| Ac) rfl rfl (Bm 0 rfl)) ?_
  refine Bs rfl (A6 bd_38 Ay (.cons (Ac) .nil) (valid_ok hr) (fun _ _ h => h)) ?_
  refine Aa rfl (Cj (Ac)) ?_
  refine Aa rfl (Ag (Ac)) ?_
  refine At rfl rfl (Ac) (.inl (congrArg Value.bool (by simp [h0]))) rfl ?_
  refine At rfl rfl (Al rfl <| Ac) (.inl (congrArg Value.bool (by simp [h0]))) rfl ?_
  refine At rfl rfl (Ao rfl <| Ac) (.inl (congrArg Value.bool (by simp [h0]))) rfl ?_
  refine Aa rfl (A4 (Ao rfl <| Al rfl <| Ac) (by simp [h0]) Ab) ?_
  refine Aa rfl (Ag (Ac)) ?_
  refine At rfl rfl (Ac) (.inl (congrArg Value.bool rfl)) rfl ?_
  refine At rfl rfl (Al rfl <| Ac) (.inl (congrArg Value.bool rfl)) rfl ?_
  refine At rfl rfl (Ao rfl <| Ac) (.inl (congrArg Value.bool rfl)) rfl ?_
  refine At rfl rfl (Ao rfl <| Al rfl <| Ac) (.inl (congrArg Value.bool rfl)) rfl ?_
  refine Aa rfl (A4 (A0 rfl <| Ac) rfl Ab) ?_
  refine Ah <| Ad <| Aq (Ac) rfl ?_
  refine Af <| Ai fun ds => Bs rfl (A6 bd_22 Ay .nil awake_ok (fun _ _ h => h)) ?_
  refine Aa rfl (Ae (Ac)) ?_
  refine Ah <| Ad <| A3 <| A1 ?_
  refine Au rfl (.tmp (Ac) .nil) ?_
  rfl
end Go.Proofs.Ytaikojfonleccaa
namespace Go.Proofs.Ytaikojfonleccaa
open Go.ChangeShapes Go.WideShapes Go.ChangeAt Go.RowKit
set_option maxRecDepth 100000 in
theorem saleLessLifted (os : Os) (started : os.Started) (H : Type) (enc : TypeId × Value → H) :
   ReturnsInHanded {} Try.checked os 14 .any (Rows.saleLessSpec.pre6 enc Try.prog Try.f14 Rows.saleLessRow.domain false) (Rows.saleLessSpec.post enc Try.prog Try.f14 false true false false) := by
 refine returnsInHanded_of_change_sized (C := Try.checked) ownKnob0 started (by kernel_rfl) Try.func14
   (ChangeSpec.witness6 (enc := enc) (C := Try.checked) false ⟨#[], #[.agg #[.slice none 0 0, .int .i64 0, .int .i64 0, .int .i64 0, .slice none 0 0, .slice none 0 0, .slice none 0 0, .slice none 0 0], .slice none 0 0, .int .u8 0], []⟩ 8 (by kernel_rfl) (by kernel_rfl) (by kernel_rfl) (by kernel_rfl)) ?_
 intro W base args ds gs before hval0 hW hcnd hsz _
 have hval : ∀ (j : Nat) t v, Try.f14.params[j]? = some t → args[j]? = some v → Value.okWide Try.prog W .any base t v := hval0
 have hW' := hW
 obtain ⟨p, q, hA0, hV, rfl, hfz, hnd⟩ := hW
 have hA : DataW.TrodAll enc Try.prog W 0 (fun _ => true) true Try.f14.params.toList args.toList ds p := hA0
 rw [Try.params14] at hA hval
 obtain ⟨v0, vs0, d0, ds0, p0, q0, hargs, rfl, rfl, h0, r0⟩ := trodAll_cons hA
 obtain ⟨v1, vs1, d1, ds1, p1, q1, rfl, rfl, rfl, h1, r1⟩ := trodAll_cons r0
 obtain ⟨v2, vs2, d2, ds2, p2, q2, rfl, rfl, rfl, h2, r2⟩ := trodAll_cons r1
 obtain ⟨rfl, rfl, rfl⟩ := trodAll_nil r2
 obtain rfl : args = #[v0, v1, v2] := by cases args; simp_all
 obtain ⟨rfl, rfl⟩ := trodVars_none hV
 have hsz' : (DataW.weightsEach Try.prog (Try.f14.params.toList ++ []) ([d0, d1, d2] ++ [])).all (· ≤ reachBytes) = true := hsz
 rw [Try.params14] at hsz'
 have k0 := h0
 have lt0 : ∀ x ∈ p0, x.block < W.heap.size := by obtain ⟨m, hm⟩ := k0; exact DataW.trod_lt m _ _ _ hm
 have k1 := h1
 have lt1 : ∀ x ∈ p1, x.block < W.heap.size := by obtain ⟨m, hm⟩ := k1; exact DataW.trod_lt m _ _ _ hm
 have k2 := h2
 have lt2 : ∀ x ∈ p2, x.block < W.heap.size := by obtain ⟨m, hm⟩ := k2; exact DataW.trod_lt m _ _ _ hm
 obtain ⟨vs, vb, vl, vn, vd, s, rfl, hr⟩ := arg_sale (hval 0 27 v0 rfl rfl) h0 (weights_at hsz' (j := 0) rfl rfl)
 obtain ⟨l, he, -⟩ := arg_ents (hval 1 47 v1 rfl rfl) h1 (weights_at hsz' (j := 1) rfl rfl)
 obtain ⟨x, rfl, hx8⟩ := arg_u8 (hval 2 5 v2 rfl rfl) h2 (weights_at hsz' (j := 2) rfl rfl)
 clear hA0 hval0
 refine (Ok.law (lessLaw_ok hr he hx8)).mono fun e W' ⟨he, bel⟩ => ?_
 subst he
 exact ⟨_, rfl, _, _, _, [], _, [], hW', trodAll_mk1 (shut_bool Try.underlying4 _), (trodAll_cons_mk (Below.trod laidOut (by kernel_rfl) (of_decide_eq_true (by kernel_rfl)) k0 bel lt0) (trodAll_cons_mk (Below.trod laidOut (by kernel_rfl) (of_decide_eq_true (by kernel_rfl)) k1 bel lt1) (trodAll_cons_mk (Below.trod laidOut (by kernel_rfl) (of_decide_eq_true (by kernel_rfl)) k2 bel lt2) trodAll_mk0))), rfl, bel.frame _, fun h => by cases h⟩
theorem saleLess : Rows.SaleLessSaid :=
 OpenClaim.holds_of_wide 14 Try.f14 rfl rfl rfl rfl rfl rfl rfl ⟨rfl, rfl, rfl, rfl, rfl⟩ rfl rfl rfl rfl rfl (by kernel_rfl) Try.func14 (by kernel_rfl)
   (of_decide_eq_true (by kernel_rfl)) (by unfold Func.isWrapper; first | (rw [if_pos (by decide +kernel)]; kernel_rfl) | (rw [if_neg (by decide +kernel)]; exact ⟨rfl, rfl⟩))
   (fun os started H enc _ => saleLessLifted os started H enc)
#print axioms saleLess
end Go.Proofs.Ytaikojfonleccaa
