/-
  SaleSilent returns true of any sale, ring and further members by bits, and leaves what it is handed as it was. No conditions.
-/
import Derived.Test.YtaikojfonleccaaPae
namespace Go.Proofs.Ytaikojfonleccaa
open Go.RowKit
theorem bd_17 : Body Try.prog 17 := Br (by kernel_rfl)
theorem bd_19 : Body Try.prog 19 := Br (by kernel_rfl)
theorem bd_21 : Body Try.prog 21 := Br (by kernel_rfl)
theorem bd_23 : Body Try.prog 23 := Br (by kernel_rfl)
theorem bd_26 : Body Try.prog 26 := Br (by kernel_rfl)
theorem bd_30 : Body Try.prog 30 := Br (by kernel_rfl)
theorem bd_31 : Body Try.prog 31 := Br (by kernel_rfl)
theorem bd_33 : Body Try.prog 33 := Br (by kernel_rfl)
theorem bd_35 : Body Try.prog 35 := Br (by kernel_rfl)
theorem bd_36 : Body Try.prog 36 := Br (by kernel_rfl)
theorem bd_37 : Body Try.prog 37 := Br (by kernel_rfl)
theorem bt_77 : BuildT Try.prog 77 [.int .i64 0, .int .i64 0] [(0, 1), (1, 1)] := Ef zr_77 (by kernel_rfl) (by decide)
theorem n13_box2 {F : Heap} {b T : Nat} (h : F b = some (bx T [.int .i64 1, .int .i64 3])) : Nats F (.slice (some ⟨b, 0, none⟩) 2 2) [1, 3] :=
 Dr (xs := ([1, 3] : List Nat)) h rfl rfl (fun _ => rfl) (by decide)
theorem n013_box3 {F : Heap} {b T : Nat} (h : F b = some (bx T [.int .i64 0, .int .i64 1, .int .i64 3])) : Nats F (.slice (some ⟨b, 0, none⟩) 3 3) [0, 1, 3] :=
 Dr (xs := ([0, 1, 3] : List Nat)) h rfl rfl (fun _ => rfl) (by decide)
theorem n123_box3 {F : Heap} {b T : Nat} (h : F b = some (bx T [.int .i64 1, .int .i64 2, .int .i64 3])) : Nats F (.slice (some ⟨b, 0, none⟩) 3 3) [1, 2, 3] :=
 Dr (xs := ([1, 2, 3] : List Nat)) h rfl rfl (fun _ => rfl) (by decide)
theorem n02_box2 {F : Heap} {b T : Nat} (h : F b = some (bx T [.int .i64 0, .int .i64 2])) : Nats F (.slice (some ⟨b, 0, none⟩) 2 2) [0, 2] :=
 Dr (xs := ([0, 2] : List Nat)) h rfl rfl (fun _ => rfl) (by decide)
theorem n0123_box4 {F : Heap} {b T : Nat} (h : F b = some (bx T [.int .i64 0, .int .i64 1, .int .i64 2, .int .i64 3])) : Nats F (.slice (some ⟨b, 0, none⟩) 4 4) [0, 1, 2, 3] :=
 Dr (xs := ([0, 1, 2, 3] : List Nat)) h rfl rfl (fun _ => rfl) (by decide)
theorem entA_box2 {F : Heap} {b T : Nat} (h : F b = some (bx T [.int .i64 0, .bool true, .int .i64 60, .int .i64 60, .int .i64 1, .bool true, .int .i64 48, .int .i64 48])) : Sl F (.slice (some ⟨b, 0, none⟩) 2 2) 4 Ent.enc [ent1 0 60 60, ent1 1 48 48] :=
 Dr (xs := [ent1 0 60 60, ent1 1 48 48]) h rfl rfl (fun _ => rfl) (by decide)
theorem entB_box1 {F : Heap} {b T : Nat} (h : F b = some (bx T [.int .i64 0, .bool true, .int .i64 20, .int .i64 50])) : Sl F (.slice (some ⟨b, 0, none⟩) 1 1) 4 Ent.enc [ent1 0 20 50] :=
 Dr (xs := [ent1 0 20 50]) h rfl rfl (fun _ => rfl) (by decide)
theorem entC_box3 {F : Heap} {b T : Nat} (h : F b = some (bx T [.int .i64 0, .bool true, .int .i64 45, .int .i64 45, .int .i64 1, .bool true, .int .i64 48, .int .i64 48, .int .i64 2, .bool true, .int .i64 30, .int .i64 30])) : Sl F (.slice (some ⟨b, 0, none⟩) 3 3) 4 Ent.enc [ent1 0 45 45, ent1 1 48 48, ent1 2 30 30] :=
 Dr (xs := [ent1 0 45 45, ent1 1 48 48, ent1 2 30 30]) h rfl rfl (fun _ => rfl) (by decide)
theorem entD_box1 {F : Heap} {b T : Nat} (h : F b = some (bx T [.int .i64 2, .bool true, .int .i64 30, .int .i64 30])) : Sl F (.slice (some ⟨b, 0, none⟩) 1 1) 4 Ent.enc [ent1 2 30 30] :=
 Dr (xs := [ent1 2 30 30]) h rfl rfl (fun _ => rfl) (by decide)
theorem resA_box3 {F : Heap} {b T : Nat} (h : F b = some (bx T [.int .i64 (0), .int .i64 60, .int .i64 (1), .int .i64 73, .int .i64 (-1), .int .i64 0])) : Sl F (.slice (some ⟨b, 0, none⟩) 3 3) 2 Res.enc [⟨0, 60⟩, ⟨1, 73⟩, ⟨-1, 0⟩] :=
 Dr (xs := ([⟨0, 60⟩, ⟨1, 73⟩, ⟨-1, 0⟩] : List Res)) h rfl rfl (fun _ => rfl) (by decide)
theorem resB_box3 {F : Heap} {b T : Nat} (h : F b = some (bx T [.int .i64 (0), .int .i64 20, .int .i64 (1), .int .i64 73, .int .i64 (-1), .int .i64 0])) : Sl F (.slice (some ⟨b, 0, none⟩) 3 3) 2 Res.enc [⟨0, 20⟩, ⟨1, 73⟩, ⟨-1, 0⟩] :=
 Dr (xs := ([⟨0, 20⟩, ⟨1, 73⟩, ⟨-1, 0⟩] : List Res)) h rfl rfl (fun _ => rfl) (by decide)
theorem backA_box1 {F : Heap} {b T : Nat} (h : F b = some (bx T [.int .i64 0, .int .i64 14])) : Sl F (.slice (some ⟨b, 0, none⟩) 1 1) 2 Back.enc (back1 14) :=
 Dr (xs := back1 14) h rfl rfl (fun _ => rfl) (by decide)
theorem backB_box1 {F : Heap} {b T : Nat} (h : F b = some (bx T [.int .i64 0, .int .i64 15])) : Sl F (.slice (some ⟨b, 0, none⟩) 1 1) 2 Back.enc (back1 15) :=
 Dr (xs := back1 15) h rfl rfl (fun _ => rfl) (by decide)
theorem ints_box3 {F : Heap} {b T : Nat} {x y z : Int} (h : F b = some (bx T [.int .i64 x, .int .i64 y, .int .i64 z])) : Ints F (.slice (some ⟨b, 0, none⟩) 3 3) [x, y, z] :=
 Dr (xs := [x, y, z]) h rfl rfl (fun _ => rfl) (by decide)
theorem ints_box4 {F : Heap} {b T : Nat} {x y z w : Int} (h : F b = some (bx T [.int .i64 x, .int .i64 y, .int .i64 z, .int .i64 w])) : Ints F (.slice (some ⟨b, 0, none⟩) 4 4) [x, y, z, w] :=
 Dr (xs := [x, y, z, w]) h rfl rfl (fun _ => rfl) (by decide)
def valE (v : Value) : List Value := [v]
theorem vals_box3 {F : Heap} {b T : Nat} {x y z : Value} (h : F b = some (bx T [x, y, z])) : Sl F (.slice (some ⟨b, 0, none⟩) 3 3) 1 valE [x, y, z] :=
 Dr (xs := [x, y, z]) h rfl rfl (fun _ => rfl) (by decide)
theorem Sl.val {F : Heap} {v : Value} {ps : List (Value × List Nat)} (h : Sl F v 1 valE (ps.map (·.1))) : Sl F v 1 slE ps := by
 refine ⟨by simpa using h.plain, fun i hi j u hu => h.cells i (by simpa using hi) j u ?_⟩
 simpa [valE, slE] using hu
theorem lsts3 {F : Heap} {v x y z : Value} {a b c : List Nat} (h : Sl F v 1 valE [x, y, z]) (h1 : Nats F x a) (h2 : Nats F y b) (h3 : Nats F z c) : Lsts F v [a, b, c] :=
 ⟨[(x, a), (y, b), (z, c)], Sl.val h, by simp [h1, h2, h3], rfl⟩
def tupA (v : Value) (i : Nat) : Value := match v with
 | .tuple a => a.toList[i]?.getD v
 | _ => v
theorem LstsR.ans {F : Heap} {u : Value} {p q : List (List Nat) × Int} (h : LstsR F u p) (e : p = q) : u = .tuple #[tupA u 0, .int .i64 q.2] ∧ Lsts F (tupA u 0) q.1 := by
 subst e; obtain ⟨v, rfl, h⟩ := h; exact ⟨rfl, h⟩
theorem NatsR.ans {F : Heap} {u : Value} {p q : List Nat × Int} (h : NatsR F u p) (e : p = q) : u = .tuple #[tupA u 0, .int .i64 q.2] ∧ Nats F (tupA u 0) q.1 := by
 subst e; obtain ⟨v, rfl, h⟩ := h; exact ⟨rfl, h⟩
theorem MemR.ans {F : Heap} {u : Value} {p q : Mem} (h : MemR F u p) (e : p = q) : u = .tuple #[tupA u 0, tupA u 1, .int .i64 q.2.2] ∧ Nats F (tupA u 0) q.1 ∧ Nats F (tupA u 1) q.2.1 := by
 subst e; obtain ⟨v, w, rfl, h1, h2⟩ := h; exact ⟨rfl, h1, h2⟩
set_option maxRecDepth 100000 in
theorem awake_ok {F : Heap} : Ok Try.prog 22 [].toArray F fun u _ => u = .bool true := by
 refine Ok.intro Try.func22 rfl Try.ntmps22 rfl fun w0 => ?_
 refine Af <| Ai fun ds => Aa rfl (Ad Ab) ?_
 refine Ah <| Ae <| Af <| Ai fun ds => Bl rfl (Cs bd_35 Az .nil sale_ok fun v1 F2 hr3 hF4 => ?_)
 obtain ⟨vs, vb, vl, vn, vd, rfl, hr⟩ := hr3
 refine Bl rfl (B7 zr_27 rfl fun b5 hb5 nb5 => ?_)
 refine Ck (Cb sz_27 (Ac) (Al rfl <| Ac) (i := 0) rfl rfl rfl rfl hr.ones (.here) ?_)
 refine Ah <| Ae <| Af <| Ai fun ds => Aa rfl (Bh Cc (Ac) rfl rfl (Bm 0 rfl)) ?_
 refine Bu rfl (A8 bd_17 Az (.cons (Ac) (.cons Ab .nil)) (next_ok hr 50) (fun _ _ h => h.trans (show _ = Value.tuple #[.int .i64 60, .int .i64 0] by rw [ev_n1]))) ?_
 refine Aa rfl (Ag (Ac)) ?_
 refine Aa rfl (Ay (Ac) rfl) ?_
 refine Aa rfl (Ay (Al rfl <| Ac) rfl) ?_
 refine Aa rfl (Ad (Al rfl <| Ac)) ?_
 refine Aa rfl (Ad (Al rfl <| Ac)) ?_
 refine Ah <| Ae <| Af <| Ai fun ds => Aa rfl (Bh Cc (A0 rfl <| Ap rfl <| Al rfl <| Ac) rfl rfl (Bm 0 rfl)) ?_
 refine Bl rfl (Cs bd_19 Az (.cons (Ac) (.cons Ab .nil)) ((sellTop_ok hr Sl.nil).mono fun u F2 _ h => (by rw [ev_s1] at h; exact h : ∃ ws0, u = .tuple #[ws0, .int .i64 0] ∧ Sl F2 ws0 2 Res.enc [⟨0, 60⟩, ⟨1, 73⟩, ⟨-1, 0⟩])) fun v6 F7 hr8 hF9 => ?_)
 replace hr := hr.mono hF9
 obtain ⟨hq1_, rfl, hq1⟩ := hr8
 refine Aa rfl (Ag (Ac)) ?_
 refine Aa rfl (Ay (Ac) rfl) ?_
 refine Aa rfl (Ay (Al rfl <| Ac) rfl) ?_
 refine Aa rfl (Ad (Al rfl <| Ac)) ?_
 refine Aa rfl (Ad (Al rfl <| Ac)) ?_
 refine Ah <| Ae <| Af <| Ai fun ds => Aa rfl (Bh Cc (Ba rfl <| A0 rfl <| Ap rfl <| Ac) rfl rfl (Bm 0 rfl)) ?_
 refine Bl rfl (Bw Bq Cz rfl (.cons Ab (.cons Ab (.cons Ab .nil))) rfl rfl (by decide) (by simp [Value.oneCell']) fun b10 hb10 nb10 => ?_)
 refine Bp (i := 0) rfl hb10 .here fun F11 hF12 hz13 => ?_
 replace hr := hr.mono hF12
 replace hq1 := hq1.mono hF12
 have hsl14 := ints_box3 hz13
 refine Bl rfl (Cs bd_19 Az (.cons (Al rfl <| Ac) (.cons (Ac) .nil)) ((sellTop_ok hr hsl14).mono fun u F2 _ h => (by rw [ev_s2] at h; exact h : ∃ ws0, u = .tuple #[ws0, .int .i64 0] ∧ Sl F2 ws0 2 Res.enc [⟨0, 20⟩, ⟨1, 73⟩, ⟨-1, 0⟩])) fun v15 F16 hr17 hF18 => ?_)
 replace hr := hr.mono hF18
 replace hq1 := hq1.mono hF18
 obtain ⟨hq2_, rfl, hq2⟩ := hr17
 refine Aa rfl (Ag (Ac)) ?_
 refine Aa rfl (Ay (Ac) rfl) ?_
 refine Aa rfl (Ay (Al rfl <| Ac) rfl) ?_
 refine Aa rfl (Ad (Al rfl <| Ac)) ?_
 refine Aa rfl (Ad (Al rfl <| Ac)) ?_
 refine Ah <| Ae <| Af <| Ai fun ds => Aa rfl (Bh Cc (Bb rfl <| A0 rfl <| Ap rfl <| Ac) rfl rfl (Bm 0 rfl)) ?_
 refine Bl rfl (Bw Bq Cz rfl (.cons Ab (.cons Ab .nil)) rfl rfl (by decide) (by simp [Value.oneCell']) fun b19 hb19 nb19 => ?_)
 refine Bp (i := 0) rfl hb19 .here fun F20 hF21 hz22 => ?_
 replace hr := hr.mono hF21
 replace hq1 := hq1.mono hF21
 replace hq2 := hq2.mono hF21
 have hsl23 := Dh hz22
 refine Aa rfl (Db bt_77 (.cons Ab rfl (.cons Ab rfl .nil)) (.cons rfl rfl (Nat.le_of_ble_eq_true rfl) (.cons (.here) .nil) (.cons rfl rfl (Nat.le_of_ble_eq_true rfl) (.cons (.next <| .here) .nil) .nil))) ?_
 refine Bl rfl (Dj (offs := [(0, 2)]) (zl := [.int .i64 0, .int .i64 0]) sl_40 zr_77 rfl (.cons (Ac) rfl .nil) (by intro i p h; rcases i with _ | i <;> simp at h <;> subst h <;> rfl) (.cons rfl rfl (Nat.le_of_ble_eq_true rfl) (.cons (.here) (.cons (.next <| .here) .nil)) .nil) (by decide) (by decide) fun b24 hb24 nb24 => ?_)
 refine Bp (i := 0) rfl hb24 .here fun F25 hF26 hz27 => ?_
 replace hr := hr.mono hF26
 replace hq1 := hq1.mono hF26
 replace hq2 := hq2.mono hF26
 replace hsl23 := hsl23.mono hF26
 have hsl28 := backA_box1 hz27
 refine Bl rfl (Cs bd_23 Az (.cons (Ap rfl <| Al rfl <| Ac) (.cons (Ap rfl <| Ac) (.cons (Ac) .nil))) ((account_ok hr hsl23 hsl28).mono fun u F2 _ h => (by rw [ev_a1] at h; exact h : ∃ ws0 ws1, u = .tuple #[ws0, ws1, .int .i64 12, .int .i64 0] ∧ Ints F2 ws0 [0, 53, 0, 0] ∧ Ints F2 ws1 [41])) fun v29 F30 hr31 hF32 => ?_)
 replace hr := hr.mono hF32
 replace hq1 := hq1.mono hF32
 replace hq2 := hq2.mono hF32
 obtain ⟨hq3_, hq4_, rfl, hq3, hq4⟩ := hr31
 refine Aa rfl (Ag (Ac)) ?_
 refine Aa rfl (Ay (Ac) rfl) ?_
 refine Aa rfl (Ay (Al rfl <| Ac) rfl) ?_
 refine Aa rfl (Ay (Ap rfl <| Ac) rfl) ?_
 refine Aa rfl (Ay (Ap rfl <| Al rfl <| Ac) rfl) ?_
 refine Aa rfl (Ad (Ap rfl <| Al rfl <| Ac)) ?_
 refine Aa rfl (Ad (Ap rfl <| Al rfl <| Ac)) ?_
 refine Aa rfl (Ad (Ap rfl <| Al rfl <| Ac)) ?_
 refine Aa rfl (Ad (Ap rfl <| Al rfl <| Ac)) ?_
 refine Ah <| Ae <| Af <| Ai fun ds => Aa rfl (Bh Cc (Bs rfl <| A0 rfl <| Ac) rfl rfl (Bm 0 rfl)) ?_
 refine Bl rfl (Bw Bq Cz rfl (.cons Ab (.cons Ab .nil)) rfl rfl (by decide) (by simp [Value.oneCell']) fun b33 hb33 nb33 => ?_)
 refine Bp (i := 0) rfl hb33 .here fun F34 hF35 hz36 => ?_
 replace hr := hr.mono hF35
 replace hq1 := hq1.mono hF35
 replace hq2 := hq2.mono hF35
 replace hq3 := hq3.mono hF35
 replace hq4 := hq4.mono hF35
 have hsl37 := Dh hz36
 refine Aa rfl (Db bt_77 (.cons Ab rfl (.cons Ab rfl .nil)) (.cons rfl rfl (Nat.le_of_ble_eq_true rfl) (.cons (.here) .nil) (.cons rfl rfl (Nat.le_of_ble_eq_true rfl) (.cons (.next <| .here) .nil) .nil))) ?_
 refine Bl rfl (Dj (offs := [(0, 2)]) (zl := [.int .i64 0, .int .i64 0]) sl_40 zr_77 rfl (.cons (Ac) rfl .nil) (by intro i p h; rcases i with _ | i <;> simp at h <;> subst h <;> rfl) (.cons rfl rfl (Nat.le_of_ble_eq_true rfl) (.cons (.here) (.cons (.next <| .here) .nil)) .nil) (by decide) (by decide) fun b38 hb38 nb38 => ?_)
 refine Bp (i := 0) rfl hb38 .here fun F39 hF40 hz41 => ?_
 replace hr := hr.mono hF40
 replace hq1 := hq1.mono hF40
 replace hq2 := hq2.mono hF40
 replace hq3 := hq3.mono hF40
 replace hq4 := hq4.mono hF40
 replace hsl37 := hsl37.mono hF40
 have hsl42 := backB_box1 hz41
 refine Bl rfl (Cs bd_23 Az (.cons (Ap rfl <| Al rfl <| Ac) (.cons (Ap rfl <| Ac) (.cons (Ac) .nil))) ((account_ok hr hsl37 hsl42).mono fun u F2 _ h => (by rw [ev_a2] at h; exact h : ∃ ws0 ws1, u = .tuple #[ws0, ws1, .int .i64 0, .int .i64 7] ∧ Ints F2 ws0 [] ∧ Ints F2 ws1 [])) fun v43 F44 hr45 hF46 => ?_)
 replace hr := hr.mono hF46
 replace hq1 := hq1.mono hF46
 replace hq2 := hq2.mono hF46
 replace hq3 := hq3.mono hF46
 replace hq4 := hq4.mono hF46
 obtain ⟨hq5_, hq6_, rfl, hq5, hq6⟩ := hr45
 refine Aa rfl (Ag (Ac)) ?_
 refine Aa rfl (Ay (Ac) rfl) ?_
 refine Aa rfl (Ay (Al rfl <| Ac) rfl) ?_
 refine Aa rfl (Ay (Ap rfl <| Ac) rfl) ?_
 refine Aa rfl (Ay (Ap rfl <| Al rfl <| Ac) rfl) ?_
 refine Aa rfl (Ad (Ap rfl <| Al rfl <| Ac)) ?_
 refine Aa rfl (Ad (Ap rfl <| Al rfl <| Ac)) ?_
 refine Aa rfl (Ad (Ap rfl <| Al rfl <| Ac)) ?_
 refine Aa rfl (Ad (Ap rfl <| Al rfl <| Ac)) ?_
 refine Ah <| Ae <| Af <| Ai fun ds => Aa rfl (Bh Cc (Bs rfl <| Bb rfl <| Ap rfl <| Ac) rfl rfl (Bm 0 rfl)) ?_
 refine Bl rfl (Bw Bq Cz rfl (.cons Ab (.cons Ab (.cons Ab .nil))) rfl rfl (by decide) (by simp [Value.oneCell']) fun b47 hb47 nb47 => ?_)
 refine Bp (i := 0) rfl hb47 .here fun F48 hF49 hz50 => ?_
 replace hr := hr.mono hF49
 replace hq1 := hq1.mono hF49
 replace hq2 := hq2.mono hF49
 replace hq3 := hq3.mono hF49
 replace hq4 := hq4.mono hF49
 have hsl51 := ints_box3 hz50
 refine Bl rfl (Cs bd_26 Az (.cons (Al rfl <| Ac) (.cons (Ac) .nil)) ((share_ok hr hsl51).mono fun u F2 _ h => (by rw [ev_h1] at h; exact h : ∃ ws0, u = .tuple #[ws0, .int .i64 0] ∧ Ints F2 ws0 [14, 13, 13])) fun v52 F53 hr54 hF55 => ?_)
 replace hr := hr.mono hF55
 replace hq1 := hq1.mono hF55
 replace hq2 := hq2.mono hF55
 replace hq3 := hq3.mono hF55
 replace hq4 := hq4.mono hF55
 obtain ⟨hq7_, rfl, hq7⟩ := hr54
 refine Aa rfl (Ag (Ac)) ?_
 refine Aa rfl (Ay (Ac) rfl) ?_
 refine Aa rfl (Ay (Al rfl <| Ac) rfl) ?_
 refine Aa rfl (Ad (Al rfl <| Ac)) ?_
 refine Aa rfl (Ad (Al rfl <| Ac)) ?_
 refine Ah <| Ae <| Af <| WC_drawF 10 (.inl rfl) (fun _ _ h => h) (by kernel_rfl) (by kernel_rfl) false rfl ([fun F v => v = .agg #[vs, .int .i64 100, .int .i64 150, .int .i64 14, vb, vl, vn, vd], fun F v => v = .agg #[.int .i64 0, .bool true, .int .i64 60, .int .i64 60], fun F v => v = .agg #[.int .i64 1, .bool true, .int .i64 48, .int .i64 48], fun F v => Sl F v 4 Ent.enc [ent1 0 60 60, ent1 1 48 48], fun F v => v = .tuple #[tupA v 0, .int .i64 0] ∧ Lsts F (tupA v 0) [[1, 3], [0, 1, 3], [1, 2, 3]], fun F v => v = .tuple #[tupA v 0, .int .i64 0] ∧ Lsts F (tupA v 0) [[1, 3], [0, 1, 3], [1, 2, 3]], fun F v => Lsts F v [[1, 3], [0, 1, 3], [1, 2, 3]], fun F v => v = .int .i64 0, fun F v => Lsts F v [[1, 3], [0, 1, 3], [1, 2, 3]], fun F v => v = .int .i64 0]) (⟨fun F F2 v hF h => h, fun F F2 v hF h => h, fun F F2 v hF h => h, fun F F2 v hF h => h.mono hF, fun F F2 v hF h => ⟨h.1, h.2.mono hF⟩, fun F F2 v hF h => ⟨h.1, h.2.mono hF⟩, fun F F2 v hF h => h.mono hF, fun F F2 v hF h => h, fun F F2 v hF h => h.mono hF, fun F F2 v hF h => h, trivial⟩) (fun ds => ?_) (fun ds => ?_)
 ·
  refine ⟨⟨⟨⟨⟨⟨⟨⟨⟨⟨trivial, ?_⟩, ?_⟩, ?_⟩, ?_⟩, ?_⟩, ?_⟩, ?_⟩, ?_⟩, ?_⟩, ?_⟩
  ·
   intro e1 F1 hF1 he hj
   refine ⟨_, _, _, _, _, rfl, ?_⟩
   refine Bo (Bh Cc (Bz (B6 he (by kernel_rfl)) <| Bs rfl <| Bb rfl <| Ba rfl <| Ap rfl <| Ac) rfl rfl (Bm 0 rfl)).quiet ⟨_, rfl, Heap.le_refl _, rfl⟩
  ·
   intro e1 F1 hF1 he hj
   refine ⟨_, _, _, _, _, rfl, ?_⟩
   refine Bo (A8 bd_36 Az (.cons Ab (.cons Ab (.cons Ab .nil))) (entry_ok _ _ _) (fun _ _ h => h)) ⟨_, rfl, Heap.le_refl _, rfl⟩
  ·
   intro e1 F1 hF1 he hj
   have g72 : (e1 72) = .agg #[.int .i64 0, .bool true, .int .i64 60, .int .i64 60] := hj 1 (by kernel_rfl) (by decide)
   refine ⟨_, _, _, _, _, rfl, ?_⟩
   refine Bo (A8 bd_36 Az (.cons Ab (.cons Ab (.cons Ab .nil))) (entry_ok _ _ _) (fun _ _ h => h)) ⟨_, rfl, Heap.le_refl _, rfl⟩
  ·
   intro e1 F1 hF1 he hj
   have g72 : (e1 72) = .agg #[.int .i64 0, .bool true, .int .i64 60, .int .i64 60] := hj 1 (by kernel_rfl) (by decide)
   have g73 : (e1 73) = .agg #[.int .i64 1, .bool true, .int .i64 48, .int .i64 48] := hj 2 (by kernel_rfl) (by decide)
   refine ⟨_, _, _, _, _, rfl, ?_⟩
   refine OpX_freeze (Dj (offs := [(0, 4), (4, 4)]) (zl := [.int .i64 0, .bool false, .int .i64 0, .int .i64 0, .int .i64 0, .bool false, .int .i64 0, .int .i64 0]) sl_47 zr_60 rfl (.cons (Cu g72) rfl (.cons (Cu g73) rfl .nil)) (by intro i p h; rcases i with _ | _ | i <;> simp at h <;> subst h <;> rfl) (.cons rfl rfl (Nat.le_of_ble_eq_true rfl) (.cons (.here) (.cons (.next <| .here) (.cons (.next <| .next <| .here) (.cons (.next <| .next <| .next <| .here) .nil)))) (.cons rfl rfl (Nat.le_of_ble_eq_true rfl) (.cons (.next <| .next <| .next <| .next <| .here) (.cons (.next <| .next <| .next <| .next <| .next <| .here) (.cons (.next <| .next <| .next <| .next <| .next <| .next <| .here) (.cons (.next <| .next <| .next <| .next <| .next <| .next <| .next <| .here) .nil)))) .nil)) (by decide) (by decide) fun b hb nb => ⟨b, _, hb, rfl, fun F2 hF2 hz => ⟨F2, rfl, hF2, (entA_box2 hz)⟩⟩)
  ·
   intro e1 F1 hF1 he hj
   replace hr := hr.mono hF1
   have g71 : (e1 71) = .agg #[vs, .int .i64 100, .int .i64 150, .int .i64 14, vb, vl, vn, vd] := hj 0 (by kernel_rfl) (by decide)
   have g73 : (e1 73) = .agg #[.int .i64 1, .bool true, .int .i64 48, .int .i64 48] := hj 2 (by kernel_rfl) (by decide)
   have g74 : Sl F1 (e1 74) 4 Ent.enc [ent1 0 60 60, ent1 1 48 48] := hj 3 (by kernel_rfl) (by decide)
   refine ⟨_, _, _, _, _, rfl, ?_⟩
   refine Cs bd_28 Az (.cons (Cu g71) (.cons (Cu rfl) .nil)) (rings_top_ok hr g74) fun v2 F2 hr hF2 => ⟨F2, rfl, hF2, (hr.ans ev_r1)⟩
  ·
   intro e1 F1 hF1 he hj
   have g75 : (e1 75) = .tuple #[tupA (e1 75) 0, .int .i64 0] ∧ Lsts F1 (tupA (e1 75) 0) [[1, 3], [0, 1, 3], [1, 2, 3]] := hj 4 (by kernel_rfl) (by decide)
   refine ⟨_, _, _, _, _, rfl, ?_⟩
   refine Bo (Ag (Cu g75.1)).quiet ⟨_, rfl, Heap.le_refl _, ⟨rfl, g75.2⟩⟩
  ·
   intro e1 F1 hF1 he hj
   have g70 : (e1 70) = .tuple #[tupA (e1 70) 0, .int .i64 0] ∧ Lsts F1 (tupA (e1 70) 0) [[1, 3], [0, 1, 3], [1, 2, 3]] := hj 5 (by kernel_rfl) (by decide)
   refine ⟨_, _, _, _, _, rfl, ?_⟩
   refine Bo (Ay (Cu g70.1) rfl).quiet ⟨_, rfl, Heap.le_refl _, g70.2⟩
  ·
   intro e1 F1 hF1 he hj
   have g70 : (e1 70) = .tuple #[tupA (e1 70) 0, .int .i64 0] ∧ Lsts F1 (tupA (e1 70) 0) [[1, 3], [0, 1, 3], [1, 2, 3]] := hj 5 (by kernel_rfl) (by decide)
   refine ⟨_, _, _, _, _, rfl, ?_⟩
   refine Bo (Ay (Cu g70.1) rfl).quiet ⟨_, rfl, Heap.le_refl _, rfl⟩
  ·
   intro e1 F1 hF1 he hj
   have g71 : (e1 71) = .agg #[vs, .int .i64 100, .int .i64 150, .int .i64 14, vb, vl, vn, vd] := hj 0 (by kernel_rfl) (by decide)
   have g72 : (e1 72) = .agg #[.int .i64 0, .bool true, .int .i64 60, .int .i64 60] := hj 1 (by kernel_rfl) (by decide)
   have g73 : (e1 73) = .agg #[.int .i64 1, .bool true, .int .i64 48, .int .i64 48] := hj 2 (by kernel_rfl) (by decide)
   have g74 : Sl F1 (e1 74) 4 Ent.enc [ent1 0 60 60, ent1 1 48 48] := hj 3 (by kernel_rfl) (by decide)
   have g75 : (e1 75) = .tuple #[tupA (e1 75) 0, .int .i64 0] ∧ Lsts F1 (tupA (e1 75) 0) [[1, 3], [0, 1, 3], [1, 2, 3]] := hj 4 (by kernel_rfl) (by decide)
   have g70 : (e1 70) = .tuple #[tupA (e1 70) 0, .int .i64 0] ∧ Lsts F1 (tupA (e1 70) 0) [[1, 3], [0, 1, 3], [1, 2, 3]] := hj 5 (by kernel_rfl) (by decide)
   have g76 : Lsts F1 (e1 76) [[1, 3], [0, 1, 3], [1, 2, 3]] := hj 6 (by kernel_rfl) (by decide)
   refine ⟨_, _, _, _, _, rfl, ?_⟩
   refine Bo (Ad (Cu rfl)).quiet ⟨_, rfl, Heap.le_refl _, g76⟩
  ·
   intro e1 F1 hF1 he hj
   have g71 : (e1 71) = .agg #[vs, .int .i64 100, .int .i64 150, .int .i64 14, vb, vl, vn, vd] := hj 0 (by kernel_rfl) (by decide)
   have g72 : (e1 72) = .agg #[.int .i64 0, .bool true, .int .i64 60, .int .i64 60] := hj 1 (by kernel_rfl) (by decide)
   have g73 : (e1 73) = .agg #[.int .i64 1, .bool true, .int .i64 48, .int .i64 48] := hj 2 (by kernel_rfl) (by decide)
   have g74 : Sl F1 (e1 74) 4 Ent.enc [ent1 0 60 60, ent1 1 48 48] := hj 3 (by kernel_rfl) (by decide)
   have g75 : (e1 75) = .tuple #[tupA (e1 75) 0, .int .i64 0] ∧ Lsts F1 (tupA (e1 75) 0) [[1, 3], [0, 1, 3], [1, 2, 3]] := hj 4 (by kernel_rfl) (by decide)
   have g70 : (e1 70) = .tuple #[tupA (e1 70) 0, .int .i64 0] ∧ Lsts F1 (tupA (e1 70) 0) [[1, 3], [0, 1, 3], [1, 2, 3]] := hj 5 (by kernel_rfl) (by decide)
   have g76 : Lsts F1 (e1 76) [[1, 3], [0, 1, 3], [1, 2, 3]] := hj 6 (by kernel_rfl) (by decide)
   have g77 : (e1 77) = .int .i64 0 := hj 7 (by kernel_rfl) (by decide)
   have g18 : Lsts F1 (e1 18) [[1, 3], [0, 1, 3], [1, 2, 3]] := hj 8 (by kernel_rfl) (by decide)
   refine ⟨_, _, _, _, _, rfl, ?_⟩
   refine Bo (Ad (Cu g77)).quiet ⟨_, rfl, Heap.le_refl _, rfl⟩
 intro e59 F56 hF57 he58 hj
 replace hr := hr.mono hF57
 replace hq1 := hq1.mono hF57
 replace hq2 := hq2.mono hF57
 replace hq3 := hq3.mono hF57
 replace hq4 := hq4.mono hF57
 replace hq7 := hq7.mono hF57
 have g71 : (e59 71) = .agg #[vs, .int .i64 100, .int .i64 150, .int .i64 14, vb, vl, vn, vd] := hj 0 (by decide)
 have g72 : (e59 72) = .agg #[.int .i64 0, .bool true, .int .i64 60, .int .i64 60] := hj 1 (by decide)
 have g73 : (e59 73) = .agg #[.int .i64 1, .bool true, .int .i64 48, .int .i64 48] := hj 2 (by decide)
 have g74 : Sl F56 (e59 74) 4 Ent.enc [ent1 0 60 60, ent1 1 48 48] := hj 3 (by decide)
 have g75 : (e59 75) = .tuple #[tupA (e59 75) 0, .int .i64 0] ∧ Lsts F56 (tupA (e59 75) 0) [[1, 3], [0, 1, 3], [1, 2, 3]] := hj 4 (by decide)
 have g70 : (e59 70) = .tuple #[tupA (e59 70) 0, .int .i64 0] ∧ Lsts F56 (tupA (e59 70) 0) [[1, 3], [0, 1, 3], [1, 2, 3]] := hj 5 (by decide)
 have g76 : Lsts F56 (e59 76) [[1, 3], [0, 1, 3], [1, 2, 3]] := hj 6 (by decide)
 have g77 : (e59 77) = .int .i64 0 := hj 7 (by decide)
 have g18 : Lsts F56 (e59 18) [[1, 3], [0, 1, 3], [1, 2, 3]] := hj 8 (by decide)
 have g19 : (e59 19) = .int .i64 0 := hj 9 (by decide)
 refine Ae <| Af <| WC_drawF 11 (.inl rfl) (fun _ _ h => h) (by kernel_rfl) (by kernel_rfl) false rfl ([fun F v => v = .agg #[vs, .int .i64 100, .int .i64 150, .int .i64 14, vb, vl, vn, vd], fun F v => v = .agg #[.int .i64 0, .bool true, .int .i64 20, .int .i64 50], fun F v => Sl F v 4 Ent.enc [ent1 0 20 50], fun F v => v = .tuple #[tupA v 0, tupA v 1, .int .i64 0] ∧ Nats F (tupA v 0) [0, 2] ∧ Nats F (tupA v 1) [0, 1, 2, 3], fun F v => v = .tuple #[tupA v 0, tupA v 1, .int .i64 0] ∧ Nats F (tupA v 0) [0, 2] ∧ Nats F (tupA v 1) [0, 1, 2, 3], fun F v => Nats F v [0, 2], fun F v => Nats F v [0, 1, 2, 3], fun F v => v = .int .i64 0, fun F v => Nats F v [0, 2], fun F v => Nats F v [0, 1, 2, 3], fun F v => v = .int .i64 0]) (⟨fun F F2 v hF h => h, fun F F2 v hF h => h, fun F F2 v hF h => h.mono hF, fun F F2 v hF h => ⟨h.1, h.2.1.mono hF, h.2.2.mono hF⟩, fun F F2 v hF h => ⟨h.1, h.2.1.mono hF, h.2.2.mono hF⟩, fun F F2 v hF h => h.mono hF, fun F F2 v hF h => h.mono hF, fun F F2 v hF h => h, fun F F2 v hF h => h.mono hF, fun F F2 v hF h => h.mono hF, fun F F2 v hF h => h, trivial⟩) (fun ds => ?_) (fun ds => ?_)
 ·
  refine ⟨⟨⟨⟨⟨⟨⟨⟨⟨⟨⟨trivial, ?_⟩, ?_⟩, ?_⟩, ?_⟩, ?_⟩, ?_⟩, ?_⟩, ?_⟩, ?_⟩, ?_⟩, ?_⟩
  ·
   intro e1 F1 hF1 he hj
   refine ⟨_, _, _, _, _, rfl, ?_⟩
   refine Bo (Bh Cc (Bz (B6 he (by kernel_rfl)) <| Bz (B6 he58 (by kernel_rfl)) <| Bs rfl <| Bb rfl <| Ba rfl <| Ap rfl <| Ac) rfl rfl (Bm 0 rfl)).quiet ⟨_, rfl, Heap.le_refl _, rfl⟩
  ·
   intro e1 F1 hF1 he hj
   refine ⟨_, _, _, _, _, rfl, ?_⟩
   refine Bo (A8 bd_36 Az (.cons Ab (.cons Ab (.cons Ab .nil))) (entry_ok _ _ _) (fun _ _ h => h)) ⟨_, rfl, Heap.le_refl _, rfl⟩
  ·
   intro e1 F1 hF1 he hj
   have g80 : (e1 80) = .agg #[.int .i64 0, .bool true, .int .i64 20, .int .i64 50] := hj 1 (by kernel_rfl) (by decide)
   refine ⟨_, _, _, _, _, rfl, ?_⟩
   refine OpX_freeze (Dj (offs := [(0, 4)]) (zl := [.int .i64 0, .bool false, .int .i64 0, .int .i64 0]) sl_47 zr_60 rfl (.cons (Cu g80) rfl .nil) (by intro i p h; rcases i with _ | i <;> simp at h <;> subst h <;> rfl) (.cons rfl rfl (Nat.le_of_ble_eq_true rfl) (.cons (.here) (.cons (.next <| .here) (.cons (.next <| .next <| .here) (.cons (.next <| .next <| .next <| .here) .nil)))) .nil) (by decide) (by decide) fun b hb nb => ⟨b, _, hb, rfl, fun F2 hF2 hz => ⟨F2, rfl, hF2, (entB_box1 hz)⟩⟩)
  ·
   intro e1 F1 hF1 he hj
   replace hr := hr.mono hF1
   have g79 : (e1 79) = .agg #[vs, .int .i64 100, .int .i64 150, .int .i64 14, vb, vl, vn, vd] := hj 0 (by kernel_rfl) (by decide)
   have g80 : (e1 80) = .agg #[.int .i64 0, .bool true, .int .i64 20, .int .i64 50] := hj 1 (by kernel_rfl) (by decide)
   have g81 : Sl F1 (e1 81) 4 Ent.enc [ent1 0 20 50] := hj 2 (by kernel_rfl) (by decide)
   refine ⟨_, _, _, _, _, rfl, ?_⟩
   refine Cs bd_31 Az (.cons (Cu g79) (.cons (Cu rfl) .nil)) (members_ok hr g81) fun v2 F2 hr hF2 => ⟨F2, rfl, hF2, (hr.ans ev_m1)⟩
  ·
   intro e1 F1 hF1 he hj
   have g82 : (e1 82) = .tuple #[tupA (e1 82) 0, tupA (e1 82) 1, .int .i64 0] ∧ Nats F1 (tupA (e1 82) 0) [0, 2] ∧ Nats F1 (tupA (e1 82) 1) [0, 1, 2, 3] := hj 3 (by kernel_rfl) (by decide)
   refine ⟨_, _, _, _, _, rfl, ?_⟩
   refine Bo (Ag (Cu g82.1)).quiet ⟨_, rfl, Heap.le_refl _, ⟨rfl, g82.2⟩⟩
  ·
   intro e1 F1 hF1 he hj
   have g78 : (e1 78) = .tuple #[tupA (e1 78) 0, tupA (e1 78) 1, .int .i64 0] ∧ Nats F1 (tupA (e1 78) 0) [0, 2] ∧ Nats F1 (tupA (e1 78) 1) [0, 1, 2, 3] := hj 4 (by kernel_rfl) (by decide)
   refine ⟨_, _, _, _, _, rfl, ?_⟩
   refine Bo (Ay (Cu g78.1) rfl).quiet ⟨_, rfl, Heap.le_refl _, g78.2.1⟩
  ·
   intro e1 F1 hF1 he hj
   have g78 : (e1 78) = .tuple #[tupA (e1 78) 0, tupA (e1 78) 1, .int .i64 0] ∧ Nats F1 (tupA (e1 78) 0) [0, 2] ∧ Nats F1 (tupA (e1 78) 1) [0, 1, 2, 3] := hj 4 (by kernel_rfl) (by decide)
   refine ⟨_, _, _, _, _, rfl, ?_⟩
   refine Bo (Ay (Cu g78.1) rfl).quiet ⟨_, rfl, Heap.le_refl _, g78.2.2⟩
  ·
   intro e1 F1 hF1 he hj
   have g78 : (e1 78) = .tuple #[tupA (e1 78) 0, tupA (e1 78) 1, .int .i64 0] ∧ Nats F1 (tupA (e1 78) 0) [0, 2] ∧ Nats F1 (tupA (e1 78) 1) [0, 1, 2, 3] := hj 4 (by kernel_rfl) (by decide)
   refine ⟨_, _, _, _, _, rfl, ?_⟩
   refine Bo (Ay (Cu g78.1) rfl).quiet ⟨_, rfl, Heap.le_refl _, rfl⟩
  ·
   intro e1 F1 hF1 he hj
   have g79 : (e1 79) = .agg #[vs, .int .i64 100, .int .i64 150, .int .i64 14, vb, vl, vn, vd] := hj 0 (by kernel_rfl) (by decide)
   have g80 : (e1 80) = .agg #[.int .i64 0, .bool true, .int .i64 20, .int .i64 50] := hj 1 (by kernel_rfl) (by decide)
   have g81 : Sl F1 (e1 81) 4 Ent.enc [ent1 0 20 50] := hj 2 (by kernel_rfl) (by decide)
   have g82 : (e1 82) = .tuple #[tupA (e1 82) 0, tupA (e1 82) 1, .int .i64 0] ∧ Nats F1 (tupA (e1 82) 0) [0, 2] ∧ Nats F1 (tupA (e1 82) 1) [0, 1, 2, 3] := hj 3 (by kernel_rfl) (by decide)
   have g78 : (e1 78) = .tuple #[tupA (e1 78) 0, tupA (e1 78) 1, .int .i64 0] ∧ Nats F1 (tupA (e1 78) 0) [0, 2] ∧ Nats F1 (tupA (e1 78) 1) [0, 1, 2, 3] := hj 4 (by kernel_rfl) (by decide)
   have g83 : Nats F1 (e1 83) [0, 2] := hj 5 (by kernel_rfl) (by decide)
   refine ⟨_, _, _, _, _, rfl, ?_⟩
   refine Bo (Ad (Cu rfl)).quiet ⟨_, rfl, Heap.le_refl _, g83⟩
  ·
   intro e1 F1 hF1 he hj
   have g79 : (e1 79) = .agg #[vs, .int .i64 100, .int .i64 150, .int .i64 14, vb, vl, vn, vd] := hj 0 (by kernel_rfl) (by decide)
   have g80 : (e1 80) = .agg #[.int .i64 0, .bool true, .int .i64 20, .int .i64 50] := hj 1 (by kernel_rfl) (by decide)
   have g81 : Sl F1 (e1 81) 4 Ent.enc [ent1 0 20 50] := hj 2 (by kernel_rfl) (by decide)
   have g82 : (e1 82) = .tuple #[tupA (e1 82) 0, tupA (e1 82) 1, .int .i64 0] ∧ Nats F1 (tupA (e1 82) 0) [0, 2] ∧ Nats F1 (tupA (e1 82) 1) [0, 1, 2, 3] := hj 3 (by kernel_rfl) (by decide)
   have g78 : (e1 78) = .tuple #[tupA (e1 78) 0, tupA (e1 78) 1, .int .i64 0] ∧ Nats F1 (tupA (e1 78) 0) [0, 2] ∧ Nats F1 (tupA (e1 78) 1) [0, 1, 2, 3] := hj 4 (by kernel_rfl) (by decide)
   have g83 : Nats F1 (e1 83) [0, 2] := hj 5 (by kernel_rfl) (by decide)
   have g84 : Nats F1 (e1 84) [0, 1, 2, 3] := hj 6 (by kernel_rfl) (by decide)
   have g20 : Nats F1 (e1 20) [0, 2] := hj 8 (by kernel_rfl) (by decide)
   refine ⟨_, _, _, _, _, rfl, ?_⟩
   refine Bo (Ad (Cu rfl)).quiet ⟨_, rfl, Heap.le_refl _, g84⟩
  ·
   intro e1 F1 hF1 he hj
   have g79 : (e1 79) = .agg #[vs, .int .i64 100, .int .i64 150, .int .i64 14, vb, vl, vn, vd] := hj 0 (by kernel_rfl) (by decide)
   have g80 : (e1 80) = .agg #[.int .i64 0, .bool true, .int .i64 20, .int .i64 50] := hj 1 (by kernel_rfl) (by decide)
   have g81 : Sl F1 (e1 81) 4 Ent.enc [ent1 0 20 50] := hj 2 (by kernel_rfl) (by decide)
   have g82 : (e1 82) = .tuple #[tupA (e1 82) 0, tupA (e1 82) 1, .int .i64 0] ∧ Nats F1 (tupA (e1 82) 0) [0, 2] ∧ Nats F1 (tupA (e1 82) 1) [0, 1, 2, 3] := hj 3 (by kernel_rfl) (by decide)
   have g78 : (e1 78) = .tuple #[tupA (e1 78) 0, tupA (e1 78) 1, .int .i64 0] ∧ Nats F1 (tupA (e1 78) 0) [0, 2] ∧ Nats F1 (tupA (e1 78) 1) [0, 1, 2, 3] := hj 4 (by kernel_rfl) (by decide)
   have g83 : Nats F1 (e1 83) [0, 2] := hj 5 (by kernel_rfl) (by decide)
   have g84 : Nats F1 (e1 84) [0, 1, 2, 3] := hj 6 (by kernel_rfl) (by decide)
   have g85 : (e1 85) = .int .i64 0 := hj 7 (by kernel_rfl) (by decide)
   have g20 : Nats F1 (e1 20) [0, 2] := hj 8 (by kernel_rfl) (by decide)
   have g21 : Nats F1 (e1 21) [0, 1, 2, 3] := hj 9 (by kernel_rfl) (by decide)
   refine ⟨_, _, _, _, _, rfl, ?_⟩
   refine Bo (Ad (Cu g85)).quiet ⟨_, rfl, Heap.le_refl _, rfl⟩
 intro e63 F60 hF61 he62 hj
 replace hr := hr.mono hF61
 replace hq1 := hq1.mono hF61
 replace hq2 := hq2.mono hF61
 replace hq3 := hq3.mono hF61
 replace hq4 := hq4.mono hF61
 replace hq7 := hq7.mono hF61
 replace g18 := g18.mono hF61
 have g79 : (e63 79) = .agg #[vs, .int .i64 100, .int .i64 150, .int .i64 14, vb, vl, vn, vd] := hj 0 (by decide)
 have g80 : (e63 80) = .agg #[.int .i64 0, .bool true, .int .i64 20, .int .i64 50] := hj 1 (by decide)
 have g81 : Sl F60 (e63 81) 4 Ent.enc [ent1 0 20 50] := hj 2 (by decide)
 have g82 : (e63 82) = .tuple #[tupA (e63 82) 0, tupA (e63 82) 1, .int .i64 0] ∧ Nats F60 (tupA (e63 82) 0) [0, 2] ∧ Nats F60 (tupA (e63 82) 1) [0, 1, 2, 3] := hj 3 (by decide)
 have g78 : (e63 78) = .tuple #[tupA (e63 78) 0, tupA (e63 78) 1, .int .i64 0] ∧ Nats F60 (tupA (e63 78) 0) [0, 2] ∧ Nats F60 (tupA (e63 78) 1) [0, 1, 2, 3] := hj 4 (by decide)
 have g83 : Nats F60 (e63 83) [0, 2] := hj 5 (by decide)
 have g84 : Nats F60 (e63 84) [0, 1, 2, 3] := hj 6 (by decide)
 have g85 : (e63 85) = .int .i64 0 := hj 7 (by decide)
 have g20 : Nats F60 (e63 20) [0, 2] := hj 8 (by decide)
 have g21 : Nats F60 (e63 21) [0, 1, 2, 3] := hj 9 (by decide)
 have g22 : (e63 22) = .int .i64 0 := hj 10 (by decide)
 refine Ae <| Af <| WC_drawF 11 (.inl rfl) (fun _ _ h => h) (by kernel_rfl) (by kernel_rfl) false rfl ([fun F v => v = .agg #[vs, .int .i64 100, .int .i64 150, .int .i64 14, vb, vl, vn, vd], fun F v => v = .agg #[.int .i64 0, .bool true, .int .i64 45, .int .i64 45], fun F v => v = .agg #[.int .i64 1, .bool true, .int .i64 48, .int .i64 48], fun F v => v = .agg #[.int .i64 2, .bool true, .int .i64 30, .int .i64 30], fun F v => Sl F v 4 Ent.enc [ent1 0 45 45, ent1 1 48 48, ent1 2 30 30], fun F v => v = .tuple #[tupA v 0, .int .i64 0] ∧ Nats F (tupA v 0) [0, 2], fun F v => v = .tuple #[tupA v 0, .int .i64 0] ∧ Nats F (tupA v 0) [0, 2], fun F v => Nats F v [0, 2], fun F v => v = .int .i64 0, fun F v => Nats F v [0, 2], fun F v => v = .int .i64 0]) (⟨fun F F2 v hF h => h, fun F F2 v hF h => h, fun F F2 v hF h => h, fun F F2 v hF h => h, fun F F2 v hF h => h.mono hF, fun F F2 v hF h => ⟨h.1, h.2.mono hF⟩, fun F F2 v hF h => ⟨h.1, h.2.mono hF⟩, fun F F2 v hF h => h.mono hF, fun F F2 v hF h => h, fun F F2 v hF h => h.mono hF, fun F F2 v hF h => h, trivial⟩) (fun ds => ?_) (fun ds => ?_)
 ·
  refine ⟨⟨⟨⟨⟨⟨⟨⟨⟨⟨⟨trivial, ?_⟩, ?_⟩, ?_⟩, ?_⟩, ?_⟩, ?_⟩, ?_⟩, ?_⟩, ?_⟩, ?_⟩, ?_⟩
  ·
   intro e1 F1 hF1 he hj
   refine ⟨_, _, _, _, _, rfl, ?_⟩
   refine Bo (Bh Cc (Bz (B6 he (by kernel_rfl)) <| Bz (B6 he62 (by kernel_rfl)) <| Bz (B6 he58 (by kernel_rfl)) <| Bs rfl <| Bb rfl <| Ba rfl <| Ap rfl <| Ac) rfl rfl (Bm 0 rfl)).quiet ⟨_, rfl, Heap.le_refl _, rfl⟩
  ·
   intro e1 F1 hF1 he hj
   refine ⟨_, _, _, _, _, rfl, ?_⟩
   refine Bo (A8 bd_36 Az (.cons Ab (.cons Ab (.cons Ab .nil))) (entry_ok _ _ _) (fun _ _ h => h)) ⟨_, rfl, Heap.le_refl _, rfl⟩
  ·
   intro e1 F1 hF1 he hj
   have g88 : (e1 88) = .agg #[.int .i64 0, .bool true, .int .i64 45, .int .i64 45] := hj 1 (by kernel_rfl) (by decide)
   refine ⟨_, _, _, _, _, rfl, ?_⟩
   refine Bo (A8 bd_36 Az (.cons Ab (.cons Ab (.cons Ab .nil))) (entry_ok _ _ _) (fun _ _ h => h)) ⟨_, rfl, Heap.le_refl _, rfl⟩
  ·
   intro e1 F1 hF1 he hj
   have g89 : (e1 89) = .agg #[.int .i64 1, .bool true, .int .i64 48, .int .i64 48] := hj 2 (by kernel_rfl) (by decide)
   refine ⟨_, _, _, _, _, rfl, ?_⟩
   refine Bo (A8 bd_36 Az (.cons Ab (.cons Ab (.cons Ab .nil))) (entry_ok _ _ _) (fun _ _ h => h)) ⟨_, rfl, Heap.le_refl _, rfl⟩
  ·
   intro e1 F1 hF1 he hj
   have g88 : (e1 88) = .agg #[.int .i64 0, .bool true, .int .i64 45, .int .i64 45] := hj 1 (by kernel_rfl) (by decide)
   have g89 : (e1 89) = .agg #[.int .i64 1, .bool true, .int .i64 48, .int .i64 48] := hj 2 (by kernel_rfl) (by decide)
   have g90 : (e1 90) = .agg #[.int .i64 2, .bool true, .int .i64 30, .int .i64 30] := hj 3 (by kernel_rfl) (by decide)
   refine ⟨_, _, _, _, _, rfl, ?_⟩
   refine OpX_freeze (Dj (offs := [(0, 4), (4, 4), (8, 4)]) (zl := [.int .i64 0, .bool false, .int .i64 0, .int .i64 0, .int .i64 0, .bool false, .int .i64 0, .int .i64 0, .int .i64 0, .bool false, .int .i64 0, .int .i64 0]) sl_47 zr_60 rfl (.cons (Cu g88) rfl (.cons (Cu g89) rfl (.cons (Cu g90) rfl .nil))) (by intro i p h; rcases i with _ | _ | _ | i <;> simp at h <;> subst h <;> rfl) (.cons rfl rfl (Nat.le_of_ble_eq_true rfl) (.cons (.here) (.cons (.next <| .here) (.cons (.next <| .next <| .here) (.cons (.next <| .next <| .next <| .here) .nil)))) (.cons rfl rfl (Nat.le_of_ble_eq_true rfl) (.cons (.next <| .next <| .next <| .next <| .here) (.cons (.next <| .next <| .next <| .next <| .next <| .here) (.cons (.next <| .next <| .next <| .next <| .next <| .next <| .here) (.cons (.next <| .next <| .next <| .next <| .next <| .next <| .next <| .here) .nil)))) (.cons rfl rfl (Nat.le_of_ble_eq_true rfl) (.cons (.next <| .next <| .next <| .next <| .next <| .next <| .next <| .next <| .here) (.cons (.next <| .next <| .next <| .next <| .next <| .next <| .next <| .next <| .next <| .here) (.cons (.next <| .next <| .next <| .next <| .next <| .next <| .next <| .next <| .next <| .next <| .here) (.cons (.next <| .next <| .next <| .next <| .next <| .next <| .next <| .next <| .next <| .next <| .next <| .here) .nil)))) .nil))) (by decide) (by decide) fun b hb nb => ⟨b, _, hb, rfl, fun F2 hF2 hz => ⟨F2, rfl, hF2, (entC_box3 hz)⟩⟩)
  ·
   intro e1 F1 hF1 he hj
   replace hr := hr.mono hF1
   have g87 : (e1 87) = .agg #[vs, .int .i64 100, .int .i64 150, .int .i64 14, vb, vl, vn, vd] := hj 0 (by kernel_rfl) (by decide)
   have g90 : (e1 90) = .agg #[.int .i64 2, .bool true, .int .i64 30, .int .i64 30] := hj 3 (by kernel_rfl) (by decide)
   have g91 : Sl F1 (e1 91) 4 Ent.enc [ent1 0 45 45, ent1 1 48 48, ent1 2 30 30] := hj 4 (by kernel_rfl) (by decide)
   refine ⟨_, _, _, _, _, rfl, ?_⟩
   refine Cs bd_33 Az (.cons (Cu g87) (.cons (Cu rfl) .nil)) (wrong_ok hr g91) fun v2 F2 hr hF2 => ⟨F2, rfl, hF2, (hr.ans ev_w1)⟩
  ·
   intro e1 F1 hF1 he hj
   have g92 : (e1 92) = .tuple #[tupA (e1 92) 0, .int .i64 0] ∧ Nats F1 (tupA (e1 92) 0) [0, 2] := hj 5 (by kernel_rfl) (by decide)
   refine ⟨_, _, _, _, _, rfl, ?_⟩
   refine Bo (Ag (Cu g92.1)).quiet ⟨_, rfl, Heap.le_refl _, ⟨rfl, g92.2⟩⟩
  ·
   intro e1 F1 hF1 he hj
   have g86 : (e1 86) = .tuple #[tupA (e1 86) 0, .int .i64 0] ∧ Nats F1 (tupA (e1 86) 0) [0, 2] := hj 6 (by kernel_rfl) (by decide)
   refine ⟨_, _, _, _, _, rfl, ?_⟩
   refine Bo (Ay (Cu g86.1) rfl).quiet ⟨_, rfl, Heap.le_refl _, g86.2⟩
  ·
   intro e1 F1 hF1 he hj
   have g86 : (e1 86) = .tuple #[tupA (e1 86) 0, .int .i64 0] ∧ Nats F1 (tupA (e1 86) 0) [0, 2] := hj 6 (by kernel_rfl) (by decide)
   refine ⟨_, _, _, _, _, rfl, ?_⟩
   refine Bo (Ay (Cu g86.1) rfl).quiet ⟨_, rfl, Heap.le_refl _, rfl⟩
  ·
   intro e1 F1 hF1 he hj
   have g87 : (e1 87) = .agg #[vs, .int .i64 100, .int .i64 150, .int .i64 14, vb, vl, vn, vd] := hj 0 (by kernel_rfl) (by decide)
   have g88 : (e1 88) = .agg #[.int .i64 0, .bool true, .int .i64 45, .int .i64 45] := hj 1 (by kernel_rfl) (by decide)
   have g89 : (e1 89) = .agg #[.int .i64 1, .bool true, .int .i64 48, .int .i64 48] := hj 2 (by kernel_rfl) (by decide)
   have g90 : (e1 90) = .agg #[.int .i64 2, .bool true, .int .i64 30, .int .i64 30] := hj 3 (by kernel_rfl) (by decide)
   have g91 : Sl F1 (e1 91) 4 Ent.enc [ent1 0 45 45, ent1 1 48 48, ent1 2 30 30] := hj 4 (by kernel_rfl) (by decide)
   have g92 : (e1 92) = .tuple #[tupA (e1 92) 0, .int .i64 0] ∧ Nats F1 (tupA (e1 92) 0) [0, 2] := hj 5 (by kernel_rfl) (by decide)
   have g86 : (e1 86) = .tuple #[tupA (e1 86) 0, .int .i64 0] ∧ Nats F1 (tupA (e1 86) 0) [0, 2] := hj 6 (by kernel_rfl) (by decide)
   have g93 : Nats F1 (e1 93) [0, 2] := hj 7 (by kernel_rfl) (by decide)
   refine ⟨_, _, _, _, _, rfl, ?_⟩
   refine Bo (Ad (Cu rfl)).quiet ⟨_, rfl, Heap.le_refl _, g93⟩
  ·
   intro e1 F1 hF1 he hj
   have g87 : (e1 87) = .agg #[vs, .int .i64 100, .int .i64 150, .int .i64 14, vb, vl, vn, vd] := hj 0 (by kernel_rfl) (by decide)
   have g88 : (e1 88) = .agg #[.int .i64 0, .bool true, .int .i64 45, .int .i64 45] := hj 1 (by kernel_rfl) (by decide)
   have g89 : (e1 89) = .agg #[.int .i64 1, .bool true, .int .i64 48, .int .i64 48] := hj 2 (by kernel_rfl) (by decide)
   have g90 : (e1 90) = .agg #[.int .i64 2, .bool true, .int .i64 30, .int .i64 30] := hj 3 (by kernel_rfl) (by decide)
   have g91 : Sl F1 (e1 91) 4 Ent.enc [ent1 0 45 45, ent1 1 48 48, ent1 2 30 30] := hj 4 (by kernel_rfl) (by decide)
   have g92 : (e1 92) = .tuple #[tupA (e1 92) 0, .int .i64 0] ∧ Nats F1 (tupA (e1 92) 0) [0, 2] := hj 5 (by kernel_rfl) (by decide)
   have g86 : (e1 86) = .tuple #[tupA (e1 86) 0, .int .i64 0] ∧ Nats F1 (tupA (e1 86) 0) [0, 2] := hj 6 (by kernel_rfl) (by decide)
   have g93 : Nats F1 (e1 93) [0, 2] := hj 7 (by kernel_rfl) (by decide)
   have g94 : (e1 94) = .int .i64 0 := hj 8 (by kernel_rfl) (by decide)
   have g23 : Nats F1 (e1 23) [0, 2] := hj 9 (by kernel_rfl) (by decide)
   refine ⟨_, _, _, _, _, rfl, ?_⟩
   refine Bo (Ad (Cu g94)).quiet ⟨_, rfl, Heap.le_refl _, rfl⟩
 intro e67 F64 hF65 he66 hj
 replace hr := hr.mono hF65
 replace hq1 := hq1.mono hF65
 replace hq2 := hq2.mono hF65
 replace hq3 := hq3.mono hF65
 replace hq4 := hq4.mono hF65
 replace hq7 := hq7.mono hF65
 replace g18 := g18.mono hF65
 replace g20 := g20.mono hF65
 replace g21 := g21.mono hF65
 have g87 : (e67 87) = .agg #[vs, .int .i64 100, .int .i64 150, .int .i64 14, vb, vl, vn, vd] := hj 0 (by decide)
 have g88 : (e67 88) = .agg #[.int .i64 0, .bool true, .int .i64 45, .int .i64 45] := hj 1 (by decide)
 have g89 : (e67 89) = .agg #[.int .i64 1, .bool true, .int .i64 48, .int .i64 48] := hj 2 (by decide)
 have g90 : (e67 90) = .agg #[.int .i64 2, .bool true, .int .i64 30, .int .i64 30] := hj 3 (by decide)
 have g91 : Sl F64 (e67 91) 4 Ent.enc [ent1 0 45 45, ent1 1 48 48, ent1 2 30 30] := hj 4 (by decide)
 have g92 : (e67 92) = .tuple #[tupA (e67 92) 0, .int .i64 0] ∧ Nats F64 (tupA (e67 92) 0) [0, 2] := hj 5 (by decide)
 have g86 : (e67 86) = .tuple #[tupA (e67 86) 0, .int .i64 0] ∧ Nats F64 (tupA (e67 86) 0) [0, 2] := hj 6 (by decide)
 have g93 : Nats F64 (e67 93) [0, 2] := hj 7 (by decide)
 have g94 : (e67 94) = .int .i64 0 := hj 8 (by decide)
 have g23 : Nats F64 (e67 23) [0, 2] := hj 9 (by decide)
 have g24 : (e67 24) = .int .i64 0 := hj 10 (by decide)
 refine Ae <| Af <| WC_drawF 9 (.inl rfl) (fun _ _ h => h) (by kernel_rfl) (by kernel_rfl) false rfl ([fun F v => v = .agg #[vs, .int .i64 100, .int .i64 150, .int .i64 14, vb, vl, vn, vd], fun F v => v = .agg #[.int .i64 2, .bool true, .int .i64 30, .int .i64 30], fun F v => Sl F v 4 Ent.enc [ent1 2 30 30], fun F v => v = .tuple #[tupA v 0, .int .i64 8] ∧ Lsts F (tupA v 0) [], fun F v => v = .tuple #[tupA v 0, .int .i64 8] ∧ Lsts F (tupA v 0) [], fun F v => Lsts F v [], fun F v => v = .int .i64 8, fun F v => Lsts F v [], fun F v => v = .int .i64 8]) (⟨fun F F2 v hF h => h, fun F F2 v hF h => h, fun F F2 v hF h => h.mono hF, fun F F2 v hF h => ⟨h.1, h.2.mono hF⟩, fun F F2 v hF h => ⟨h.1, h.2.mono hF⟩, fun F F2 v hF h => h.mono hF, fun F F2 v hF h => h, fun F F2 v hF h => h.mono hF, fun F F2 v hF h => h, trivial⟩) (fun ds => ?_) (fun ds => ?_)
 ·
  refine ⟨⟨⟨⟨⟨⟨⟨⟨⟨trivial, ?_⟩, ?_⟩, ?_⟩, ?_⟩, ?_⟩, ?_⟩, ?_⟩, ?_⟩, ?_⟩
  ·
   intro e1 F1 hF1 he hj
   refine ⟨_, _, _, _, _, rfl, ?_⟩
   refine Bo (Bh Cc (Bz (B6 he (by kernel_rfl)) <| Bz (B6 he66 (by kernel_rfl)) <| Bz (B6 he62 (by kernel_rfl)) <| Bz (B6 he58 (by kernel_rfl)) <| Bs rfl <| Bb rfl <| Ba rfl <| Ap rfl <| Ac) rfl rfl (Bm 0 rfl)).quiet ⟨_, rfl, Heap.le_refl _, rfl⟩
  ·
   intro e1 F1 hF1 he hj
   refine ⟨_, _, _, _, _, rfl, ?_⟩
   refine Bo (A8 bd_36 Az (.cons Ab (.cons Ab (.cons Ab .nil))) (entry_ok _ _ _) (fun _ _ h => h)) ⟨_, rfl, Heap.le_refl _, rfl⟩
  ·
   intro e1 F1 hF1 he hj
   have g97 : (e1 97) = .agg #[.int .i64 2, .bool true, .int .i64 30, .int .i64 30] := hj 1 (by kernel_rfl) (by decide)
   refine ⟨_, _, _, _, _, rfl, ?_⟩
   refine OpX_freeze (Dj (offs := [(0, 4)]) (zl := [.int .i64 0, .bool false, .int .i64 0, .int .i64 0]) sl_47 zr_60 rfl (.cons (Cu g97) rfl .nil) (by intro i p h; rcases i with _ | i <;> simp at h <;> subst h <;> rfl) (.cons rfl rfl (Nat.le_of_ble_eq_true rfl) (.cons (.here) (.cons (.next <| .here) (.cons (.next <| .next <| .here) (.cons (.next <| .next <| .next <| .here) .nil)))) .nil) (by decide) (by decide) fun b hb nb => ⟨b, _, hb, rfl, fun F2 hF2 hz => ⟨F2, rfl, hF2, (entD_box1 hz)⟩⟩)
  ·
   intro e1 F1 hF1 he hj
   replace hr := hr.mono hF1
   have g96 : (e1 96) = .agg #[vs, .int .i64 100, .int .i64 150, .int .i64 14, vb, vl, vn, vd] := hj 0 (by kernel_rfl) (by decide)
   have g97 : (e1 97) = .agg #[.int .i64 2, .bool true, .int .i64 30, .int .i64 30] := hj 1 (by kernel_rfl) (by decide)
   have g98 : Sl F1 (e1 98) 4 Ent.enc [ent1 2 30 30] := hj 2 (by kernel_rfl) (by decide)
   refine ⟨_, _, _, _, _, rfl, ?_⟩
   refine Cs bd_28 Az (.cons (Cu g96) (.cons (Cu rfl) .nil)) (rings_top_ok hr g98) fun v2 F2 hr hF2 => ⟨F2, rfl, hF2, (hr.ans ev_r2)⟩
  ·
   intro e1 F1 hF1 he hj
   have g99 : (e1 99) = .tuple #[tupA (e1 99) 0, .int .i64 8] ∧ Lsts F1 (tupA (e1 99) 0) [] := hj 3 (by kernel_rfl) (by decide)
   refine ⟨_, _, _, _, _, rfl, ?_⟩
   refine Bo (Ag (Cu g99.1)).quiet ⟨_, rfl, Heap.le_refl _, ⟨rfl, g99.2⟩⟩
  ·
   intro e1 F1 hF1 he hj
   have g95 : (e1 95) = .tuple #[tupA (e1 95) 0, .int .i64 8] ∧ Lsts F1 (tupA (e1 95) 0) [] := hj 4 (by kernel_rfl) (by decide)
   refine ⟨_, _, _, _, _, rfl, ?_⟩
   refine Bo (Ay (Cu g95.1) rfl).quiet ⟨_, rfl, Heap.le_refl _, g95.2⟩
  ·
   intro e1 F1 hF1 he hj
   have g95 : (e1 95) = .tuple #[tupA (e1 95) 0, .int .i64 8] ∧ Lsts F1 (tupA (e1 95) 0) [] := hj 4 (by kernel_rfl) (by decide)
   refine ⟨_, _, _, _, _, rfl, ?_⟩
   refine Bo (Ay (Cu g95.1) rfl).quiet ⟨_, rfl, Heap.le_refl _, rfl⟩
  ·
   intro e1 F1 hF1 he hj
   have g96 : (e1 96) = .agg #[vs, .int .i64 100, .int .i64 150, .int .i64 14, vb, vl, vn, vd] := hj 0 (by kernel_rfl) (by decide)
   have g97 : (e1 97) = .agg #[.int .i64 2, .bool true, .int .i64 30, .int .i64 30] := hj 1 (by kernel_rfl) (by decide)
   have g98 : Sl F1 (e1 98) 4 Ent.enc [ent1 2 30 30] := hj 2 (by kernel_rfl) (by decide)
   have g99 : (e1 99) = .tuple #[tupA (e1 99) 0, .int .i64 8] ∧ Lsts F1 (tupA (e1 99) 0) [] := hj 3 (by kernel_rfl) (by decide)
   have g95 : (e1 95) = .tuple #[tupA (e1 95) 0, .int .i64 8] ∧ Lsts F1 (tupA (e1 95) 0) [] := hj 4 (by kernel_rfl) (by decide)
   have g100 : Lsts F1 (e1 100) [] := hj 5 (by kernel_rfl) (by decide)
   refine ⟨_, _, _, _, _, rfl, ?_⟩
   refine Bo (Ad (Cu rfl)).quiet ⟨_, rfl, Heap.le_refl _, g100⟩
  ·
   intro e1 F1 hF1 he hj
   have g96 : (e1 96) = .agg #[vs, .int .i64 100, .int .i64 150, .int .i64 14, vb, vl, vn, vd] := hj 0 (by kernel_rfl) (by decide)
   have g97 : (e1 97) = .agg #[.int .i64 2, .bool true, .int .i64 30, .int .i64 30] := hj 1 (by kernel_rfl) (by decide)
   have g98 : Sl F1 (e1 98) 4 Ent.enc [ent1 2 30 30] := hj 2 (by kernel_rfl) (by decide)
   have g99 : (e1 99) = .tuple #[tupA (e1 99) 0, .int .i64 8] ∧ Lsts F1 (tupA (e1 99) 0) [] := hj 3 (by kernel_rfl) (by decide)
   have g95 : (e1 95) = .tuple #[tupA (e1 95) 0, .int .i64 8] ∧ Lsts F1 (tupA (e1 95) 0) [] := hj 4 (by kernel_rfl) (by decide)
   have g100 : Lsts F1 (e1 100) [] := hj 5 (by kernel_rfl) (by decide)
   have g101 : (e1 101) = .int .i64 8 := hj 6 (by kernel_rfl) (by decide)
   have g25 : Lsts F1 (e1 25) [] := hj 7 (by kernel_rfl) (by decide)
   refine ⟨_, _, _, _, _, rfl, ?_⟩
   refine Bo (Ad (Cu g101)).quiet ⟨_, rfl, Heap.le_refl _, rfl⟩
 intro e71 F68 hF69 he70 hj
 replace hq1 := hq1.mono hF69
 replace hq2 := hq2.mono hF69
 replace hq3 := hq3.mono hF69
 replace hq4 := hq4.mono hF69
 replace hq7 := hq7.mono hF69
 replace g18 := g18.mono hF69
 replace g20 := g20.mono hF69
 replace g21 := g21.mono hF69
 replace g23 := g23.mono hF69
 have g96 : (e71 96) = .agg #[vs, .int .i64 100, .int .i64 150, .int .i64 14, vb, vl, vn, vd] := hj 0 (by decide)
 have g97 : (e71 97) = .agg #[.int .i64 2, .bool true, .int .i64 30, .int .i64 30] := hj 1 (by decide)
 have g98 : Sl F68 (e71 98) 4 Ent.enc [ent1 2 30 30] := hj 2 (by decide)
 have g99 : (e71 99) = .tuple #[tupA (e71 99) 0, .int .i64 8] ∧ Lsts F68 (tupA (e71 99) 0) [] := hj 3 (by decide)
 have g95 : (e71 95) = .tuple #[tupA (e71 95) 0, .int .i64 8] ∧ Lsts F68 (tupA (e71 95) 0) [] := hj 4 (by decide)
 have g100 : Lsts F68 (e71 100) [] := hj 5 (by decide)
 have g101 : (e71 101) = .int .i64 8 := hj 6 (by decide)
 have g25 : Lsts F68 (e71 25) [] := hj 7 (by decide)
 have g26 : (e71 26) = .int .i64 8 := hj 8 (by decide)
 refine Ae <| Af <| Ai fun ds => Aa rfl (Ag (Bz (B6 he70 (by kernel_rfl)) <| Bz (B6 he66 (by kernel_rfl)) <| Bz (B6 he62 (by kernel_rfl)) <| Bz (B6 he58 (by kernel_rfl)) <| Bs rfl <| Bb rfl <| Ap rfl <| Al rfl <| Ac)) ?_
 refine Aa rfl (B8 (Ac) Ab) ?_
 refine Aa rfl (Ag (Ac)) ?_
 refine Ar rfl rfl (Ac) (by first | rfl | decide) ?_
 refine Aa rfl (Ag (Ap rfl <| Al rfl <| Bz (B6 he70 (by kernel_rfl)) <| Bz (B6 he66 (by kernel_rfl)) <| Bz (B6 he62 (by kernel_rfl)) <| Bz (B6 he58 (by kernel_rfl)) <| Bs rfl <| Ba rfl <| A0 rfl <| Ac)) ?_
 refine Ar rfl rfl (Al rfl <| Ac) (by first | rfl | decide) ?_
 refine Aa rfl (B8 (Ac) Ab) ?_
 refine Aa rfl (A5 (Ap rfl <| Ac) (by first | rfl | decide) (Ac)) ?_
 refine Aa rfl (Ag (Ac)) ?_
 refine Ar rfl rfl (Ac) (by first | rfl | decide) ?_
 refine Aa rfl (Ag (A0 rfl <| Ap rfl <| Al rfl <| Bz (B6 he70 (by kernel_rfl)) <| Bz (B6 he66 (by kernel_rfl)) <| Bz (B6 he62 (by kernel_rfl)) <| Bz (B6 he58 (by kernel_rfl)) <| Bs rfl <| A0 rfl <| Ac)) ?_
 refine Ar rfl rfl (Al rfl <| Ac) (by first | rfl | decide) ?_
 refine Aa rfl (B8 (Ac) Ab) ?_
 refine Aa rfl (A5 (Ap rfl <| Ac) (by first | rfl | decide) (Ac)) ?_
 refine Aa rfl (Ag (Ac)) ?_
 refine Ar rfl rfl (Ac) (by first | rfl | decide) ?_
 refine Aa rfl (Ag (Ba rfl <| Ap rfl <| Al rfl <| Bz (B6 he70 (by kernel_rfl)) <| Bz (B6 he66 (by kernel_rfl)) <| Bz (B6 he62 (by kernel_rfl)) <| Bz (B6 he58 (by kernel_rfl)) <| Bb rfl <| A0 rfl <| Ap rfl <| Ac)) ?_
 refine Ar rfl rfl (Al rfl <| Ac) (by first | rfl | decide) ?_
 refine Aa rfl (B8 (Ac) Ab) ?_
 refine Aa rfl (A5 (Ap rfl <| Ac) (by first | rfl | decide) (Ac)) ?_
 refine Aa rfl (Ag (Ac)) ?_
 refine Ar rfl rfl (Ac) (by first | rfl | decide) ?_
 refine Aa rfl (Ag (Ba rfl <| A0 rfl <| Ap rfl <| Al rfl <| Bz (B6 he70 (by kernel_rfl)) <| Bz (B6 he66 (by kernel_rfl)) <| Bz (B6 he62 (by kernel_rfl)) <| Bz (B6 he58 (by kernel_rfl)) <| Ac)) ?_
 refine Ar rfl rfl (Al rfl <| Ac) (by first | rfl | decide) ?_
 refine Aa rfl (B8 (Ac) Ab) ?_
 refine Aa rfl (A5 (Ap rfl <| Ac) (by first | rfl | decide) (Ac)) ?_
 refine Aa rfl (Ag (Ac)) ?_
 refine Ar rfl rfl (Ac) (by first | rfl | decide) ?_
 refine Aa rfl (Ag (Bb rfl <| Ap rfl <| Al rfl <| Bz (B6 he70 (by kernel_rfl)) <| Bz (B6 he66 (by kernel_rfl)) <| Bz (B6 he62 (by kernel_rfl)) <| Cu g19)) ?_
 refine Ar rfl rfl (Al rfl <| Ac) (by first | rfl | decide) ?_
 refine Aa rfl (B8 (Ac) Ab) ?_
 refine Aa rfl (A5 (Ap rfl <| Ac) (by first | rfl | decide) (Ac)) ?_
 refine Aa rfl (Ag (Ac)) ?_
 refine Ar rfl rfl (Ac) (by first | rfl | decide) ?_
 refine Aa rfl (Ag (Bb rfl <| A0 rfl <| Ap rfl <| Al rfl <| Bz (B6 he70 (by kernel_rfl)) <| Bz (B6 he66 (by kernel_rfl)) <| Cu g22)) ?_
 refine Ar rfl rfl (Al rfl <| Ac) (by first | rfl | decide) ?_
 refine Aa rfl (B8 (Ac) Ab) ?_
 refine Aa rfl (A5 (Ap rfl <| Ac) (by first | rfl | decide) (Ac)) ?_
 refine Aa rfl (Ag (Ac)) ?_
 refine Ar rfl rfl (Ac) (by first | rfl | decide) ?_
 refine Aa rfl (Ag (Bb rfl <| Ba rfl <| Ap rfl <| Al rfl <| Bz (B6 he70 (by kernel_rfl)) <| Cu g24)) ?_
 refine Ar rfl rfl (Al rfl <| Ac) (by first | rfl | decide) ?_
 refine Aa rfl (B8 (Ac) Ab) ?_
 refine Aa rfl (A5 (Ap rfl <| Ac) (by first | rfl | decide) (Ac)) ?_
 refine Aa rfl (Ag (Ac)) ?_
 refine Ar rfl rfl (Ac) (by first | rfl | decide) ?_
 refine Aa rfl (Ag (Bb rfl <| Ba rfl <| A0 rfl <| Ap rfl <| Al rfl <| Bz (B6 he70 (by kernel_rfl)) <| Bz (B6 he66 (by kernel_rfl)) <| Bz (B6 he62 (by kernel_rfl)) <| Bz (B6 he58 (by kernel_rfl)) <| Ba rfl <| Ac)) ?_
 refine Ar rfl rfl (Al rfl <| Ac) (by first | rfl | decide) ?_
 refine Aa rfl (B8 (Ac) Ab) ?_
 refine Aa rfl (A5 (Ap rfl <| Ac) (by first | rfl | decide) (Ac)) ?_
 refine Aa rfl (Ag (Ac)) ?_
 refine Ar rfl rfl (Ac) (by first | rfl | decide) ?_
 refine Aa rfl (Ag (Bs rfl <| Ap rfl <| Al rfl <| Cu g26)) ?_
 refine Ar rfl rfl (Al rfl <| Ac) (by first | rfl | decide) ?_
 refine Aa rfl (B8 (Ac) Ab) ?_
 refine Aa rfl (A5 (Ap rfl <| Ac) (by first | rfl | decide) (Ac)) ?_
 refine Aa rfl (Ag (Ac)) ?_
 refine Ar rfl rfl (Ac) (by first | rfl | decide) ?_
 refine Aa rfl (Ag (Bs rfl <| A0 rfl <| Ap rfl <| Al rfl <| Bz (B6 he70 (by kernel_rfl)) <| Bz (B6 he66 (by kernel_rfl)) <| Bz (B6 he62 (by kernel_rfl)) <| Bz (B6 he58 (by kernel_rfl)) <| Bs rfl <| Bb rfl <| A0 rfl <| Ac)) ?_
 refine Ar rfl rfl (Al rfl <| Ac) (by first | rfl | decide) ?_
 refine Aa rfl (B8 (Ac) Ab) ?_
 refine Aa rfl (A5 (Ap rfl <| Ac) (by first | rfl | decide) (Ac)) ?_
 refine Aa rfl (Ag (Ac)) ?_
 refine Ar rfl rfl (Ac) (by first | rfl | decide) ?_
 refine Aa rfl (Ag (Bs rfl <| Ba rfl <| Ap rfl <| Al rfl <| Bz (B6 he70 (by kernel_rfl)) <| Bz (B6 he66 (by kernel_rfl)) <| Bz (B6 he62 (by kernel_rfl)) <| Bz (B6 he58 (by kernel_rfl)) <| Bs rfl <| Ba rfl <| A0 rfl <| Al rfl <| Ac)) ?_
 refine Ar rfl rfl (Al rfl <| Ac) (by first | rfl | decide) ?_
 refine Bu rfl (A8 bd_37 Az (.cons Ab (.cons Ab .nil)) (result_ok _ _) (fun _ _ h => h)) ?_
 refine Ar rfl rfl (Ap rfl <| Ac) (by first | rfl | decide) ?_
 refine Bu rfl (A8 bd_37 Az (.cons Ab (.cons Ab .nil)) (result_ok _ _) (fun _ _ h => h)) ?_
 refine Ar rfl rfl (Ap rfl <| Al rfl <| Ac) (by first | rfl | decide) ?_
 refine Bu rfl (A8 bd_37 Az (.cons Ab (.cons Ab .nil)) (result_ok _ _) (fun _ _ h => h)) ?_
 refine Ar rfl rfl (A0 rfl <| Ac) (by first | rfl | decide) ?_
 refine Bl rfl (Dj (offs := [(0, 2), (2, 2), (4, 2)]) (zl := [.int .i64 0, .int .i64 0, .int .i64 0, .int .i64 0, .int .i64 0, .int .i64 0]) Ct zr_63 rfl (.cons (Ap rfl <| Ac) rfl (.cons (Al rfl <| Ac) rfl (.cons (Ac) rfl .nil))) (by intro i p h; rcases i with _ | _ | _ | i <;> simp at h <;> subst h <;> rfl) (.cons rfl rfl (Nat.le_of_ble_eq_true rfl) (.cons (.here) (.cons (.next <| .here) .nil)) (.cons rfl rfl (Nat.le_of_ble_eq_true rfl) (.cons (.next <| .next <| .here) (.cons (.next <| .next <| .next <| .here) .nil)) (.cons rfl rfl (Nat.le_of_ble_eq_true rfl) (.cons (.next <| .next <| .next <| .next <| .here) (.cons (.next <| .next <| .next <| .next <| .next <| .here) .nil)) .nil))) (by decide) (by decide) fun b72 hb72 nb72 => ?_)
 refine Bp (i := 0) rfl hb72 .here fun F73 hF74 hz75 => ?_
 replace hq1 := hq1.mono hF74
 replace hq2 := hq2.mono hF74
 replace hq3 := hq3.mono hF74
 replace hq4 := hq4.mono hF74
 replace hq7 := hq7.mono hF74
 replace g18 := g18.mono hF74
 replace g20 := g20.mono hF74
 replace g21 := g21.mono hF74
 replace g23 := g23.mono hF74
 have hsl76 := resA_box3 hz75
 refine Ar rfl rfl (A0 rfl <| Al rfl <| Ac) (by first | rfl | decide) ?_
 refine Bu rfl (A8 bd_21 Az (.cons (A0 rfl <| Ac) (.cons (Ac) .nil)) (refSame_ok hq1 hsl76) (fun _ _ h => h)) ?_
 refine Aa rfl (A5 (A0 rfl <| Ap rfl <| Ac) (by first | rfl | decide) (Ac)) ?_
 refine Aa rfl (Ag (Ac)) ?_
 refine Ar rfl rfl (Ac) (by first | rfl | decide) ?_
 refine Aa rfl (Ag (Bs rfl <| Bb rfl <| Ap rfl <| Al rfl <| Bz (B6 he70 (by kernel_rfl)) <| Bz (B6 he66 (by kernel_rfl)) <| Bz (B6 he62 (by kernel_rfl)) <| Bz (B6 he58 (by kernel_rfl)) <| Bs rfl <| A0 rfl <| Al rfl <| Ac)) ?_
 refine Ar rfl rfl (Al rfl <| Ac) (by first | rfl | decide) ?_
 refine Bu rfl (A8 bd_37 Az (.cons Ab (.cons Ab .nil)) (result_ok _ _) (fun _ _ h => h)) ?_
 refine Ar rfl rfl (Ap rfl <| Ac) (by first | rfl | decide) ?_
 refine Bu rfl (A8 bd_37 Az (.cons Ab (.cons Ab .nil)) (result_ok _ _) (fun _ _ h => h)) ?_
 refine Ar rfl rfl (Ap rfl <| Al rfl <| Ac) (by first | rfl | decide) ?_
 refine Bu rfl (A8 bd_37 Az (.cons Ab (.cons Ab .nil)) (result_ok _ _) (fun _ _ h => h)) ?_
 refine Ar rfl rfl (A0 rfl <| Ac) (by first | rfl | decide) ?_
 refine Bl rfl (Dj (offs := [(0, 2), (2, 2), (4, 2)]) (zl := [.int .i64 0, .int .i64 0, .int .i64 0, .int .i64 0, .int .i64 0, .int .i64 0]) Ct zr_63 rfl (.cons (Ap rfl <| Ac) rfl (.cons (Al rfl <| Ac) rfl (.cons (Ac) rfl .nil))) (by intro i p h; rcases i with _ | _ | _ | i <;> simp at h <;> subst h <;> rfl) (.cons rfl rfl (Nat.le_of_ble_eq_true rfl) (.cons (.here) (.cons (.next <| .here) .nil)) (.cons rfl rfl (Nat.le_of_ble_eq_true rfl) (.cons (.next <| .next <| .here) (.cons (.next <| .next <| .next <| .here) .nil)) (.cons rfl rfl (Nat.le_of_ble_eq_true rfl) (.cons (.next <| .next <| .next <| .next <| .here) (.cons (.next <| .next <| .next <| .next <| .next <| .here) .nil)) .nil))) (by decide) (by decide) fun b77 hb77 nb77 => ?_)
 refine Bp (i := 0) rfl hb77 .here fun F78 hF79 hz80 => ?_
 replace hq2 := hq2.mono hF79
 replace hq3 := hq3.mono hF79
 replace hq4 := hq4.mono hF79
 replace hq7 := hq7.mono hF79
 replace g18 := g18.mono hF79
 replace g20 := g20.mono hF79
 replace g21 := g21.mono hF79
 replace g23 := g23.mono hF79
 have hsl81 := resB_box3 hz80
 refine Ar rfl rfl (A0 rfl <| Al rfl <| Ac) (by first | rfl | decide) ?_
 refine Bu rfl (A8 bd_21 Az (.cons (A0 rfl <| Ac) (.cons (Ac) .nil)) (refSame_ok hq2 hsl81) (fun _ _ h => h)) ?_
 refine Aa rfl (A5 (A0 rfl <| Ap rfl <| Ac) (by first | rfl | decide) (Ac)) ?_
 refine Aa rfl (Ag (Ac)) ?_
 refine Ar rfl rfl (Ac) (by first | rfl | decide) ?_
 refine Aa rfl (Ag (Bs rfl <| Bb rfl <| Ba rfl <| Ap rfl <| Al rfl <| Bz (B6 he70 (by kernel_rfl)) <| Bz (B6 he66 (by kernel_rfl)) <| Bz (B6 he62 (by kernel_rfl)) <| Bz (B6 he58 (by kernel_rfl)) <| Bb rfl <| Ba rfl <| Al rfl <| Ac)) ?_
 refine Ar rfl rfl (Al rfl <| Ac) (by first | rfl | decide) ?_
 refine Bl rfl (Bw Bq Cz rfl (.cons Ab (.cons Ab (.cons Ab (.cons Ab .nil)))) rfl rfl (by decide) (by simp [Value.oneCell']) fun b82 hb82 nb82 => ?_)
 refine Bp (i := 0) rfl hb82 .here fun F83 hF84 hz85 => ?_
 replace hq3 := hq3.mono hF84
 replace hq4 := hq4.mono hF84
 replace hq7 := hq7.mono hF84
 replace g18 := g18.mono hF84
 replace g20 := g20.mono hF84
 replace g21 := g21.mono hF84
 replace g23 := g23.mono hF84
 have hsl86 := ints_box4 hz85
 refine Ar rfl rfl (Ap rfl <| Ac) (by first | rfl | decide) ?_
 refine Bu rfl (A8 bd_25 Az (.cons (Al rfl <| Ac) (.cons (Ac) .nil)) (refInts_ok hq3 hsl86) (fun _ _ h => h)) ?_
 refine Aa rfl (A5 (Ap rfl <| Al rfl <| Ac) (by first | rfl | decide) (Ac)) ?_
 refine Aa rfl (Ag (Ac)) ?_
 refine Ar rfl rfl (Ac) (by first | rfl | decide) ?_
 refine Aa rfl (Ag (Bs rfl <| Bs rfl <| Bz (B6 he70 (by kernel_rfl)) <| Bz (B6 he66 (by kernel_rfl)) <| Bz (B6 he62 (by kernel_rfl)) <| Bz (B6 he58 (by kernel_rfl)) <| Bb rfl <| Ba rfl <| Ac)) ?_
 refine Ar rfl rfl (Al rfl <| Ac) (by first | rfl | decide) ?_
 refine Bl rfl (Bw Bq Cz rfl (.cons Ab .nil) rfl rfl (by decide) (by simp [Value.oneCell']) fun b87 hb87 nb87 => ?_)
 refine Bp (i := 0) rfl hb87 .here fun F88 hF89 hz90 => ?_
 replace hq4 := hq4.mono hF89
 replace hq7 := hq7.mono hF89
 replace g18 := g18.mono hF89
 replace g20 := g20.mono hF89
 replace g21 := g21.mono hF89
 replace g23 := g23.mono hF89
 have hsl91 := Ch hz90
 refine Ar rfl rfl (Ap rfl <| Ac) (by first | rfl | decide) ?_
 refine Bu rfl (A8 bd_25 Az (.cons (Al rfl <| Ac) (.cons (Ac) .nil)) (refInts_ok hq4 hsl91) (fun _ _ h => h)) ?_
 refine Aa rfl (A5 (Ap rfl <| Al rfl <| Ac) (by first | rfl | decide) (Ac)) ?_
 refine Aa rfl (Ag (Ac)) ?_
 refine Ar rfl rfl (Ac) (by first | rfl | decide) ?_
 refine Aa rfl (Ag (Bs rfl <| Bs rfl <| A0 rfl <| Al rfl <| Bz (B6 he70 (by kernel_rfl)) <| Bz (B6 he66 (by kernel_rfl)) <| Bz (B6 he62 (by kernel_rfl)) <| Bz (B6 he58 (by kernel_rfl)) <| Bb rfl <| A0 rfl <| Ap rfl <| Al rfl <| Ac)) ?_
 refine Ar rfl rfl (Al rfl <| Ac) (by first | rfl | decide) ?_
 refine Aa rfl (B8 (Ac) Ab) ?_
 refine Aa rfl (A5 (Ap rfl <| Ac) (by first | rfl | decide) (Ac)) ?_
 refine Aa rfl (Ag (Ac)) ?_
 refine Ar rfl rfl (Ac) (by first | rfl | decide) ?_
 refine Aa rfl (Ag (Bs rfl <| Bs rfl <| Ba rfl <| Al rfl <| Bz (B6 he70 (by kernel_rfl)) <| Bz (B6 he66 (by kernel_rfl)) <| Bz (B6 he62 (by kernel_rfl)) <| Bz (B6 he58 (by kernel_rfl)) <| Al rfl <| Ac)) ?_
 refine Ar rfl rfl (Al rfl <| Ac) (by first | rfl | decide) ?_
 refine Bl rfl (Bw Bq Cz rfl (.cons Ab (.cons Ab (.cons Ab .nil))) rfl rfl (by decide) (by simp [Value.oneCell']) fun b92 hb92 nb92 => ?_)
 refine Bp (i := 0) rfl hb92 .here fun F93 hF94 hz95 => ?_
 replace hq7 := hq7.mono hF94
 replace g18 := g18.mono hF94
 replace g20 := g20.mono hF94
 replace g21 := g21.mono hF94
 replace g23 := g23.mono hF94
 have hsl96 := ints_box3 hz95
 refine Ar rfl rfl (Ap rfl <| Ac) (by first | rfl | decide) ?_
 refine Bu rfl (A8 bd_25 Az (.cons (Al rfl <| Ac) (.cons (Ac) .nil)) (refInts_ok hq7 hsl96) (fun _ _ h => h)) ?_
 refine Aa rfl (A5 (Ap rfl <| Al rfl <| Ac) (by first | rfl | decide) (Ac)) ?_
 refine Aa rfl (Ag (Ac)) ?_
 refine Ar rfl rfl (Ac) (by first | rfl | decide) ?_
 refine Aa rfl (Ag (Bs rfl <| Bs rfl <| Ba rfl <| A0 rfl <| Ap rfl <| Bz (B6 he70 (by kernel_rfl)) <| Bz (B6 he66 (by kernel_rfl)) <| Bz (B6 he62 (by kernel_rfl)) <| Cu rfl)) ?_
 refine Ar rfl rfl (Al rfl <| Ac) (by first | rfl | decide) ?_
 refine Bl rfl (Bw Bq Cz rfl (.cons Ab (.cons Ab .nil)) rfl rfl (by decide) (by simp [Value.oneCell']) fun b97 hb97 nb97 => ?_)
 refine Bp (i := 0) rfl hb97 .here fun F98 hF99 hz100 => ?_
 replace g18 := g18.mono hF99
 replace g20 := g20.mono hF99
 replace g21 := g21.mono hF99
 replace g23 := g23.mono hF99
 have hsl101 := n13_box2 hz100
 refine Ar rfl rfl (Ap rfl <| Ac) (by first | rfl | decide) ?_
 refine Bl rfl (Bw Bq Cz rfl (.cons Ab (.cons Ab (.cons Ab .nil))) rfl rfl (by decide) (by simp [Value.oneCell']) fun b102 hb102 nb102 => ?_)
 refine Bp (i := 0) rfl hb102 .here fun F103 hF104 hz105 => ?_
 replace g18 := g18.mono hF104
 replace g20 := g20.mono hF104
 replace g21 := g21.mono hF104
 replace g23 := g23.mono hF104
 replace hsl101 := hsl101.mono hF104
 have hsl106 := n013_box3 hz105
 refine Ar rfl rfl (Ap rfl <| Al rfl <| Ac) (by first | rfl | decide) ?_
 refine Bl rfl (Bw Bq Cz rfl (.cons Ab (.cons Ab (.cons Ab .nil))) rfl rfl (by decide) (by simp [Value.oneCell']) fun b107 hb107 nb107 => ?_)
 refine Bp (i := 0) rfl hb107 .here fun F108 hF109 hz110 => ?_
 replace g18 := g18.mono hF109
 replace g20 := g20.mono hF109
 replace g21 := g21.mono hF109
 replace g23 := g23.mono hF109
 replace hsl101 := hsl101.mono hF109
 replace hsl106 := hsl106.mono hF109
 have hsl111 := n123_box3 hz110
 refine Ar rfl rfl (A0 rfl <| Ac) (by first | rfl | decide) ?_
 refine Bl rfl (Bw Eq zr_28 rfl (.cons (Ap rfl <| Ac) (.cons (Al rfl <| Ac) (.cons (Ac) .nil))) rfl rfl (by decide) (by simp [Value.oneCell']) fun b112 hb112 nb112 => ?_)
 refine Bp (i := 0) rfl hb112 .here fun F113 hF114 hz115 => ?_
 replace g18 := g18.mono hF114
 replace g20 := g20.mono hF114
 replace g21 := g21.mono hF114
 replace g23 := g23.mono hF114
 replace hsl101 := hsl101.mono hF114
 replace hsl106 := hsl106.mono hF114
 replace hsl111 := hsl111.mono hF114
 have hsl116 := vals_box3 hz115
 refine Ar rfl rfl (A0 rfl <| Al rfl <| Ac) (by first | rfl | decide) ?_
 refine Bu rfl (A8 bd_30 Az (.cons (A0 rfl <| Ac) (.cons (Ac) .nil)) (alike_ok g18 (lsts3 hsl116 hsl101 hsl106 hsl111)) (fun _ _ h => h)) ?_
 refine Aa rfl (A5 (A0 rfl <| Ap rfl <| Ac) (by first | rfl | decide) (Ac)) ?_
 refine Aa rfl (Ag (Ac)) ?_
 refine Ar rfl rfl (Ac) (by first | rfl | decide) ?_
 refine Aa rfl (Ag (Bs rfl <| Bs rfl <| Bb rfl <| A0 rfl <| Ap rfl <| Bz (B6 he70 (by kernel_rfl)) <| Bz (B6 he66 (by kernel_rfl)) <| Cu rfl)) ?_
 refine Ar rfl rfl (Al rfl <| Ac) (by first | rfl | decide) ?_
 refine Bl rfl (Bw Bq Cz rfl (.cons Ab (.cons Ab .nil)) rfl rfl (by decide) (by simp [Value.oneCell']) fun b117 hb117 nb117 => ?_)
 refine Bp (i := 0) rfl hb117 .here fun F118 hF119 hz120 => ?_
 replace g20 := g20.mono hF119
 replace g21 := g21.mono hF119
 replace g23 := g23.mono hF119
 have hsl121 := n02_box2 hz120
 refine Ar rfl rfl (Ap rfl <| Ac) (by first | rfl | decide) ?_
 refine Bu rfl (A8 bd_25 Az (.cons (Al rfl <| Ac) (.cons (Ac) .nil)) (refInts_nat g20 hsl121) (fun _ _ h => h)) ?_
 refine Aa rfl (A5 (Ap rfl <| Al rfl <| Ac) (by first | rfl | decide) (Ac)) ?_
 refine Aa rfl (Ag (Ac)) ?_
 refine Ar rfl rfl (Ac) (by first | rfl | decide) ?_
 refine Aa rfl (Ag (Bs rfl <| Bs rfl <| Bb rfl <| Ba rfl <| Ap rfl <| Al rfl <| Bz (B6 he70 (by kernel_rfl)) <| Bz (B6 he66 (by kernel_rfl)) <| Cu rfl)) ?_
 refine Ar rfl rfl (Al rfl <| Ac) (by first | rfl | decide) ?_
 refine Bl rfl (Bw Bq Cz rfl (.cons Ab (.cons Ab (.cons Ab (.cons Ab .nil)))) rfl rfl (by decide) (by simp [Value.oneCell']) fun b122 hb122 nb122 => ?_)
 refine Bp (i := 0) rfl hb122 .here fun F123 hF124 hz125 => ?_
 replace g21 := g21.mono hF124
 replace g23 := g23.mono hF124
 have hsl126 := n0123_box4 hz125
 refine Ar rfl rfl (Ap rfl <| Ac) (by first | rfl | decide) ?_
 refine Bu rfl (A8 bd_25 Az (.cons (Al rfl <| Ac) (.cons (Ac) .nil)) (refInts_nat g21 hsl126) (fun _ _ h => h)) ?_
 refine Aa rfl (A5 (Ap rfl <| Al rfl <| Ac) (by first | rfl | decide) (Ac)) ?_
 refine Aa rfl (Ag (Ac)) ?_
 refine Ar rfl rfl (Ac) (by first | rfl | decide) ?_
 refine Aa rfl (Ag (Bs rfl <| Bs rfl <| Bs rfl <| Bz (B6 he70 (by kernel_rfl)) <| Cu rfl)) ?_
 refine Ar rfl rfl (Al rfl <| Ac) (by first | rfl | decide) ?_
 refine Bl rfl (Bw Bq Cz rfl (.cons Ab (.cons Ab .nil)) rfl rfl (by decide) (by simp [Value.oneCell']) fun b127 hb127 nb127 => ?_)
 refine Bp (i := 0) rfl hb127 .here fun F128 hF129 hz130 => ?_
 replace g23 := g23.mono hF129
 have hsl131 := n02_box2 hz130
 refine Ar rfl rfl (Ap rfl <| Ac) (by first | rfl | decide) ?_
 refine Bu rfl (A8 bd_25 Az (.cons (Al rfl <| Ac) (.cons (Ac) .nil)) (refInts_nat g23 hsl131) (fun _ _ h => h)) ?_
 refine Aa rfl (A5 (Ap rfl <| Al rfl <| Ac) (by first | rfl | decide) (Ac)) ?_
 refine Aa rfl (Ad (Ac)) ?_
 refine Ah <| Ae <| A2 <| Aw rfl (.tmp (Ac) .nil) ?_
 show _ = _
 first | rfl | decide
end Go.Proofs.Ytaikojfonleccaa
namespace Go.Proofs.Ytaikojfonleccaa
open Go.RowKit
theorem bd_22 : Body Try.prog 22 := Br (by kernel_rfl)
end Go.Proofs.Ytaikojfonleccaa
namespace Go.Proofs.Ytaikojfonleccaa
def ringL (bits n : Nat) : List Nat := selTo bits.testBit n
def ringN (s : Sale) (bits : Nat) : List Nat := if (ringL bits s.bidders.length).length = 1 then [] else ringL bits s.bidders.length
theorem mem_selTo {p : Nat → Bool} {k i : Nat} : i ∈ selTo p k ↔ i < k ∧ p i = true := by unfold selTo; simp
theorem selTo_asc {p : Nat → Bool} {k : Nat} : Asc (selTo p k) := List.Pairwise.sublist List.filter_sublist List.pairwise_lt_range
theorem ringN_asc {s : Sale} {bits : Nat} : Asc (ringN s bits) := by
 unfold ringN; split
 · exact .nil
 · exact selTo_asc
theorem ringN_lt {s : Sale} {bits : Nat} : ∀ i ∈ ringN s bits, i < s.bidders.length := by
 intro i hi; unfold ringN at hi; split at hi
 · cases hi
 · exact (mem_selTo.1 hi).1
theorem ringN_one {s : Sale} {bits : Nat} : (ringN s bits).length ≠ 1 := by
 unfold ringN; split
 · simp
 · assumption
theorem asc_cast {l : List Nat} (h : Asc l) : notAsc (castL l) = false := by
 unfold notAsc
 rw [List.any_eq_false]
 intro i hi
 have hi := List.mem_range.1 hi
 have hl : i < l.length := by simpa [castL] using hi
 simp only [decide_eq_true_eq, not_and, Int.not_le]
 intro h0
 have := List.pairwise_iff_getElem.1 h (i - 1) i (by omega) hl (by omega)
 simp [castL, hl, show i - 1 < l.length by omega]
 exact this
theorem ring_err {s : Sale} {l : List Nat} (h1 : Asc l) (h2 : ∀ b ∈ l, b < s.bidders.length) (h3 : l.length ≠ 1) : ringErr s (castL l) = 0 := by
 unfold ringErr
 rw [if_neg, if_neg (by rw [asc_cast h1]; simp), if_neg (by simpa [castL] using h3)]
 simp only [List.any_eq_true, not_exists, not_and]
 intro z hz
 obtain ⟨b, hb, rfl⟩ := List.mem_map.1 hz
 have := h2 b hb
 unfold inB
 simp; omega
theorem enterN_ring {s : Sale} (h0 : (checkS s).2.2 = 0) {bits : Nat} : enterErr s (castL (ringN s bits)) = 0 := by
 unfold enterErr; rw [if_neg (fun k => k h0)]; exact ring_err ringN_asc ringN_lt ringN_one
theorem enterN_nil {s : Sale} (h0 : (checkS s).2.2 = 0) : enterErr s [] = 0 := by
 unfold enterErr; rw [if_neg (fun k => k h0)]; exact ring_err (l := []) .nil (by simp) (by simp)
theorem ringN_sub {s : Sale} {a b : Nat} : ∀ i ∈ ringN s a, i ∈ ringN s (a ||| b) := by
 intro i hi
 have hm : ∀ j, j ∈ ringL a s.bidders.length → j ∈ ringL (a ||| b) s.bidders.length := fun j hj => by
   have := mem_selTo.1 hj
   exact mem_selTo.2 ⟨this.1, by rw [Nat.testBit_or, this.2]; rfl⟩
 have h1 : (ringL a s.bidders.length).length ≤ (ringL (a ||| b) s.bidders.length).length := sub_len selTo_asc hm
 unfold ringN at hi ⊢
 split at hi
 · cases hi
 · rename_i hne
   have : (ringL a s.bidders.length).length ≠ 0 := fun h => by rw [List.eq_nil_of_length_eq_zero h] at hi; cases hi
   rw [if_neg (by omega)]
   exact hm i hi
theorem ring_more {s : Sale} {a b : Nat} : ∀ z, inRing (castL (ringN s a)) z = true → inRing (castL (ringN s (a ||| b))) z = true := by
 intro z hz
 unfold inRing castL at hz ⊢
 simp only [decide_eq_true_eq, List.mem_map] at hz ⊢
 obtain ⟨i, hi, rfl⟩ := hz
 exact ⟨i, ringN_sub i hi, rfl⟩
end Go.Proofs.Ytaikojfonleccaa
namespace Go.Proofs.Ytaikojfonleccaa
open Go.RowKit
theorem bit8_eq {m k : Nat} : decide ((((m / 2 ^ k : Nat) : Int) % 2) = 1) = m.testBit k := by
 rw [Nat.testBit_eq_decide_div_mod_eq]
 by_cases h : m / 2 ^ k % 2 = 1
 · rw [decide_eq_true h]; exact decide_eq_true (by omega)
 · rw [decide_eq_false h]; exact decide_eq_false (by omega)
set_option maxRecDepth 100000 in
theorem valid_ok {F : Heap} {vs vb vl vn vd : Value} {s : Sale} (hr : SaleR F vs vb vl vn vd s) : Ok Try.prog 38 [.agg #[vs, .int .i64 s.premium, .int .i64 s.fee, .int .i64 s.days, vb, vl, vn, vd]].toArray F fun u _ => u = .bool (decide ((checkS s).2.2 = 0)) := by
 refine Ok.intro Try.func38 rfl Try.ntmps38 rfl fun w0 => ?_
 refine Af <| Ai fun ds => Bl rfl (Cd (Ak rfl) rfl fun b1 hb1 nb1 => ?_)
 refine Aa rfl (Ad Ab) ?_
 refine Ah <| Ae <| Af <| Ai fun ds => Aa rfl (Bh Cc (Al rfl <| Ac) rfl rfl (Bm 0 rfl)) ?_
 refine Bu rfl (A8 bd_16 Az (.cons (Ac) .nil) (refCheckS_ok hr) (fun _ _ h => h.trans (show checkSV s = .tuple #[.int .i64 (checkS s).1, .int .i64 (checkS s).2.1, .int .i64 (checkS s).2.2] from rfl))) ?_
 refine Aa rfl (Ag (Ac)) ?_
 refine Aa rfl (Ay (Ac) rfl) ?_
 refine Aa rfl (Ay (Al rfl <| Ac) rfl) ?_
 refine Aa rfl (Ay (Ap rfl <| Ac) rfl) ?_
 refine Aa rfl (Ad (Ap rfl <| Ac)) ?_
 refine Aa rfl (Ad (Ap rfl <| Ac)) ?_
 refine Aa rfl (Ad (Ap rfl <| Ac)) ?_
 refine Ah <| Ae <| Af <| Ai fun ds => Aa rfl (Ag (Ac)) ?_
 refine Aa rfl (B8 (Ac) Ab) ?_
 refine Aa rfl (Ad (Ac)) ?_
 refine Ah <| Ae <| A2 <| Aw rfl (.tmp (Ac) .nil) ?_
 rfl
set_option maxRecDepth 100000 in
theorem ring_ok {F : Heap} {vs vb vl vn vd : Value} {s : Sale} (hr : SaleR F vs vb vl vn vd s) (hv : ValidS s) {bits : Nat} : Ok Try.prog 39 [.agg #[vs, .int .i64 s.premium, .int .i64 s.fee, .int .i64 s.days, vb, vl, vn, vd], .int .u8 (bits : Int)].toArray F fun u F' => Nats F' u (ringN s bits) := by
 refine Ok.intro Try.func39 rfl Try.ntmps39 rfl fun w0 => ?_
 have hL1 := hr.bidders.plain.lt
 have hnb := hv.nb
 refine Af <| Ai fun ds => Bl rfl (Cd (Ak rfl) rfl fun b1 hb1 nb1 => ?_)
 refine Aa rfl (Ad Ab) ?_
 refine Ah <| Ae <| Af <| Ai fun ds => Aa rfl (Ad Ab) ?_
 refine Ah <| Ae <| Af <| Af <| Ai fun ds => Aa rfl (Ad Ab) ?_
 refine Ah <| Ae <| A1 <| B1 [5, 6, 7, 8, 9, 10, 11, 12, 13, 14, 15, 16, 17, 18, 19, 20, 21, 22] (fun m e σ => ∃ k : Nat, m + k = s.bidders.length ∧ e 6 = .int .i64 (k : Int) ∧ ∃ v R, e 5 = v ∧ Own 3 1 v (ringL bits k).length ((ringL bits k).flatMap natE) R ∧ σ = ⟨F, (b1, bx 27 [vs, .int .i64 s.premium, .int .i64 s.fee, .int .i64 s.days, vb, vl, vn, vd]) :: R⟩) (s.bidders.length) ?_ ?_
 · exact ⟨0, by omega, (Ac), _, _, (Al rfl <| Ac), Own.nil, rfl⟩
 ·
  rintro m e _ ⟨k, hm, hs6, v5, R2, hs5, ho, rfl⟩; have hbl : (ringL bits k).length ≤ k := selTo_length
  by_cases hlt : k < s.bidders.length
  ·
   refine Af <| Af <| Ai fun ds => Aa rfl (Ag (Au rfl hs6)) ?_
   refine Aa rfl (Aj Cy (Al rfl <| Ao rfl <| Ap rfl <| Al rfl <| Ac)) ?_
   refine Aa rfl (Aq Cn (Ac) (Cell.own 0 rfl rfl)) ?_
   refine Aa rfl (Be Cm (Ac) hr.bidders.plain) ?_
   refine Aa rfl (Bx (Ap rfl <| Al rfl <| Ac) (Ac)) ?_
   refine Ah <| Ae <| As (Ac) (by first | rfl | exact decide_eq_true (by omega)) ?_
   by_cases hb : bits.testBit k = true
   ·
    refine Ax <| Ae <| Af <| A1 <| Af <| Ai fun ds => Aa rfl (Ag (A0 rfl <| Al rfl <| Ao rfl <| A0 rfl <| Ak rfl)) ?_
    refine Aa rfl (Ag (A0 rfl <| Ap rfl <| Au rfl hs6)) ?_
    refine Aa rfl (q_shr (Al rfl <| Ac) (Ac) (k := k) rfl (by show k < 8; omega) Ew) ?_
    refine Aa rfl (q_rem (Ac) Ab (Int.natCast_nonneg _) (by decide)) ?_
    refine Aa rfl (B8 (Ac) Ab) ?_
    refine Ah <| Ae <| As (Ac) (by rw [bit8_eq]; exact hb) ?_
    refine Ai fun ds => Aa rfl (Ag (Ba rfl <| Ap rfl <| Au rfl hs5)) ?_
    refine Aa rfl (Ag (Ba rfl <| Ap rfl <| Al rfl <| Au rfl hs6)) ?_
    refine Bl rfl (Bw Bq Cz rfl (.cons (Ac) .nil) rfl rfl (by decide) (by simp [Value.oneCell']) fun b3 hb3 nb3 => ?_)
    refine Bl rfl (Dk Bq el_3 (Ap rfl <| Ac) ho (Ac) (Dx (s := 1) 0 rfl rfl (by simp [Value.oneCell'])) (by omega) (by omega) (.s <| .s <| .z) .last fun v4 R5 ho6 => ?_)
    have ho2 := ho6.snoc (x := k) rfl rfl
    refine Aa rfl (Ad (Ac)) ?_
    refine Ah <| Bi <| Ae <| Cr (fun _ _ h => h.drop (.cons _ <| .cons_cons _ <| .refl _)) ?_
    refine Ai fun ds => Aa rfl (Ag (Ba rfl <| A0 rfl <| Ap rfl <| Al rfl <| Au rfl hs6)) ?_
    refine Aa rfl (B2 (Ac) Ab rfl (by omega) (by omega)) ?_
    refine Aa rfl (Ad (Ac)) ?_
    refine Ah <| Ae ⟨_, m - 1, Off.eq (C5 rfl <| Ev rfl <| Bj), by omega, ?_⟩
    refine ⟨k + 1, by omega, (Ac), _, _, (Ap rfl <| Al rfl <| Ac), by rw [ringL, Ds, if_pos hb]; exact ho2, rfl⟩
   ·
    replace hb : bits.testBit k = false := by simpa using hb
    refine Ax <| Ae <| Af <| A1 <| Af <| Ai fun ds => Aa rfl (Ag (A0 rfl <| Al rfl <| Ao rfl <| A0 rfl <| Ak rfl)) ?_
    refine Aa rfl (Ag (A0 rfl <| Ap rfl <| Au rfl hs6)) ?_
    refine Aa rfl (q_shr (Al rfl <| Ac) (Ac) (k := k) rfl (by show k < 8; omega) Ew) ?_
    refine Aa rfl (q_rem (Ac) Ab (Int.natCast_nonneg _) (by decide)) ?_
    refine Aa rfl (B8 (Ac) Ab) ?_
    refine Ah <| Ae <| Am (Ac) (by rw [bit8_eq]; exact hb) ?_
    refine Ax <| Bi <| Ae <| Ai fun ds => Aa rfl (Ag (Ba rfl <| Ap rfl <| Au rfl hs6)) ?_
    refine Aa rfl (B2 (Ac) Ab rfl (by omega) (by omega)) ?_
    refine Aa rfl (Ad (Ac)) ?_
    refine Ah <| Ae ⟨_, m - 1, Off.eq (Eh rfl <| ou4 rfl <| Eu rfl <| Bj), by omega, ?_⟩
    refine ⟨k + 1, by omega, (Ac), _, _, (Ba rfl <| A0 rfl <| Al rfl <| Au rfl hs5), by rw [ringL, Ds, if_neg (by rw [hb]; simp)]; exact ho, rfl⟩
  ·
   refine Af <| Af <| Ai fun ds => Aa rfl (Ag (Au rfl hs6)) ?_
   refine Aa rfl (Aj Cy (Al rfl <| Ao rfl <| Ap rfl <| Al rfl <| Ac)) ?_
   refine Aa rfl (Aq Cn (Ac) (Cell.own 0 rfl rfl)) ?_
   refine Aa rfl (Be Cm (Ac) hr.bidders.plain) ?_
   refine Aa rfl (Bx (Ap rfl <| Al rfl <| Ac) (Ac)) ?_
   refine Ah <| Ae <| Am (Ac) (by first | rfl | exact decide_eq_false (by omega)) ?_
   obtain rfl : k = s.bidders.length := by omega
   refine WC_freezeR (σ := ⟨_, _⟩) (by rfl) ho (.s <| .z) .last fun F7 hF8 hz9 => ?_
   have hn2 := ho.sl (fun _ => rfl) hz9 (by have := selTo_length (p := bits.testBit) (k := s.bidders.length); unfold ringL; omega)
   by_cases h1 : (ringL bits s.bidders.length).length = 1
   ·
    refine Bv ?_
    refine Bk <| Bk <| Bn <| Ae <| Af <| Af <| Ai fun ds => Aa rfl (Ag (A0 rfl <| Al rfl <| Au rfl hs5)) ?_
    refine Aa rfl (Be Bq (Ac) hn2.plain) ?_
    refine Aa rfl (B8 (Ac) Ab) ?_
    refine Ah <| Ae <| As (Ac) (decide_eq_true (by omega)) ?_
    refine Af <| Ai fun ds => Aa rfl (Ad Ab) ?_
    refine Ah <| Ae <| A2 <| A3 ?_
    refine Aw rfl (.tmp (Ac) .nil) ?_
    unfold ringN; rw [if_pos h1]
    exact Sl.nil
   ·
    refine Bv ?_
    refine Bk <| Bk <| Bn <| Ae <| Af <| Af <| Ai fun ds => Aa rfl (Ag (A0 rfl <| Al rfl <| Au rfl hs5)) ?_
    refine Aa rfl (Be Bq (Ac) hn2.plain) ?_
    refine Aa rfl (B8 (Ac) Ab) ?_
    refine Ah <| Ae <| Am (Ac) (decide_eq_false (by omega)) ?_
    refine Ax <| Ae <| Af <| Ai fun ds => Aa rfl (Ag (Ba rfl <| Au rfl hs5)) ?_
    refine Aa rfl (Ad (Ac)) ?_
    refine Ah <| Ae <| A2 <| Aw rfl (.tmp (Ac) .nil) ?_
    unfold ringN; rw [if_neg h1]
    exact hn2
end Go.Proofs.Ytaikojfonleccaa
namespace Go.Proofs.Ytaikojfonleccaa
open Go.RowKit
theorem bd_39 : Body Try.prog 39 := Br (by kernel_rfl)
theorem one_5 : OneT Try.prog 5 := Df (by kernel_rfl)
section
variable {s : Sale} {rg : List Int} {off : List Nat} {lots bits k : Nat}
end
end Go.Proofs.Ytaikojfonleccaa
namespace Go.Proofs.Ytaikojfonleccaa
open Go.RowKit
theorem bd_38 : Body Try.prog 38 := Br (by kernel_rfl)
end Go.Proofs.Ytaikojfonleccaa
namespace Go.Proofs.Ytaikojfonleccaa
theorem part_mono {p q m : Int} (h : p ≤ q) (hm : 0 ≤ m) : partP p m ≤ partP q m := by
 unfold partP
 have := Int.mul_le_mul_of_nonneg_right h hm
 omega
theorem live_same {s : Sale} {r r' : List Int} {rs : List Back} {k : Nat} (h : (soldS s k r').bidder = (soldS s k r).bidder) : liveB s r' rs k = liveB s r rs k := by unfold liveB; rw [h]
theorem pay_less {s : Sale} (hv : ValidS s) {r r' : List Int} (hsub : ∀ b, inRing r b = true → inRing r' b = true) {b : Nat} : ∀ k, k ≤ s.lots.length → payTo s r' [] b k ≤ payTo s r [] b k
 | 0, _ => Int.le_refl _
 | k + 1, hk => by
   have ih := pay_less hv hsub (b := b) k (by omega)
   have h1 := sold_more hv (l := k) (by omega) hsub
   have h2 := part_mono h1.2 hv.pre.1
   unfold payTo
   rw [live_same h1.1, h1.1]
   split <;> omega
theorem acc_nil {s : Sale} {r : List Int} (h : enterErr s r = 0) : accE s r [] = ((List.range s.bidders.length).map (fun b => payTo s r [] b s.lots.length), (List.range s.sellers.length).map (fun c => getTo s r [] c s.lots.length), houseTo s r [] s.lots.length, 0) :=
 accE_ok h (retErr_ok fun j hj => absurd hj (by simp))
end Go.Proofs.Ytaikojfonleccaa
namespace Go.Proofs.Ytaikojfonleccaa
open Go.RowKit
section
variable {P : Program} {n : Nat} {B : Base} {e : Env} {σ : St} {d : Option Nat} {ty : TypeId} {pos : String} {af : Array Edge} {gd : Option (Nat × Bool)}
theorem q_or8 {x y : Operand} {m k : Nat} {t u : TypeId} (hx : ev e x = .int .u8 (m : Int)) (hy : ev e y = .int .u8 (k : Int)) (h1 : m < 256) (h2 : k < 256) :
   OpR P B ⟨d, .binOp .or t x y u, ty, pos, af, gd⟩ e σ (.int .u8 ((m ||| k : Nat) : Int)) := fun w _ => by
 have hle : m ||| k < 2 ^ 8 := Nat.or_lt_two_pow (by omega) (by omega)
 have e1 : (BitVec.ofInt 8 (m : Int) ||| BitVec.ofInt 8 (k : Int)).toNat = m ||| k := by
   rw [BitVec.ofInt_natCast, BitVec.ofInt_natCast, BitVec.toNat_or, BitVec.toNat_ofNat, BitVec.toNat_ofNat, Nat.mod_eq_of_lt (by omega), Nat.mod_eq_of_lt (by omega)]
 have e2 : IntKind.u8.wrap ((m ||| k : Nat) : Int) = ((m ||| k : Nat) : Int) := IntWalk.u8_in _ ⟨by omega, by omega⟩
 have e3 : Op.intBits .or .u8 (m : Int) (k : Int) = pure (.int .u8 (IntKind.u8.wrap ((BitVec.ofInt 8 (m : Int) ||| BitVec.ofInt 8 (k : Int)).toNat : Int))) := rfl
 rw [e1, e2] at e3
 simp only [execOp, hx, hy, eqGuard, binOp, e3]
 simp
end
end Go.Proofs.Ytaikojfonleccaa
namespace Go.Proofs.Ytaikojfonleccaa
open Go.RowKit
theorem ar_74 : ArrT Try.prog 74 2 5 1 := arrT_of (by kernel_rfl)
set_option maxRecDepth 100000 in
theorem silentLaw_ok {F : Heap} {vs vb vl vn vd : Value} {s : Sale} (hr : SaleR F vs vb vl vn vd s) {ka kb : Nat} (hka : ka < 256) (hkb : kb < 256) : Ok Try.prog 8 [.agg #[vs, .int .i64 s.premium, .int .i64 s.fee, .int .i64 s.days, vb, vl, vn, vd], .agg #[.int .u8 (ka : Int), .int .u8 (kb : Int)]].toArray F fun u _ => u = .bool true := by
 refine Ok.intro Try.func8 rfl Try.ntmps8 rfl fun w0 => ?_
 have hle0 : F.le F := Heap.le_refl _
 by_cases h0 : (checkS s).2.2 = 0
 ·
  have hv := C3 h0
  have hL := hv.nl
  have hL2 := hv.nb
  have hal1 := Dd (s := s) (ring := [])
  have hal2 := Dd (s := s) (ring := castL (ringN s ka))
  have hal3 := Dd (s := s) (ring := castL (ringN s (ka ||| kb)))
  have hsub1 : ∀ b, inRing [] b = true → inRing (castL (ringN s ka)) b = true := fun b hb => (inRing_nil hb).elim
  have hsub : ∀ b, inRing [] b = true → inRing (castL (ringN s (ka ||| kb))) b = true := fun b hb => (inRing_nil hb).elim
  refine Af <| Ai fun ds => Bl rfl (Cd (Ak rfl) rfl fun b1 hb1 nb1 => ?_)
  refine Bl rfl (Cd (Al rfl <| Ak rfl) rfl fun b2 hb2 nb2 => ?_)
  refine Aa rfl (Ad Ab) ?_
  refine Ah <| Ae <| Af <| Af <| Ai fun ds => Aa rfl (Bh Cc (Ap rfl <| Ac) rfl rfl (Bm 1 rfl)) ?_
  refine Bu rfl (A8 bd_38 Az (.cons (Ac) .nil) (valid_ok hr) (fun _ _ h => h)) ?_
  refine Aa rfl (Cw (Ac)) ?_
  refine Ah <| Ae <| Am (Ac) (by simp [h0]) ?_
  refine Ax <| Ae <| Af ?_
  have hleS := hle0
  refine Eb (.inl rfl) (fun _ _ h => h) (.cons_cons _ <| .cons_cons _ <| .refl _) [] (by kernel_rfl) fun ds => ?_
  refine Bd 0 rfl (by kernel_rfl) (by kernel_rfl) (by kernel_rfl) (by kernel_rfl) rfl rfl (fun _ h => h.drop (.cons_cons _ <| .cons_cons _ <| .refl _)) (fun _ _ _ h => h) (Bh Cc (A0 rfl <| Al rfl <| Ac) rfl rfl (Bm 1 rfl)) ?_
  refine Bd 1 rfl (by kernel_rfl) (by kernel_rfl) (by kernel_rfl) (by kernel_rfl) rfl rfl (fun _ h => h.drop (.cons_cons _ <| .cons_cons _ <| .refl _)) (fun _ _ _ h => h) (Bt (k := 0) ar_74 (A0 rfl <| Al rfl <| Ac) Ab rfl (by decide)) ?_
  refine Bd 2 rfl (by kernel_rfl) (by kernel_rfl) (by kernel_rfl) (by kernel_rfl) rfl rfl (fun _ h => h.drop (.cons_cons _ <| .cons_cons _ <| .refl _)) (fun _ _ _ h => h) (Aq one_5 (Ac) (Cell.own 0 rfl rfl)) ?_
  refine Bd 4 rfl (by kernel_rfl) (by kernel_rfl) (by kernel_rfl) (by kernel_rfl) rfl rfl (fun _ h => h.drop (.cons_cons _ <| .cons_cons _ <| .refl _)) (fun _ _ _ h => h) (Bh Cc (Ba rfl <| Ac) rfl rfl (Bm 1 rfl)) ?_
  refine Bd 5 rfl (by kernel_rfl) (by kernel_rfl) (by kernel_rfl) (by kernel_rfl) rfl rfl (fun _ h => h.drop (.cons_cons _ <| .cons_cons _ <| .refl _)) (fun _ _ _ h => h) (Bt (k := 0) ar_74 (Ba rfl <| Ac) Ab rfl (by decide)) ?_
  refine Bd 6 rfl (by kernel_rfl) (by kernel_rfl) (by kernel_rfl) (by kernel_rfl) rfl rfl (fun _ h => h.drop (.cons_cons _ <| .cons_cons _ <| .refl _)) (fun _ _ _ h => h) (Aq one_5 (Ac) (Cell.own 0 rfl rfl)) ?_
  refine Bd 7 rfl (by kernel_rfl) (by kernel_rfl) (by kernel_rfl) (by kernel_rfl) rfl rfl (fun _ h => h.drop (.cons_cons _ <| .cons_cons _ <| .refl _)) (fun _ _ _ h => h) (Bt (k := 1) ar_74 (Ba rfl <| Ap rfl <| Ac) Ab rfl (by decide)) ?_
  refine Bd 8 rfl (by kernel_rfl) (by kernel_rfl) (by kernel_rfl) (by kernel_rfl) rfl rfl (fun _ h => h.drop (.cons_cons _ <| .cons_cons _ <| .refl _)) (fun _ _ _ h => h) (Aq one_5 (Ac) (Cell.own 0 rfl rfl)) ?_
  refine Bd 9 rfl (by kernel_rfl) (by kernel_rfl) (by kernel_rfl) (by kernel_rfl) rfl rfl (fun _ h => h.drop (.cons_cons _ <| .cons_cons _ <| .refl _)) (fun _ _ _ h => h) (q_or8 (Ap rfl <| Ac) (Ac) hka hkb) ?_
  refine Da 3 rfl (by kernel_rfl) rfl (Cs bd_39 Az (.cons (Ba rfl <| Ac) (.cons (A0 rfl <| Ap rfl <| Ac) .nil)) (ring_ok hr hv (bits := ka)) fun v3 F4 hr5 hF6 => ⟨fun _ _ _ h => (h.drop (.cons_cons _ <| .cons_cons _ <| .refl _)).weak hF6 hleS, ?_⟩)
  replace hr := hr.mono hF6
  have hn := hr5
  have hx := hn.ints
  change Ints _ _ (castL (ringN s ka)) at hx
  refine Da 10 rfl (by kernel_rfl) rfl (Cs bd_39 Az (.cons (A0 rfl <| Ap rfl <| Ac) (.cons (Al rfl <| Ac) .nil)) (ring_ok hr hv (bits := ka ||| kb)) fun v7 F8 hr9 hF10 => ⟨fun _ _ _ h => (h.drop (.cons_cons _ <| .cons_cons _ <| .refl _)).weak (Heap.le_trans hF6 hF10) hleS, ?_⟩)
  replace hr := hr.mono hF10
  replace hx := hx.mono hF10
  have hn2 := hr9
  have hx2 := hn2.ints
  change Ints _ _ (castL (ringN s (ka ||| kb))) at hx2
  refine Bd 11 rfl (by kernel_rfl) (by kernel_rfl) (by kernel_rfl) (by kernel_rfl) rfl rfl (fun _ h => (h.drop (.cons_cons _ <| .cons_cons _ <| .refl _)).weak (Heap.le_trans hF6 hF10) hleS) (fun _ _ _ h => h) (Ad (Al rfl <| Ac)) ?_
  refine Bd 12 rfl (by kernel_rfl) (by kernel_rfl) (by kernel_rfl) (by kernel_rfl) rfl rfl (fun _ h => (h.drop (.cons_cons _ <| .cons_cons _ <| .refl _)).weak (Heap.le_trans hF6 hF10) hleS) (fun _ _ _ h => h) (Ad (Al rfl <| Ac)) ?_
  refine C7 (by kernel_rfl) ?_ _
  refine Ae <| Af <| Ai fun ds => Aa rfl (Bh Cc (Bb rfl <| Ap rfl <| Ac) rfl rfl (Bm 1 rfl)) ?_
  refine Bl rfl (Cs bd_19 Az (.cons (Ac) (.cons Ab .nil)) ((sellTop_ok hr Sl.nil).mono fun u F2 _ h => (by rw [sellE_ok (enterN_nil h0)] at h; exact h : ∃ w, u = .tuple #[w, .int .i64 0] ∧ Sl F2 w 2 Res.enc (allS s ([])))) fun v11 F12 hr13 hF14 => ?_)
  replace hr := hr.mono hF14
  replace hx := hx.mono hF14
  replace hx2 := hx2.mono hF14
  obtain ⟨hq1_, rfl, hq1⟩ := hr13
  refine Aa rfl (Ag (Ac)) ?_
  refine Aa rfl (Ay (Ac) rfl) ?_
  refine Aa rfl (Ay (Al rfl <| Ac) rfl) ?_
  refine Aa rfl (Ad (Al rfl <| Ac)) ?_
  refine Aa rfl (Ad (Al rfl <| Ac)) ?_
  refine Ah <| Ae <| Af <| Ai fun ds => Aa rfl (Bh Cc (Bb rfl <| Ba rfl <| Al rfl <| Ac) rfl rfl (Bm 1 rfl)) ?_
  refine Aa rfl (Ag (Ba rfl <| Al rfl <| Ac)) ?_
  refine Bl rfl (Cs bd_19 Az (.cons (Al rfl <| Ac) (.cons (Ac) .nil)) ((sellTop_ok hr hx).mono fun u F2 _ h => (by rw [sellE_ok (enterN_ring h0)] at h; exact h : ∃ w, u = .tuple #[w, .int .i64 0] ∧ Sl F2 w 2 Res.enc (allS s (castL (ringN s ka))))) fun v15 F16 hr17 hF18 => ?_)
  replace hr := hr.mono hF18
  replace hx2 := hx2.mono hF18
  replace hq1 := hq1.mono hF18
  obtain ⟨hq2_, rfl, hq2⟩ := hr17
  refine Aa rfl (Ag (Ac)) ?_
  refine Aa rfl (Ay (Ac) rfl) ?_
  refine Aa rfl (Ay (Al rfl <| Ac) rfl) ?_
  refine Aa rfl (Ad (Al rfl <| Ac)) ?_
  refine Aa rfl (Ad (Al rfl <| Ac)) ?_
  refine Ah <| Ae <| Af <| Ai fun ds => Aa rfl (Bh Cc (Bs rfl <| Al rfl <| Ac) rfl rfl (Bm 1 rfl)) ?_
  refine Aa rfl (Ag (Bb rfl <| Ac)) ?_
  refine Bl rfl (Cs bd_19 Az (.cons (Al rfl <| Ac) (.cons (Ac) .nil)) ((sellTop_ok hr hx2).mono fun u F2 _ h => (by rw [sellE_ok (enterN_ring h0)] at h; exact h : ∃ w, u = .tuple #[w, .int .i64 0] ∧ Sl F2 w 2 Res.enc (allS s (castL (ringN s (ka ||| kb)))))) fun v19 F20 hr21 hF22 => ?_)
  replace hr := hr.mono hF22
  replace hx2 := hx2.mono hF22
  replace hq1 := hq1.mono hF22
  replace hq2 := hq2.mono hF22
  obtain ⟨hq3_, rfl, hq3⟩ := hr21
  refine Aa rfl (Ag (Ac)) ?_
  refine Aa rfl (Ay (Ac) rfl) ?_
  refine Aa rfl (Ay (Al rfl <| Ac) rfl) ?_
  refine Aa rfl (Ad (Al rfl <| Ac)) ?_
  refine Aa rfl (Ad (Al rfl <| Ac)) ?_
  refine Ah <| Ae <| Af <| Af <| Ai fun ds => Aa rfl (Ag (Bb rfl <| Ac)) ?_
  refine Aa rfl (B3 (Ac) Ab) ?_
  refine Aa rfl (Ag (Ac)) ?_
  refine Ar rfl rfl (Ac) (by first | rfl | decide) ?_
  refine Aa rfl (Ag (Ba rfl <| Ap rfl <| Al rfl <| Ac)) ?_
  refine Ar rfl rfl (Al rfl <| Ac) (by first | rfl | decide) ?_
  refine Aa rfl (B3 (Ac) Ab) ?_
  refine Aa rfl (A6 (Ap rfl <| Ac) (by first | rfl | decide) (Ac)) ?_
  refine Aa rfl (Ag (Ac)) ?_
  refine Ar rfl rfl (Ac) (by first | rfl | decide) ?_
  refine Aa rfl (Ag (A0 rfl <| Ap rfl <| Al rfl <| Ac)) ?_
  refine Ar rfl rfl (Al rfl <| Ac) (by first | rfl | decide) ?_
  refine Aa rfl (B3 (Ac) Ab) ?_
  refine Aa rfl (A6 (Ap rfl <| Ac) (by first | rfl | decide) (Ac)) ?_
  refine Aa rfl (Ag (Ac)) ?_
  refine Ar rfl rfl (Ac) (by first | rfl | decide) ?_
  refine Aa rfl (Ag (Bb rfl <| Ba rfl <| A0 rfl <| Ac)) ?_
  refine Ar rfl rfl (Al rfl <| Ac) (by first | rfl | decide) ?_
  refine Aa rfl (Be Ct (Ac) hq1.plain) ?_
  refine Ar rfl rfl (Ap rfl <| Ac) (by first | rfl | decide) ?_
  refine Aa rfl (Aj Cx (Bs rfl <| Bb rfl <| A0 rfl <| Ap rfl <| Ac)) ?_
  refine Ar rfl rfl (Ap rfl <| Al rfl <| Ac) (by first | rfl | decide) ?_
  refine Aa rfl (Aq C8 (Ac) (Cell.own 1 rfl rfl)) ?_
  refine Ar rfl rfl (A0 rfl <| Ac) (by first | rfl | decide) ?_
  refine Aa rfl (Be C6 (Ac) hr.lots.plain) ?_
  refine Ar rfl rfl (A0 rfl <| Al rfl <| Ac) (by first | rfl | decide) ?_
  refine Aa rfl (B3 (Ap rfl <| Al rfl <| Ac) (Ac)) ?_
  refine Aa rfl (A6 (A0 rfl <| Ap rfl <| Ac) (by first | rfl | decide) (Ac)) ?_
  refine Aa rfl (Ag (Ac)) ?_
  refine Ar rfl rfl (Ac) (decide_eq_false (by omega)) ?_
  refine Aa rfl (Ag (Bb rfl <| Ba rfl <| A0 rfl <| Ac)) ?_
  refine Ar rfl rfl (Al rfl <| Ac) (decide_eq_false (by omega)) ?_
  refine Aa rfl (Be Ct (Ac) hq2.plain) ?_
  refine Ar rfl rfl (Ap rfl <| Ac) (decide_eq_false (by omega)) ?_
  refine Aa rfl (Ag (Bs rfl <| A0 rfl <| Ap rfl <| Ac)) ?_
  refine Ar rfl rfl (Ap rfl <| Al rfl <| Ac) (decide_eq_false (by omega)) ?_
  refine Aa rfl (Be Ct (Ac) hq1.plain) ?_
  refine Ar rfl rfl (A0 rfl <| Ac) (decide_eq_false (by omega)) ?_
  refine Aa rfl (B3 (Ap rfl <| Ac) (Ac)) ?_
  refine Aa rfl (A6 (A0 rfl <| Al rfl <| Ac) (decide_eq_false (by omega)) (Ac)) ?_
  refine Aa rfl (Ag (Ac)) ?_
  refine Ar rfl rfl (Ac) (decide_eq_false (by omega)) ?_
  refine Aa rfl (Ag (Bb rfl <| Ba rfl <| Ap rfl <| Al rfl <| Ac)) ?_
  refine Ar rfl rfl (Al rfl <| Ac) (decide_eq_false (by omega)) ?_
  refine Aa rfl (Be Ct (Ac) hq3.plain) ?_
  refine Ar rfl rfl (Ap rfl <| Ac) (decide_eq_false (by omega)) ?_
  refine Aa rfl (Ag (Bs rfl <| Ba rfl <| A0 rfl <| Al rfl <| Ac)) ?_
  refine Ar rfl rfl (Ap rfl <| Al rfl <| Ac) (decide_eq_false (by omega)) ?_
  refine Aa rfl (Be Ct (Ac) hq1.plain) ?_
  refine Ar rfl rfl (A0 rfl <| Ac) (decide_eq_false (by omega)) ?_
  refine Aa rfl (B3 (Ap rfl <| Ac) (Ac)) ?_
  refine Aa rfl (A6 (A0 rfl <| Al rfl <| Ac) (decide_eq_false (by omega)) (Ac)) ?_
  refine Ah <| Ae <| Am (Ac) (decide_eq_false (by omega)) ?_
  refine Ax <| Ae <| Af <| Af <| Ai fun ds => Aa rfl (Ad Ab) ?_
  refine Ah <| Ae <| A1 <| B1 [4, 13, 87, 88, 89, 90, 91, 92, 93, 94, 95, 96, 97, 98, 99, 100, 101, 102, 103, 104, 105, 106, 107, 108, 109, 110, 111, 112, 113, 114, 115, 116, 117, 118, 119, 120, 121, 122, 123, 124, 125, 126, 127, 128, 129, 130, 131, 132, 133, 134, 135, 136, 137, 138, 139, 140, 141, 142] (fun m e σ => ∃ k : Nat, m + k = (allS s []).length ∧ e 13 = .int .i64 (k : Int) ∧ σ = ⟨F20, [(b2, bx 74 [.int .u8 (ka : Int), .int .u8 (kb : Int)]), (b1, bx 27 [vs, .int .i64 s.premium, .int .i64 s.fee, .int .i64 s.days, vb, vl, vn, vd])]⟩) ((allS s []).length) ?_ ?_
  · exact ⟨0, by omega, (Ac), rfl⟩
  ·
   rintro m e _ ⟨k, hm, hs13, rfl⟩
   by_cases hlt : k < (allS s []).length
   ·
    have hk1 : k < s.lots.length := by rw [Dd] at hlt; exact hlt
    have hl2 : k < (allS s (castL (ringN s ka))).length := by rw [Dd]; exact hk1
    have hl3 : k < (allS s (castL (ringN s (ka ||| kb)))).length := by rw [Dd]; exact hk1
    have e1 := allS_at hlt
    have e2 := allS_at hl2
    have e3 := allS_at hl3
    have f1 := sold_more hv hk1 hsub1
    have f2 := sold_more hv hk1 (ring_more (s := s) (a := ka) (b := kb))
    rw [← e1, ← e2] at f1
    rw [← e2, ← e3] at f2
    refine Af <| Af <| Ai fun ds => Aa rfl (Ag (Au rfl hs13)) ?_
    refine Aa rfl (Ag (Al rfl <| Ao rfl <| Bs rfl <| Bb rfl <| Ap rfl <| Ac)) ?_
    refine Aa rfl (Be Ct (Ac) hq1.plain) ?_
    refine Aa rfl (Bx (Ap rfl <| Ac) (Ac)) ?_
    refine Ah <| Ae <| As (Ac) (by first | rfl | exact decide_eq_true (by omega)) ?_
    refine Ax <| Ae <| Af <| A1 <| Af <| Cl (.inl rfl) (fun _ _ h => h) (by kernel_rfl) (by kernel_rfl) fun ds => ?_
    refine A4 rfl (Ag (A0 rfl <| Ao rfl <| Bs rfl <| Ba rfl <| Ap rfl <| Ac)) ?_
    refine A4 rfl (Ag (A0 rfl <| Al rfl <| Au rfl hs13)) ?_
    refine A4 rfl (Bg  Ct (Al rfl <| Ac) hq2.plain (Ac) rfl hl2) ?_
    refine A4 rfl (B4 Em (Ac)) ?_
    refine A4 rfl (Aq Bf (Ac) (hq2.cell hl2 rfl)) ?_
    refine A4 rfl (Ag (Ba rfl <| Al rfl <| Ao rfl <| Bs rfl <| Bb rfl <| Ap rfl <| Ac)) ?_
    refine A4 rfl (Ag (Ba rfl <| Ap rfl <| Au rfl hs13)) ?_
    refine A4 rfl (Bg  Ct (Al rfl <| Ac) hq1.plain (Ac) rfl hlt) ?_
    refine A4 rfl (B4 Em (Ac)) ?_
    refine A4 rfl (Aq Bf (Ac) (hq1.cell hlt rfl)) ?_
    refine A4 rfl (B3 (A0 rfl <| Al rfl <| Ac) (Ac)) ?_
    refine A4 rfl (Ag (Ac)) ?_
    refine A7 rfl rfl (Ac) (decide_eq_false (by have := f1.1; have := f2.1; omega)) ?_
    refine A4 rfl (Ag (Bb rfl <| Ao rfl <| Bs rfl <| Ap rfl <| Ac)) ?_
    refine A7 rfl rfl (Al rfl <| Ac) (decide_eq_false (by have := f1.1; have := f2.1; omega)) ?_
    refine A4 rfl (Ag (Bb rfl <| Al rfl <| Au rfl hs13)) ?_
    refine A7 rfl rfl (Ap rfl <| Ac) (decide_eq_false (by have := f1.1; have := f2.1; omega)) ?_
    refine A4 rfl (Bg  Ct (Al rfl <| Ac) hq3.plain (Ac) rfl hl3) ?_
    refine A7 rfl rfl (Ap rfl <| Al rfl <| Ac) (decide_eq_false (by have := f1.1; have := f2.1; omega)) ?_
    refine A4 rfl (B4 Em (Ac)) ?_
    refine A7 rfl rfl (A0 rfl <| Ac) (decide_eq_false (by have := f1.1; have := f2.1; omega)) ?_
    refine A4 rfl (Aq Bf (Ac) (hq3.cell hl3 rfl)) ?_
    refine A7 rfl rfl (A0 rfl <| Al rfl <| Ac) (decide_eq_false (by have := f1.1; have := f2.1; omega)) ?_
    refine A4 rfl (Ag (Bb rfl <| A0 rfl <| Al rfl <| Ao rfl <| Bs rfl <| Bb rfl <| Ap rfl <| Ac)) ?_
    refine A7 rfl rfl (A0 rfl <| Ap rfl <| Ac) (decide_eq_false (by have := f1.1; have := f2.1; omega)) ?_
    refine A4 rfl (Ag (Bb rfl <| A0 rfl <| Ap rfl <| Au rfl hs13)) ?_
    refine A7 rfl rfl (A0 rfl <| Ap rfl <| Al rfl <| Ac) (decide_eq_false (by have := f1.1; have := f2.1; omega)) ?_
    refine A4 rfl (Bg  Ct (Al rfl <| Ac) hq1.plain (Ac) rfl hlt) ?_
    refine A7 rfl rfl (Ba rfl <| Ac) (decide_eq_false (by have := f1.1; have := f2.1; omega)) ?_
    refine A4 rfl (B4 Em (Ac)) ?_
    refine A7 rfl rfl (Ba rfl <| Al rfl <| Ac) (decide_eq_false (by have := f1.1; have := f2.1; omega)) ?_
    refine A4 rfl (Aq Bf (Ac) (hq1.cell hlt rfl)) ?_
    refine A7 rfl rfl (Ba rfl <| Ap rfl <| Ac) (decide_eq_false (by have := f1.1; have := f2.1; omega)) ?_
    refine A4 rfl (B3 (A0 rfl <| Al rfl <| Ac) (Ac)) ?_
    refine A4 rfl (A6 (Ba rfl <| Ap rfl <| Al rfl <| Ac) (decide_eq_false (by have := f1.1; have := f2.1; omega)) (Ac)) ?_
    refine A4 rfl (Ag (Ac)) ?_
    refine A7 rfl rfl (Ac) (decide_eq_false (by have := f1.1; have := f2.1; omega)) ?_
    refine A4 rfl (Ag (Bb rfl <| Ba rfl <| A0 rfl <| Al rfl <| Ao rfl <| Bs rfl <| Ba rfl <| Ap rfl <| Ac)) ?_
    refine A7 rfl rfl (Al rfl <| Ac) (decide_eq_false (by have := f1.1; have := f2.1; omega)) ?_
    refine A4 rfl (Ag (Bb rfl <| Ba rfl <| A0 rfl <| Ap rfl <| Au rfl hs13)) ?_
    refine A7 rfl rfl (Ap rfl <| Ac) (decide_eq_false (by have := f1.1; have := f2.1; omega)) ?_
    refine A4 rfl (Bg  Ct (Al rfl <| Ac) hq2.plain (Ac) rfl hl2) ?_
    refine A7 rfl rfl (Ap rfl <| Al rfl <| Ac) (decide_eq_false (by have := f1.1; have := f2.1; omega)) ?_
    refine A4 rfl (B4 El (Ac)) ?_
    refine A7 rfl rfl (A0 rfl <| Ac) (decide_eq_false (by have := f1.1; have := f2.1; omega)) ?_
    refine A4 rfl (Aq Bf (Ac) (hq2.cell hl2 rfl)) ?_
    refine A7 rfl rfl (A0 rfl <| Al rfl <| Ac) (decide_eq_false (by have := f1.1; have := f2.1; omega)) ?_
    refine A4 rfl (Ag (Bs rfl <| Ap rfl <| Ao rfl <| Bs rfl <| Bb rfl <| Ap rfl <| Ac)) ?_
    refine A7 rfl rfl (A0 rfl <| Ap rfl <| Ac) (decide_eq_false (by have := f1.1; have := f2.1; omega)) ?_
    refine A4 rfl (Ag (Bs rfl <| Ap rfl <| Al rfl <| Au rfl hs13)) ?_
    refine A7 rfl rfl (A0 rfl <| Ap rfl <| Al rfl <| Ac) (decide_eq_false (by have := f1.1; have := f2.1; omega)) ?_
    refine A4 rfl (Bg  Ct (Al rfl <| Ac) hq1.plain (Ac) rfl hlt) ?_
    refine A7 rfl rfl (Ba rfl <| Ac) (decide_eq_false (by have := f1.1; have := f2.1; omega)) ?_
    refine A4 rfl (B4 El (Ac)) ?_
    refine A7 rfl rfl (Ba rfl <| Al rfl <| Ac) (decide_eq_false (by have := f1.1; have := f2.1; omega)) ?_
    refine A4 rfl (Aq Bf (Ac) (hq1.cell hlt rfl)) ?_
    refine A7 rfl rfl (Ba rfl <| Ap rfl <| Ac) (decide_eq_false (by have := f1.1; have := f2.1; omega)) ?_
    refine A4 rfl (Ci (A0 rfl <| Al rfl <| Ac) (Ac)) ?_
    refine A4 rfl (A6 (Ba rfl <| Ap rfl <| Al rfl <| Ac) (decide_eq_false (by have := f1.1; have := f2.1; omega)) (Ac)) ?_
    refine A4 rfl (Ag (Ac)) ?_
    refine A7 rfl rfl (Ac) (decide_eq_false (by have := f1.2; have := f2.2; omega)) ?_
    refine A4 rfl (Ag (Bs rfl <| Ba rfl <| Ap rfl <| Ao rfl <| Bs rfl <| Ap rfl <| Ac)) ?_
    refine A7 rfl rfl (Al rfl <| Ac) (decide_eq_false (by have := f1.2; have := f2.2; omega)) ?_
    refine A4 rfl (Ag (Bs rfl <| Ba rfl <| Ap rfl <| Al rfl <| Au rfl hs13)) ?_
    refine A7 rfl rfl (Ap rfl <| Ac) (decide_eq_false (by have := f1.2; have := f2.2; omega)) ?_
    refine A4 rfl (Bg  Ct (Al rfl <| Ac) hq3.plain (Ac) rfl hl3) ?_
    refine A7 rfl rfl (Ap rfl <| Al rfl <| Ac) (decide_eq_false (by have := f1.2; have := f2.2; omega)) ?_
    refine A4 rfl (B4 El (Ac)) ?_
    refine A7 rfl rfl (A0 rfl <| Ac) (decide_eq_false (by have := f1.2; have := f2.2; omega)) ?_
    refine A4 rfl (Aq Bf (Ac) (hq3.cell hl3 rfl)) ?_
    refine A7 rfl rfl (A0 rfl <| Al rfl <| Ac) (decide_eq_false (by have := f1.2; have := f2.2; omega)) ?_
    refine A4 rfl (Ag (Bs rfl <| Ba rfl <| A0 rfl <| Ap rfl <| Al rfl <| Ao rfl <| Bs rfl <| Ba rfl <| Ap rfl <| Ac)) ?_
    refine A7 rfl rfl (A0 rfl <| Ap rfl <| Ac) (decide_eq_false (by have := f1.2; have := f2.2; omega)) ?_
    refine A4 rfl (Ag (Bs rfl <| Bb rfl <| Au rfl hs13)) ?_
    refine A7 rfl rfl (A0 rfl <| Ap rfl <| Al rfl <| Ac) (decide_eq_false (by have := f1.2; have := f2.2; omega)) ?_
    refine A4 rfl (Bg  Ct (Al rfl <| Ac) hq2.plain (Ac) rfl hl2) ?_
    refine A7 rfl rfl (Ba rfl <| Ac) (decide_eq_false (by have := f1.2; have := f2.2; omega)) ?_
    refine A4 rfl (B4 El (Ac)) ?_
    refine A7 rfl rfl (Ba rfl <| Al rfl <| Ac) (decide_eq_false (by have := f1.2; have := f2.2; omega)) ?_
    refine A4 rfl (Aq Bf (Ac) (hq2.cell hl2 rfl)) ?_
    refine A7 rfl rfl (Ba rfl <| Ap rfl <| Ac) (decide_eq_false (by have := f1.2; have := f2.2; omega)) ?_
    refine A4 rfl (Ci (A0 rfl <| Al rfl <| Ac) (Ac)) ?_
    refine A4 rfl (A6 (Ba rfl <| Ap rfl <| Al rfl <| Ac) (decide_eq_false (by have := f1.2; have := f2.2; omega)) (Ac)) ?_
    refine Co ?_
    refine Ae <| Am (Ac) (decide_eq_false (by have := f1.2; have := f2.2; omega)) ?_
    refine Ax <| Bi <| Ae <| Ai fun ds => Aa rfl (Ag (Bs rfl <| Bb rfl <| A0 rfl <| Ap rfl <| Au rfl hs13)) ?_
    refine Aa rfl (B2 (Ac) Ab rfl (by omega) (by omega)) ?_
    refine Aa rfl (Ad (Ac)) ?_
    refine Ah <| Ae ⟨_, m - 1, Off.eq (ou32 rfl <| C5 rfl <| Eh rfl <| Eu rfl <| Bj), by omega, ?_⟩
    exact ⟨k + 1, by omega, (Ac), rfl⟩
   ·
    refine Af <| Af <| Ai fun ds => Aa rfl (Ag (Au rfl hs13)) ?_
    refine Aa rfl (Ag (Al rfl <| Ao rfl <| Bs rfl <| Bb rfl <| Ap rfl <| Ac)) ?_
    refine Aa rfl (Be Ct (Ac) hq1.plain) ?_
    refine Aa rfl (Bx (Ap rfl <| Ac) (Ac)) ?_
    refine Ah <| Ae <| Am (Ac) (by first | rfl | exact decide_eq_false (by omega)) ?_
    have hp9 : ((List.range s.bidders.length).map (fun b => payTo s ([]) [] b s.lots.length)).length = s.bidders.length := by simp
    have hp8 : ((List.range s.bidders.length).map (fun b => payTo s (castL (ringN s (ka ||| kb))) [] b s.lots.length)).length = s.bidders.length := by simp
    have hL3 := hr.bidders.plain.lt
    refine Bv ?_
    refine Bk <| Bk <| Bn <| Ae <| Af <| Ai fun ds => Aa rfl (Bh Cc (A0 rfl <| Ao rfl <| Bs rfl <| Bs rfl <| Ba rfl <| Ap rfl <| Ac) rfl rfl (Bm 1 rfl)) ?_
    refine Bl rfl (Cs bd_23 Az (.cons (Ac) (.cons Ab (.cons Ab .nil))) ((account_ok hr Sl.nil Sl.nil).mono fun u F2 _ h => (by rw [acc_nil (enterN_nil h0)] at h; exact h : ∃ w w2, u = .tuple #[w, w2, .int .i64 (houseTo s ([]) [] s.lots.length), .int .i64 0] ∧ Ints F2 w ((List.range s.bidders.length).map (fun b => payTo s ([]) [] b s.lots.length)) ∧ Ints F2 w2 ((List.range s.sellers.length).map (fun c => getTo s ([]) [] c s.lots.length)))) fun v24 F25 hr26 hF27 => ?_)
    replace hr := hr.mono hF27
    replace hx2 := hx2.mono hF27
    obtain ⟨hp1_, hp2_, rfl, hp1, hp2⟩ := hr26
    refine Aa rfl (Ag (Ac)) ?_
    refine Aa rfl (Ay (Ac) rfl) ?_
    refine Aa rfl (Ay (Al rfl <| Ac) rfl) ?_
    refine Aa rfl (Ay (Ap rfl <| Ac) rfl) ?_
    refine Aa rfl (Ay (Ap rfl <| Al rfl <| Ac) rfl) ?_
    refine Aa rfl (Ad (Ap rfl <| Al rfl <| Ac)) ?_
    refine Aa rfl (Ad (Ap rfl <| Al rfl <| Ac)) ?_
    refine Aa rfl (Ad (Ap rfl <| Al rfl <| Ac)) ?_
    refine Aa rfl (Ad (Ap rfl <| Al rfl <| Ac)) ?_
    refine Ah <| Ae <| Af <| Ai fun ds => Aa rfl (Bh Cc (Ba rfl <| A0 rfl <| Ap rfl <| Al rfl <| Ao rfl <| Bs rfl <| Bs rfl <| Ba rfl <| Ap rfl <| Ac) rfl rfl (Bm 1 rfl)) ?_
    refine Aa rfl (Ag (Bb rfl <| Ao rfl <| Bs rfl <| Bb rfl <| Ba rfl <| Ac)) ?_
    refine Bl rfl (Cs bd_23 Az (.cons (Al rfl <| Ac) (.cons (Ac) (.cons Ab .nil))) ((account_ok hr hx2 Sl.nil).mono fun u F2 _ h => (by rw [acc_nil (enterN_ring h0)] at h; exact h : ∃ w w2, u = .tuple #[w, w2, .int .i64 (houseTo s (castL (ringN s (ka ||| kb))) [] s.lots.length), .int .i64 0] ∧ Ints F2 w ((List.range s.bidders.length).map (fun b => payTo s (castL (ringN s (ka ||| kb))) [] b s.lots.length)) ∧ Ints F2 w2 ((List.range s.sellers.length).map (fun c => getTo s (castL (ringN s (ka ||| kb))) [] c s.lots.length)))) fun v28 F29 hr30 hF31 => ?_)
    replace hr := hr.mono hF31
    replace hp1 := hp1.mono hF31
    obtain ⟨hp3_, hp4_, rfl, hp3, hp4⟩ := hr30
    refine Aa rfl (Ag (Ac)) ?_
    refine Aa rfl (Ay (Ac) rfl) ?_
    refine Aa rfl (Ay (Al rfl <| Ac) rfl) ?_
    refine Aa rfl (Ay (Ap rfl <| Ac) rfl) ?_
    refine Aa rfl (Ay (Ap rfl <| Al rfl <| Ac) rfl) ?_
    refine Aa rfl (Ad (Ap rfl <| Al rfl <| Ac)) ?_
    refine Aa rfl (Ad (Ap rfl <| Al rfl <| Ac)) ?_
    refine Aa rfl (Ad (Ap rfl <| Al rfl <| Ac)) ?_
    refine Aa rfl (Ad (Ap rfl <| Al rfl <| Ac)) ?_
    refine Ah <| Ae <| Af <| Af <| Ai fun ds => Aa rfl (Ag (Ba rfl <| A0 rfl <| Ac)) ?_
    refine Aa rfl (B3 (Ac) Ab) ?_
    refine Aa rfl (Ag (Ac)) ?_
    refine Ar rfl rfl (Ac) (by first | rfl | decide) ?_
    refine Aa rfl (Ag (Ap rfl <| Al rfl <| Ac)) ?_
    refine Ar rfl rfl (Al rfl <| Ac) (by first | rfl | decide) ?_
    refine Aa rfl (B3 (Ac) Ab) ?_
    refine Aa rfl (A6 (Ap rfl <| Ac) (by first | rfl | decide) (Ac)) ?_
    refine Aa rfl (Ag (Ac)) ?_
    refine Ar rfl rfl (Ac) (by first | rfl | decide) ?_
    refine Aa rfl (Ag (Bb rfl <| A0 rfl <| Ap rfl <| Ac)) ?_
    refine Ar rfl rfl (Al rfl <| Ac) (by first | rfl | decide) ?_
    refine Aa rfl (Be Bq (Ac) hp1.plain) ?_
    refine Ar rfl rfl (Ap rfl <| Ac) (by first | rfl | decide) ?_
    refine Aa rfl (Aj Cy (Bs rfl <| A0 rfl <| Ao rfl <| Bs rfl <| Bs rfl <| Ba rfl <| Ap rfl <| Ac)) ?_
    refine Ar rfl rfl (Ap rfl <| Al rfl <| Ac) (by first | rfl | decide) ?_
    refine Aa rfl (Aq Cn (Ac) (Cell.own 1 rfl rfl)) ?_
    refine Ar rfl rfl (A0 rfl <| Ac) (by first | rfl | decide) ?_
    refine Aa rfl (Be Cm (Ac) hr.bidders.plain) ?_
    refine Ar rfl rfl (A0 rfl <| Al rfl <| Ac) (by first | rfl | decide) ?_
    refine Aa rfl (B3 (Ap rfl <| Al rfl <| Ac) (Ac)) ?_
    refine Aa rfl (A6 (A0 rfl <| Ap rfl <| Ac) (by first | rfl | decide) (Ac)) ?_
    refine Aa rfl (Ag (Ac)) ?_
    refine Ar rfl rfl (Ac) (decide_eq_false (by omega)) ?_
    refine Aa rfl (Ag (Bb rfl <| Ap rfl <| Ac)) ?_
    refine Ar rfl rfl (Al rfl <| Ac) (decide_eq_false (by omega)) ?_
    refine Aa rfl (Be Bq (Ac) hp3.plain) ?_
    refine Ar rfl rfl (Ap rfl <| Ac) (decide_eq_false (by omega)) ?_
    refine Aa rfl (Ag (Bs rfl <| Ac)) ?_
    refine Ar rfl rfl (Ap rfl <| Al rfl <| Ac) (decide_eq_false (by omega)) ?_
    refine Aa rfl (Be Bq (Ac) hp1.plain) ?_
    refine Ar rfl rfl (A0 rfl <| Ac) (decide_eq_false (by omega)) ?_
    refine Aa rfl (B3 (Ap rfl <| Ac) (Ac)) ?_
    refine Aa rfl (A6 (A0 rfl <| Al rfl <| Ac) (decide_eq_false (by omega)) (Ac)) ?_
    refine Ah <| Ae <| Am (Ac) (decide_eq_false (by omega)) ?_
    refine Ax <| Ae <| Af <| Af <| Ai fun ds => Aa rfl (Ad Ab) ?_
    refine Ah <| Ae <| A1 <| B1 [4, 22, 179, 180, 181, 182, 183, 184, 185, 186, 187, 188, 189, 190, 191, 192, 193] (fun m e σ => ∃ k : Nat, m + k = ((List.range s.bidders.length).map (fun b => payTo s ([]) [] b s.lots.length)).length ∧ e 22 = .int .i64 (k : Int) ∧ σ = ⟨F29, [(b2, bx 74 [.int .u8 (ka : Int), .int .u8 (kb : Int)]), (b1, bx 27 [vs, .int .i64 s.premium, .int .i64 s.fee, .int .i64 s.days, vb, vl, vn, vd])]⟩) (((List.range s.bidders.length).map (fun b => payTo s ([]) [] b s.lots.length)).length) ?_ ?_
    · exact ⟨0, by omega, (Ac), rfl⟩
    ·
     rintro m e _ ⟨k, hm, hs22, rfl⟩
     by_cases hlt : k < ((List.range s.bidders.length).map (fun b => payTo s ([]) [] b s.lots.length)).length
     ·
      have hl3 : k < ((List.range s.bidders.length).map (fun b => payTo s (castL (ringN s (ka ||| kb))) [] b s.lots.length)).length := by simpa using hlt
      have hk1 : k < s.bidders.length := by simpa using hlt
      have hle : ((List.range s.bidders.length).map (fun b => payTo s (castL (ringN s (ka ||| kb))) [] b s.lots.length))[k] ≤ ((List.range s.bidders.length).map (fun b => payTo s ([]) [] b s.lots.length))[k] := by simp only [List.getElem_map, List.getElem_range]; exact pay_less hv hsub _ (Nat.le_refl _)
      refine Af <| Af <| Ai fun ds => Aa rfl (Ag (Au rfl hs22)) ?_
      refine Aa rfl (Ag (Al rfl <| Ao rfl <| Bs rfl <| A0 rfl <| Al rfl <| Ac)) ?_
      refine Aa rfl (Be Bq (Ac) hp1.plain) ?_
      refine Aa rfl (Bx (Ap rfl <| Ac) (Ac)) ?_
      refine Ah <| Ae <| As (Ac) (by first | rfl | exact decide_eq_true (by omega)) ?_
      refine Ax <| Ae <| Af <| A1 <| Af <| Cl (.inl rfl) (fun _ _ h => h) (by kernel_rfl) (by kernel_rfl) fun ds => ?_
      refine A4 rfl (Ag (A0 rfl <| Ao rfl <| Bb rfl <| Ba rfl <| Al rfl <| Ac)) ?_
      refine A4 rfl (Ag (A0 rfl <| Al rfl <| Au rfl hs22)) ?_
      refine A4 rfl (Bg  Bq (Al rfl <| Ac) hp3.plain (Ac) rfl hl3) ?_
      refine A4 rfl (Aq Bf (Ac) (hp3.cell1 hl3 rfl)) ?_
      refine A4 rfl (Ag (Ba rfl <| Ao rfl <| Bs rfl <| A0 rfl <| Al rfl <| Ac)) ?_
      refine A4 rfl (Ag (Ba rfl <| Al rfl <| Au rfl hs22)) ?_
      refine A4 rfl (Bg  Bq (Al rfl <| Ac) hp1.plain (Ac) rfl hlt) ?_
      refine A4 rfl (Aq Bf (Ac) (hp1.cell1 hlt rfl)) ?_
      refine A4 rfl (Ci (A0 rfl <| Ac) (Ac)) ?_
      refine Co ?_
      refine Ae <| Am (Ac) (decide_eq_false (by omega)) ?_
      refine Ax <| Bi <| Ae <| Ai fun ds => Aa rfl (Ag (Ba rfl <| A0 rfl <| Al rfl <| Au rfl hs22)) ?_
      refine Aa rfl (B2 (Ac) Ab rfl (by omega) (by omega)) ?_
      refine Aa rfl (Ad (Ac)) ?_
      refine Ah <| Ae ⟨_, m - 1, Off.eq (C5 rfl <| Bj), by omega, ?_⟩
      exact ⟨k + 1, by omega, (Ac), rfl⟩
     ·
      refine Af <| Af <| Ai fun ds => Aa rfl (Ag (Au rfl hs22)) ?_
      refine Aa rfl (Ag (Al rfl <| Ao rfl <| Bs rfl <| A0 rfl <| Al rfl <| Ac)) ?_
      refine Aa rfl (Be Bq (Ac) hp1.plain) ?_
      refine Aa rfl (Bx (Ap rfl <| Ac) (Ac)) ?_
      refine Ah <| Ae <| Am (Ac) (by first | rfl | exact decide_eq_false (by omega)) ?_
      refine Bv ?_
      refine Bk <| Bk <| Bn <| Ae <| Af <| Ai fun ds => Bu rfl (A8 bd_22 Az .nil awake_ok (fun _ _ h => h)) ?_
      refine Aa rfl (Ad (Ac)) ?_
      refine Ah <| Ae <| A2 <| Aw rfl (.tmp (Ac) .nil) ?_
      rfl
 ·
  refine Af <| Ai fun ds => Bl rfl (Cd (Ak rfl) rfl fun b33 hb33 nb33 => ?_)
  refine Bl rfl (Cd (Al rfl <| Ak rfl) rfl fun b34 hb34 nb34 => ?_)
  refine Aa rfl (Ad Ab) ?_
  refine Ah <| Ae <| Af <| Af <| Ai fun ds => Aa rfl (Bh Cc (Ap rfl <| Ac) rfl rfl (Bm 1 rfl)) ?_
  refine Bu rfl (A8 bd_38 Az (.cons (Ac) .nil) (valid_ok hr) (fun _ _ h => h)) ?_
  refine Aa rfl (Cw (Ac)) ?_
  refine Ah <| Ae <| As (Ac) (by simp [h0]) ?_
  refine Af <| Ai fun ds => Bu rfl (A8 bd_22 Az .nil awake_ok (fun _ _ h => h)) ?_
  refine Aa rfl (Ad (Ac)) ?_
  refine Ah <| Ae <| A2 <| A3 ?_
  refine Aw rfl (.tmp (Ac) .nil) ?_
  rfl
end Go.Proofs.Ytaikojfonleccaa
namespace Go.Proofs.Ytaikojfonleccaa
open Go.ChangeShapes Go.WideShapes Go.ChangeAt Go.RowKit
set_option maxRecDepth 100000 in
theorem saleSilentLifted (os : Os) (started : os.Started) (H : Type) (enc : TypeId × Value → H) :
   ReturnsInHanded {} Try.checked os 8 .any (Rows.saleSilentSpec.pre6 enc Try.prog Try.f8 Rows.saleSilentRow.domain false) (Rows.saleSilentSpec.post enc Try.prog Try.f8 false true false false) := by
 refine returnsInHanded_of_change_sized (C := Try.checked) ownKnob0 started (by kernel_rfl) Try.func8
   (ChangeSpec.witness6 (enc := enc) (C := Try.checked) false ⟨#[], #[.agg #[.slice none 0 0, .int .i64 0, .int .i64 0, .int .i64 0, .slice none 0 0, .slice none 0 0, .slice none 0 0, .slice none 0 0], .agg #[.int .u8 0, .int .u8 0]], []⟩ 8 (by kernel_rfl) (by kernel_rfl) (by kernel_rfl) (by kernel_rfl)) ?_
 intro W base args ds gs before hval0 hW hcnd hsz _
 have hval : ∀ (j : Nat) t v, Try.f8.params[j]? = some t → args[j]? = some v → Value.okWide Try.prog W .any base t v := hval0
 have hW' := hW
 obtain ⟨p, q, hA0, hV, rfl, hfz, hnd⟩ := hW
 have hA : DataW.TrodAll enc Try.prog W 0 (fun _ => true) true Try.f8.params.toList args.toList ds p := hA0
 rw [Try.params8] at hA hval
 obtain ⟨v0, vs0, d0, ds0, p0, q0, hargs, rfl, rfl, h0, r0⟩ := trodAll_cons hA
 obtain ⟨v1, vs1, d1, ds1, p1, q1, rfl, rfl, rfl, h1, r1⟩ := trodAll_cons r0
 obtain ⟨rfl, rfl, rfl⟩ := trodAll_nil r1
 obtain rfl : args = #[v0, v1] := by cases args; simp_all
 obtain ⟨rfl, rfl⟩ := trodVars_none hV
 have hsz' : (DataW.weightsEach Try.prog (Try.f8.params.toList ++ []) ([d0, d1] ++ [])).all (· ≤ reachBytes) = true := hsz
 rw [Try.params8] at hsz'
 have k0 := h0
 have lt0 : ∀ x ∈ p0, x.block < W.heap.size := by obtain ⟨m, hm⟩ := k0; exact DataW.trod_lt m _ _ _ hm
 have k1 := h1
 have lt1 : ∀ x ∈ p1, x.block < W.heap.size := by obtain ⟨m, hm⟩ := k1; exact DataW.trod_lt m _ _ _ hm
 obtain ⟨vs, vb, vl, vn, vd, s, rfl, hr⟩ := arg_sale (hval 0 27 v0 rfl rfl) h0 (weights_at hsz' (j := 0) rfl rfl)
 obtain ⟨ka, kb, rfl, hka, hkb⟩ := arg_bits (hval 1 74 v1 rfl rfl) h1 (weights_at hsz' (j := 1) rfl rfl)
 clear hA0 hval0
 refine (Ok.law (silentLaw_ok hr hka hkb)).mono fun e W' ⟨he, bel⟩ => ?_
 subst he
 exact ⟨_, rfl, _, _, _, [], _, [], hW', trodAll_mk1 (shut_bool Try.underlying4 _), (trodAll_cons_mk (Below.trod laidOut (by kernel_rfl) (of_decide_eq_true (by kernel_rfl)) k0 bel lt0) (trodAll_cons_mk (Below.trod laidOut (by kernel_rfl) (of_decide_eq_true (by kernel_rfl)) k1 bel lt1) trodAll_mk0)), rfl, bel.frame _, fun h => by cases h⟩
theorem saleSilent : Rows.SaleSilentSaid :=
 OpenClaim.holds_of_wide 8 Try.f8 rfl rfl rfl rfl rfl rfl rfl ⟨rfl, rfl, rfl, rfl, rfl⟩ rfl rfl rfl rfl rfl (by kernel_rfl) Try.func8 (by kernel_rfl)
   (of_decide_eq_true (by kernel_rfl)) (by unfold Func.isWrapper; first | (rw [if_pos (by decide +kernel)]; kernel_rfl) | (rw [if_neg (by decide +kernel)]; exact ⟨rfl, rfl⟩))
   (fun os started H enc _ => saleSilentLifted os started H enc)
#print axioms saleSilent
end Go.Proofs.Ytaikojfonleccaa
