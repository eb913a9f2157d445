/-
  SaleShares returns true of any sale and ring by bits, and leaves what it is handed as it was. No conditions.
-/
import Derived.Test.YtaikojfonleccaaPae
namespace Go.Proofs.Ytaikojfonleccaa
open Go.RowKit
theorem bd_17 : Body Try.prog 17 := Br (by kernel_rfl)
theorem bd_19 : Body Try.prog 19 := Br (by kernel_rfl)
theorem bd_21 : Body Try.prog 21 := Br (by kernel_rfl)
theorem bd_23 : Body Try.prog 23 := Br (by kernel_rfl)
theorem bd_26 : Body Try.prog 26 := Br (by kernel_rfl)
theorem bd_30 : Body Try.prog 30 := Br (by kernel_rfl)
theorem bd_31 : Body Try.prog 31 := Br (by kernel_rfl)
theorem bd_33 : Body Try.prog 33 := Br (by kernel_rfl)
theorem bd_35 : Body Try.prog 35 := Br (by kernel_rfl)
theorem bd_36 : Body Try.prog 36 := Br (by kernel_rfl)
theorem bd_37 : Body Try.prog 37 := Br (by kernel_rfl)
theorem bt_77 : BuildT Try.prog 77 [.int .i64 0, .int .i64 0] [(0, 1), (1, 1)] := Eh zr_77 (by kernel_rfl) (by decide)
theorem n13_box2 {F : Heap} {b T : Nat} (h : F b = some (bx T [.int .i64 1, .int .i64 3])) : Nats F (.slice (some ⟨b, 0, none⟩) 2 2) [1, 3] :=
 Ds (xs := ([1, 3] : List Nat)) h rfl rfl (fun _ => rfl) (by decide)
theorem n013_box3 {F : Heap} {b T : Nat} (h : F b = some (bx T [.int .i64 0, .int .i64 1, .int .i64 3])) : Nats F (.slice (some ⟨b, 0, none⟩) 3 3) [0, 1, 3] :=
 Ds (xs := ([0, 1, 3] : List Nat)) h rfl rfl (fun _ => rfl) (by decide)
theorem n123_box3 {F : Heap} {b T : Nat} (h : F b = some (bx T [.int .i64 1, .int .i64 2, .int .i64 3])) : Nats F (.slice (some ⟨b, 0, none⟩) 3 3) [1, 2, 3] :=
 Ds (xs := ([1, 2, 3] : List Nat)) h rfl rfl (fun _ => rfl) (by decide)
theorem n02_box2 {F : Heap} {b T : Nat} (h : F b = some (bx T [.int .i64 0, .int .i64 2])) : Nats F (.slice (some ⟨b, 0, none⟩) 2 2) [0, 2] :=
 Ds (xs := ([0, 2] : List Nat)) h rfl rfl (fun _ => rfl) (by decide)
theorem n0123_box4 {F : Heap} {b T : Nat} (h : F b = some (bx T [.int .i64 0, .int .i64 1, .int .i64 2, .int .i64 3])) : Nats F (.slice (some ⟨b, 0, none⟩) 4 4) [0, 1, 2, 3] :=
 Ds (xs := ([0, 1, 2, 3] : List Nat)) h rfl rfl (fun _ => rfl) (by decide)
theorem entA_box2 {F : Heap} {b T : Nat} (h : F b = some (bx T [.int .i64 0, .bool true, .int .i64 60, .int .i64 60, .int .i64 1, .bool true, .int .i64 48, .int .i64 48])) : Sl F (.slice (some ⟨b, 0, none⟩) 2 2) 4 Ent.enc [ent1 0 60 60, ent1 1 48 48] :=
 Ds (xs := [ent1 0 60 60, ent1 1 48 48]) h rfl rfl (fun _ => rfl) (by decide)
theorem entB_box1 {F : Heap} {b T : Nat} (h : F b = some (bx T [.int .i64 0, .bool true, .int .i64 20, .int .i64 50])) : Sl F (.slice (some ⟨b, 0, none⟩) 1 1) 4 Ent.enc [ent1 0 20 50] :=
 Ds (xs := [ent1 0 20 50]) h rfl rfl (fun _ => rfl) (by decide)
theorem entC_box3 {F : Heap} {b T : Nat} (h : F b = some (bx T [.int .i64 0, .bool true, .int .i64 45, .int .i64 45, .int .i64 1, .bool true, .int .i64 48, .int .i64 48, .int .i64 2, .bool true, .int .i64 30, .int .i64 30])) : Sl F (.slice (some ⟨b, 0, none⟩) 3 3) 4 Ent.enc [ent1 0 45 45, ent1 1 48 48, ent1 2 30 30] :=
 Ds (xs := [ent1 0 45 45, ent1 1 48 48, ent1 2 30 30]) h rfl rfl (fun _ => rfl) (by decide)
theorem entD_box1 {F : Heap} {b T : Nat} (h : F b = some (bx T [.int .i64 2, .bool true, .int .i64 30, .int .i64 30])) : Sl F (.slice (some ⟨b, 0, none⟩) 1 1) 4 Ent.enc [ent1 2 30 30] :=
 Ds (xs := [ent1 2 30 30]) h rfl rfl (fun _ => rfl) (by decide)
theorem resA_box3 {F : Heap} {b T : Nat} (h : F b = some (bx T [.int .i64 (0), .int .i64 60, .int .i64 (1), .int .i64 73, .int .i64 (-1), .int .i64 0])) : Sl F (.slice (some ⟨b, 0, none⟩) 3 3) 2 Res.enc [⟨0, 60⟩, ⟨1, 73⟩, ⟨-1, 0⟩] :=
 Ds (xs := ([⟨0, 60⟩, ⟨1, 73⟩, ⟨-1, 0⟩] : List Res)) h rfl rfl (fun _ => rfl) (by decide)
theorem resB_box3 {F : Heap} {b T : Nat} (h : F b = some (bx T [.int .i64 (0), .int .i64 20, .int .i64 (1), .int .i64 73, .int .i64 (-1), .int .i64 0])) : Sl F (.slice (some ⟨b, 0, none⟩) 3 3) 2 Res.enc [⟨0, 20⟩, ⟨1, 73⟩, ⟨-1, 0⟩] :=
 Ds (xs := ([⟨0, 20⟩, ⟨1, 73⟩, ⟨-1, 0⟩] : List Res)) h rfl rfl (fun _ => rfl) (by decide)
theorem backA_box1 {F : Heap} {b T : Nat} (h : F b = some (bx T [.int .i64 0, .int .i64 14])) : Sl F (.slice (some ⟨b, 0, none⟩) 1 1) 2 Back.enc (back1 14) :=
 Ds (xs := back1 14) h rfl rfl (fun _ => rfl) (by decide)
theorem backB_box1 {F : Heap} {b T : Nat} (h : F b = some (bx T [.int .i64 0, .int .i64 15])) : Sl F (.slice (some ⟨b, 0, none⟩) 1 1) 2 Back.enc (back1 15) :=
 Ds (xs := back1 15) h rfl rfl (fun _ => rfl) (by decide)
theorem ints_box3 {F : Heap} {b T : Nat} {x y z : Int} (h : F b = some (bx T [.int .i64 x, .int .i64 y, .int .i64 z])) : Ints F (.slice (some ⟨b, 0, none⟩) 3 3) [x, y, z] :=
 Ds (xs := [x, y, z]) h rfl rfl (fun _ => rfl) (by decide)
theorem ints_box4 {F : Heap} {b T : Nat} {x y z w : Int} (h : F b = some (bx T [.int .i64 x, .int .i64 y, .int .i64 z, .int .i64 w])) : Ints F (.slice (some ⟨b, 0, none⟩) 4 4) [x, y, z, w] :=
 Ds (xs := [x, y, z, w]) h rfl rfl (fun _ => rfl) (by decide)
def valE (v : Value) : List Value := [v]
theorem vals_box3 {F : Heap} {b T : Nat} {x y z : Value} (h : F b = some (bx T [x, y, z])) : Sl F (.slice (some ⟨b, 0, none⟩) 3 3) 1 valE [x, y, z] :=
 Ds (xs := [x, y, z]) h rfl rfl (fun _ => rfl) (by decide)
theorem Sl.val {F : Heap} {v : Value} {ps : List (Value × List Nat)} (h : Sl F v 1 valE (ps.map (·.1))) : Sl F v 1 slE ps := by
 refine ⟨by simpa using h.plain, fun i hi j u hu => h.cells i (by simpa using hi) j u ?_⟩
 simpa [valE, slE] using hu
theorem lsts3 {F : Heap} {v x y z : Value} {a b c : List Nat} (h : Sl F v 1 valE [x, y, z]) (h1 : Nats F x a) (h2 : Nats F y b) (h3 : Nats F z c) : Lsts F v [a, b, c] :=
 ⟨[(x, a), (y, b), (z, c)], Sl.val h, by simp [h1, h2, h3], rfl⟩
def tupA (v : Value) (i : Nat) : Value := match v with
 | .tuple a => a.toList[i]?.getD v
 | _ => v
theorem LstsR.ans {F : Heap} {u : Value} {p q : List (List Nat) × Int} (h : LstsR F u p) (e : p = q) : u = .tuple #[tupA u 0, .int .i64 q.2] ∧ Lsts F (tupA u 0) q.1 := by
 subst e; obtain ⟨v, rfl, h⟩ := h; exact ⟨rfl, h⟩
theorem NatsR.ans {F : Heap} {u : Value} {p q : List Nat × Int} (h : NatsR F u p) (e : p = q) : u = .tuple #[tupA u 0, .int .i64 q.2] ∧ Nats F (tupA u 0) q.1 := by
 subst e; obtain ⟨v, rfl, h⟩ := h; exact ⟨rfl, h⟩
theorem MemR.ans {F : Heap} {u : Value} {p q : Mem} (h : MemR F u p) (e : p = q) : u = .tuple #[tupA u 0, tupA u 1, .int .i64 q.2.2] ∧ Nats F (tupA u 0) q.1 ∧ Nats F (tupA u 1) q.2.1 := by
 subst e; obtain ⟨v, w, rfl, h1, h2⟩ := h; exact ⟨rfl, h1, h2⟩
set_option maxRecDepth 100000 in
theorem awake_ok {F : Heap} : Ok Try.prog 22 [].toArray F fun u _ => u = .bool true := by
 refine Ok.intro Try.func22 rfl Try.ntmps22 rfl fun w0 => ?_
 refine Af <| Ai fun ds => Aa rfl (Ae Ab) ?_
 refine Ah <| Ad <| Af <| Ai fun ds => Bl rfl (Cw bd_35 Ay .nil sale_ok fun v1 F2 hr3 hF4 => ?_)
 obtain ⟨vs, vb, vl, vn, vd, rfl, hr⟩ := hr3
 refine Bl rfl (B5 zr_27 rfl fun b5 hb5 nb5 => ?_)
 refine Ck (Ca sz_27 (Ac) (Al rfl <| Ac) (i := 0) rfl rfl rfl rfl hr.ones (.here) ?_)
 refine Ah <| Ad <| Af <| Ai fun ds => Aa rfl (Bj Cc (Ac) rfl rfl (Bn 0 rfl)) ?_
 refine Bt rfl (A9 bd_17 Ay (.cons (Ac) (.cons Ab .nil)) (next_ok hr 50) (fun _ _ h => h.trans (show _ = Value.tuple #[.int .i64 60, .int .i64 0] by rw [ev_n1]))) ?_
 refine Aa rfl (Ag (Ac)) ?_
 refine Aa rfl (Az (Ac) rfl) ?_
 refine Aa rfl (Az (Al rfl <| Ac) rfl) ?_
 refine Aa rfl (Ae (Al rfl <| Ac)) ?_
 refine Aa rfl (Ae (Al rfl <| Ac)) ?_
 refine Ah <| Ad <| Af <| Ai fun ds => Aa rfl (Bj Cc (A0 rfl <| Ap rfl <| Al rfl <| Ac) rfl rfl (Bn 0 rfl)) ?_
 refine Bl rfl (Cw bd_19 Ay (.cons (Ac) (.cons Ab .nil)) ((sellTop_ok hr Sl.nil).mono fun u F2 _ h => (by rw [ev_s1] at h; exact h : ∃ ws0, u = .tuple #[ws0, .int .i64 0] ∧ Sl F2 ws0 2 Res.enc [⟨0, 60⟩, ⟨1, 73⟩, ⟨-1, 0⟩])) fun v6 F7 hr8 hF9 => ?_)
 replace hr := hr.mono hF9
 obtain ⟨hq1_, rfl, hq1⟩ := hr8
 refine Aa rfl (Ag (Ac)) ?_
 refine Aa rfl (Az (Ac) rfl) ?_
 refine Aa rfl (Az (Al rfl <| Ac) rfl) ?_
 refine Aa rfl (Ae (Al rfl <| Ac)) ?_
 refine Aa rfl (Ae (Al rfl <| Ac)) ?_
 refine Ah <| Ad <| Af <| Ai fun ds => Aa rfl (Bj Cc (Ba rfl <| A0 rfl <| Ap rfl <| Ac) rfl rfl (Bn 0 rfl)) ?_
 refine Bl rfl (Bw Bo Cz rfl (.cons Ab (.cons Ab (.cons Ab .nil))) rfl rfl (by decide) (by simp [Value.oneCell']) fun b10 hb10 nb10 => ?_)
 refine Bq (i := 0) rfl hb10 .here fun F11 hF12 hz13 => ?_
 replace hr := hr.mono hF12
 replace hq1 := hq1.mono hF12
 have hsl14 := ints_box3 hz13
 refine Bl rfl (Cw bd_19 Ay (.cons (Al rfl <| Ac) (.cons (Ac) .nil)) ((sellTop_ok hr hsl14).mono fun u F2 _ h => (by rw [ev_s2] at h; exact h : ∃ ws0, u = .tuple #[ws0, .int .i64 0] ∧ Sl F2 ws0 2 Res.enc [⟨0, 20⟩, ⟨1, 73⟩, ⟨-1, 0⟩])) fun v15 F16 hr17 hF18 => ?_)
 replace hr := hr.mono hF18
 replace hq1 := hq1.mono hF18
 obtain ⟨hq2_, rfl, hq2⟩ := hr17
 refine Aa rfl (Ag (Ac)) ?_
 refine Aa rfl (Az (Ac) rfl) ?_
 refine Aa rfl (Az (Al rfl <| Ac) rfl) ?_
 refine Aa rfl (Ae (Al rfl <| Ac)) ?_
 refine Aa rfl (Ae (Al rfl <| Ac)) ?_
 refine Ah <| Ad <| Af <| Ai fun ds => Aa rfl (Bj Cc (Bc rfl <| A0 rfl <| Ap rfl <| Ac) rfl rfl (Bn 0 rfl)) ?_
 refine Bl rfl (Bw Bo Cz rfl (.cons Ab (.cons Ab .nil)) rfl rfl (by decide) (by simp [Value.oneCell']) fun b19 hb19 nb19 => ?_)
 refine Bq (i := 0) rfl hb19 .here fun F20 hF21 hz22 => ?_
 replace hr := hr.mono hF21
 replace hq1 := hq1.mono hF21
 replace hq2 := hq2.mono hF21
 have hsl23 := Dg hz22
 refine Aa rfl (Da bt_77 (.cons Ab rfl (.cons Ab rfl .nil)) (.cons rfl rfl (Nat.le_of_ble_eq_true rfl) (.cons (.here) .nil) (.cons rfl rfl (Nat.le_of_ble_eq_true rfl) (.cons (.next <| .here) .nil) .nil))) ?_
 refine Bl rfl (Di (offs := [(0, 2)]) (zl := [.int .i64 0, .int .i64 0]) sl_40 zr_77 rfl (.cons (Ac) rfl .nil) (by intro i p h; rcases i with _ | i <;> simp at h <;> subst h <;> rfl) (.cons rfl rfl (Nat.le_of_ble_eq_true rfl) (.cons (.here) (.cons (.next <| .here) .nil)) .nil) (by decide) (by decide) fun b24 hb24 nb24 => ?_)
 refine Bq (i := 0) rfl hb24 .here fun F25 hF26 hz27 => ?_
 replace hr := hr.mono hF26
 replace hq1 := hq1.mono hF26
 replace hq2 := hq2.mono hF26
 replace hsl23 := hsl23.mono hF26
 have hsl28 := backA_box1 hz27
 refine Bl rfl (Cw bd_23 Ay (.cons (Ap rfl <| Al rfl <| Ac) (.cons (Ap rfl <| Ac) (.cons (Ac) .nil))) ((account_ok hr hsl23 hsl28).mono fun u F2 _ h => (by rw [ev_a1] at h; exact h : ∃ ws0 ws1, u = .tuple #[ws0, ws1, .int .i64 12, .int .i64 0] ∧ Ints F2 ws0 [0, 53, 0, 0] ∧ Ints F2 ws1 [41])) fun v29 F30 hr31 hF32 => ?_)
 replace hr := hr.mono hF32
 replace hq1 := hq1.mono hF32
 replace hq2 := hq2.mono hF32
 obtain ⟨hq3_, hq4_, rfl, hq3, hq4⟩ := hr31
 refine Aa rfl (Ag (Ac)) ?_
 refine Aa rfl (Az (Ac) rfl) ?_
 refine Aa rfl (Az (Al rfl <| Ac) rfl) ?_
 refine Aa rfl (Az (Ap rfl <| Ac) rfl) ?_
 refine Aa rfl (Az (Ap rfl <| Al rfl <| Ac) rfl) ?_
 refine Aa rfl (Ae (Ap rfl <| Al rfl <| Ac)) ?_
 refine Aa rfl (Ae (Ap rfl <| Al rfl <| Ac)) ?_
 refine Aa rfl (Ae (Ap rfl <| Al rfl <| Ac)) ?_
 refine Aa rfl (Ae (Ap rfl <| Al rfl <| Ac)) ?_
 refine Ah <| Ad <| Af <| Ai fun ds => Aa rfl (Bj Cc (Bs rfl <| A0 rfl <| Ac) rfl rfl (Bn 0 rfl)) ?_
 refine Bl rfl (Bw Bo Cz rfl (.cons Ab (.cons Ab .nil)) rfl rfl (by decide) (by simp [Value.oneCell']) fun b33 hb33 nb33 => ?_)
 refine Bq (i := 0) rfl hb33 .here fun F34 hF35 hz36 => ?_
 replace hr := hr.mono hF35
 replace hq1 := hq1.mono hF35
 replace hq2 := hq2.mono hF35
 replace hq3 := hq3.mono hF35
 replace hq4 := hq4.mono hF35
 have hsl37 := Dg hz36
 refine Aa rfl (Da bt_77 (.cons Ab rfl (.cons Ab rfl .nil)) (.cons rfl rfl (Nat.le_of_ble_eq_true rfl) (.cons (.here) .nil) (.cons rfl rfl (Nat.le_of_ble_eq_true rfl) (.cons (.next <| .here) .nil) .nil))) ?_
 refine Bl rfl (Di (offs := [(0, 2)]) (zl := [.int .i64 0, .int .i64 0]) sl_40 zr_77 rfl (.cons (Ac) rfl .nil) (by intro i p h; rcases i with _ | i <;> simp at h <;> subst h <;> rfl) (.cons rfl rfl (Nat.le_of_ble_eq_true rfl) (.cons (.here) (.cons (.next <| .here) .nil)) .nil) (by decide) (by decide) fun b38 hb38 nb38 => ?_)
 refine Bq (i := 0) rfl hb38 .here fun F39 hF40 hz41 => ?_
 replace hr := hr.mono hF40
 replace hq1 := hq1.mono hF40
 replace hq2 := hq2.mono hF40
 replace hq3 := hq3.mono hF40
 replace hq4 := hq4.mono hF40
 replace hsl37 := hsl37.mono hF40
 have hsl42 := backB_box1 hz41
 refine Bl rfl (Cw bd_23 Ay (.cons (Ap rfl <| Al rfl <| Ac) (.cons (Ap rfl <| Ac) (.cons (Ac) .nil))) ((account_ok hr hsl37 hsl42).mono fun u F2 _ h => (by rw [ev_a2] at h; exact h : ∃ ws0 ws1, u = .tuple #[ws0, ws1, .int .i64 0, .int .i64 7] ∧ Ints F2 ws0 [] ∧ Ints F2 ws1 [])) fun v43 F44 hr45 hF46 => ?_)
 replace hr := hr.mono hF46
 replace hq1 := hq1.mono hF46
 replace hq2 := hq2.mono hF46
 replace hq3 := hq3.mono hF46
 replace hq4 := hq4.mono hF46
 obtain ⟨hq5_, hq6_, rfl, hq5, hq6⟩ := hr45
 refine Aa rfl (Ag (Ac)) ?_
 refine Aa rfl (Az (Ac) rfl) ?_
 refine Aa rfl (Az (Al rfl <| Ac) rfl) ?_
 refine Aa rfl (Az (Ap rfl <| Ac) rfl) ?_
 refine Aa rfl (Az (Ap rfl <| Al rfl <| Ac) rfl) ?_
 refine Aa rfl (Ae (Ap rfl <| Al rfl <| Ac)) ?_
 refine Aa rfl (Ae (Ap rfl <| Al rfl <| Ac)) ?_
 refine Aa rfl (Ae (Ap rfl <| Al rfl <| Ac)) ?_
 refine Aa rfl (Ae (Ap rfl <| Al rfl <| Ac)) ?_
 refine Ah <| Ad <| Af <| Ai fun ds => Aa rfl (Bj Cc (Bs rfl <| Bc rfl <| Ap rfl <| Ac) rfl rfl (Bn 0 rfl)) ?_
 refine Bl rfl (Bw Bo Cz rfl (.cons Ab (.cons Ab (.cons Ab .nil))) rfl rfl (by decide) (by simp [Value.oneCell']) fun b47 hb47 nb47 => ?_)
 refine Bq (i := 0) rfl hb47 .here fun F48 hF49 hz50 => ?_
 replace hr := hr.mono hF49
 replace hq1 := hq1.mono hF49
 replace hq2 := hq2.mono hF49
 replace hq3 := hq3.mono hF49
 replace hq4 := hq4.mono hF49
 have hsl51 := ints_box3 hz50
 refine Bl rfl (Cw bd_26 Ay (.cons (Al rfl <| Ac) (.cons (Ac) .nil)) ((share_ok hr hsl51).mono fun u F2 _ h => (by rw [ev_h1] at h; exact h : ∃ ws0, u = .tuple #[ws0, .int .i64 0] ∧ Ints F2 ws0 [14, 13, 13])) fun v52 F53 hr54 hF55 => ?_)
 replace hr := hr.mono hF55
 replace hq1 := hq1.mono hF55
 replace hq2 := hq2.mono hF55
 replace hq3 := hq3.mono hF55
 replace hq4 := hq4.mono hF55
 obtain ⟨hq7_, rfl, hq7⟩ := hr54
 refine Aa rfl (Ag (Ac)) ?_
 refine Aa rfl (Az (Ac) rfl) ?_
 refine Aa rfl (Az (Al rfl <| Ac) rfl) ?_
 refine Aa rfl (Ae (Al rfl <| Ac)) ?_
 refine Aa rfl (Ae (Al rfl <| Ac)) ?_
 refine Ah <| Ad <| Af <| WC_drawF 10 (.inl rfl) (fun _ _ h => h) (by kernel_rfl) (by kernel_rfl) false rfl ([fun F v => v = .agg #[vs, .int .i64 100, .int .i64 150, .int .i64 14, vb, vl, vn, vd], fun F v => v = .agg #[.int .i64 0, .bool true, .int .i64 60, .int .i64 60], fun F v => v = .agg #[.int .i64 1, .bool true, .int .i64 48, .int .i64 48], fun F v => Sl F v 4 Ent.enc [ent1 0 60 60, ent1 1 48 48], fun F v => v = .tuple #[tupA v 0, .int .i64 0] ∧ Lsts F (tupA v 0) [[1, 3], [0, 1, 3], [1, 2, 3]], fun F v => v = .tuple #[tupA v 0, .int .i64 0] ∧ Lsts F (tupA v 0) [[1, 3], [0, 1, 3], [1, 2, 3]], fun F v => Lsts F v [[1, 3], [0, 1, 3], [1, 2, 3]], fun F v => v = .int .i64 0, fun F v => Lsts F v [[1, 3], [0, 1, 3], [1, 2, 3]], fun F v => v = .int .i64 0]) (⟨fun F F2 v hF h => h, fun F F2 v hF h => h, fun F F2 v hF h => h, fun F F2 v hF h => h.mono hF, fun F F2 v hF h => ⟨h.1, h.2.mono hF⟩, fun F F2 v hF h => ⟨h.1, h.2.mono hF⟩, fun F F2 v hF h => h.mono hF, fun F F2 v hF h => h, fun F F2 v hF h => h.mono hF, fun F F2 v hF h => h, trivial⟩) (fun ds => ?_) (fun ds => ?_)
 ·
  refine ⟨⟨⟨⟨⟨⟨⟨⟨⟨⟨trivial, ?_⟩, ?_⟩, ?_⟩, ?_⟩, ?_⟩, ?_⟩, ?_⟩, ?_⟩, ?_⟩, ?_⟩
  ·
   intro e1 F1 hF1 he hj
   refine ⟨_, _, _, _, _, rfl, ?_⟩
   refine Bp (Bj Cc (Bx (B4 he (by kernel_rfl)) <| Bs rfl <| Bc rfl <| Ba rfl <| Ap rfl <| Ac) rfl rfl (Bn 0 rfl)).quiet ⟨_, rfl, Heap.le_refl _, rfl⟩
  ·
   intro e1 F1 hF1 he hj
   refine ⟨_, _, _, _, _, rfl, ?_⟩
   refine Bp (A9 bd_36 Ay (.cons Ab (.cons Ab (.cons Ab .nil))) (entry_ok _ _ _) (fun _ _ h => h)) ⟨_, rfl, Heap.le_refl _, rfl⟩
  ·
   intro e1 F1 hF1 he hj
   have g72 : (e1 72) = .agg #[.int .i64 0, .bool true, .int .i64 60, .int .i64 60] := hj 1 (by kernel_rfl) (by decide)
   refine ⟨_, _, _, _, _, rfl, ?_⟩
   refine Bp (A9 bd_36 Ay (.cons Ab (.cons Ab (.cons Ab .nil))) (entry_ok _ _ _) (fun _ _ h => h)) ⟨_, rfl, Heap.le_refl _, rfl⟩
  ·
   intro e1 F1 hF1 he hj
   have g72 : (e1 72) = .agg #[.int .i64 0, .bool true, .int .i64 60, .int .i64 60] := hj 1 (by kernel_rfl) (by decide)
   have g73 : (e1 73) = .agg #[.int .i64 1, .bool true, .int .i64 48, .int .i64 48] := hj 2 (by kernel_rfl) (by decide)
   refine ⟨_, _, _, _, _, rfl, ?_⟩
   refine OpX_freeze (Di (offs := [(0, 4), (4, 4)]) (zl := [.int .i64 0, .bool false, .int .i64 0, .int .i64 0, .int .i64 0, .bool false, .int .i64 0, .int .i64 0]) sl_47 zr_60 rfl (.cons (Ct g72) rfl (.cons (Ct g73) rfl .nil)) (by intro i p h; rcases i with _ | _ | i <;> simp at h <;> subst h <;> rfl) (.cons rfl rfl (Nat.le_of_ble_eq_true rfl) (.cons (.here) (.cons (.next <| .here) (.cons (.next <| .next <| .here) (.cons (.next <| .next <| .next <| .here) .nil)))) (.cons rfl rfl (Nat.le_of_ble_eq_true rfl) (.cons (.next <| .next <| .next <| .next <| .here) (.cons (.next <| .next <| .next <| .next <| .next <| .here) (.cons (.next <| .next <| .next <| .next <| .next <| .next <| .here) (.cons (.next <| .next <| .next <| .next <| .next <| .next <| .next <| .here) .nil)))) .nil)) (by decide) (by decide) fun b hb nb => ⟨b, _, hb, rfl, fun F2 hF2 hz => ⟨F2, rfl, hF2, (entA_box2 hz)⟩⟩)
  ·
   intro e1 F1 hF1 he hj
   replace hr := hr.mono hF1
   have g71 : (e1 71) = .agg #[vs, .int .i64 100, .int .i64 150, .int .i64 14, vb, vl, vn, vd] := hj 0 (by kernel_rfl) (by decide)
   have g73 : (e1 73) = .agg #[.int .i64 1, .bool true, .int .i64 48, .int .i64 48] := hj 2 (by kernel_rfl) (by decide)
   have g74 : Sl F1 (e1 74) 4 Ent.enc [ent1 0 60 60, ent1 1 48 48] := hj 3 (by kernel_rfl) (by decide)
   refine ⟨_, _, _, _, _, rfl, ?_⟩
   refine Cw bd_28 Ay (.cons (Ct g71) (.cons (Ct rfl) .nil)) (rings_top_ok hr g74) fun v2 F2 hr hF2 => ⟨F2, rfl, hF2, (hr.ans ev_r1)⟩
  ·
   intro e1 F1 hF1 he hj
   have g75 : (e1 75) = .tuple #[tupA (e1 75) 0, .int .i64 0] ∧ Lsts F1 (tupA (e1 75) 0) [[1, 3], [0, 1, 3], [1, 2, 3]] := hj 4 (by kernel_rfl) (by decide)
   refine ⟨_, _, _, _, _, rfl, ?_⟩
   refine Bp (Ag (Ct g75.1)).quiet ⟨_, rfl, Heap.le_refl _, ⟨rfl, g75.2⟩⟩
  ·
   intro e1 F1 hF1 he hj
   have g70 : (e1 70) = .tuple #[tupA (e1 70) 0, .int .i64 0] ∧ Lsts F1 (tupA (e1 70) 0) [[1, 3], [0, 1, 3], [1, 2, 3]] := hj 5 (by kernel_rfl) (by decide)
   refine ⟨_, _, _, _, _, rfl, ?_⟩
   refine Bp (Az (Ct g70.1) rfl).quiet ⟨_, rfl, Heap.le_refl _, g70.2⟩
  ·
   intro e1 F1 hF1 he hj
   have g70 : (e1 70) = .tuple #[tupA (e1 70) 0, .int .i64 0] ∧ Lsts F1 (tupA (e1 70) 0) [[1, 3], [0, 1, 3], [1, 2, 3]] := hj 5 (by kernel_rfl) (by decide)
   refine ⟨_, _, _, _, _, rfl, ?_⟩
   refine Bp (Az (Ct g70.1) rfl).quiet ⟨_, rfl, Heap.le_refl _, rfl⟩
  ·
   intro e1 F1 hF1 he hj
   have g71 : (e1 71) = .agg #[vs, .int .i64 100, .int .i64 150, .int .i64 14, vb, vl, vn, vd] := hj 0 (by kernel_rfl) (by decide)
   have g72 : (e1 72) = .agg #[.int .i64 0, .bool true, .int .i64 60, .int .i64 60] := hj 1 (by kernel_rfl) (by decide)
   have g73 : (e1 73) = .agg #[.int .i64 1, .bool true, .int .i64 48, .int .i64 48] := hj 2 (by kernel_rfl) (by decide)
   have g74 : Sl F1 (e1 74) 4 Ent.enc [ent1 0 60 60, ent1 1 48 48] := hj 3 (by kernel_rfl) (by decide)
   have g75 : (e1 75) = .tuple #[tupA (e1 75) 0, .int .i64 0] ∧ Lsts F1 (tupA (e1 75) 0) [[1, 3], [0, 1, 3], [1, 2, 3]] := hj 4 (by kernel_rfl) (by decide)
   have g70 : (e1 70) = .tuple #[tupA (e1 70) 0, .int .i64 0] ∧ Lsts F1 (tupA (e1 70) 0) [[1, 3], [0, 1, 3], [1, 2, 3]] := hj 5 (by kernel_rfl) (by decide)
   have g76 : Lsts F1 (e1 76) [[1, 3], [0, 1, 3], [1, 2, 3]] := hj 6 (by kernel_rfl) (by decide)
   refine ⟨_, _, _, _, _, rfl, ?_⟩
   refine Bp (Ae (Ct rfl)).quiet ⟨_, rfl, Heap.le_refl _, g76⟩
  ·
   intro e1 F1 hF1 he hj
   have g71 : (e1 71) = .agg #[vs, .int .i64 100, .int .i64 150, .int .i64 14, vb, vl, vn, vd] := hj 0 (by kernel_rfl) (by decide)
   have g72 : (e1 72) = .agg #[.int .i64 0, .bool true, .int .i64 60, .int .i64 60] := hj 1 (by kernel_rfl) (by decide)
   have g73 : (e1 73) = .agg #[.int .i64 1, .bool true, .int .i64 48, .int .i64 48] := hj 2 (by kernel_rfl) (by decide)
   have g74 : Sl F1 (e1 74) 4 Ent.enc [ent1 0 60 60, ent1 1 48 48] := hj 3 (by kernel_rfl) (by decide)
   have g75 : (e1 75) = .tuple #[tupA (e1 75) 0, .int .i64 0] ∧ Lsts F1 (tupA (e1 75) 0) [[1, 3], [0, 1, 3], [1, 2, 3]] := hj 4 (by kernel_rfl) (by decide)
   have g70 : (e1 70) = .tuple #[tupA (e1 70) 0, .int .i64 0] ∧ Lsts F1 (tupA (e1 70) 0) [[1, 3], [0, 1, 3], [1, 2, 3]] := hj 5 (by kernel_rfl) (by decide)
   have g76 : Lsts F1 (e1 76) [[1, 3], [0, 1, 3], [1, 2, 3]] := hj 6 (by kernel_rfl) (by decide)
   have g77 : (e1 77) = .int .i64 0 := hj 7 (by kernel_rfl) (by decide)
   have g18 : Lsts F1 (e1 18) [[1, 3], [0, 1, 3], [1, 2, 3]] := hj 8 (by kernel_rfl) (by decide)
   refine ⟨_, _, _, _, _, rfl, ?_⟩
   refine Bp (Ae (Ct g77)).quiet ⟨_, rfl, Heap.le_refl _, rfl⟩
 intro e59 F56 hF57 he58 hj
 replace hr := hr.mono hF57
 replace hq1 := hq1.mono hF57
 replace hq2 := hq2.mono hF57
 replace hq3 := hq3.mono hF57
 replace hq4 := hq4.mono hF57
 replace hq7 := hq7.mono hF57
 have g71 : (e59 71) = .agg #[vs, .int .i64 100, .int .i64 150, .int .i64 14, vb, vl, vn, vd] := hj 0 (by decide)
 have g72 : (e59 72) = .agg #[.int .i64 0, .bool true, .int .i64 60, .int .i64 60] := hj 1 (by decide)
 have g73 : (e59 73) = .agg #[.int .i64 1, .bool true, .int .i64 48, .int .i64 48] := hj 2 (by decide)
 have g74 : Sl F56 (e59 74) 4 Ent.enc [ent1 0 60 60, ent1 1 48 48] := hj 3 (by decide)
 have g75 : (e59 75) = .tuple #[tupA (e59 75) 0, .int .i64 0] ∧ Lsts F56 (tupA (e59 75) 0) [[1, 3], [0, 1, 3], [1, 2, 3]] := hj 4 (by decide)
 have g70 : (e59 70) = .tuple #[tupA (e59 70) 0, .int .i64 0] ∧ Lsts F56 (tupA (e59 70) 0) [[1, 3], [0, 1, 3], [1, 2, 3]] := hj 5 (by decide)
 have g76 : Lsts F56 (e59 76) [[1, 3], [0, 1, 3], [1, 2, 3]] := hj 6 (by decide)
 have g77 : (e59 77) = .int .i64 0 := hj 7 (by decide)
 have g18 : Lsts F56 (e59 18) [[1, 3], [0, 1, 3], [1, 2, 3]] := hj 8 (by decide)
 have g19 : (e59 19) = .int .i64 0 := hj 9 (by decide)
 refine Ad <| Af <| WC_drawF 11 (.inl rfl) (fun _ _ h => h) (by kernel_rfl) (by kernel_rfl) false rfl ([fun F v => v = .agg #[vs, .int .i64 100, .int .i64 150, .int .i64 14, vb, vl, vn, vd], fun F v => v = .agg #[.int .i64 0, .bool true, .int .i64 20, .int .i64 50], fun F v => Sl F v 4 Ent.enc [ent1 0 20 50], fun F v => v = .tuple #[tupA v 0, tupA v 1, .int .i64 0] ∧ Nats F (tupA v 0) [0, 2] ∧ Nats F (tupA v 1) [0, 1, 2, 3], fun F v => v = .tuple #[tupA v 0, tupA v 1, .int .i64 0] ∧ Nats F (tupA v 0) [0, 2] ∧ Nats F (tupA v 1) [0, 1, 2, 3], fun F v => Nats F v [0, 2], fun F v => Nats F v [0, 1, 2, 3], fun F v => v = .int .i64 0, fun F v => Nats F v [0, 2], fun F v => Nats F v [0, 1, 2, 3], fun F v => v = .int .i64 0]) (⟨fun F F2 v hF h => h, fun F F2 v hF h => h, fun F F2 v hF h => h.mono hF, fun F F2 v hF h => ⟨h.1, h.2.1.mono hF, h.2.2.mono hF⟩, fun F F2 v hF h => ⟨h.1, h.2.1.mono hF, h.2.2.mono hF⟩, fun F F2 v hF h => h.mono hF, fun F F2 v hF h => h.mono hF, fun F F2 v hF h => h, fun F F2 v hF h => h.mono hF, fun F F2 v hF h => h.mono hF, fun F F2 v hF h => h, trivial⟩) (fun ds => ?_) (fun ds => ?_)
 ·
  refine ⟨⟨⟨⟨⟨⟨⟨⟨⟨⟨⟨trivial, ?_⟩, ?_⟩, ?_⟩, ?_⟩, ?_⟩, ?_⟩, ?_⟩, ?_⟩, ?_⟩, ?_⟩, ?_⟩
  ·
   intro e1 F1 hF1 he hj
   refine ⟨_, _, _, _, _, rfl, ?_⟩
   refine Bp (Bj Cc (Bx (B4 he (by kernel_rfl)) <| Bx (B4 he58 (by kernel_rfl)) <| Bs rfl <| Bc rfl <| Ba rfl <| Ap rfl <| Ac) rfl rfl (Bn 0 rfl)).quiet ⟨_, rfl, Heap.le_refl _, rfl⟩
  ·
   intro e1 F1 hF1 he hj
   refine ⟨_, _, _, _, _, rfl, ?_⟩
   refine Bp (A9 bd_36 Ay (.cons Ab (.cons Ab (.cons Ab .nil))) (entry_ok _ _ _) (fun _ _ h => h)) ⟨_, rfl, Heap.le_refl _, rfl⟩
  ·
   intro e1 F1 hF1 he hj
   have g80 : (e1 80) = .agg #[.int .i64 0, .bool true, .int .i64 20, .int .i64 50] := hj 1 (by kernel_rfl) (by decide)
   refine ⟨_, _, _, _, _, rfl, ?_⟩
   refine OpX_freeze (Di (offs := [(0, 4)]) (zl := [.int .i64 0, .bool false, .int .i64 0, .int .i64 0]) sl_47 zr_60 rfl (.cons (Ct g80) rfl .nil) (by intro i p h; rcases i with _ | i <;> simp at h <;> subst h <;> rfl) (.cons rfl rfl (Nat.le_of_ble_eq_true rfl) (.cons (.here) (.cons (.next <| .here) (.cons (.next <| .next <| .here) (.cons (.next <| .next <| .next <| .here) .nil)))) .nil) (by decide) (by decide) fun b hb nb => ⟨b, _, hb, rfl, fun F2 hF2 hz => ⟨F2, rfl, hF2, (entB_box1 hz)⟩⟩)
  ·
   intro e1 F1 hF1 he hj
   replace hr := hr.mono hF1
   have g79 : (e1 79) = .agg #[vs, .int .i64 100, .int .i64 150, .int .i64 14, vb, vl, vn, vd] := hj 0 (by kernel_rfl) (by decide)
   have g80 : (e1 80) = .agg #[.int .i64 0, .bool true, .int .i64 20, .int .i64 50] := hj 1 (by kernel_rfl) (by decide)
   have g81 : Sl F1 (e1 81) 4 Ent.enc [ent1 0 20 50] := hj 2 (by kernel_rfl) (by decide)
   refine ⟨_, _, _, _, _, rfl, ?_⟩
   refine Cw bd_31 Ay (.cons (Ct g79) (.cons (Ct rfl) .nil)) (members_ok hr g81) fun v2 F2 hr hF2 => ⟨F2, rfl, hF2, (hr.ans ev_m1)⟩
  ·
   intro e1 F1 hF1 he hj
   have g82 : (e1 82) = .tuple #[tupA (e1 82) 0, tupA (e1 82) 1, .int .i64 0] ∧ Nats F1 (tupA (e1 82) 0) [0, 2] ∧ Nats F1 (tupA (e1 82) 1) [0, 1, 2, 3] := hj 3 (by kernel_rfl) (by decide)
   refine ⟨_, _, _, _, _, rfl, ?_⟩
   refine Bp (Ag (Ct g82.1)).quiet ⟨_, rfl, Heap.le_refl _, ⟨rfl, g82.2⟩⟩
  ·
   intro e1 F1 hF1 he hj
   have g78 : (e1 78) = .tuple #[tupA (e1 78) 0, tupA (e1 78) 1, .int .i64 0] ∧ Nats F1 (tupA (e1 78) 0) [0, 2] ∧ Nats F1 (tupA (e1 78) 1) [0, 1, 2, 3] := hj 4 (by kernel_rfl) (by decide)
   refine ⟨_, _, _, _, _, rfl, ?_⟩
   refine Bp (Az (Ct g78.1) rfl).quiet ⟨_, rfl, Heap.le_refl _, g78.2.1⟩
  ·
   intro e1 F1 hF1 he hj
   have g78 : (e1 78) = .tuple #[tupA (e1 78) 0, tupA (e1 78) 1, .int .i64 0] ∧ Nats F1 (tupA (e1 78) 0) [0, 2] ∧ Nats F1 (tupA (e1 78) 1) [0, 1, 2, 3] := hj 4 (by kernel_rfl) (by decide)
   refine ⟨_, _, _, _, _, rfl, ?_⟩
   refine Bp (Az (Ct g78.1) rfl).quiet ⟨_, rfl, Heap.le_refl _, g78.2.2⟩
  ·
   intro e1 F1 hF1 he hj
   have g78 : (e1 78) = .tuple #[tupA (e1 78) 0, tupA (e1 78) 1, .int .i64 0] ∧ Nats F1 (tupA (e1 78) 0) [0, 2] ∧ Nats F1 (tupA (e1 78) 1) [0, 1, 2, 3] := hj 4 (by kernel_rfl) (by decide)
   refine ⟨_, _, _, _, _, rfl, ?_⟩
   refine Bp (Az (Ct g78.1) rfl).quiet ⟨_, rfl, Heap.le_refl _, rfl⟩
  ·
   intro e1 F1 hF1 he hj
   have g79 : (e1 79) = .agg #[vs, .int .i64 100, .int .i64 150, .int .i64 14, vb, vl, vn, vd] := hj 0 (by kernel_rfl) (by decide)
   have g80 : (e1 80) = .agg #[.int .i64 0, .bool true, .int .i64 20, .int .i64 50] := hj 1 (by kernel_rfl) (by decide)
   have g81 : Sl F1 (e1 81) 4 Ent.enc [ent1 0 20 50] := hj 2 (by kernel_rfl) (by decide)
   have g82 : (e1 82) = .tuple #[tupA (e1 82) 0, tupA (e1 82) 1, .int .i64 0] ∧ Nats F1 (tupA (e1 82) 0) [0, 2] ∧ Nats F1 (tupA (e1 82) 1) [0, 1, 2, 3] := hj 3 (by kernel_rfl) (by decide)
   have g78 : (e1 78) = .tuple #[tupA (e1 78) 0, tupA (e1 78) 1, .int .i64 0] ∧ Nats F1 (tupA (e1 78) 0) [0, 2] ∧ Nats F1 (tupA (e1 78) 1) [0, 1, 2, 3] := hj 4 (by kernel_rfl) (by decide)
   have g83 : Nats F1 (e1 83) [0, 2] := hj 5 (by kernel_rfl) (by decide)
   refine ⟨_, _, _, _, _, rfl, ?_⟩
   refine Bp (Ae (Ct rfl)).quiet ⟨_, rfl, Heap.le_refl _, g83⟩
  ·
   intro e1 F1 hF1 he hj
   have g79 : (e1 79) = .agg #[vs, .int .i64 100, .int .i64 150, .int .i64 14, vb, vl, vn, vd] := hj 0 (by kernel_rfl) (by decide)
   have g80 : (e1 80) = .agg #[.int .i64 0, .bool true, .int .i64 20, .int .i64 50] := hj 1 (by kernel_rfl) (by decide)
   have g81 : Sl F1 (e1 81) 4 Ent.enc [ent1 0 20 50] := hj 2 (by kernel_rfl) (by decide)
   have g82 : (e1 82) = .tuple #[tupA (e1 82) 0, tupA (e1 82) 1, .int .i64 0] ∧ Nats F1 (tupA (e1 82) 0) [0, 2] ∧ Nats F1 (tupA (e1 82) 1) [0, 1, 2, 3] := hj 3 (by kernel_rfl) (by decide)
   have g78 : (e1 78) = .tuple #[tupA (e1 78) 0, tupA (e1 78) 1, .int .i64 0] ∧ Nats F1 (tupA (e1 78) 0) [0, 2] ∧ Nats F1 (tupA (e1 78) 1) [0, 1, 2, 3] := hj 4 (by kernel_rfl) (by decide)
   have g83 : Nats F1 (e1 83) [0, 2] := hj 5 (by kernel_rfl) (by decide)
   have g84 : Nats F1 (e1 84) [0, 1, 2, 3] := hj 6 (by kernel_rfl) (by decide)
   have g20 : Nats F1 (e1 20) [0, 2] := hj 8 (by kernel_rfl) (by decide)
   refine ⟨_, _, _, _, _, rfl, ?_⟩
   refine Bp (Ae (Ct rfl)).quiet ⟨_, rfl, Heap.le_refl _, g84⟩
  ·
   intro e1 F1 hF1 he hj
   have g79 : (e1 79) = .agg #[vs, .int .i64 100, .int .i64 150, .int .i64 14, vb, vl, vn, vd] := hj 0 (by kernel_rfl) (by decide)
   have g80 : (e1 80) = .agg #[.int .i64 0, .bool true, .int .i64 20, .int .i64 50] := hj 1 (by kernel_rfl) (by decide)
   have g81 : Sl F1 (e1 81) 4 Ent.enc [ent1 0 20 50] := hj 2 (by kernel_rfl) (by decide)
   have g82 : (e1 82) = .tuple #[tupA (e1 82) 0, tupA (e1 82) 1, .int .i64 0] ∧ Nats F1 (tupA (e1 82) 0) [0, 2] ∧ Nats F1 (tupA (e1 82) 1) [0, 1, 2, 3] := hj 3 (by kernel_rfl) (by decide)
   have g78 : (e1 78) = .tuple #[tupA (e1 78) 0, tupA (e1 78) 1, .int .i64 0] ∧ Nats F1 (tupA (e1 78) 0) [0, 2] ∧ Nats F1 (tupA (e1 78) 1) [0, 1, 2, 3] := hj 4 (by kernel_rfl) (by decide)
   have g83 : Nats F1 (e1 83) [0, 2] := hj 5 (by kernel_rfl) (by decide)
   have g84 : Nats F1 (e1 84) [0, 1, 2, 3] := hj 6 (by kernel_rfl) (by decide)
   have g85 : (e1 85) = .int .i64 0 := hj 7 (by kernel_rfl) (by decide)
   have g20 : Nats F1 (e1 20) [0, 2] := hj 8 (by kernel_rfl) (by decide)
   have g21 : Nats F1 (e1 21) [0, 1, 2, 3] := hj 9 (by kernel_rfl) (by decide)
   refine ⟨_, _, _, _, _, rfl, ?_⟩
   refine Bp (Ae (Ct g85)).quiet ⟨_, rfl, Heap.le_refl _, rfl⟩
 intro e63 F60 hF61 he62 hj
 replace hr := hr.mono hF61
 replace hq1 := hq1.mono hF61
 replace hq2 := hq2.mono hF61
 replace hq3 := hq3.mono hF61
 replace hq4 := hq4.mono hF61
 replace hq7 := hq7.mono hF61
 replace g18 := g18.mono hF61
 have g79 : (e63 79) = .agg #[vs, .int .i64 100, .int .i64 150, .int .i64 14, vb, vl, vn, vd] := hj 0 (by decide)
 have g80 : (e63 80) = .agg #[.int .i64 0, .bool true, .int .i64 20, .int .i64 50] := hj 1 (by decide)
 have g81 : Sl F60 (e63 81) 4 Ent.enc [ent1 0 20 50] := hj 2 (by decide)
 have g82 : (e63 82) = .tuple #[tupA (e63 82) 0, tupA (e63 82) 1, .int .i64 0] ∧ Nats F60 (tupA (e63 82) 0) [0, 2] ∧ Nats F60 (tupA (e63 82) 1) [0, 1, 2, 3] := hj 3 (by decide)
 have g78 : (e63 78) = .tuple #[tupA (e63 78) 0, tupA (e63 78) 1, .int .i64 0] ∧ Nats F60 (tupA (e63 78) 0) [0, 2] ∧ Nats F60 (tupA (e63 78) 1) [0, 1, 2, 3] := hj 4 (by decide)
 have g83 : Nats F60 (e63 83) [0, 2] := hj 5 (by decide)
 have g84 : Nats F60 (e63 84) [0, 1, 2, 3] := hj 6 (by decide)
 have g85 : (e63 85) = .int .i64 0 := hj 7 (by decide)
 have g20 : Nats F60 (e63 20) [0, 2] := hj 8 (by decide)
 have g21 : Nats F60 (e63 21) [0, 1, 2, 3] := hj 9 (by decide)
 have g22 : (e63 22) = .int .i64 0 := hj 10 (by decide)
 refine Ad <| Af <| WC_drawF 11 (.inl rfl) (fun _ _ h => h) (by kernel_rfl) (by kernel_rfl) false rfl ([fun F v => v = .agg #[vs, .int .i64 100, .int .i64 150, .int .i64 14, vb, vl, vn, vd], fun F v => v = .agg #[.int .i64 0, .bool true, .int .i64 45, .int .i64 45], fun F v => v = .agg #[.int .i64 1, .bool true, .int .i64 48, .int .i64 48], fun F v => v = .agg #[.int .i64 2, .bool true, .int .i64 30, .int .i64 30], fun F v => Sl F v 4 Ent.enc [ent1 0 45 45, ent1 1 48 48, ent1 2 30 30], fun F v => v = .tuple #[tupA v 0, .int .i64 0] ∧ Nats F (tupA v 0) [0, 2], fun F v => v = .tuple #[tupA v 0, .int .i64 0] ∧ Nats F (tupA v 0) [0, 2], fun F v => Nats F v [0, 2], fun F v => v = .int .i64 0, fun F v => Nats F v [0, 2], fun F v => v = .int .i64 0]) (⟨fun F F2 v hF h => h, fun F F2 v hF h => h, fun F F2 v hF h => h, fun F F2 v hF h => h, fun F F2 v hF h => h.mono hF, fun F F2 v hF h => ⟨h.1, h.2.mono hF⟩, fun F F2 v hF h => ⟨h.1, h.2.mono hF⟩, fun F F2 v hF h => h.mono hF, fun F F2 v hF h => h, fun F F2 v hF h => h.mono hF, fun F F2 v hF h => h, trivial⟩) (fun ds => ?_) (fun ds => ?_)
 ·
  refine ⟨⟨⟨⟨⟨⟨⟨⟨⟨⟨⟨trivial, ?_⟩, ?_⟩, ?_⟩, ?_⟩, ?_⟩, ?_⟩, ?_⟩, ?_⟩, ?_⟩, ?_⟩, ?_⟩
  ·
   intro e1 F1 hF1 he hj
   refine ⟨_, _, _, _, _, rfl, ?_⟩
   refine Bp (Bj Cc (Bx (B4 he (by kernel_rfl)) <| Bx (B4 he62 (by kernel_rfl)) <| Bx (B4 he58 (by kernel_rfl)) <| Bs rfl <| Bc rfl <| Ba rfl <| Ap rfl <| Ac) rfl rfl (Bn 0 rfl)).quiet ⟨_, rfl, Heap.le_refl _, rfl⟩
  ·
   intro e1 F1 hF1 he hj
   refine ⟨_, _, _, _, _, rfl, ?_⟩
   refine Bp (A9 bd_36 Ay (.cons Ab (.cons Ab (.cons Ab .nil))) (entry_ok _ _ _) (fun _ _ h => h)) ⟨_, rfl, Heap.le_refl _, rfl⟩
  ·
   intro e1 F1 hF1 he hj
   have g88 : (e1 88) = .agg #[.int .i64 0, .bool true, .int .i64 45, .int .i64 45] := hj 1 (by kernel_rfl) (by decide)
   refine ⟨_, _, _, _, _, rfl, ?_⟩
   refine Bp (A9 bd_36 Ay (.cons Ab (.cons Ab (.cons Ab .nil))) (entry_ok _ _ _) (fun _ _ h => h)) ⟨_, rfl, Heap.le_refl _, rfl⟩
  ·
   intro e1 F1 hF1 he hj
   have g89 : (e1 89) = .agg #[.int .i64 1, .bool true, .int .i64 48, .int .i64 48] := hj 2 (by kernel_rfl) (by decide)
   refine ⟨_, _, _, _, _, rfl, ?_⟩
   refine Bp (A9 bd_36 Ay (.cons Ab (.cons Ab (.cons Ab .nil))) (entry_ok _ _ _) (fun _ _ h => h)) ⟨_, rfl, Heap.le_refl _, rfl⟩
  ·
   intro e1 F1 hF1 he hj
   have g88 : (e1 88) = .agg #[.int .i64 0, .bool true, .int .i64 45, .int .i64 45] := hj 1 (by kernel_rfl) (by decide)
   have g89 : (e1 89) = .agg #[.int .i64 1, .bool true, .int .i64 48, .int .i64 48] := hj 2 (by kernel_rfl) (by decide)
   have g90 : (e1 90) = .agg #[.int .i64 2, .bool true, .int .i64 30, .int .i64 30] := hj 3 (by kernel_rfl) (by decide)
   refine ⟨_, _, _, _, _, rfl, ?_⟩
   refine OpX_freeze (Di (offs := [(0, 4), (4, 4), (8, 4)]) (zl := [.int .i64 0, .bool false, .int .i64 0, .int .i64 0, .int .i64 0, .bool false, .int .i64 0, .int .i64 0, .int .i64 0, .bool false, .int .i64 0, .int .i64 0]) sl_47 zr_60 rfl (.cons (Ct g88) rfl (.cons (Ct g89) rfl (.cons (Ct g90) rfl .nil))) (by intro i p h; rcases i with _ | _ | _ | i <;> simp at h <;> subst h <;> rfl) (.cons rfl rfl (Nat.le_of_ble_eq_true rfl) (.cons (.here) (.cons (.next <| .here) (.cons (.next <| .next <| .here) (.cons (.next <| .next <| .next <| .here) .nil)))) (.cons rfl rfl (Nat.le_of_ble_eq_true rfl) (.cons (.next <| .next <| .next <| .next <| .here) (.cons (.next <| .next <| .next <| .next <| .next <| .here) (.cons (.next <| .next <| .next <| .next <| .next <| .next <| .here) (.cons (.next <| .next <| .next <| .next <| .next <| .next <| .next <| .here) .nil)))) (.cons rfl rfl (Nat.le_of_ble_eq_true rfl) (.cons (.next <| .next <| .next <| .next <| .next <| .next <| .next <| .next <| .here) (.cons (.next <| .next <| .next <| .next <| .next <| .next <| .next <| .next <| .next <| .here) (.cons (.next <| .next <| .next <| .next <| .next <| .next <| .next <| .next <| .next <| .next <| .here) (.cons (.next <| .next <| .next <| .next <| .next <| .next <| .next <| .next <| .next <| .next <| .next <| .here) .nil)))) .nil))) (by decide) (by decide) fun b hb nb => ⟨b, _, hb, rfl, fun F2 hF2 hz => ⟨F2, rfl, hF2, (entC_box3 hz)⟩⟩)
  ·
   intro e1 F1 hF1 he hj
   replace hr := hr.mono hF1
   have g87 : (e1 87) = .agg #[vs, .int .i64 100, .int .i64 150, .int .i64 14, vb, vl, vn, vd] := hj 0 (by kernel_rfl) (by decide)
   have g90 : (e1 90) = .agg #[.int .i64 2, .bool true, .int .i64 30, .int .i64 30] := hj 3 (by kernel_rfl) (by decide)
   have g91 : Sl F1 (e1 91) 4 Ent.enc [ent1 0 45 45, ent1 1 48 48, ent1 2 30 30] := hj 4 (by kernel_rfl) (by decide)
   refine ⟨_, _, _, _, _, rfl, ?_⟩
   refine Cw bd_33 Ay (.cons (Ct g87) (.cons (Ct rfl) .nil)) (wrong_ok hr g91) fun v2 F2 hr hF2 => ⟨F2, rfl, hF2, (hr.ans ev_w1)⟩
  ·
   intro e1 F1 hF1 he hj
   have g92 : (e1 92) = .tuple #[tupA (e1 92) 0, .int .i64 0] ∧ Nats F1 (tupA (e1 92) 0) [0, 2] := hj 5 (by kernel_rfl) (by decide)
   refine ⟨_, _, _, _, _, rfl, ?_⟩
   refine Bp (Ag (Ct g92.1)).quiet ⟨_, rfl, Heap.le_refl _, ⟨rfl, g92.2⟩⟩
  ·
   intro e1 F1 hF1 he hj
   have g86 : (e1 86) = .tuple #[tupA (e1 86) 0, .int .i64 0] ∧ Nats F1 (tupA (e1 86) 0) [0, 2] := hj 6 (by kernel_rfl) (by decide)
   refine ⟨_, _, _, _, _, rfl, ?_⟩
   refine Bp (Az (Ct g86.1) rfl).quiet ⟨_, rfl, Heap.le_refl _, g86.2⟩
  ·
   intro e1 F1 hF1 he hj
   have g86 : (e1 86) = .tuple #[tupA (e1 86) 0, .int .i64 0] ∧ Nats F1 (tupA (e1 86) 0) [0, 2] := hj 6 (by kernel_rfl) (by decide)
   refine ⟨_, _, _, _, _, rfl, ?_⟩
   refine Bp (Az (Ct g86.1) rfl).quiet ⟨_, rfl, Heap.le_refl _, rfl⟩
  ·
   intro e1 F1 hF1 he hj
   have g87 : (e1 87) = .agg #[vs, .int .i64 100, .int .i64 150, .int .i64 14, vb, vl, vn, vd] := hj 0 (by kernel_rfl) (by decide)
   have g88 : (e1 88) = .agg #[.int .i64 0, .bool true, .int .i64 45, .int .i64 45] := hj 1 (by kernel_rfl) (by decide)
   have g89 : (e1 89) = .agg #[.int .i64 1, .bool true, .int .i64 48, .int .i64 48] := hj 2 (by kernel_rfl) (by decide)
   have g90 : (e1 90) = .agg #[.int .i64 2, .bool true, .int .i64 30, .int .i64 30] := hj 3 (by kernel_rfl) (by decide)
   have g91 : Sl F1 (e1 91) 4 Ent.enc [ent1 0 45 45, ent1 1 48 48, ent1 2 30 30] := hj 4 (by kernel_rfl) (by decide)
   have g92 : (e1 92) = .tuple #[tupA (e1 92) 0, .int .i64 0] ∧ Nats F1 (tupA (e1 92) 0) [0, 2] := hj 5 (by kernel_rfl) (by decide)
   have g86 : (e1 86) = .tuple #[tupA (e1 86) 0, .int .i64 0] ∧ Nats F1 (tupA (e1 86) 0) [0, 2] := hj 6 (by kernel_rfl) (by decide)
   have g93 : Nats F1 (e1 93) [0, 2] := hj 7 (by kernel_rfl) (by decide)
   refine ⟨_, _, _, _, _, rfl, ?_⟩
   refine Bp (Ae (Ct rfl)).quiet ⟨_, rfl, Heap.le_refl _, g93⟩
  ·
   intro e1 F1 hF1 he hj
   have g87 : (e1 87) = .agg #[vs, .int .i64 100, .int .i64 150, .int .i64 14, vb, vl, vn, vd] := hj 0 (by kernel_rfl) (by decide)
   have g88 : (e1 88) = .agg #[.int .i64 0, .bool true, .int .i64 45, .int .i64 45] := hj 1 (by kernel_rfl) (by decide)
   have g89 : (e1 89) = .agg #[.int .i64 1, .bool true, .int .i64 48, .int .i64 48] := hj 2 (by kernel_rfl) (by decide)
   have g90 : (e1 90) = .agg #[.int .i64 2, .bool true, .int .i64 30, .int .i64 30] := hj 3 (by kernel_rfl) (by decide)
   have g91 : Sl F1 (e1 91) 4 Ent.enc [ent1 0 45 45, ent1 1 48 48, ent1 2 30 30] := hj 4 (by kernel_rfl) (by decide)
   have g92 : (e1 92) = .tuple #[tupA (e1 92) 0, .int .i64 0] ∧ Nats F1 (tupA (e1 92) 0) [0, 2] := hj 5 (by kernel_rfl) (by decide)
   have g86 : (e1 86) = .tuple #[tupA (e1 86) 0, .int .i64 0] ∧ Nats F1 (tupA (e1 86) 0) [0, 2] := hj 6 (by kernel_rfl) (by decide)
   have g93 : Nats F1 (e1 93) [0, 2] := hj 7 (by kernel_rfl) (by decide)
   have g94 : (e1 94) = .int .i64 0 := hj 8 (by kernel_rfl) (by decide)
   have g23 : Nats F1 (e1 23) [0, 2] := hj 9 (by kernel_rfl) (by decide)
   refine ⟨_, _, _, _, _, rfl, ?_⟩
   refine Bp (Ae (Ct g94)).quiet ⟨_, rfl, Heap.le_refl _, rfl⟩
 intro e67 F64 hF65 he66 hj
 replace hr := hr.mono hF65
 replace hq1 := hq1.mono hF65
 replace hq2 := hq2.mono hF65
 replace hq3 := hq3.mono hF65
 replace hq4 := hq4.mono hF65
 replace hq7 := hq7.mono hF65
 replace g18 := g18.mono hF65
 replace g20 := g20.mono hF65
 replace g21 := g21.mono hF65
 have g87 : (e67 87) = .agg #[vs, .int .i64 100, .int .i64 150, .int .i64 14, vb, vl, vn, vd] := hj 0 (by decide)
 have g88 : (e67 88) = .agg #[.int .i64 0, .bool true, .int .i64 45, .int .i64 45] := hj 1 (by decide)
 have g89 : (e67 89) = .agg #[.int .i64 1, .bool true, .int .i64 48, .int .i64 48] := hj 2 (by decide)
 have g90 : (e67 90) = .agg #[.int .i64 2, .bool true, .int .i64 30, .int .i64 30] := hj 3 (by decide)
 have g91 : Sl F64 (e67 91) 4 Ent.enc [ent1 0 45 45, ent1 1 48 48, ent1 2 30 30] := hj 4 (by decide)
 have g92 : (e67 92) = .tuple #[tupA (e67 92) 0, .int .i64 0] ∧ Nats F64 (tupA (e67 92) 0) [0, 2] := hj 5 (by decide)
 have g86 : (e67 86) = .tuple #[tupA (e67 86) 0, .int .i64 0] ∧ Nats F64 (tupA (e67 86) 0) [0, 2] := hj 6 (by decide)
 have g93 : Nats F64 (e67 93) [0, 2] := hj 7 (by decide)
 have g94 : (e67 94) = .int .i64 0 := hj 8 (by decide)
 have g23 : Nats F64 (e67 23) [0, 2] := hj 9 (by decide)
 have g24 : (e67 24) = .int .i64 0 := hj 10 (by decide)
 refine Ad <| Af <| WC_drawF 9 (.inl rfl) (fun _ _ h => h) (by kernel_rfl) (by kernel_rfl) false rfl ([fun F v => v = .agg #[vs, .int .i64 100, .int .i64 150, .int .i64 14, vb, vl, vn, vd], fun F v => v = .agg #[.int .i64 2, .bool true, .int .i64 30, .int .i64 30], fun F v => Sl F v 4 Ent.enc [ent1 2 30 30], fun F v => v = .tuple #[tupA v 0, .int .i64 8] ∧ Lsts F (tupA v 0) [], fun F v => v = .tuple #[tupA v 0, .int .i64 8] ∧ Lsts F (tupA v 0) [], fun F v => Lsts F v [], fun F v => v = .int .i64 8, fun F v => Lsts F v [], fun F v => v = .int .i64 8]) (⟨fun F F2 v hF h => h, fun F F2 v hF h => h, fun F F2 v hF h => h.mono hF, fun F F2 v hF h => ⟨h.1, h.2.mono hF⟩, fun F F2 v hF h => ⟨h.1, h.2.mono hF⟩, fun F F2 v hF h => h.mono hF, fun F F2 v hF h => h, fun F F2 v hF h => h.mono hF, fun F F2 v hF h => h, trivial⟩) (fun ds => ?_) (fun ds => ?_)
 ·
  refine ⟨⟨⟨⟨⟨⟨⟨⟨⟨trivial, ?_⟩, ?_⟩, ?_⟩, ?_⟩, ?_⟩, ?_⟩, ?_⟩, ?_⟩, ?_⟩
  ·
   intro e1 F1 hF1 he hj
   refine ⟨_, _, _, _, _, rfl, ?_⟩
   refine Bp (Bj Cc (Bx (B4 he (by kernel_rfl)) <| Bx (B4 he66 (by kernel_rfl)) <| Bx (B4 he62 (by kernel_rfl)) <| Bx (B4 he58 (by kernel_rfl)) <| Bs rfl <| Bc rfl <| Ba rfl <| Ap rfl <| Ac) rfl rfl (Bn 0 rfl)).quiet ⟨_, rfl, Heap.le_refl _, rfl⟩
  ·
   intro e1 F1 hF1 he hj
   refine ⟨_, _, _, _, _, rfl, ?_⟩
   refine Bp (A9 bd_36 Ay (.cons Ab (.cons Ab (.cons Ab .nil))) (entry_ok _ _ _) (fun _ _ h => h)) ⟨_, rfl, Heap.le_refl _, rfl⟩
  ·
   intro e1 F1 hF1 he hj
   have g97 : (e1 97) = .agg #[.int .i64 2, .bool true, .int .i64 30, .int .i64 30] := hj 1 (by kernel_rfl) (by decide)
   refine ⟨_, _, _, _, _, rfl, ?_⟩
   refine OpX_freeze (Di (offs := [(0, 4)]) (zl := [.int .i64 0, .bool false, .int .i64 0, .int .i64 0]) sl_47 zr_60 rfl (.cons (Ct g97) rfl .nil) (by intro i p h; rcases i with _ | i <;> simp at h <;> subst h <;> rfl) (.cons rfl rfl (Nat.le_of_ble_eq_true rfl) (.cons (.here) (.cons (.next <| .here) (.cons (.next <| .next <| .here) (.cons (.next <| .next <| .next <| .here) .nil)))) .nil) (by decide) (by decide) fun b hb nb => ⟨b, _, hb, rfl, fun F2 hF2 hz => ⟨F2, rfl, hF2, (entD_box1 hz)⟩⟩)
  ·
   intro e1 F1 hF1 he hj
   replace hr := hr.mono hF1
   have g96 : (e1 96) = .agg #[vs, .int .i64 100, .int .i64 150, .int .i64 14, vb, vl, vn, vd] := hj 0 (by kernel_rfl) (by decide)
   have g97 : (e1 97) = .agg #[.int .i64 2, .bool true, .int .i64 30, .int .i64 30] := hj 1 (by kernel_rfl) (by decide)
   have g98 : Sl F1 (e1 98) 4 Ent.enc [ent1 2 30 30] := hj 2 (by kernel_rfl) (by decide)
   refine ⟨_, _, _, _, _, rfl, ?_⟩
   refine Cw bd_28 Ay (.cons (Ct g96) (.cons (Ct rfl) .nil)) (rings_top_ok hr g98) fun v2 F2 hr hF2 => ⟨F2, rfl, hF2, (hr.ans ev_r2)⟩
  ·
   intro e1 F1 hF1 he hj
   have g99 : (e1 99) = .tuple #[tupA (e1 99) 0, .int .i64 8] ∧ Lsts F1 (tupA (e1 99) 0) [] := hj 3 (by kernel_rfl) (by decide)
   refine ⟨_, _, _, _, _, rfl, ?_⟩
   refine Bp (Ag (Ct g99.1)).quiet ⟨_, rfl, Heap.le_refl _, ⟨rfl, g99.2⟩⟩
  ·
   intro e1 F1 hF1 he hj
   have g95 : (e1 95) = .tuple #[tupA (e1 95) 0, .int .i64 8] ∧ Lsts F1 (tupA (e1 95) 0) [] := hj 4 (by kernel_rfl) (by decide)
   refine ⟨_, _, _, _, _, rfl, ?_⟩
   refine Bp (Az (Ct g95.1) rfl).quiet ⟨_, rfl, Heap.le_refl _, g95.2⟩
  ·
   intro e1 F1 hF1 he hj
   have g95 : (e1 95) = .tuple #[tupA (e1 95) 0, .int .i64 8] ∧ Lsts F1 (tupA (e1 95) 0) [] := hj 4 (by kernel_rfl) (by decide)
   refine ⟨_, _, _, _, _, rfl, ?_⟩
   refine Bp (Az (Ct g95.1) rfl).quiet ⟨_, rfl, Heap.le_refl _, rfl⟩
  ·
   intro e1 F1 hF1 he hj
   have g96 : (e1 96) = .agg #[vs, .int .i64 100, .int .i64 150, .int .i64 14, vb, vl, vn, vd] := hj 0 (by kernel_rfl) (by decide)
   have g97 : (e1 97) = .agg #[.int .i64 2, .bool true, .int .i64 30, .int .i64 30] := hj 1 (by kernel_rfl) (by decide)
   have g98 : Sl F1 (e1 98) 4 Ent.enc [ent1 2 30 30] := hj 2 (by kernel_rfl) (by decide)
   have g99 : (e1 99) = .tuple #[tupA (e1 99) 0, .int .i64 8] ∧ Lsts F1 (tupA (e1 99) 0) [] := hj 3 (by kernel_rfl) (by decide)
   have g95 : (e1 95) = .tuple #[tupA (e1 95) 0, .int .i64 8] ∧ Lsts F1 (tupA (e1 95) 0) [] := hj 4 (by kernel_rfl) (by decide)
   have g100 : Lsts F1 (e1 100) [] := hj 5 (by kernel_rfl) (by decide)
   refine ⟨_, _, _, _, _, rfl, ?_⟩
   refine Bp (Ae (Ct rfl)).quiet ⟨_, rfl, Heap.le_refl _, g100⟩
  ·
   intro e1 F1 hF1 he hj
   have g96 : (e1 96) = .agg #[vs, .int .i64 100, .int .i64 150, .int .i64 14, vb, vl, vn, vd] := hj 0 (by kernel_rfl) (by decide)
   have g97 : (e1 97) = .agg #[.int .i64 2, .bool true, .int .i64 30, .int .i64 30] := hj 1 (by kernel_rfl) (by decide)
   have g98 : Sl F1 (e1 98) 4 Ent.enc [ent1 2 30 30] := hj 2 (by kernel_rfl) (by decide)
   have g99 : (e1 99) = .tuple #[tupA (e1 99) 0, .int .i64 8] ∧ Lsts F1 (tupA (e1 99) 0) [] := hj 3 (by kernel_rfl) (by decide)
   have g95 : (e1 95) = .tuple #[tupA (e1 95) 0, .int .i64 8] ∧ Lsts F1 (tupA (e1 95) 0) [] := hj 4 (by kernel_rfl) (by decide)
   have g100 : Lsts F1 (e1 100) [] := hj 5 (by kernel_rfl) (by decide)
   have g101 : (e1 101) = .int .i64 8 := hj 6 (by kernel_rfl) (by decide)
   have g25 : Lsts F1 (e1 25) [] := hj 7 (by kernel_rfl) (by decide)
   refine ⟨_, _, _, _, _, rfl, ?_⟩
   refine Bp (Ae (Ct g101)).quiet ⟨_, rfl, Heap.le_refl _, rfl⟩
 intro e71 F68 hF69 he70 hj
 replace hq1 := hq1.mono hF69
 replace hq2 := hq2.mono hF69
 replace hq3 := hq3.mono hF69
 replace hq4 := hq4.mono hF69
 replace hq7 := hq7.mono hF69
 replace g18 := g18.mono hF69
 replace g20 := g20.mono hF69
 replace g21 := g21.mono hF69
 replace g23 := g23.mono hF69
 have g96 : (e71 96) = .agg #[vs, .int .i64 100, .int .i64 150, .int .i64 14, vb, vl, vn, vd] := hj 0 (by decide)
 have g97 : (e71 97) = .agg #[.int .i64 2, .bool true, .int .i64 30, .int .i64 30] := hj 1 (by decide)
 have g98 : Sl F68 (e71 98) 4 Ent.enc [ent1 2 30 30] := hj 2 (by decide)
 have g99 : (e71 99) = .tuple #[tupA (e71 99) 0, .int .i64 8] ∧ Lsts F68 (tupA (e71 99) 0) [] := hj 3 (by decide)
 have g95 : (e71 95) = .tuple #[tupA (e71 95) 0, .int .i64 8] ∧ Lsts F68 (tupA (e71 95) 0) [] := hj 4 (by decide)
 have g100 : Lsts F68 (e71 100) [] := hj 5 (by decide)
 have g101 : (e71 101) = .int .i64 8 := hj 6 (by decide)
 have g25 : Lsts F68 (e71 25) [] := hj 7 (by decide)
 have g26 : (e71 26) = .int .i64 8 := hj 8 (by decide)
 refine Ad <| Af <| Ai fun ds => Aa rfl (Ag (Bx (B4 he70 (by kernel_rfl)) <| Bx (B4 he66 (by kernel_rfl)) <| Bx (B4 he62 (by kernel_rfl)) <| Bx (B4 he58 (by kernel_rfl)) <| Bs rfl <| Bc rfl <| Ap rfl <| Al rfl <| Ac)) ?_
 refine Aa rfl (B7 (Ac) Ab) ?_
 refine Aa rfl (Ag (Ac)) ?_
 refine As rfl rfl (Ac) (by first | rfl | decide) ?_
 refine Aa rfl (Ag (Ap rfl <| Al rfl <| Bx (B4 he70 (by kernel_rfl)) <| Bx (B4 he66 (by kernel_rfl)) <| Bx (B4 he62 (by kernel_rfl)) <| Bx (B4 he58 (by kernel_rfl)) <| Bs rfl <| Ba rfl <| A0 rfl <| Ac)) ?_
 refine As rfl rfl (Al rfl <| Ac) (by first | rfl | decide) ?_
 refine Aa rfl (B7 (Ac) Ab) ?_
 refine Aa rfl (A4 (Ap rfl <| Ac) (by first | rfl | decide) (Ac)) ?_
 refine Aa rfl (Ag (Ac)) ?_
 refine As rfl rfl (Ac) (by first | rfl | decide) ?_
 refine Aa rfl (Ag (A0 rfl <| Ap rfl <| Al rfl <| Bx (B4 he70 (by kernel_rfl)) <| Bx (B4 he66 (by kernel_rfl)) <| Bx (B4 he62 (by kernel_rfl)) <| Bx (B4 he58 (by kernel_rfl)) <| Bs rfl <| A0 rfl <| Ac)) ?_
 refine As rfl rfl (Al rfl <| Ac) (by first | rfl | decide) ?_
 refine Aa rfl (B7 (Ac) Ab) ?_
 refine Aa rfl (A4 (Ap rfl <| Ac) (by first | rfl | decide) (Ac)) ?_
 refine Aa rfl (Ag (Ac)) ?_
 refine As rfl rfl (Ac) (by first | rfl | decide) ?_
 refine Aa rfl (Ag (Ba rfl <| Ap rfl <| Al rfl <| Bx (B4 he70 (by kernel_rfl)) <| Bx (B4 he66 (by kernel_rfl)) <| Bx (B4 he62 (by kernel_rfl)) <| Bx (B4 he58 (by kernel_rfl)) <| Bc rfl <| A0 rfl <| Ap rfl <| Ac)) ?_
 refine As rfl rfl (Al rfl <| Ac) (by first | rfl | decide) ?_
 refine Aa rfl (B7 (Ac) Ab) ?_
 refine Aa rfl (A4 (Ap rfl <| Ac) (by first | rfl | decide) (Ac)) ?_
 refine Aa rfl (Ag (Ac)) ?_
 refine As rfl rfl (Ac) (by first | rfl | decide) ?_
 refine Aa rfl (Ag (Ba rfl <| A0 rfl <| Ap rfl <| Al rfl <| Bx (B4 he70 (by kernel_rfl)) <| Bx (B4 he66 (by kernel_rfl)) <| Bx (B4 he62 (by kernel_rfl)) <| Bx (B4 he58 (by kernel_rfl)) <| Ac)) ?_
 refine As rfl rfl (Al rfl <| Ac) (by first | rfl | decide) ?_
 refine Aa rfl (B7 (Ac) Ab) ?_
 refine Aa rfl (A4 (Ap rfl <| Ac) (by first | rfl | decide) (Ac)) ?_
 refine Aa rfl (Ag (Ac)) ?_
 refine As rfl rfl (Ac) (by first | rfl | decide) ?_
 refine Aa rfl (Ag (Bc rfl <| Ap rfl <| Al rfl <| Bx (B4 he70 (by kernel_rfl)) <| Bx (B4 he66 (by kernel_rfl)) <| Bx (B4 he62 (by kernel_rfl)) <| Ct g19)) ?_
 refine As rfl rfl (Al rfl <| Ac) (by first | rfl | decide) ?_
 refine Aa rfl (B7 (Ac) Ab) ?_
 refine Aa rfl (A4 (Ap rfl <| Ac) (by first | rfl | decide) (Ac)) ?_
 refine Aa rfl (Ag (Ac)) ?_
 refine As rfl rfl (Ac) (by first | rfl | decide) ?_
 refine Aa rfl (Ag (Bc rfl <| A0 rfl <| Ap rfl <| Al rfl <| Bx (B4 he70 (by kernel_rfl)) <| Bx (B4 he66 (by kernel_rfl)) <| Ct g22)) ?_
 refine As rfl rfl (Al rfl <| Ac) (by first | rfl | decide) ?_
 refine Aa rfl (B7 (Ac) Ab) ?_
 refine Aa rfl (A4 (Ap rfl <| Ac) (by first | rfl | decide) (Ac)) ?_
 refine Aa rfl (Ag (Ac)) ?_
 refine As rfl rfl (Ac) (by first | rfl | decide) ?_
 refine Aa rfl (Ag (Bc rfl <| Ba rfl <| Ap rfl <| Al rfl <| Bx (B4 he70 (by kernel_rfl)) <| Ct g24)) ?_
 refine As rfl rfl (Al rfl <| Ac) (by first | rfl | decide) ?_
 refine Aa rfl (B7 (Ac) Ab) ?_
 refine Aa rfl (A4 (Ap rfl <| Ac) (by first | rfl | decide) (Ac)) ?_
 refine Aa rfl (Ag (Ac)) ?_
 refine As rfl rfl (Ac) (by first | rfl | decide) ?_
 refine Aa rfl (Ag (Bc rfl <| Ba rfl <| A0 rfl <| Ap rfl <| Al rfl <| Bx (B4 he70 (by kernel_rfl)) <| Bx (B4 he66 (by kernel_rfl)) <| Bx (B4 he62 (by kernel_rfl)) <| Bx (B4 he58 (by kernel_rfl)) <| Ba rfl <| Ac)) ?_
 refine As rfl rfl (Al rfl <| Ac) (by first | rfl | decide) ?_
 refine Aa rfl (B7 (Ac) Ab) ?_
 refine Aa rfl (A4 (Ap rfl <| Ac) (by first | rfl | decide) (Ac)) ?_
 refine Aa rfl (Ag (Ac)) ?_
 refine As rfl rfl (Ac) (by first | rfl | decide) ?_
 refine Aa rfl (Ag (Bs rfl <| Ap rfl <| Al rfl <| Ct g26)) ?_
 refine As rfl rfl (Al rfl <| Ac) (by first | rfl | decide) ?_
 refine Aa rfl (B7 (Ac) Ab) ?_
 refine Aa rfl (A4 (Ap rfl <| Ac) (by first | rfl | decide) (Ac)) ?_
 refine Aa rfl (Ag (Ac)) ?_
 refine As rfl rfl (Ac) (by first | rfl | decide) ?_
 refine Aa rfl (Ag (Bs rfl <| A0 rfl <| Ap rfl <| Al rfl <| Bx (B4 he70 (by kernel_rfl)) <| Bx (B4 he66 (by kernel_rfl)) <| Bx (B4 he62 (by kernel_rfl)) <| Bx (B4 he58 (by kernel_rfl)) <| Bs rfl <| Bc rfl <| A0 rfl <| Ac)) ?_
 refine As rfl rfl (Al rfl <| Ac) (by first | rfl | decide) ?_
 refine Aa rfl (B7 (Ac) Ab) ?_
 refine Aa rfl (A4 (Ap rfl <| Ac) (by first | rfl | decide) (Ac)) ?_
 refine Aa rfl (Ag (Ac)) ?_
 refine As rfl rfl (Ac) (by first | rfl | decide) ?_
 refine Aa rfl (Ag (Bs rfl <| Ba rfl <| Ap rfl <| Al rfl <| Bx (B4 he70 (by kernel_rfl)) <| Bx (B4 he66 (by kernel_rfl)) <| Bx (B4 he62 (by kernel_rfl)) <| Bx (B4 he58 (by kernel_rfl)) <| Bs rfl <| Ba rfl <| A0 rfl <| Al rfl <| Ac)) ?_
 refine As rfl rfl (Al rfl <| Ac) (by first | rfl | decide) ?_
 refine Bt rfl (A9 bd_37 Ay (.cons Ab (.cons Ab .nil)) (result_ok _ _) (fun _ _ h => h)) ?_
 refine As rfl rfl (Ap rfl <| Ac) (by first | rfl | decide) ?_
 refine Bt rfl (A9 bd_37 Ay (.cons Ab (.cons Ab .nil)) (result_ok _ _) (fun _ _ h => h)) ?_
 refine As rfl rfl (Ap rfl <| Al rfl <| Ac) (by first | rfl | decide) ?_
 refine Bt rfl (A9 bd_37 Ay (.cons Ab (.cons Ab .nil)) (result_ok _ _) (fun _ _ h => h)) ?_
 refine As rfl rfl (A0 rfl <| Ac) (by first | rfl | decide) ?_
 refine Bl rfl (Di (offs := [(0, 2), (2, 2), (4, 2)]) (zl := [.int .i64 0, .int .i64 0, .int .i64 0, .int .i64 0, .int .i64 0, .int .i64 0]) C0 zr_63 rfl (.cons (Ap rfl <| Ac) rfl (.cons (Al rfl <| Ac) rfl (.cons (Ac) rfl .nil))) (by intro i p h; rcases i with _ | _ | _ | i <;> simp at h <;> subst h <;> rfl) (.cons rfl rfl (Nat.le_of_ble_eq_true rfl) (.cons (.here) (.cons (.next <| .here) .nil)) (.cons rfl rfl (Nat.le_of_ble_eq_true rfl) (.cons (.next <| .next <| .here) (.cons (.next <| .next <| .next <| .here) .nil)) (.cons rfl rfl (Nat.le_of_ble_eq_true rfl) (.cons (.next <| .next <| .next <| .next <| .here) (.cons (.next <| .next <| .next <| .next <| .next <| .here) .nil)) .nil))) (by decide) (by decide) fun b72 hb72 nb72 => ?_)
 refine Bq (i := 0) rfl hb72 .here fun F73 hF74 hz75 => ?_
 replace hq1 := hq1.mono hF74
 replace hq2 := hq2.mono hF74
 replace hq3 := hq3.mono hF74
 replace hq4 := hq4.mono hF74
 replace hq7 := hq7.mono hF74
 replace g18 := g18.mono hF74
 replace g20 := g20.mono hF74
 replace g21 := g21.mono hF74
 replace g23 := g23.mono hF74
 have hsl76 := resA_box3 hz75
 refine As rfl rfl (A0 rfl <| Al rfl <| Ac) (by first | rfl | decide) ?_
 refine Bt rfl (A9 bd_21 Ay (.cons (A0 rfl <| Ac) (.cons (Ac) .nil)) (refSame_ok hq1 hsl76) (fun _ _ h => h)) ?_
 refine Aa rfl (A4 (A0 rfl <| Ap rfl <| Ac) (by first | rfl | decide) (Ac)) ?_
 refine Aa rfl (Ag (Ac)) ?_
 refine As rfl rfl (Ac) (by first | rfl | decide) ?_
 refine Aa rfl (Ag (Bs rfl <| Bc rfl <| Ap rfl <| Al rfl <| Bx (B4 he70 (by kernel_rfl)) <| Bx (B4 he66 (by kernel_rfl)) <| Bx (B4 he62 (by kernel_rfl)) <| Bx (B4 he58 (by kernel_rfl)) <| Bs rfl <| A0 rfl <| Al rfl <| Ac)) ?_
 refine As rfl rfl (Al rfl <| Ac) (by first | rfl | decide) ?_
 refine Bt rfl (A9 bd_37 Ay (.cons Ab (.cons Ab .nil)) (result_ok _ _) (fun _ _ h => h)) ?_
 refine As rfl rfl (Ap rfl <| Ac) (by first | rfl | decide) ?_
 refine Bt rfl (A9 bd_37 Ay (.cons Ab (.cons Ab .nil)) (result_ok _ _) (fun _ _ h => h)) ?_
 refine As rfl rfl (Ap rfl <| Al rfl <| Ac) (by first | rfl | decide) ?_
 refine Bt rfl (A9 bd_37 Ay (.cons Ab (.cons Ab .nil)) (result_ok _ _) (fun _ _ h => h)) ?_
 refine As rfl rfl (A0 rfl <| Ac) (by first | rfl | decide) ?_
 refine Bl rfl (Di (offs := [(0, 2), (2, 2), (4, 2)]) (zl := [.int .i64 0, .int .i64 0, .int .i64 0, .int .i64 0, .int .i64 0, .int .i64 0]) C0 zr_63 rfl (.cons (Ap rfl <| Ac) rfl (.cons (Al rfl <| Ac) rfl (.cons (Ac) rfl .nil))) (by intro i p h; rcases i with _ | _ | _ | i <;> simp at h <;> subst h <;> rfl) (.cons rfl rfl (Nat.le_of_ble_eq_true rfl) (.cons (.here) (.cons (.next <| .here) .nil)) (.cons rfl rfl (Nat.le_of_ble_eq_true rfl) (.cons (.next <| .next <| .here) (.cons (.next <| .next <| .next <| .here) .nil)) (.cons rfl rfl (Nat.le_of_ble_eq_true rfl) (.cons (.next <| .next <| .next <| .next <| .here) (.cons (.next <| .next <| .next <| .next <| .next <| .here) .nil)) .nil))) (by decide) (by decide) fun b77 hb77 nb77 => ?_)
 refine Bq (i := 0) rfl hb77 .here fun F78 hF79 hz80 => ?_
 replace hq2 := hq2.mono hF79
 replace hq3 := hq3.mono hF79
 replace hq4 := hq4.mono hF79
 replace hq7 := hq7.mono hF79
 replace g18 := g18.mono hF79
 replace g20 := g20.mono hF79
 replace g21 := g21.mono hF79
 replace g23 := g23.mono hF79
 have hsl81 := resB_box3 hz80
 refine As rfl rfl (A0 rfl <| Al rfl <| Ac) (by first | rfl | decide) ?_
 refine Bt rfl (A9 bd_21 Ay (.cons (A0 rfl <| Ac) (.cons (Ac) .nil)) (refSame_ok hq2 hsl81) (fun _ _ h => h)) ?_
 refine Aa rfl (A4 (A0 rfl <| Ap rfl <| Ac) (by first | rfl | decide) (Ac)) ?_
 refine Aa rfl (Ag (Ac)) ?_
 refine As rfl rfl (Ac) (by first | rfl | decide) ?_
 refine Aa rfl (Ag (Bs rfl <| Bc rfl <| Ba rfl <| Ap rfl <| Al rfl <| Bx (B4 he70 (by kernel_rfl)) <| Bx (B4 he66 (by kernel_rfl)) <| Bx (B4 he62 (by kernel_rfl)) <| Bx (B4 he58 (by kernel_rfl)) <| Bc rfl <| Ba rfl <| Al rfl <| Ac)) ?_
 refine As rfl rfl (Al rfl <| Ac) (by first | rfl | decide) ?_
 refine Bl rfl (Bw Bo Cz rfl (.cons Ab (.cons Ab (.cons Ab (.cons Ab .nil)))) rfl rfl (by decide) (by simp [Value.oneCell']) fun b82 hb82 nb82 => ?_)
 refine Bq (i := 0) rfl hb82 .here fun F83 hF84 hz85 => ?_
 replace hq3 := hq3.mono hF84
 replace hq4 := hq4.mono hF84
 replace hq7 := hq7.mono hF84
 replace g18 := g18.mono hF84
 replace g20 := g20.mono hF84
 replace g21 := g21.mono hF84
 replace g23 := g23.mono hF84
 have hsl86 := ints_box4 hz85
 refine As rfl rfl (Ap rfl <| Ac) (by first | rfl | decide) ?_
 refine Bt rfl (A9 bd_25 Ay (.cons (Al rfl <| Ac) (.cons (Ac) .nil)) (refInts_ok hq3 hsl86) (fun _ _ h => h)) ?_
 refine Aa rfl (A4 (Ap rfl <| Al rfl <| Ac) (by first | rfl | decide) (Ac)) ?_
 refine Aa rfl (Ag (Ac)) ?_
 refine As rfl rfl (Ac) (by first | rfl | decide) ?_
 refine Aa rfl (Ag (Bs rfl <| Bs rfl <| Bx (B4 he70 (by kernel_rfl)) <| Bx (B4 he66 (by kernel_rfl)) <| Bx (B4 he62 (by kernel_rfl)) <| Bx (B4 he58 (by kernel_rfl)) <| Bc rfl <| Ba rfl <| Ac)) ?_
 refine As rfl rfl (Al rfl <| Ac) (by first | rfl | decide) ?_
 refine Bl rfl (Bw Bo Cz rfl (.cons Ab .nil) rfl rfl (by decide) (by simp [Value.oneCell']) fun b87 hb87 nb87 => ?_)
 refine Bq (i := 0) rfl hb87 .here fun F88 hF89 hz90 => ?_
 replace hq4 := hq4.mono hF89
 replace hq7 := hq7.mono hF89
 replace g18 := g18.mono hF89
 replace g20 := g20.mono hF89
 replace g21 := g21.mono hF89
 replace g23 := g23.mono hF89
 have hsl91 := Ch hz90
 refine As rfl rfl (Ap rfl <| Ac) (by first | rfl | decide) ?_
 refine Bt rfl (A9 bd_25 Ay (.cons (Al rfl <| Ac) (.cons (Ac) .nil)) (refInts_ok hq4 hsl91) (fun _ _ h => h)) ?_
 refine Aa rfl (A4 (Ap rfl <| Al rfl <| Ac) (by first | rfl | decide) (Ac)) ?_
 refine Aa rfl (Ag (Ac)) ?_
 refine As rfl rfl (Ac) (by first | rfl | decide) ?_
 refine Aa rfl (Ag (Bs rfl <| Bs rfl <| A0 rfl <| Al rfl <| Bx (B4 he70 (by kernel_rfl)) <| Bx (B4 he66 (by kernel_rfl)) <| Bx (B4 he62 (by kernel_rfl)) <| Bx (B4 he58 (by kernel_rfl)) <| Bc rfl <| A0 rfl <| Ap rfl <| Al rfl <| Ac)) ?_
 refine As rfl rfl (Al rfl <| Ac) (by first | rfl | decide) ?_
 refine Aa rfl (B7 (Ac) Ab) ?_
 refine Aa rfl (A4 (Ap rfl <| Ac) (by first | rfl | decide) (Ac)) ?_
 refine Aa rfl (Ag (Ac)) ?_
 refine As rfl rfl (Ac) (by first | rfl | decide) ?_
 refine Aa rfl (Ag (Bs rfl <| Bs rfl <| Ba rfl <| Al rfl <| Bx (B4 he70 (by kernel_rfl)) <| Bx (B4 he66 (by kernel_rfl)) <| Bx (B4 he62 (by kernel_rfl)) <| Bx (B4 he58 (by kernel_rfl)) <| Al rfl <| Ac)) ?_
 refine As rfl rfl (Al rfl <| Ac) (by first | rfl | decide) ?_
 refine Bl rfl (Bw Bo Cz rfl (.cons Ab (.cons Ab (.cons Ab .nil))) rfl rfl (by decide) (by simp [Value.oneCell']) fun b92 hb92 nb92 => ?_)
 refine Bq (i := 0) rfl hb92 .here fun F93 hF94 hz95 => ?_
 replace hq7 := hq7.mono hF94
 replace g18 := g18.mono hF94
 replace g20 := g20.mono hF94
 replace g21 := g21.mono hF94
 replace g23 := g23.mono hF94
 have hsl96 := ints_box3 hz95
 refine As rfl rfl (Ap rfl <| Ac) (by first | rfl | decide) ?_
 refine Bt rfl (A9 bd_25 Ay (.cons (Al rfl <| Ac) (.cons (Ac) .nil)) (refInts_ok hq7 hsl96) (fun _ _ h => h)) ?_
 refine Aa rfl (A4 (Ap rfl <| Al rfl <| Ac) (by first | rfl | decide) (Ac)) ?_
 refine Aa rfl (Ag (Ac)) ?_
 refine As rfl rfl (Ac) (by first | rfl | decide) ?_
 refine Aa rfl (Ag (Bs rfl <| Bs rfl <| Ba rfl <| A0 rfl <| Ap rfl <| Bx (B4 he70 (by kernel_rfl)) <| Bx (B4 he66 (by kernel_rfl)) <| Bx (B4 he62 (by kernel_rfl)) <| Ct rfl)) ?_
 refine As rfl rfl (Al rfl <| Ac) (by first | rfl | decide) ?_
 refine Bl rfl (Bw Bo Cz rfl (.cons Ab (.cons Ab .nil)) rfl rfl (by decide) (by simp [Value.oneCell']) fun b97 hb97 nb97 => ?_)
 refine Bq (i := 0) rfl hb97 .here fun F98 hF99 hz100 => ?_
 replace g18 := g18.mono hF99
 replace g20 := g20.mono hF99
 replace g21 := g21.mono hF99
 replace g23 := g23.mono hF99
 have hsl101 := n13_box2 hz100
 refine As rfl rfl (Ap rfl <| Ac) (by first | rfl | decide) ?_
 refine Bl rfl (Bw Bo Cz rfl (.cons Ab (.cons Ab (.cons Ab .nil))) rfl rfl (by decide) (by simp [Value.oneCell']) fun b102 hb102 nb102 => ?_)
 refine Bq (i := 0) rfl hb102 .here fun F103 hF104 hz105 => ?_
 replace g18 := g18.mono hF104
 replace g20 := g20.mono hF104
 replace g21 := g21.mono hF104
 replace g23 := g23.mono hF104
 replace hsl101 := hsl101.mono hF104
 have hsl106 := n013_box3 hz105
 refine As rfl rfl (Ap rfl <| Al rfl <| Ac) (by first | rfl | decide) ?_
 refine Bl rfl (Bw Bo Cz rfl (.cons Ab (.cons Ab (.cons Ab .nil))) rfl rfl (by decide) (by simp [Value.oneCell']) fun b107 hb107 nb107 => ?_)
 refine Bq (i := 0) rfl hb107 .here fun F108 hF109 hz110 => ?_
 replace g18 := g18.mono hF109
 replace g20 := g20.mono hF109
 replace g21 := g21.mono hF109
 replace g23 := g23.mono hF109
 replace hsl101 := hsl101.mono hF109
 replace hsl106 := hsl106.mono hF109
 have hsl111 := n123_box3 hz110
 refine As rfl rfl (A0 rfl <| Ac) (by first | rfl | decide) ?_
 refine Bl rfl (Bw Ep zr_28 rfl (.cons (Ap rfl <| Ac) (.cons (Al rfl <| Ac) (.cons (Ac) .nil))) rfl rfl (by decide) (by simp [Value.oneCell']) fun b112 hb112 nb112 => ?_)
 refine Bq (i := 0) rfl hb112 .here fun F113 hF114 hz115 => ?_
 replace g18 := g18.mono hF114
 replace g20 := g20.mono hF114
 replace g21 := g21.mono hF114
 replace g23 := g23.mono hF114
 replace hsl101 := hsl101.mono hF114
 replace hsl106 := hsl106.mono hF114
 replace hsl111 := hsl111.mono hF114
 have hsl116 := vals_box3 hz115
 refine As rfl rfl (A0 rfl <| Al rfl <| Ac) (by first | rfl | decide) ?_
 refine Bt rfl (A9 bd_30 Ay (.cons (A0 rfl <| Ac) (.cons (Ac) .nil)) (alike_ok g18 (lsts3 hsl116 hsl101 hsl106 hsl111)) (fun _ _ h => h)) ?_
 refine Aa rfl (A4 (A0 rfl <| Ap rfl <| Ac) (by first | rfl | decide) (Ac)) ?_
 refine Aa rfl (Ag (Ac)) ?_
 refine As rfl rfl (Ac) (by first | rfl | decide) ?_
 refine Aa rfl (Ag (Bs rfl <| Bs rfl <| Bc rfl <| A0 rfl <| Ap rfl <| Bx (B4 he70 (by kernel_rfl)) <| Bx (B4 he66 (by kernel_rfl)) <| Ct rfl)) ?_
 refine As rfl rfl (Al rfl <| Ac) (by first | rfl | decide) ?_
 refine Bl rfl (Bw Bo Cz rfl (.cons Ab (.cons Ab .nil)) rfl rfl (by decide) (by simp [Value.oneCell']) fun b117 hb117 nb117 => ?_)
 refine Bq (i := 0) rfl hb117 .here fun F118 hF119 hz120 => ?_
 replace g20 := g20.mono hF119
 replace g21 := g21.mono hF119
 replace g23 := g23.mono hF119
 have hsl121 := n02_box2 hz120
 refine As rfl rfl (Ap rfl <| Ac) (by first | rfl | decide) ?_
 refine Bt rfl (A9 bd_25 Ay (.cons (Al rfl <| Ac) (.cons (Ac) .nil)) (refInts_nat g20 hsl121) (fun _ _ h => h)) ?_
 refine Aa rfl (A4 (Ap rfl <| Al rfl <| Ac) (by first | rfl | decide) (Ac)) ?_
 refine Aa rfl (Ag (Ac)) ?_
 refine As rfl rfl (Ac) (by first | rfl | decide) ?_
 refine Aa rfl (Ag (Bs rfl <| Bs rfl <| Bc rfl <| Ba rfl <| Ap rfl <| Al rfl <| Bx (B4 he70 (by kernel_rfl)) <| Bx (B4 he66 (by kernel_rfl)) <| Ct rfl)) ?_
 refine As rfl rfl (Al rfl <| Ac) (by first | rfl | decide) ?_
 refine Bl rfl (Bw Bo Cz rfl (.cons Ab (.cons Ab (.cons Ab (.cons Ab .nil)))) rfl rfl (by decide) (by simp [Value.oneCell']) fun b122 hb122 nb122 => ?_)
 refine Bq (i := 0) rfl hb122 .here fun F123 hF124 hz125 => ?_
 replace g21 := g21.mono hF124
 replace g23 := g23.mono hF124
 have hsl126 := n0123_box4 hz125
 refine As rfl rfl (Ap rfl <| Ac) (by first | rfl | decide) ?_
 refine Bt rfl (A9 bd_25 Ay (.cons (Al rfl <| Ac) (.cons (Ac) .nil)) (refInts_nat g21 hsl126) (fun _ _ h => h)) ?_
 refine Aa rfl (A4 (Ap rfl <| Al rfl <| Ac) (by first | rfl | decide) (Ac)) ?_
 refine Aa rfl (Ag (Ac)) ?_
 refine As rfl rfl (Ac) (by first | rfl | decide) ?_
 refine Aa rfl (Ag (Bs rfl <| Bs rfl <| Bs rfl <| Bx (B4 he70 (by kernel_rfl)) <| Ct rfl)) ?_
 refine As rfl rfl (Al rfl <| Ac) (by first | rfl | decide) ?_
 refine Bl rfl (Bw Bo Cz rfl (.cons Ab (.cons Ab .nil)) rfl rfl (by decide) (by simp [Value.oneCell']) fun b127 hb127 nb127 => ?_)
 refine Bq (i := 0) rfl hb127 .here fun F128 hF129 hz130 => ?_
 replace g23 := g23.mono hF129
 have hsl131 := n02_box2 hz130
 refine As rfl rfl (Ap rfl <| Ac) (by first | rfl | decide) ?_
 refine Bt rfl (A9 bd_25 Ay (.cons (Al rfl <| Ac) (.cons (Ac) .nil)) (refInts_nat g23 hsl131) (fun _ _ h => h)) ?_
 refine Aa rfl (A4 (Ap rfl <| Al rfl <| Ac) (by first | rfl | decide) (Ac)) ?_
 refine Aa rfl (Ae (Ac)) ?_
 refine Ah <| Ad <| A2 <| Aw rfl (.tmp (Ac) .nil) ?_
 show _ = _
 first | rfl | decide
end Go.Proofs.Ytaikojfonleccaa
namespace Go.Proofs.Ytaikojfonleccaa
open Go.RowKit
theorem bd_22 : Body Try.prog 22 := Br (by kernel_rfl)
end Go.Proofs.Ytaikojfonleccaa
namespace Go.Proofs.Ytaikojfonleccaa
def ringL (bits n : Nat) : List Nat := selTo bits.testBit n
def ringN (s : Sale) (bits : Nat) : List Nat := if (ringL bits s.bidders.length).length = 1 then [] else ringL bits s.bidders.length
theorem mem_selTo {p : Nat → Bool} {k i : Nat} : i ∈ selTo p k ↔ i < k ∧ p i = true := by unfold selTo; simp
theorem selTo_asc {p : Nat → Bool} {k : Nat} : Asc (selTo p k) := List.Pairwise.sublist List.filter_sublist List.pairwise_lt_range
theorem ringN_asc {s : Sale} {bits : Nat} : Asc (ringN s bits) := by
 unfold ringN; split
 · exact .nil
 · exact selTo_asc
theorem ringN_lt {s : Sale} {bits : Nat} : ∀ i ∈ ringN s bits, i < s.bidders.length := by
 intro i hi; unfold ringN at hi; split at hi
 · cases hi
 · exact (mem_selTo.1 hi).1
theorem ringN_one {s : Sale} {bits : Nat} : (ringN s bits).length ≠ 1 := by
 unfold ringN; split
 · simp
 · assumption
theorem ringN_len {s : Sale} {bits : Nat} : (ringN s bits).length ≤ s.bidders.length := by
 unfold ringN; split
 · simp
 · exact Ew
theorem asc_cast {l : List Nat} (h : Asc l) : notAsc (castL l) = false := by
 unfold notAsc
 rw [List.any_eq_false]
 intro i hi
 have hi := List.mem_range.1 hi
 have hl : i < l.length := by simpa [castL] using hi
 simp only [decide_eq_true_eq, not_and, Int.not_le]
 intro h0
 have := List.pairwise_iff_getElem.1 h (i - 1) i (by omega) hl (by omega)
 simp [castL, hl, show i - 1 < l.length by omega]
 exact this
theorem ring_err {s : Sale} {l : List Nat} (h1 : Asc l) (h2 : ∀ b ∈ l, b < s.bidders.length) (h3 : l.length ≠ 1) : ringErr s (castL l) = 0 := by
 unfold ringErr
 rw [if_neg, if_neg (by rw [asc_cast h1]; simp), if_neg (by simpa [castL] using h3)]
 simp only [List.any_eq_true, not_exists, not_and]
 intro z hz
 obtain ⟨b, hb, rfl⟩ := List.mem_map.1 hz
 have := h2 b hb
 unfold inB
 simp; omega
theorem enterN_ring {s : Sale} (h0 : (checkS s).2.2 = 0) {bits : Nat} : enterErr s (castL (ringN s bits)) = 0 := by
 unfold enterErr; rw [if_neg (fun k => k h0)]; exact ring_err ringN_asc ringN_lt ringN_one
theorem enterN_nil {s : Sale} (h0 : (checkS s).2.2 = 0) : enterErr s [] = 0 := by
 unfold enterErr; rw [if_neg (fun k => k h0)]; exact ring_err (l := []) .nil (by simp) (by simp)
theorem enterN_bad {s : Sale} (h0 : (checkS s).2.2 ≠ 0) {ring : List Int} : enterErr s ring ≠ 0 := by
 unfold enterErr; rw [if_pos h0]; exact h0
end Go.Proofs.Ytaikojfonleccaa
namespace Go.Proofs.Ytaikojfonleccaa
open Go.RowKit
theorem bit8_eq {m k : Nat} : decide ((((m / 2 ^ k : Nat) : Int) % 2) = 1) = m.testBit k := by
 rw [Nat.testBit_eq_decide_div_mod_eq]
 by_cases h : m / 2 ^ k % 2 = 1
 · rw [decide_eq_true h]; exact decide_eq_true (by omega)
 · rw [decide_eq_false h]; exact decide_eq_false (by omega)
set_option maxRecDepth 100000 in
theorem valid_ok {F : Heap} {vs vb vl vn vd : Value} {s : Sale} (hr : SaleR F vs vb vl vn vd s) : Ok Try.prog 38 [.agg #[vs, .int .i64 s.premium, .int .i64 s.fee, .int .i64 s.days, vb, vl, vn, vd]].toArray F fun u _ => u = .bool (decide ((checkS s).2.2 = 0)) := by
 refine Ok.intro Try.func38 rfl Try.ntmps38 rfl fun w0 => ?_
 refine Af <| Ai fun ds => Bl rfl (Cd (Ak rfl) rfl fun b1 hb1 nb1 => ?_)
 refine Aa rfl (Ae Ab) ?_
 refine Ah <| Ad <| Af <| Ai fun ds => Aa rfl (Bj Cc (Al rfl <| Ac) rfl rfl (Bn 0 rfl)) ?_
 refine Bt rfl (A9 bd_16 Ay (.cons (Ac) .nil) (refCheckS_ok hr) (fun _ _ h => h.trans (show checkSV s = .tuple #[.int .i64 (checkS s).1, .int .i64 (checkS s).2.1, .int .i64 (checkS s).2.2] from rfl))) ?_
 refine Aa rfl (Ag (Ac)) ?_
 refine Aa rfl (Az (Ac) rfl) ?_
 refine Aa rfl (Az (Al rfl <| Ac) rfl) ?_
 refine Aa rfl (Az (Ap rfl <| Ac) rfl) ?_
 refine Aa rfl (Ae (Ap rfl <| Ac)) ?_
 refine Aa rfl (Ae (Ap rfl <| Ac)) ?_
 refine Aa rfl (Ae (Ap rfl <| Ac)) ?_
 refine Ah <| Ad <| Af <| Ai fun ds => Aa rfl (Ag (Ac)) ?_
 refine Aa rfl (B7 (Ac) Ab) ?_
 refine Aa rfl (Ae (Ac)) ?_
 refine Ah <| Ad <| A2 <| Aw rfl (.tmp (Ac) .nil) ?_
 rfl
set_option maxRecDepth 100000 in
theorem ring_ok {F : Heap} {vs vb vl vn vd : Value} {s : Sale} (hr : SaleR F vs vb vl vn vd s) (hv : ValidS s) {bits : Nat} : Ok Try.prog 39 [.agg #[vs, .int .i64 s.premium, .int .i64 s.fee, .int .i64 s.days, vb, vl, vn, vd], .int .u8 (bits : Int)].toArray F fun u F' => Nats F' u (ringN s bits) := by
 refine Ok.intro Try.func39 rfl Try.ntmps39 rfl fun w0 => ?_
 have hL1 := hr.bidders.plain.lt
 have hnb := hv.nb
 refine Af <| Ai fun ds => Bl rfl (Cd (Ak rfl) rfl fun b1 hb1 nb1 => ?_)
 refine Aa rfl (Ae Ab) ?_
 refine Ah <| Ad <| Af <| Ai fun ds => Aa rfl (Ae Ab) ?_
 refine Ah <| Ad <| Af <| Af <| Ai fun ds => Aa rfl (Ae Ab) ?_
 refine Ah <| Ad <| A1 <| B0 [5, 6, 7, 8, 9, 10, 11, 12, 13, 14, 15, 16, 17, 18, 19, 20, 21, 22] (fun m e σ => ∃ k : Nat, m + k = s.bidders.length ∧ e 6 = .int .i64 (k : Int) ∧ ∃ v R, e 5 = v ∧ Own 3 1 v (ringL bits k).length ((ringL bits k).flatMap natE) R ∧ σ = ⟨F, (b1, bx 27 [vs, .int .i64 s.premium, .int .i64 s.fee, .int .i64 s.days, vb, vl, vn, vd]) :: R⟩) (s.bidders.length) ?_ ?_
 · exact ⟨0, by omega, (Ac), _, _, (Al rfl <| Ac), Own.nil, rfl⟩
 ·
  rintro m e _ ⟨k, hm, hs6, v5, R2, hs5, ho, rfl⟩; have hbl : (ringL bits k).length ≤ k := Ew
  by_cases hlt : k < s.bidders.length
  ·
   refine Af <| Af <| Ai fun ds => Aa rfl (Ag (Au rfl hs6)) ?_
   refine Aa rfl (Aj Cy (Al rfl <| Ao rfl <| Ap rfl <| Al rfl <| Ac)) ?_
   refine Aa rfl (Aq Cq (Ac) (Cell.own 0 rfl rfl)) ?_
   refine Aa rfl (Bf Cn (Ac) hr.bidders.plain) ?_
   refine Aa rfl (Bv (Ap rfl <| Al rfl <| Ac) (Ac)) ?_
   refine Ah <| Ad <| Ar (Ac) (by first | rfl | exact decide_eq_true (by omega)) ?_
   by_cases hb : bits.testBit k = true
   ·
    refine Ax <| Ad <| Af <| A1 <| Af <| Ai fun ds => Aa rfl (Ag (A0 rfl <| Al rfl <| Ao rfl <| A0 rfl <| Ak rfl)) ?_
    refine Aa rfl (Ag (A0 rfl <| Ap rfl <| Au rfl hs6)) ?_
    refine Aa rfl (q_shr (Al rfl <| Ac) (Ac) (k := k) rfl (by show k < 8; omega) Ev) ?_
    refine Aa rfl (q_rem (Ac) Ab (Int.natCast_nonneg _) (by decide)) ?_
    refine Aa rfl (B7 (Ac) Ab) ?_
    refine Ah <| Ad <| Ar (Ac) (by rw [bit8_eq]; exact hb) ?_
    refine Ai fun ds => Aa rfl (Ag (Ba rfl <| Ap rfl <| Au rfl hs5)) ?_
    refine Aa rfl (Ag (Ba rfl <| Ap rfl <| Al rfl <| Au rfl hs6)) ?_
    refine Bl rfl (Bw Bo Cz rfl (.cons (Ac) .nil) rfl rfl (by decide) (by simp [Value.oneCell']) fun b3 hb3 nb3 => ?_)
    refine Bl rfl (Dj Bo el_3 (Ap rfl <| Ac) ho (Ac) (Dy (s := 1) 0 rfl rfl (by simp [Value.oneCell'])) (by omega) (by omega) (.s <| .s <| .z) .last fun v4 R5 ho6 => ?_)
    have ho2 := ho6.snoc (x := k) rfl rfl
    refine Aa rfl (Ae (Ac)) ?_
    refine Ah <| Bg <| Ad <| Cs (fun _ _ h => h.drop (.cons _ <| .cons_cons _ <| .refl _)) ?_
    refine Ai fun ds => Aa rfl (Ag (Ba rfl <| A0 rfl <| Ap rfl <| Al rfl <| Au rfl hs6)) ?_
    refine Aa rfl (B2 (Ac) Ab rfl (by omega) (by omega)) ?_
    refine Aa rfl (Ae (Ac)) ?_
    refine Ah <| Ad ⟨_, m - 1, Off.eq (C5 rfl <| Et rfl <| Bi), by omega, ?_⟩
    refine ⟨k + 1, by omega, (Ac), _, _, (Ap rfl <| Al rfl <| Ac), by rw [ringL, Dt, if_pos hb]; exact ho2, rfl⟩
   ·
    replace hb : bits.testBit k = false := by simpa using hb
    refine Ax <| Ad <| Af <| A1 <| Af <| Ai fun ds => Aa rfl (Ag (A0 rfl <| Al rfl <| Ao rfl <| A0 rfl <| Ak rfl)) ?_
    refine Aa rfl (Ag (A0 rfl <| Ap rfl <| Au rfl hs6)) ?_
    refine Aa rfl (q_shr (Al rfl <| Ac) (Ac) (k := k) rfl (by show k < 8; omega) Ev) ?_
    refine Aa rfl (q_rem (Ac) Ab (Int.natCast_nonneg _) (by decide)) ?_
    refine Aa rfl (B7 (Ac) Ab) ?_
    refine Ah <| Ad <| Am (Ac) (by rw [bit8_eq]; exact hb) ?_
    refine Ax <| Bg <| Ad <| Ai fun ds => Aa rfl (Ag (Ba rfl <| Ap rfl <| Au rfl hs6)) ?_
    refine Aa rfl (B2 (Ac) Ab rfl (by omega) (by omega)) ?_
    refine Aa rfl (Ae (Ac)) ?_
    refine Ah <| Ad ⟨_, m - 1, Off.eq (D8 rfl <| ou4 rfl <| Eu rfl <| Bi), by omega, ?_⟩
    refine ⟨k + 1, by omega, (Ac), _, _, (Ba rfl <| A0 rfl <| Al rfl <| Au rfl hs5), by rw [ringL, Dt, if_neg (by rw [hb]; simp)]; exact ho, rfl⟩
  ·
   refine Af <| Af <| Ai fun ds => Aa rfl (Ag (Au rfl hs6)) ?_
   refine Aa rfl (Aj Cy (Al rfl <| Ao rfl <| Ap rfl <| Al rfl <| Ac)) ?_
   refine Aa rfl (Aq Cq (Ac) (Cell.own 0 rfl rfl)) ?_
   refine Aa rfl (Bf Cn (Ac) hr.bidders.plain) ?_
   refine Aa rfl (Bv (Ap rfl <| Al rfl <| Ac) (Ac)) ?_
   refine Ah <| Ad <| Am (Ac) (by first | rfl | exact decide_eq_false (by omega)) ?_
   obtain rfl : k = s.bidders.length := by omega
   refine WC_freezeR (σ := ⟨_, _⟩) (by rfl) ho (.s <| .z) .last fun F7 hF8 hz9 => ?_
   have hn2 := ho.sl (fun _ => rfl) hz9 (by have := Ew (p := bits.testBit) (k := s.bidders.length); unfold ringL; omega)
   by_cases h1 : (ringL bits s.bidders.length).length = 1
   ·
    refine Bu ?_
    refine Bk <| Bk <| Bm <| Ad <| Af <| Af <| Ai fun ds => Aa rfl (Ag (A0 rfl <| Al rfl <| Au rfl hs5)) ?_
    refine Aa rfl (Bf Bo (Ac) hn2.plain) ?_
    refine Aa rfl (B7 (Ac) Ab) ?_
    refine Ah <| Ad <| Ar (Ac) (decide_eq_true (by omega)) ?_
    refine Af <| Ai fun ds => Aa rfl (Ae Ab) ?_
    refine Ah <| Ad <| A2 <| A3 ?_
    refine Aw rfl (.tmp (Ac) .nil) ?_
    unfold ringN; rw [if_pos h1]
    exact Sl.nil
   ·
    refine Bu ?_
    refine Bk <| Bk <| Bm <| Ad <| Af <| Af <| Ai fun ds => Aa rfl (Ag (A0 rfl <| Al rfl <| Au rfl hs5)) ?_
    refine Aa rfl (Bf Bo (Ac) hn2.plain) ?_
    refine Aa rfl (B7 (Ac) Ab) ?_
    refine Ah <| Ad <| Am (Ac) (decide_eq_false (by omega)) ?_
    refine Ax <| Ad <| Af <| Ai fun ds => Aa rfl (Ag (Ba rfl <| Au rfl hs5)) ?_
    refine Aa rfl (Ae (Ac)) ?_
    refine Ah <| Ad <| A2 <| Aw rfl (.tmp (Ac) .nil) ?_
    unfold ringN; rw [if_neg h1]
    exact hn2
end Go.Proofs.Ytaikojfonleccaa
namespace Go.Proofs.Ytaikojfonleccaa
open Go.RowKit
theorem bd_39 : Body Try.prog 39 := Br (by kernel_rfl)
section
variable {s : Sale} {rg : List Int} {off : List Nat} {lots bits k : Nat}
end
end Go.Proofs.Ytaikojfonleccaa
namespace Go.Proofs.Ytaikojfonleccaa
section
variable {s : Sale} {r : Nat} {off : List Nat} {lb : Nat}
end
theorem bad_sell {s : Sale} {r : List Int} (h0 : (checkS s).2.2 ≠ 0) : enterErr s r ≠ 0 := enterN_bad h0
section
variable {s : Sale} {l : List Ent}
end
section
variable {s : Sale} {l : List Ent} {o : List Nat}
end
end Go.Proofs.Ytaikojfonleccaa
namespace Go.Proofs.Ytaikojfonleccaa
open Go.RowKit
theorem bd_38 : Body Try.prog 38 := Br (by kernel_rfl)
end Go.Proofs.Ytaikojfonleccaa
namespace Go.Proofs.Ytaikojfonleccaa
theorem sh_zero {saved : Int} {n : Nat} (h : 0 ≤ saved) : leftN saved n 0 = saved := by
 unfold leftN
 have : 0 ≤ saved % (n : Int) := by
   rcases Nat.eq_zero_or_pos n with h0 | h0
   · subst h0; simpa using h
   · exact Int.emod_nonneg _ (by omega)
 simp; omega
theorem sh_end {saved : Int} {n : Nat} (h0 : 0 ≤ saved) (h : n ≠ 0 ∨ saved = 0) : leftN saved n n = 0 := by
 by_cases hn : n = 0
 · subst hn; rw [sh_zero h0]; rcases h with h | h
   · exact absurd rfl h
   · exact h
 · rw [leftN_eq]
   have := Int.emod_lt_of_pos saved (show (0 : Int) < n by omega)
   rw [Int.sub_self, Int.mul_zero]; omega
theorem savedN_nil {s : Sale} : ∀ k, savedTo s [] k = 0
 | 0 => rfl
 | k + 1 => by rw [savedTo, if_neg (fun h => inRing_nil h.2)]; exact savedN_nil k
theorem share_facts {saved : Int} {n : Nat} (h0 : 0 ≤ saved) (hn : 0 < n) (k : Nat) : 0 ≤ shareN saved n k ∧ shareN saved n k ≤ saved + 1 ∧ shareN saved n k ≤ shareN saved n 0 ∧ shareN saved n 0 ≤ saved + 1 ∧ shareN saved n 0 - 1 ≤ shareN saved n k ∧ (0 < k → shareN saved n k ≤ shareN saved n (k - 1)) := by
 have h1 := Int.ediv_nonneg h0 (show (0 : Int) ≤ n by omega)
 have h2 := Int.emod_nonneg saved (show (n : Int) ≠ 0 by omega)
 have h3 : saved / (n : Int) ≤ saved := Int.ediv_le_self _ h0
 unfold shareN
 refine ⟨?_, ?_, ?_, ?_, ?_, fun hk => ?_⟩ <;> repeat' split
 all_goals omega
theorem shareL_at {saved : Int} {n m k : Nat} (h : k < (shareTo saved n m).length) : (shareTo saved n m)[k] = shareN saved n k := by simp [shareTo]
theorem not_in {s : Sale} {bits : Nat} {b : Int} (h : inRing (castL (ringN s bits)) b = true) : b ≠ -1 := by
 unfold inRing castL at h
 rw [decide_eq_true_iff, List.mem_map] at h
 obtain ⟨i, -, rfl⟩ := h
 omega
end Go.Proofs.Ytaikojfonleccaa
namespace Go.Proofs.Ytaikojfonleccaa
open Go.RowKit
set_option maxRecDepth 100000 in
theorem sharesLaw_ok {F : Heap} {vs vb vl vn vd : Value} {s : Sale} (hr : SaleR F vs vb vl vn vd s) {bits : Nat} : Ok Try.prog 10 [.agg #[vs, .int .i64 s.premium, .int .i64 s.fee, .int .i64 s.days, vb, vl, vn, vd], .int .u8 (bits : Int)].toArray F fun u _ => u = .bool true := by
 refine Ok.intro Try.func10 rfl Try.ntmps10 rfl fun w0 => ?_
 by_cases h0 : (checkS s).2.2 = 0
 ·
  have hv := C4 h0
  have hL := hv.nl
  have hL2 := hv.nb
  have hR6 : (castL (ringN s bits)).length ≤ 6 := by have := ringN_len (s := s) (bits := bits); simp only [castL, List.length_map]; omega
  have hS6 := Cp (saved := savedS s (castL (ringN s bits))) (n := (castL (ringN s bits)).length) (k := (castL (ringN s bits)).length)
  have hz : (castL (ringN s bits)).length ≠ 0 ∨ savedS s (castL (ringN s bits)) = 0 := by by_cases h : (castL (ringN s bits)).length = 0; exact .inr (by rw [List.eq_nil_of_length_eq_zero h]; exact savedN_nil _); exact .inl h
  have hal2 := Dr (s := s) (ring := [])
  have hal3 := Dr (s := s) (ring := castL (ringN s bits))
  refine Af <| Ai fun ds => Bl rfl (Cd (Ak rfl) rfl fun b1 hb1 nb1 => ?_)
  refine Aa rfl (Ae Ab) ?_
  refine Ah <| Ad <| Af <| Af <| Ai fun ds => Aa rfl (Bj Cc (Al rfl <| Ac) rfl rfl (Bn 0 rfl)) ?_
  refine Bt rfl (A9 bd_38 Ay (.cons (Ac) .nil) (valid_ok hr) (fun _ _ h => h)) ?_
  refine Aa rfl (Cv (Ac)) ?_
  refine Ah <| Ad <| Am (Ac) (by simp [h0]) ?_
  refine Ax <| Ad <| Af <| Ai fun ds => Aa rfl (Bj Cc (A0 rfl <| Ac) rfl rfl (Bn 0 rfl)) ?_
  refine Aa rfl (Ag (A0 rfl <| Ap rfl <| Ak rfl)) ?_
  refine Bl rfl (Cw bd_39 Ay (.cons (Al rfl <| Ac) (.cons (Ac) .nil)) (ring_ok hr hv) fun v2 F3 hr4 hF5 => ?_)
  replace hr := hr.mono hF5
  have hn := hr4
  have hx := hn.ints
  change Ints _ _ (castL (ringN s bits)) at hx
  refine Aa rfl (Ae (Ac)) ?_
  refine Ah <| Ad <| Af <| Ai fun ds => Aa rfl (Bj Cc (Ba rfl <| Ac) rfl rfl (Bn 0 rfl)) ?_
  refine Aa rfl (Ag (Al rfl <| Ac)) ?_
  refine Bl rfl (Cw bd_26 Ay (.cons (Al rfl <| Ac) (.cons (Ac) .nil)) ((share_ok hr hx).mono fun u F2 _ h => (by rw [shareE_ok (enterN_ring h0)] at h; exact h : ∃ w, u = .tuple #[w, .int .i64 0] ∧ Ints F2 w (shareTo (savedS s (castL (ringN s bits))) (castL (ringN s bits)).length (castL (ringN s bits)).length))) fun v6 F7 hr8 hF9 => ?_)
  replace hr := hr.mono hF9
  replace hx := hx.mono hF9
  obtain ⟨hq1_, rfl, hq1⟩ := hr8
  refine Aa rfl (Ag (Ac)) ?_
  refine Aa rfl (Az (Ac) rfl) ?_
  refine Aa rfl (Az (Al rfl <| Ac) rfl) ?_
  refine Aa rfl (Ae (Al rfl <| Ac)) ?_
  refine Aa rfl (Ae (Al rfl <| Ac)) ?_
  refine Ah <| Ad <| Af <| Ai fun ds => Aa rfl (Bj Cc (Bc rfl <| Ac) rfl rfl (Bn 0 rfl)) ?_
  refine Bl rfl (Cw bd_19 Ay (.cons (Ac) (.cons Ab .nil)) ((sellTop_ok hr Sl.nil).mono fun u F2 _ h => (by rw [sellE_ok (enterN_nil h0)] at h; exact h : ∃ w, u = .tuple #[w, .int .i64 0] ∧ Sl F2 w 2 Res.enc (allS s ([])))) fun v10 F11 hr12 hF13 => ?_)
  replace hr := hr.mono hF13
  replace hx := hx.mono hF13
  replace hq1 := hq1.mono hF13
  obtain ⟨hq2_, rfl, hq2⟩ := hr12
  refine Aa rfl (Ag (Ac)) ?_
  refine Aa rfl (Az (Ac) rfl) ?_
  refine Aa rfl (Az (Al rfl <| Ac) rfl) ?_
  refine Aa rfl (Ae (Al rfl <| Ac)) ?_
  refine Aa rfl (Ae (Al rfl <| Ac)) ?_
  refine Ah <| Ad <| Af <| Ai fun ds => Aa rfl (Bj Cc (Bc rfl <| A0 rfl <| Ap rfl <| Al rfl <| Ac) rfl rfl (Bn 0 rfl)) ?_
  refine Aa rfl (Ag (Bc rfl <| Ac)) ?_
  refine Bl rfl (Cw bd_19 Ay (.cons (Al rfl <| Ac) (.cons (Ac) .nil)) ((sellTop_ok hr hx).mono fun u F2 _ h => (by rw [sellE_ok (enterN_ring h0)] at h; exact h : ∃ w, u = .tuple #[w, .int .i64 0] ∧ Sl F2 w 2 Res.enc (allS s (castL (ringN s bits))))) fun v14 F15 hr16 hF17 => ?_)
  replace hx := hx.mono hF17
  replace hq1 := hq1.mono hF17
  replace hq2 := hq2.mono hF17
  obtain ⟨hq3_, rfl, hq3⟩ := hr16
  refine Aa rfl (Ag (Ac)) ?_
  refine Aa rfl (Az (Ac) rfl) ?_
  refine Aa rfl (Az (Al rfl <| Ac) rfl) ?_
  refine Aa rfl (Ae (Al rfl <| Ac)) ?_
  refine Aa rfl (Ae (Al rfl <| Ac)) ?_
  refine Ah <| Ad <| Af <| Af <| Ai fun ds => Aa rfl (Ag (Ba rfl <| A0 rfl <| Ap rfl <| Al rfl <| Ac)) ?_
  refine Aa rfl (B6 (Ac) Ab) ?_
  refine Aa rfl (Ag (Ac)) ?_
  refine As rfl rfl (Ac) (by first | rfl | decide) ?_
  refine Aa rfl (Ag (Ba rfl <| Ap rfl <| Al rfl <| Ac)) ?_
  refine As rfl rfl (Al rfl <| Ac) (by first | rfl | decide) ?_
  refine Aa rfl (B6 (Ac) Ab) ?_
  refine Aa rfl (A6 (Ap rfl <| Ac) (by first | rfl | decide) (Ac)) ?_
  refine Aa rfl (Ag (Ac)) ?_
  refine As rfl rfl (Ac) (by first | rfl | decide) ?_
  refine Aa rfl (Ag (A0 rfl <| Ap rfl <| Al rfl <| Ac)) ?_
  refine As rfl rfl (Al rfl <| Ac) (by first | rfl | decide) ?_
  refine Aa rfl (B6 (Ac) Ab) ?_
  refine Aa rfl (A6 (Ap rfl <| Ac) (by first | rfl | decide) (Ac)) ?_
  refine Aa rfl (Ag (Ac)) ?_
  refine As rfl rfl (Ac) (by first | rfl | decide) ?_
  refine Aa rfl (Ag (Bc rfl <| Ba rfl <| Ap rfl <| Al rfl <| Ac)) ?_
  refine As rfl rfl (Al rfl <| Ac) (by first | rfl | decide) ?_
  refine Aa rfl (Bf Bo (Ac) hq1.plain) ?_
  refine As rfl rfl (Ap rfl <| Ac) (by first | rfl | decide) ?_
  refine Aa rfl (Ag (Bs rfl <| A0 rfl <| Ac)) ?_
  refine As rfl rfl (Ap rfl <| Al rfl <| Ac) (by first | rfl | decide) ?_
  refine Aa rfl (Bf Bo (Ac) hx.plain) ?_
  refine As rfl rfl (A0 rfl <| Ac) (by first | rfl | decide) ?_
  refine Aa rfl (B6 (Ap rfl <| Ac) (Ac)) ?_
  refine Aa rfl (A6 (A0 rfl <| Al rfl <| Ac) (by first | rfl | decide) (Ac)) ?_
  refine Aa rfl (Ag (Ac)) ?_
  refine As rfl rfl (Ac) (decide_eq_false (by rw [Cp]; omega)) ?_
  refine Aa rfl (Ag (Bc rfl <| Ba rfl <| Ap rfl <| Al rfl <| Ac)) ?_
  refine As rfl rfl (Al rfl <| Ac) (decide_eq_false (by rw [Cp]; omega)) ?_
  refine Aa rfl (Bf C0 (Ac) hq2.plain) ?_
  refine As rfl rfl (Ap rfl <| Ac) (decide_eq_false (by rw [Cp]; omega)) ?_
  refine Aa rfl (Ag (Bc rfl <| A0 rfl <| Al rfl <| Ac)) ?_
  refine As rfl rfl (Ap rfl <| Al rfl <| Ac) (decide_eq_false (by rw [Cp]; omega)) ?_
  refine Aa rfl (Bf C0 (Ac) hq3.plain) ?_
  refine As rfl rfl (A0 rfl <| Ac) (decide_eq_false (by rw [Cp]; omega)) ?_
  refine Aa rfl (B6 (Ap rfl <| Ac) (Ac)) ?_
  refine Aa rfl (A6 (A0 rfl <| Al rfl <| Ac) (decide_eq_false (by rw [Cp]; omega)) (Ac)) ?_
  refine Ah <| Ad <| Am (Ac) (decide_eq_false (by omega)) ?_
  refine Ax <| Ad <| Af <| Ai fun ds => Aa rfl (Ae Ab) ?_
  refine Ah <| Ad <| Af <| Af <| Ai fun ds => Aa rfl (Ae Ab) ?_
  refine Ah <| Ad <| A1 <| B0 [14, 15, 74, 75, 76, 77, 78, 79, 80, 81, 82, 83, 84, 85, 86, 87, 88, 89, 90, 91, 92, 93, 94, 95, 96, 97, 98, 99] (fun m e σ => ∃ k : Nat, m + k = (allS s (castL (ringN s bits))).length ∧ e 15 = .int .i64 (k : Int) ∧ e 14 = .int .i64 (savedTo s (castL (ringN s bits)) k) ∧ σ = ⟨F15, [(b1, bx 27 [vs, .int .i64 s.premium, .int .i64 s.fee, .int .i64 s.days, vb, vl, vn, vd])]⟩) ((allS s (castL (ringN s bits))).length) ?_ ?_
  · exact ⟨0, by omega, (Ac), (Al rfl <| Ac), rfl⟩
  ·
   rintro m e _ ⟨k, hm, hs15, hs14, rfl⟩
   by_cases hlt : k < (allS s (castL (ringN s bits))).length
   ·
    have hk1 : k < s.lots.length := by rw [Dr] at hlt; exact hlt
    have hk2 : k < (allS s []).length := by rw [Dr]; exact hk1
    have ha1 : (allS s (castL (ringN s bits)))[k] = soldS s k (castL (ringN s bits)) := allS_at hlt
    have ha2 : (allS s [])[k] = soldS s k [] := allS_at hk2
    have hb1 := D9 hv hk1 (castL (ringN s bits))
    have hb2 := D9 hv hk1 []
    have hsb := saved_bound hv (ring := castL (ringN s bits)) k (by omega)
    rw [← ha1] at hb1
    rw [← ha2] at hb2
    refine Af <| Af <| Ai fun ds => Aa rfl (Ag (Au rfl hs15)) ?_
    refine Aa rfl (Ag (Al rfl <| Ao rfl <| Bs rfl <| Ap rfl <| Al rfl <| Ac)) ?_
    refine Aa rfl (Bf C0 (Ac) hq2.plain) ?_
    refine Aa rfl (Bv (Ap rfl <| Ac) (Ac)) ?_
    refine Ah <| Ad <| Ar (Ac) (by first | rfl | exact decide_eq_true (by omega)) ?_
    by_cases hin : inRing (castL (ringN s bits)) (soldS s k (castL (ringN s bits))).bidder = true
    ·
     refine Ax <| Ad <| Af <| A1 <| Af <| Ai fun ds => Aa rfl (Ag (A0 rfl <| Ao rfl <| Bs rfl <| Bc rfl <| Al rfl <| Ac)) ?_
     refine Aa rfl (Ag (A0 rfl <| Al rfl <| Ao rfl <| Bc rfl <| Ba rfl <| Ap rfl <| Al rfl <| Ac)) ?_
     refine Aa rfl (Ag (A0 rfl <| Ap rfl <| Au rfl hs15)) ?_
     refine Aa rfl (Be  C0 (Al rfl <| Ac) hq3.plain (Ac) rfl hlt) ?_
     refine Aa rfl (Cb fd_63_0 (Ac)) ?_
     refine Aa rfl (Aq Bd (Ac) (hq3.cell hlt rfl)) ?_
     refine Bt rfl (A9 bd_42 Ay (.cons (A0 rfl <| Al rfl <| Ac) (.cons (Ac) .nil)) (has_ok hx _) (fun _ _ h => h)) ?_
     refine Ah <| Ad <| Ar (Ac) (by rw [ha1]; exact hin) ?_
     refine Cl (.inl rfl) (fun _ _ h => h) (by kernel_rfl) (by kernel_rfl) fun ds => ?_
     refine A5 rfl (Ag (Ba rfl <| Ap rfl <| Al rfl <| Au rfl hs14)) ?_
     refine A5 rfl (Ag (Ba rfl <| A0 rfl <| Ao rfl <| Bs rfl <| Ap rfl <| Al rfl <| Ac)) ?_
     refine A5 rfl (Ag (Ba rfl <| A0 rfl <| Al rfl <| Au rfl hs15)) ?_
     refine A5 rfl (Be  C0 (Al rfl <| Ac) hq2.plain (Ac) rfl hk2) ?_
     refine A5 rfl (Cb fd_63_1 (Ac)) ?_
     refine A5 rfl (Aq Bd (Ac) (hq2.cell hk2 rfl)) ?_
     refine A5 rfl (B2 (A0 rfl <| Al rfl <| Ac) (Ac) rfl (by omega) (by omega)) ?_
     refine A5 rfl (Ag (Bc rfl <| Ap rfl <| Ao rfl <| Bc rfl <| Ba rfl <| Ap rfl <| Al rfl <| Ac)) ?_
     refine A5 rfl (Ag (Bc rfl <| Ap rfl <| Al rfl <| Au rfl hs15)) ?_
     refine A5 rfl (Be  C0 (Al rfl <| Ac) hq3.plain (Ac) rfl hlt) ?_
     refine A5 rfl (Cb fd_63_1 (Ac)) ?_
     refine A5 rfl (Aq Bd (Ac) (hq3.cell hlt rfl)) ?_
     refine A5 rfl (C7 (A0 rfl <| Al rfl <| Ac) (Ac) (show savedTo s (castL (ringN s bits)) k + (allS s [])[k].price - (allS s (castL (ringN s bits)))[k].price = savedTo s (castL (ringN s bits)) k + ((allS s [])[k].price - (allS s (castL (ringN s bits)))[k].price) by omega) (by omega) (by omega)) ?_
     refine A5 rfl (Ae (Ac)) ?_
     refine Cm ?_
     refine Bg <| Ad <| Ai fun ds => Aa rfl (Ag (Bc rfl <| Ba rfl <| Al rfl <| Au rfl hs15)) ?_
     refine Aa rfl (B2 (Ac) Ab rfl (by omega) (by omega)) ?_
     refine Aa rfl (Ae (Ac)) ?_
     refine Ah <| Ad ⟨_, m - 1, Off.eq (C5 rfl <| D8 rfl <| ou4 rfl <| Bi), by omega, ?_⟩
     exact ⟨k + 1, by omega, (Ac), by rw [savedTo, if_pos ⟨not_in hin, hin⟩, ← ha1, ← ha2]; exact (Ap rfl <| Al rfl <| Ac), rfl⟩
    ·
     replace hin : inRing (castL (ringN s bits)) (soldS s k (castL (ringN s bits))).bidder = false := by simpa using hin
     refine Ax <| Ad <| Af <| A1 <| Af <| Ai fun ds => Aa rfl (Ag (A0 rfl <| Ao rfl <| Bs rfl <| Bc rfl <| Al rfl <| Ac)) ?_
     refine Aa rfl (Ag (A0 rfl <| Al rfl <| Ao rfl <| Bc rfl <| Ba rfl <| Ap rfl <| Al rfl <| Ac)) ?_
     refine Aa rfl (Ag (A0 rfl <| Ap rfl <| Au rfl hs15)) ?_
     refine Aa rfl (Be  C0 (Al rfl <| Ac) hq3.plain (Ac) rfl hlt) ?_
     refine Aa rfl (Cb fd_63_0 (Ac)) ?_
     refine Aa rfl (Aq Bd (Ac) (hq3.cell hlt rfl)) ?_
     refine Bt rfl (A9 bd_42 Ay (.cons (A0 rfl <| Al rfl <| Ac) (.cons (Ac) .nil)) (has_ok hx _) (fun _ _ h => h)) ?_
     refine Ah <| Ad <| Am (Ac) (by rw [ha1]; exact hin) ?_
     refine Ax <| Bg <| Ad <| Ai fun ds => Aa rfl (Ag (Ba rfl <| Ap rfl <| Al rfl <| Au rfl hs15)) ?_
     refine Aa rfl (B2 (Ac) Ab rfl (by omega) (by omega)) ?_
     refine Aa rfl (Ae (Ac)) ?_
     refine Ah <| Ad ⟨_, m - 1, Off.eq (D8 rfl <| ou4 rfl <| Et rfl <| Bi), by omega, ?_⟩
     exact ⟨k + 1, by omega, (Ac), by rw [savedTo, if_neg (fun h => by rw [hin] at h; exact absurd h.2 (by decide))]; exact (Ba rfl <| A0 rfl <| Ap rfl <| Au rfl hs14), rfl⟩
   ·
    refine Af <| Af <| Ai fun ds => Aa rfl (Ag (Au rfl hs15)) ?_
    refine Aa rfl (Ag (Al rfl <| Ao rfl <| Bs rfl <| Ap rfl <| Al rfl <| Ac)) ?_
    refine Aa rfl (Bf C0 (Ac) hq2.plain) ?_
    refine Aa rfl (Bv (Ap rfl <| Ac) (Ac)) ?_
    refine Ah <| Ad <| Am (Ac) (by first | rfl | exact decide_eq_false (by omega)) ?_
    obtain rfl : k = (allS s (castL (ringN s bits))).length := by omega
    have hsv : 0 ≤ savedS s (castL (ringN s bits)) ∧ savedS s (castL (ringN s bits)) ≤ 600000 := by have := saved_bound hv (ring := castL (ringN s bits)) s.lots.length (Nat.le_refl _); unfold savedS; omega
    have hsE : savedTo s (castL (ringN s bits)) (allS s (castL (ringN s bits))).length = savedS s (castL (ringN s bits)) := by rw [Dr]; rfl
    rw [hsE] at hs14
    refine Bu ?_
    refine Bk <| Bk <| Bm <| Ad <| Af <| Af <| Ai fun ds => Aa rfl (Ae Ab) ?_
    refine Ah <| Ad <| A1 <| B0 [4, 14, 16, 100, 101, 102, 103, 104, 105, 106, 107, 108, 109, 110, 111, 112, 113, 114, 115, 116, 117, 118, 119, 120, 121, 122, 123, 124, 125, 126, 127, 128, 129, 130, 131, 132, 133, 134, 135, 136, 137, 138, 139, 140, 141, 142, 143, 144, 145, 146, 147, 148, 149, 150, 151, 152, 153] (fun m e σ => ∃ k : Nat, m + k = (shareTo (savedS s (castL (ringN s bits))) (castL (ringN s bits)).length (castL (ringN s bits)).length).length ∧ e 16 = .int .i64 (k : Int) ∧ e 14 = .int .i64 (leftN (savedS s (castL (ringN s bits))) (castL (ringN s bits)).length k) ∧ σ = ⟨F15, [(b1, bx 27 [vs, .int .i64 s.premium, .int .i64 s.fee, .int .i64 s.days, vb, vl, vn, vd])]⟩) ((shareTo (savedS s (castL (ringN s bits))) (castL (ringN s bits)).length (castL (ringN s bits)).length).length) ?_ ?_
    · exact ⟨0, by omega, (Ac), by rw [sh_zero hsv.1]; exact (A0 rfl <| Al rfl <| Au rfl hs14), rfl⟩
    ·
     rintro m e _ ⟨k, hm, hs16, hs14, rfl⟩
     by_cases hlt : k < (shareTo (savedS s (castL (ringN s bits))) (castL (ringN s bits)).length (castL (ringN s bits)).length).length
     ·
      have hkn : k < (castL (ringN s bits)).length := by rw [Cp] at hlt; exact hlt
      obtain ⟨-, q2⟩ := share_step (saved := savedS s (castL (ringN s bits))) (n := (castL (ringN s bits)).length) (k := k) (by omega)
      have hb1 := leftN_bound (n := (castL (ringN s bits)).length) hsv.1 (k := k) (by omega) (by omega)
      have hb2 := leftN_bound (n := (castL (ringN s bits)).length) hsv.1 (k := k + 1) (by omega) (by omega)
      have hl0 : 0 < (shareTo (savedS s (castL (ringN s bits))) (castL (ringN s bits)).length (castL (ringN s bits)).length).length := by omega
      have hk1 : k - 1 < (shareTo (savedS s (castL (ringN s bits))) (castL (ringN s bits)).length (castL (ringN s bits)).length).length := by omega
      have e0 := shareL_at hl0
      have e1 := shareL_at hlt
      have e2 := shareL_at hk1
      obtain ⟨f1, f2, f3, f4, f5, f6⟩ := share_facts (n := (castL (ringN s bits)).length) hsv.1 (by omega) k
      rw [← e1, ← e0] at f3 f5
      rw [← e1] at f1 f2 f6
      rw [← e0] at f4
      rw [← e2] at f6
      refine Af <| Af <| Ai fun ds => Aa rfl (Ag (Au rfl hs16)) ?_
      refine Aa rfl (Ag (Al rfl <| Ao rfl <| A0 rfl <| Al rfl <| Ao rfl <| Bs rfl <| Ba rfl <| Ap rfl <| Ac)) ?_
      refine Aa rfl (Bf Bo (Ac) hq1.plain) ?_
      refine Aa rfl (Bv (Ap rfl <| Ac) (Ac)) ?_
      refine Ah <| Ad <| Ar (Ac) (by first | rfl | exact decide_eq_true (by omega)) ?_
      refine Ax <| Ad <| Af <| A1 <| Af <| Ai fun ds => Aa rfl (Ag (A0 rfl <| Au rfl hs14)) ?_
      refine Aa rfl (Ag (A0 rfl <| Al rfl <| Ao rfl <| A0 rfl <| Al rfl <| Ao rfl <| Bs rfl <| Ba rfl <| Ap rfl <| Ac)) ?_
      refine Aa rfl (Ag (A0 rfl <| Ap rfl <| Au rfl hs16)) ?_
      refine Aa rfl (Be  Bo (Al rfl <| Ac) hq1.plain (Ac) rfl hlt) ?_
      refine Aa rfl (Aq Bd (Ac) (hq1.cell1 hlt rfl)) ?_
      refine Aa rfl (C7 (A0 rfl <| Ac) (Ac) (show leftN (savedS s (castL (ringN s bits))) (castL (ringN s bits)).length k - (shareTo (savedS s (castL (ringN s bits))) (castL (ringN s bits)).length (castL (ringN s bits)).length)[k] = leftN (savedS s (castL (ringN s bits))) (castL (ringN s bits)).length (k + 1) by rw [shareL_at hlt]; exact q2) (by omega) (by omega)) ?_
      refine Aa rfl (Ae (Ac)) ?_
      refine Ah <| Ad <| Af <| Cl (.inl rfl) (fun _ _ h => h) (by kernel_rfl) (by kernel_rfl) fun ds => ?_
      refine A5 rfl (Ag (Ba rfl <| Ap rfl <| Al rfl <| Ao rfl <| A0 rfl <| Al rfl <| Ao rfl <| Bs rfl <| Ba rfl <| Ap rfl <| Ac)) ?_
      refine A5 rfl (Ag (Ba rfl <| A0 rfl <| Au rfl hs16)) ?_
      refine A5 rfl (Be  Bo (Al rfl <| Ac) hq1.plain (Ac) rfl hlt) ?_
      refine A5 rfl (Aq Bd (Ac) (hq1.cell1 hlt rfl)) ?_
      refine A5 rfl (Bv (Ac) Ab) ?_
      refine A5 rfl (Ag (Ac)) ?_
      refine A7 rfl rfl (Ac) (decide_eq_false (by omega)) ?_
      refine A5 rfl (Ag (Bc rfl <| Al rfl <| Ao rfl <| A0 rfl <| Al rfl <| Ao rfl <| Bs rfl <| Ba rfl <| Ap rfl <| Ac)) ?_
      refine A7 rfl rfl (Al rfl <| Ac) (decide_eq_false (by omega)) ?_
      refine A5 rfl (Ag (Bc rfl <| Ap rfl <| Au rfl hs16)) ?_
      refine A7 rfl rfl (Ap rfl <| Ac) (decide_eq_false (by omega)) ?_
      refine A5 rfl (Be  Bo (Al rfl <| Ac) hq1.plain (Ac) rfl hlt) ?_
      refine A7 rfl rfl (Ap rfl <| Al rfl <| Ac) (decide_eq_false (by omega)) ?_
      refine A5 rfl (Aq Bd (Ac) (hq1.cell1 hlt rfl)) ?_
      refine A7 rfl rfl (A0 rfl <| Ac) (decide_eq_false (by omega)) ?_
      refine A5 rfl (Ag (Bc rfl <| A0 rfl <| Al rfl <| Ao rfl <| A0 rfl <| Al rfl <| Ao rfl <| Bs rfl <| Ba rfl <| Ap rfl <| Ac)) ?_
      refine A7 rfl rfl (A0 rfl <| Al rfl <| Ac) (decide_eq_false (by omega)) ?_
      refine A5 rfl (Be (k := 0) Bo (Ac) hq1.plain Ab rfl hl0) ?_
      refine A7 rfl rfl (A0 rfl <| Ap rfl <| Ac) (decide_eq_false (by omega)) ?_
      refine A5 rfl (Aq Bd (Ac) (hq1.cell1 hl0 rfl)) ?_
      refine A7 rfl rfl (A0 rfl <| Ap rfl <| Al rfl <| Ac) (decide_eq_false (by omega)) ?_
      refine A5 rfl (Ci (Ap rfl <| Al rfl <| Ac) (Ac)) ?_
      refine A5 rfl (A6 (Ba rfl <| Ac) (decide_eq_false (by omega)) (Ac)) ?_
      refine A5 rfl (Ag (Ac)) ?_
      refine A7 rfl rfl (Ac) (decide_eq_false (by omega)) ?_
      refine A5 rfl (Ag (Bc rfl <| Ba rfl <| Ap rfl <| Al rfl <| Ao rfl <| A0 rfl <| Al rfl <| Ao rfl <| Bs rfl <| Ba rfl <| Ap rfl <| Ac)) ?_
      refine A7 rfl rfl (Al rfl <| Ac) (decide_eq_false (by omega)) ?_
      refine A5 rfl (Ag (Bc rfl <| Ba rfl <| A0 rfl <| Au rfl hs16)) ?_
      refine A7 rfl rfl (Ap rfl <| Ac) (decide_eq_false (by omega)) ?_
      refine A5 rfl (Be  Bo (Al rfl <| Ac) hq1.plain (Ac) rfl hlt) ?_
      refine A7 rfl rfl (Ap rfl <| Al rfl <| Ac) (decide_eq_false (by omega)) ?_
      refine A5 rfl (Aq Bd (Ac) (hq1.cell1 hlt rfl)) ?_
      refine A7 rfl rfl (A0 rfl <| Ac) (decide_eq_false (by omega)) ?_
      refine A5 rfl (Ag (Bc rfl <| Ba rfl <| A0 rfl <| Ap rfl <| Al rfl <| Ao rfl <| A0 rfl <| Al rfl <| Ao rfl <| Bs rfl <| Ba rfl <| Ap rfl <| Ac)) ?_
      refine A7 rfl rfl (A0 rfl <| Al rfl <| Ac) (decide_eq_false (by omega)) ?_
      refine A5 rfl (Be (k := 0) Bo (Ac) hq1.plain Ab rfl hl0) ?_
      refine A7 rfl rfl (A0 rfl <| Ap rfl <| Ac) (decide_eq_false (by omega)) ?_
      refine A5 rfl (Aq Bd (Ac) (hq1.cell1 hl0 rfl)) ?_
      refine A7 rfl rfl (A0 rfl <| Ap rfl <| Al rfl <| Ac) (decide_eq_false (by omega)) ?_
      refine A5 rfl (C7 (Ac) Ab rfl (by omega) (by omega)) ?_
      refine A7 rfl rfl (Ba rfl <| Ac) (decide_eq_false (by omega)) ?_
      refine A5 rfl (Bv (A0 rfl <| Ac) (Ac)) ?_
      refine A5 rfl (A6 (Ba rfl <| Al rfl <| Ac) (decide_eq_false (by omega)) (Ac)) ?_
      refine A5 rfl (Ag (Ac)) ?_
      refine A7 rfl rfl (Ac) (decide_eq_false (by omega)) ?_
      refine A5 rfl (Ag (Bs rfl <| A0 rfl <| Ap rfl <| Au rfl hs16)) ?_
      refine A7 rfl rfl (Al rfl <| Ac) (decide_eq_false (by omega)) ?_
      refine A5 rfl (Ci (Ac) Ab) ?_
      refine A7 rfl rfl (Ap rfl <| Ac) (decide_eq_false (by omega)) ?_
      refine A5 rfl (Ag (Ac)) ?_
      by_cases hk0 : 0 < k
      ·
       refine A7 rfl rfl (Ac) (decide_eq_true (by omega)) ?_
       refine A5 rfl (Ag (Bs rfl <| Ba rfl <| Al rfl <| Ao rfl <| A0 rfl <| Al rfl <| Ao rfl <| Bs rfl <| Ba rfl <| Ap rfl <| Ac)) ?_
       refine A7 rfl rfl (Al rfl <| Ac) (decide_eq_true (by omega)) ?_
       refine A5 rfl (Ag (Bs rfl <| Ba rfl <| Ap rfl <| Au rfl hs16)) ?_
       refine A7 rfl rfl (Ap rfl <| Ac) (decide_eq_true (by omega)) ?_
       refine A5 rfl (Be  Bo (Al rfl <| Ac) hq1.plain (Ac) rfl hlt) ?_
       refine A7 rfl rfl (Ap rfl <| Al rfl <| Ac) (decide_eq_true (by omega)) ?_
       refine A5 rfl (Aq Bd (Ac) (hq1.cell1 hlt rfl)) ?_
       refine A7 rfl rfl (A0 rfl <| Ac) (decide_eq_true (by omega)) ?_
       refine A5 rfl (Ag (Bs rfl <| Ba rfl <| A0 rfl <| Al rfl <| Ao rfl <| A0 rfl <| Al rfl <| Ao rfl <| Bs rfl <| Ba rfl <| Ap rfl <| Ac)) ?_
       refine A7 rfl rfl (A0 rfl <| Al rfl <| Ac) (decide_eq_true (by omega)) ?_
       refine A5 rfl (Ag (Bs rfl <| Ba rfl <| A0 rfl <| Ap rfl <| Au rfl hs16)) ?_
       refine A7 rfl rfl (A0 rfl <| Ap rfl <| Ac) (decide_eq_true (by omega)) ?_
       refine A5 rfl (C7 (Ac) Ab rfl (by omega) (by omega)) ?_
       refine A7 rfl rfl (A0 rfl <| Ap rfl <| Al rfl <| Ac) (decide_eq_true (by omega)) ?_
       refine A5 rfl (Be (k := k - 1) Bo (Ap rfl <| Ac) hq1.plain (Ac) (by omega) hk1) ?_
       refine A7 rfl rfl (Ba rfl <| Ac) (decide_eq_true (by omega)) ?_
       refine A5 rfl (Aq Bd (Ac) (hq1.cell1 hk1 rfl)) ?_
       refine A7 rfl rfl (Ba rfl <| Al rfl <| Ac) (decide_eq_true (by omega)) ?_
       refine A5 rfl (Ci (A0 rfl <| Al rfl <| Ac) (Ac)) ?_
       refine A7 rfl rfl (Ba rfl <| A0 rfl <| Al rfl <| Ac) (decide_eq_false (by omega)) ?_
       refine A5 rfl (A4 (Ba rfl <| Ap rfl <| Ac) (decide_eq_true (by omega)) (Ac)) ?_
       refine A5 rfl (A6 (Ba rfl <| A0 rfl <| Ap rfl <| Ac) (decide_eq_false (by omega)) (Ac)) ?_
       refine Cm ?_
       refine Ad <| Am (Ac) (decide_eq_false (by have := f6 hk0; omega)) ?_
       refine Ax <| Bg <| Ad <| Ai fun ds => Aa rfl (Ag (Bs rfl <| Bc rfl <| A0 rfl <| Al rfl <| Au rfl hs16)) ?_
       refine Aa rfl (B2 (Ac) Ab rfl (by omega) (by omega)) ?_
       refine Aa rfl (Ae (Ac)) ?_
       refine Ah <| Ad ⟨_, m - 1, Off.eq (ou32 rfl <| C5 rfl <| D8 rfl <| Bi), by omega, ?_⟩
       exact ⟨k + 1, by omega, (Ac), (Bs rfl <| Ba rfl <| A0 rfl <| Al rfl <| Ac), rfl⟩
      ·
       refine A8 rfl rfl (Ac) (.inl (congrArg Value.bool (decide_eq_false (by omega)))) rfl ?_
       refine A8 rfl rfl (Al rfl <| Ac) (.inl (congrArg Value.bool (decide_eq_false (by omega)))) rfl ?_
       refine A8 rfl rfl (Ap rfl <| Ac) (.inl (congrArg Value.bool (decide_eq_false (by omega)))) rfl ?_
       refine A8 rfl rfl (Ap rfl <| Al rfl <| Ac) (.inl (congrArg Value.bool (decide_eq_false (by omega)))) rfl ?_
       refine A8 rfl rfl (A0 rfl <| Ac) (.inl (congrArg Value.bool (decide_eq_false (by omega)))) rfl ?_
       refine A8 rfl rfl (A0 rfl <| Al rfl <| Ac) (.inl (congrArg Value.bool (decide_eq_false (by omega)))) rfl ?_
       refine A8 rfl rfl (A0 rfl <| Ap rfl <| Ac) (.inl (congrArg Value.bool (decide_eq_false (by omega)))) rfl ?_
       refine A8 rfl rfl (A0 rfl <| Ap rfl <| Al rfl <| Ac) (.inl (congrArg Value.bool (decide_eq_false (by omega)))) rfl ?_
       refine A8 rfl rfl (Ba rfl <| Ac) (.inl (congrArg Value.bool (decide_eq_false (by omega)))) rfl ?_
       refine A8 rfl rfl (Ba rfl <| Al rfl <| Ac) (.inl (congrArg Value.bool (decide_eq_false (by omega)))) rfl ?_
       refine A7 rfl rfl (Ba rfl <| A0 rfl <| Al rfl <| Ac) (decide_eq_false (by omega)) ?_
       refine A5 rfl (A6 (Ba rfl <| Ap rfl <| Ac) (decide_eq_false (by omega)) Ab) ?_
       refine A5 rfl (A6 (Ba rfl <| A0 rfl <| Ap rfl <| Ac) (decide_eq_false (by omega)) (Ac)) ?_
       refine Cm ?_
       refine Ad <| Am (Ac) rfl ?_
       refine Ax <| Bg <| Ad <| Ai fun ds => Aa rfl (Ag (Bs rfl <| Bc rfl <| A0 rfl <| Al rfl <| Au rfl hs16)) ?_
       refine Aa rfl (B2 (Ac) Ab rfl (by omega) (by omega)) ?_
       refine Aa rfl (Ae (Ac)) ?_
       refine Ah <| Ad ⟨_, m - 1, Off.eq (ou32 rfl <| C5 rfl <| D8 rfl <| Bi), by omega, ?_⟩
       exact ⟨k + 1, by omega, (Ac), (Bs rfl <| Ba rfl <| A0 rfl <| Al rfl <| Ac), rfl⟩
     ·
      obtain rfl : k = (shareTo (savedS s (castL (ringN s bits))) (castL (ringN s bits)).length (castL (ringN s bits)).length).length := by omega
      have he9 : leftN (savedS s (castL (ringN s bits))) (castL (ringN s bits)).length (shareTo (savedS s (castL (ringN s bits))) (castL (ringN s bits)).length (castL (ringN s bits)).length).length = 0 := by rw [Cp]; exact sh_end hsv.1 hz
      refine Af <| Af <| Ai fun ds => Aa rfl (Ag (Au rfl hs16)) ?_
      refine Aa rfl (Ag (Al rfl <| Ao rfl <| A0 rfl <| Al rfl <| Ao rfl <| Bs rfl <| Ba rfl <| Ap rfl <| Ac)) ?_
      refine Aa rfl (Bf Bo (Ac) hq1.plain) ?_
      refine Aa rfl (Bv (Ap rfl <| Ac) (Ac)) ?_
      refine Ah <| Ad <| Am (Ac) (by first | rfl | exact decide_eq_false (by omega)) ?_
      refine Bu ?_
      refine Bk <| Bk <| Bm <| Ad <| Af <| Ai fun ds => Aa rfl (Ag (A0 rfl <| Au rfl hs14)) ?_
      refine Aa rfl (B7 (Ac) Ab) ?_
      refine Aa rfl (Ag (Ac)) ?_
      refine As rfl rfl (Ac) (decide_eq_true he9) ?_
      refine Bt rfl (A9 bd_22 Ay .nil awake_ok (fun _ _ h => h)) ?_
      refine Aa rfl (A4 (Al rfl <| Ac) (decide_eq_true he9) (Ac)) ?_
      refine Aa rfl (Ae (Ac)) ?_
      refine Ah <| Ad <| A2 <| Aw rfl (.tmp (Ac) .nil) ?_
      rfl
 ·
  refine Af <| Ai fun ds => Bl rfl (Cd (Ak rfl) rfl fun b20 hb20 nb20 => ?_)
  refine Aa rfl (Ae Ab) ?_
  refine Ah <| Ad <| Af <| Af <| Ai fun ds => Aa rfl (Bj Cc (Al rfl <| Ac) rfl rfl (Bn 0 rfl)) ?_
  refine Bt rfl (A9 bd_38 Ay (.cons (Ac) .nil) (valid_ok hr) (fun _ _ h => h)) ?_
  refine Aa rfl (Cv (Ac)) ?_
  refine Ah <| Ad <| Ar (Ac) (by simp [h0]) ?_
  refine Af <| Ai fun ds => Aa rfl (Bj Cc (A0 rfl <| Ac) rfl rfl (Bn 0 rfl)) ?_
  refine Bl rfl (Cw bd_26 Ay (.cons (Ac) (.cons Ab .nil)) (share_ok hr Sl.nil) fun v21 F22 hr23 hF24 => ?_)
  obtain ⟨w0_, rfl, hq0⟩ := hr23
  have hb0 : (shareE s []).2 ≠ 0 := by rw [shareE_bad rfl (bad_sell h0)]; exact bad_sell h0
  refine Aa rfl (Ag (Ac)) ?_
  refine Aa rfl (Az (Ac) rfl) ?_
  refine Aa rfl (Az (Al rfl <| Ac) rfl) ?_
  refine Aa rfl (Ae (Al rfl <| Ac)) ?_
  refine Aa rfl (Ae (Al rfl <| Ac)) ?_
  refine Ah <| Ad <| Af <| Ai fun ds => Aa rfl (Ag (Ac)) ?_
  refine Aa rfl (B6 (Ac) Ab) ?_
  refine Aa rfl (Ag (Ac)) ?_
  refine As rfl rfl (Ac) (by simp [hb0]) ?_
  refine Bt rfl (A9 bd_22 Ay .nil awake_ok (fun _ _ h => h)) ?_
  refine Aa rfl (A4 (Al rfl <| Ac) (by simp [hb0]) (Ac)) ?_
  refine Aa rfl (Ae (Ac)) ?_
  refine Ah <| Ad <| A2 <| A3 ?_
  refine Aw rfl (.tmp (Ac) .nil) ?_
  rfl
end Go.Proofs.Ytaikojfonleccaa
namespace Go.Proofs.Ytaikojfonleccaa
open Go.ChangeShapes Go.WideShapes Go.ChangeAt Go.RowKit
set_option maxRecDepth 100000 in
theorem saleSharesLifted (os : Os) (started : os.Started) (H : Type) (enc : TypeId × Value → H) :
   ReturnsInHanded {} Try.checked os 10 .any (Rows.saleSharesSpec.pre6 enc Try.prog Try.f10 Rows.saleSharesRow.domain false) (Rows.saleSharesSpec.post enc Try.prog Try.f10 false true false false) := by
 refine returnsInHanded_of_change_sized (C := Try.checked) ownKnob0 started (by kernel_rfl) Try.func10
   (ChangeSpec.witness6 (enc := enc) (C := Try.checked) false ⟨#[], #[.agg #[.slice none 0 0, .int .i64 0, .int .i64 0, .int .i64 0, .slice none 0 0, .slice none 0 0, .slice none 0 0, .slice none 0 0], .int .u8 0], []⟩ 8 (by kernel_rfl) (by kernel_rfl) (by kernel_rfl) (by kernel_rfl)) ?_
 intro W base args ds gs before hval0 hW hcnd hsz _
 have hval : ∀ (j : Nat) t v, Try.f10.params[j]? = some t → args[j]? = some v → Value.okWide Try.prog W .any base t v := hval0
 have hW' := hW
 obtain ⟨p, q, hA0, hV, rfl, hfz, hnd⟩ := hW
 have hA : DataW.TrodAll enc Try.prog W 0 (fun _ => true) true Try.f10.params.toList args.toList ds p := hA0
 rw [Try.params10] at hA hval
 obtain ⟨v0, vs0, d0, ds0, p0, q0, hargs, rfl, rfl, h0, r0⟩ := trodAll_cons hA
 obtain ⟨v1, vs1, d1, ds1, p1, q1, rfl, rfl, rfl, h1, r1⟩ := trodAll_cons r0
 obtain ⟨rfl, rfl, rfl⟩ := trodAll_nil r1
 obtain rfl : args = #[v0, v1] := by cases args; simp_all
 obtain ⟨rfl, rfl⟩ := trodVars_none hV
 have hsz' : (DataW.weightsEach Try.prog (Try.f10.params.toList ++ []) ([d0, d1] ++ [])).all (· ≤ reachBytes) = true := hsz
 rw [Try.params10] at hsz'
 have k0 := h0
 have lt0 : ∀ x ∈ p0, x.block < W.heap.size := by obtain ⟨m, hm⟩ := k0; exact DataW.trod_lt m _ _ _ hm
 have k1 := h1
 have lt1 : ∀ x ∈ p1, x.block < W.heap.size := by obtain ⟨m, hm⟩ := k1; exact DataW.trod_lt m _ _ _ hm
 obtain ⟨vs, vb, vl, vn, vd, s, rfl, hr⟩ := arg_sale (hval 0 27 v0 rfl rfl) h0 (weights_at hsz' (j := 0) rfl rfl)
 obtain ⟨x, rfl, hx8⟩ := arg_u8 (hval 1 5 v1 rfl rfl) h1 (weights_at hsz' (j := 1) rfl rfl)
 clear hA0 hval0
 refine (Ok.law (sharesLaw_ok hr (bits := x))).mono fun e W' ⟨he, bel⟩ => ?_
 subst he
 exact ⟨_, rfl, _, _, _, [], _, [], hW', trodAll_mk1 (shut_bool Try.underlying4 _), (trodAll_cons_mk (Below.trod laidOut (by kernel_rfl) (of_decide_eq_true (by kernel_rfl)) k0 bel lt0) (trodAll_cons_mk (Below.trod laidOut (by kernel_rfl) (of_decide_eq_true (by kernel_rfl)) k1 bel lt1) trodAll_mk0)), rfl, bel.frame _, fun h => by cases h⟩
theorem saleShares : Rows.SaleSharesSaid :=
 OpenClaim.holds_of_wide 10 Try.f10 rfl rfl rfl rfl rfl rfl rfl ⟨rfl, rfl, rfl, rfl, rfl⟩ rfl rfl rfl rfl rfl (by kernel_rfl) Try.func10 (by kernel_rfl)
   (of_decide_eq_true (by kernel_rfl)) (by unfold Func.isWrapper; first | (rw [if_pos (by decide +kernel)]; kernel_rfl) | (rw [if_neg (by decide +kernel)]; exact ⟨rfl, rfl⟩))
   (fun os started H enc _ => saleSharesLifted os started H enc)
#print axioms saleShares
end Go.Proofs.Ytaikojfonleccaa
