/-
  SaleMore returns true of any sale, bid and lot by bits and sum, and leaves what it is handed as it was. No conditions.
-/
import Derived.Test.YtaikojfonleccaaPae
namespace Go.Proofs.Ytaikojfonleccaa
open Go.RowKit
theorem bd_17 : Body Try.prog 17 := Br (by kernel_rfl)
theorem bd_19 : Body Try.prog 19 := Br (by kernel_rfl)
theorem bd_21 : Body Try.prog 21 := Br (by kernel_rfl)
theorem bd_23 : Body Try.prog 23 := Br (by kernel_rfl)
theorem bd_26 : Body Try.prog 26 := Br (by kernel_rfl)
theorem bd_30 : Body Try.prog 30 := Br (by kernel_rfl)
theorem bd_31 : Body Try.prog 31 := Br (by kernel_rfl)
theorem bd_33 : Body Try.prog 33 := Br (by kernel_rfl)
theorem bd_35 : Body Try.prog 35 := Br (by kernel_rfl)
theorem bd_36 : Body Try.prog 36 := Br (by kernel_rfl)
theorem bd_37 : Body Try.prog 37 := Br (by kernel_rfl)
theorem bt_77 : BuildT Try.prog 77 [.int .i64 0, .int .i64 0] [(0, 1), (1, 1)] := Em zr_77 (by kernel_rfl) (by decide)
theorem n13_box2 {F : Heap} {b T : Nat} (h : F b = some (bx T [.int .i64 1, .int .i64 3])) : Nats F (.slice (some ⟨b, 0, none⟩) 2 2) [1, 3] :=
 Du (xs := ([1, 3] : List Nat)) h rfl rfl (fun _ => rfl) (by decide)
theorem n013_box3 {F : Heap} {b T : Nat} (h : F b = some (bx T [.int .i64 0, .int .i64 1, .int .i64 3])) : Nats F (.slice (some ⟨b, 0, none⟩) 3 3) [0, 1, 3] :=
 Du (xs := ([0, 1, 3] : List Nat)) h rfl rfl (fun _ => rfl) (by decide)
theorem n123_box3 {F : Heap} {b T : Nat} (h : F b = some (bx T [.int .i64 1, .int .i64 2, .int .i64 3])) : Nats F (.slice (some ⟨b, 0, none⟩) 3 3) [1, 2, 3] :=
 Du (xs := ([1, 2, 3] : List Nat)) h rfl rfl (fun _ => rfl) (by decide)
theorem n02_box2 {F : Heap} {b T : Nat} (h : F b = some (bx T [.int .i64 0, .int .i64 2])) : Nats F (.slice (some ⟨b, 0, none⟩) 2 2) [0, 2] :=
 Du (xs := ([0, 2] : List Nat)) h rfl rfl (fun _ => rfl) (by decide)
theorem n0123_box4 {F : Heap} {b T : Nat} (h : F b = some (bx T [.int .i64 0, .int .i64 1, .int .i64 2, .int .i64 3])) : Nats F (.slice (some ⟨b, 0, none⟩) 4 4) [0, 1, 2, 3] :=
 Du (xs := ([0, 1, 2, 3] : List Nat)) h rfl rfl (fun _ => rfl) (by decide)
theorem entA_box2 {F : Heap} {b T : Nat} (h : F b = some (bx T [.int .i64 0, .bool true, .int .i64 60, .int .i64 60, .int .i64 1, .bool true, .int .i64 48, .int .i64 48])) : Sl F (.slice (some ⟨b, 0, none⟩) 2 2) 4 Ent.enc [ent1 0 60 60, ent1 1 48 48] :=
 Du (xs := [ent1 0 60 60, ent1 1 48 48]) h rfl rfl (fun _ => rfl) (by decide)
theorem entB_box1 {F : Heap} {b T : Nat} (h : F b = some (bx T [.int .i64 0, .bool true, .int .i64 20, .int .i64 50])) : Sl F (.slice (some ⟨b, 0, none⟩) 1 1) 4 Ent.enc [ent1 0 20 50] :=
 Du (xs := [ent1 0 20 50]) h rfl rfl (fun _ => rfl) (by decide)
theorem entC_box3 {F : Heap} {b T : Nat} (h : F b = some (bx T [.int .i64 0, .bool true, .int .i64 45, .int .i64 45, .int .i64 1, .bool true, .int .i64 48, .int .i64 48, .int .i64 2, .bool true, .int .i64 30, .int .i64 30])) : Sl F (.slice (some ⟨b, 0, none⟩) 3 3) 4 Ent.enc [ent1 0 45 45, ent1 1 48 48, ent1 2 30 30] :=
 Du (xs := [ent1 0 45 45, ent1 1 48 48, ent1 2 30 30]) h rfl rfl (fun _ => rfl) (by decide)
theorem entD_box1 {F : Heap} {b T : Nat} (h : F b = some (bx T [.int .i64 2, .bool true, .int .i64 30, .int .i64 30])) : Sl F (.slice (some ⟨b, 0, none⟩) 1 1) 4 Ent.enc [ent1 2 30 30] :=
 Du (xs := [ent1 2 30 30]) h rfl rfl (fun _ => rfl) (by decide)
theorem resA_box3 {F : Heap} {b T : Nat} (h : F b = some (bx T [.int .i64 (0), .int .i64 60, .int .i64 (1), .int .i64 73, .int .i64 (-1), .int .i64 0])) : Sl F (.slice (some ⟨b, 0, none⟩) 3 3) 2 Res.enc [⟨0, 60⟩, ⟨1, 73⟩, ⟨-1, 0⟩] :=
 Du (xs := ([⟨0, 60⟩, ⟨1, 73⟩, ⟨-1, 0⟩] : List Res)) h rfl rfl (fun _ => rfl) (by decide)
theorem resB_box3 {F : Heap} {b T : Nat} (h : F b = some (bx T [.int .i64 (0), .int .i64 20, .int .i64 (1), .int .i64 73, .int .i64 (-1), .int .i64 0])) : Sl F (.slice (some ⟨b, 0, none⟩) 3 3) 2 Res.enc [⟨0, 20⟩, ⟨1, 73⟩, ⟨-1, 0⟩] :=
 Du (xs := ([⟨0, 20⟩, ⟨1, 73⟩, ⟨-1, 0⟩] : List Res)) h rfl rfl (fun _ => rfl) (by decide)
theorem backA_box1 {F : Heap} {b T : Nat} (h : F b = some (bx T [.int .i64 0, .int .i64 14])) : Sl F (.slice (some ⟨b, 0, none⟩) 1 1) 2 Back.enc (back1 14) :=
 Du (xs := back1 14) h rfl rfl (fun _ => rfl) (by decide)
theorem backB_box1 {F : Heap} {b T : Nat} (h : F b = some (bx T [.int .i64 0, .int .i64 15])) : Sl F (.slice (some ⟨b, 0, none⟩) 1 1) 2 Back.enc (back1 15) :=
 Du (xs := back1 15) h rfl rfl (fun _ => rfl) (by decide)
theorem ints_box3 {F : Heap} {b T : Nat} {x y z : Int} (h : F b = some (bx T [.int .i64 x, .int .i64 y, .int .i64 z])) : Ints F (.slice (some ⟨b, 0, none⟩) 3 3) [x, y, z] :=
 Du (xs := [x, y, z]) h rfl rfl (fun _ => rfl) (by decide)
theorem ints_box4 {F : Heap} {b T : Nat} {x y z w : Int} (h : F b = some (bx T [.int .i64 x, .int .i64 y, .int .i64 z, .int .i64 w])) : Ints F (.slice (some ⟨b, 0, none⟩) 4 4) [x, y, z, w] :=
 Du (xs := [x, y, z, w]) h rfl rfl (fun _ => rfl) (by decide)
def valE (v : Value) : List Value := [v]
theorem vals_box3 {F : Heap} {b T : Nat} {x y z : Value} (h : F b = some (bx T [x, y, z])) : Sl F (.slice (some ⟨b, 0, none⟩) 3 3) 1 valE [x, y, z] :=
 Du (xs := [x, y, z]) h rfl rfl (fun _ => rfl) (by decide)
theorem Sl.val {F : Heap} {v : Value} {ps : List (Value × List Nat)} (h : Sl F v 1 valE (ps.map (·.1))) : Sl F v 1 slE ps := by
 refine ⟨by simpa using h.plain, fun i hi j u hu => h.cells i (by simpa using hi) j u ?_⟩
 simpa [valE, slE] using hu
theorem lsts3 {F : Heap} {v x y z : Value} {a b c : List Nat} (h : Sl F v 1 valE [x, y, z]) (h1 : Nats F x a) (h2 : Nats F y b) (h3 : Nats F z c) : Lsts F v [a, b, c] :=
 ⟨[(x, a), (y, b), (z, c)], Sl.val h, by simp [h1, h2, h3], rfl⟩
def tupA (v : Value) (i : Nat) : Value := match v with
 | .tuple a => a.toList[i]?.getD v
 | _ => v
theorem LstsR.ans {F : Heap} {u : Value} {p q : List (List Nat) × Int} (h : LstsR F u p) (e : p = q) : u = .tuple #[tupA u 0, .int .i64 q.2] ∧ Lsts F (tupA u 0) q.1 := by
 subst e; obtain ⟨v, rfl, h⟩ := h; exact ⟨rfl, h⟩
theorem NatsR.ans {F : Heap} {u : Value} {p q : List Nat × Int} (h : NatsR F u p) (e : p = q) : u = .tuple #[tupA u 0, .int .i64 q.2] ∧ Nats F (tupA u 0) q.1 := by
 subst e; obtain ⟨v, rfl, h⟩ := h; exact ⟨rfl, h⟩
theorem MemR.ans {F : Heap} {u : Value} {p q : Mem} (h : MemR F u p) (e : p = q) : u = .tuple #[tupA u 0, tupA u 1, .int .i64 q.2.2] ∧ Nats F (tupA u 0) q.1 ∧ Nats F (tupA u 1) q.2.1 := by
 subst e; obtain ⟨v, w, rfl, h1, h2⟩ := h; exact ⟨rfl, h1, h2⟩
set_option maxRecDepth 100000 in
theorem awake_ok {F : Heap} : Ok Try.prog 22 [].toArray F fun u _ => u = .bool true := by
 refine Ok.intro Try.func22 rfl Try.ntmps22 rfl fun w0 => ?_
 refine Af <| Ai fun ds => Aa rfl (Ae Ab) ?_
 refine Ah <| Ad <| Af <| Ai fun ds => Bl rfl (Cz bd_35 Az .nil sale_ok fun v1 F2 hr3 hF4 => ?_)
 obtain ⟨vs, vb, vl, vn, vd, rfl, hr⟩ := hr3
 refine Bl rfl (B6 zr_27 rfl fun b5 hb5 nb5 => ?_)
 refine Ck (B8 sz_27 (Ac) (Al rfl <| Ac) (i := 0) rfl rfl rfl rfl hr.ones (.here) ?_)
 refine Ah <| Ad <| Af <| Ai fun ds => Aa rfl (Bg Cd (Ac) rfl rfl (Bm 0 rfl)) ?_
 refine Bv rfl (A9 bd_17 Az (.cons (Ac) (.cons Ab .nil)) (next_ok hr 50) (fun _ _ h => h.trans (show _ = Value.tuple #[.int .i64 60, .int .i64 0] by rw [ev_n1]))) ?_
 refine Aa rfl (Ag (Ac)) ?_
 refine Aa rfl (A1 (Ac) rfl) ?_
 refine Aa rfl (A1 (Al rfl <| Ac) rfl) ?_
 refine Aa rfl (Ae (Al rfl <| Ac)) ?_
 refine Aa rfl (Ae (Al rfl <| Ac)) ?_
 refine Ah <| Ad <| Af <| Ai fun ds => Aa rfl (Bg Cd (Ay rfl <| Ap rfl <| Al rfl <| Ac) rfl rfl (Bm 0 rfl)) ?_
 refine Bl rfl (Cz bd_19 Az (.cons (Ac) (.cons Ab .nil)) ((sellTop_ok hr Sl.nil).mono fun u F2 _ h => (by rw [ev_s1] at h; exact h : ∃ ws0, u = .tuple #[ws0, .int .i64 0] ∧ Sl F2 ws0 2 Res.enc [⟨0, 60⟩, ⟨1, 73⟩, ⟨-1, 0⟩])) fun v6 F7 hr8 hF9 => ?_)
 replace hr := hr.mono hF9
 obtain ⟨hq1_, rfl, hq1⟩ := hr8
 refine Aa rfl (Ag (Ac)) ?_
 refine Aa rfl (A1 (Ac) rfl) ?_
 refine Aa rfl (A1 (Al rfl <| Ac) rfl) ?_
 refine Aa rfl (Ae (Al rfl <| Ac)) ?_
 refine Aa rfl (Ae (Al rfl <| Ac)) ?_
 refine Ah <| Ad <| Af <| Ai fun ds => Aa rfl (Bg Cd (Ba rfl <| Ay rfl <| Ap rfl <| Ac) rfl rfl (Bm 0 rfl)) ?_
 refine Bl rfl (Bz Bs C3 rfl (.cons Ab (.cons Ab (.cons Ab .nil))) rfl rfl (by decide) (by simp [Value.oneCell']) fun b10 hb10 nb10 => ?_)
 refine Bp (i := 0) rfl hb10 .here fun F11 hF12 hz13 => ?_
 replace hr := hr.mono hF12
 replace hq1 := hq1.mono hF12
 have hsl14 := ints_box3 hz13
 refine Bl rfl (Cz bd_19 Az (.cons (Al rfl <| Ac) (.cons (Ac) .nil)) ((sellTop_ok hr hsl14).mono fun u F2 _ h => (by rw [ev_s2] at h; exact h : ∃ ws0, u = .tuple #[ws0, .int .i64 0] ∧ Sl F2 ws0 2 Res.enc [⟨0, 20⟩, ⟨1, 73⟩, ⟨-1, 0⟩])) fun v15 F16 hr17 hF18 => ?_)
 replace hr := hr.mono hF18
 replace hq1 := hq1.mono hF18
 obtain ⟨hq2_, rfl, hq2⟩ := hr17
 refine Aa rfl (Ag (Ac)) ?_
 refine Aa rfl (A1 (Ac) rfl) ?_
 refine Aa rfl (A1 (Al rfl <| Ac) rfl) ?_
 refine Aa rfl (Ae (Al rfl <| Ac)) ?_
 refine Aa rfl (Ae (Al rfl <| Ac)) ?_
 refine Ah <| Ad <| Af <| Ai fun ds => Aa rfl (Bg Cd (Bb rfl <| Ay rfl <| Ap rfl <| Ac) rfl rfl (Bm 0 rfl)) ?_
 refine Bl rfl (Bz Bs C3 rfl (.cons Ab (.cons Ab .nil)) rfl rfl (by decide) (by simp [Value.oneCell']) fun b19 hb19 nb19 => ?_)
 refine Bp (i := 0) rfl hb19 .here fun F20 hF21 hz22 => ?_
 replace hr := hr.mono hF21
 replace hq1 := hq1.mono hF21
 replace hq2 := hq2.mono hF21
 have hsl23 := Dl hz22
 refine Aa rfl (Db bt_77 (.cons Ab rfl (.cons Ab rfl .nil)) (.cons rfl rfl (Nat.le_of_ble_eq_true rfl) (.cons (.here) .nil) (.cons rfl rfl (Nat.le_of_ble_eq_true rfl) (.cons (.next <| .here) .nil) .nil))) ?_
 refine Bl rfl (Dn (offs := [(0, 2)]) (zl := [.int .i64 0, .int .i64 0]) sl_40 zr_77 rfl (.cons (Ac) rfl .nil) (by intro i p h; rcases i with _ | i <;> simp at h <;> subst h <;> rfl) (.cons rfl rfl (Nat.le_of_ble_eq_true rfl) (.cons (.here) (.cons (.next <| .here) .nil)) .nil) (by decide) (by decide) fun b24 hb24 nb24 => ?_)
 refine Bp (i := 0) rfl hb24 .here fun F25 hF26 hz27 => ?_
 replace hr := hr.mono hF26
 replace hq1 := hq1.mono hF26
 replace hq2 := hq2.mono hF26
 replace hsl23 := hsl23.mono hF26
 have hsl28 := backA_box1 hz27
 refine Bl rfl (Cz bd_23 Az (.cons (Ap rfl <| Al rfl <| Ac) (.cons (Ap rfl <| Ac) (.cons (Ac) .nil))) ((account_ok hr hsl23 hsl28).mono fun u F2 _ h => (by rw [ev_a1] at h; exact h : ∃ ws0 ws1, u = .tuple #[ws0, ws1, .int .i64 12, .int .i64 0] ∧ Ints F2 ws0 [0, 53, 0, 0] ∧ Ints F2 ws1 [41])) fun v29 F30 hr31 hF32 => ?_)
 replace hr := hr.mono hF32
 replace hq1 := hq1.mono hF32
 replace hq2 := hq2.mono hF32
 obtain ⟨hq3_, hq4_, rfl, hq3, hq4⟩ := hr31
 refine Aa rfl (Ag (Ac)) ?_
 refine Aa rfl (A1 (Ac) rfl) ?_
 refine Aa rfl (A1 (Al rfl <| Ac) rfl) ?_
 refine Aa rfl (A1 (Ap rfl <| Ac) rfl) ?_
 refine Aa rfl (A1 (Ap rfl <| Al rfl <| Ac) rfl) ?_
 refine Aa rfl (Ae (Ap rfl <| Al rfl <| Ac)) ?_
 refine Aa rfl (Ae (Ap rfl <| Al rfl <| Ac)) ?_
 refine Aa rfl (Ae (Ap rfl <| Al rfl <| Ac)) ?_
 refine Aa rfl (Ae (Ap rfl <| Al rfl <| Ac)) ?_
 refine Ah <| Ad <| Af <| Ai fun ds => Aa rfl (Bg Cd (Bt rfl <| Ay rfl <| Ac) rfl rfl (Bm 0 rfl)) ?_
 refine Bl rfl (Bz Bs C3 rfl (.cons Ab (.cons Ab .nil)) rfl rfl (by decide) (by simp [Value.oneCell']) fun b33 hb33 nb33 => ?_)
 refine Bp (i := 0) rfl hb33 .here fun F34 hF35 hz36 => ?_
 replace hr := hr.mono hF35
 replace hq1 := hq1.mono hF35
 replace hq2 := hq2.mono hF35
 replace hq3 := hq3.mono hF35
 replace hq4 := hq4.mono hF35
 have hsl37 := Dl hz36
 refine Aa rfl (Db bt_77 (.cons Ab rfl (.cons Ab rfl .nil)) (.cons rfl rfl (Nat.le_of_ble_eq_true rfl) (.cons (.here) .nil) (.cons rfl rfl (Nat.le_of_ble_eq_true rfl) (.cons (.next <| .here) .nil) .nil))) ?_
 refine Bl rfl (Dn (offs := [(0, 2)]) (zl := [.int .i64 0, .int .i64 0]) sl_40 zr_77 rfl (.cons (Ac) rfl .nil) (by intro i p h; rcases i with _ | i <;> simp at h <;> subst h <;> rfl) (.cons rfl rfl (Nat.le_of_ble_eq_true rfl) (.cons (.here) (.cons (.next <| .here) .nil)) .nil) (by decide) (by decide) fun b38 hb38 nb38 => ?_)
 refine Bp (i := 0) rfl hb38 .here fun F39 hF40 hz41 => ?_
 replace hr := hr.mono hF40
 replace hq1 := hq1.mono hF40
 replace hq2 := hq2.mono hF40
 replace hq3 := hq3.mono hF40
 replace hq4 := hq4.mono hF40
 replace hsl37 := hsl37.mono hF40
 have hsl42 := backB_box1 hz41
 refine Bl rfl (Cz bd_23 Az (.cons (Ap rfl <| Al rfl <| Ac) (.cons (Ap rfl <| Ac) (.cons (Ac) .nil))) ((account_ok hr hsl37 hsl42).mono fun u F2 _ h => (by rw [ev_a2] at h; exact h : ∃ ws0 ws1, u = .tuple #[ws0, ws1, .int .i64 0, .int .i64 7] ∧ Ints F2 ws0 [] ∧ Ints F2 ws1 [])) fun v43 F44 hr45 hF46 => ?_)
 replace hr := hr.mono hF46
 replace hq1 := hq1.mono hF46
 replace hq2 := hq2.mono hF46
 replace hq3 := hq3.mono hF46
 replace hq4 := hq4.mono hF46
 obtain ⟨hq5_, hq6_, rfl, hq5, hq6⟩ := hr45
 refine Aa rfl (Ag (Ac)) ?_
 refine Aa rfl (A1 (Ac) rfl) ?_
 refine Aa rfl (A1 (Al rfl <| Ac) rfl) ?_
 refine Aa rfl (A1 (Ap rfl <| Ac) rfl) ?_
 refine Aa rfl (A1 (Ap rfl <| Al rfl <| Ac) rfl) ?_
 refine Aa rfl (Ae (Ap rfl <| Al rfl <| Ac)) ?_
 refine Aa rfl (Ae (Ap rfl <| Al rfl <| Ac)) ?_
 refine Aa rfl (Ae (Ap rfl <| Al rfl <| Ac)) ?_
 refine Aa rfl (Ae (Ap rfl <| Al rfl <| Ac)) ?_
 refine Ah <| Ad <| Af <| Ai fun ds => Aa rfl (Bg Cd (Bt rfl <| Bb rfl <| Ap rfl <| Ac) rfl rfl (Bm 0 rfl)) ?_
 refine Bl rfl (Bz Bs C3 rfl (.cons Ab (.cons Ab (.cons Ab .nil))) rfl rfl (by decide) (by simp [Value.oneCell']) fun b47 hb47 nb47 => ?_)
 refine Bp (i := 0) rfl hb47 .here fun F48 hF49 hz50 => ?_
 replace hr := hr.mono hF49
 replace hq1 := hq1.mono hF49
 replace hq2 := hq2.mono hF49
 replace hq3 := hq3.mono hF49
 replace hq4 := hq4.mono hF49
 have hsl51 := ints_box3 hz50
 refine Bl rfl (Cz bd_26 Az (.cons (Al rfl <| Ac) (.cons (Ac) .nil)) ((share_ok hr hsl51).mono fun u F2 _ h => (by rw [ev_h1] at h; exact h : ∃ ws0, u = .tuple #[ws0, .int .i64 0] ∧ Ints F2 ws0 [14, 13, 13])) fun v52 F53 hr54 hF55 => ?_)
 replace hr := hr.mono hF55
 replace hq1 := hq1.mono hF55
 replace hq2 := hq2.mono hF55
 replace hq3 := hq3.mono hF55
 replace hq4 := hq4.mono hF55
 obtain ⟨hq7_, rfl, hq7⟩ := hr54
 refine Aa rfl (Ag (Ac)) ?_
 refine Aa rfl (A1 (Ac) rfl) ?_
 refine Aa rfl (A1 (Al rfl <| Ac) rfl) ?_
 refine Aa rfl (Ae (Al rfl <| Ac)) ?_
 refine Aa rfl (Ae (Al rfl <| Ac)) ?_
 refine Ah <| Ad <| Af <| WC_drawF 10 (.inl rfl) (fun _ _ h => h) (by kernel_rfl) (by kernel_rfl) false rfl ([fun F v => v = .agg #[vs, .int .i64 100, .int .i64 150, .int .i64 14, vb, vl, vn, vd], fun F v => v = .agg #[.int .i64 0, .bool true, .int .i64 60, .int .i64 60], fun F v => v = .agg #[.int .i64 1, .bool true, .int .i64 48, .int .i64 48], fun F v => Sl F v 4 Ent.enc [ent1 0 60 60, ent1 1 48 48], fun F v => v = .tuple #[tupA v 0, .int .i64 0] ∧ Lsts F (tupA v 0) [[1, 3], [0, 1, 3], [1, 2, 3]], fun F v => v = .tuple #[tupA v 0, .int .i64 0] ∧ Lsts F (tupA v 0) [[1, 3], [0, 1, 3], [1, 2, 3]], fun F v => Lsts F v [[1, 3], [0, 1, 3], [1, 2, 3]], fun F v => v = .int .i64 0, fun F v => Lsts F v [[1, 3], [0, 1, 3], [1, 2, 3]], fun F v => v = .int .i64 0]) (⟨fun F F2 v hF h => h, fun F F2 v hF h => h, fun F F2 v hF h => h, fun F F2 v hF h => h.mono hF, fun F F2 v hF h => ⟨h.1, h.2.mono hF⟩, fun F F2 v hF h => ⟨h.1, h.2.mono hF⟩, fun F F2 v hF h => h.mono hF, fun F F2 v hF h => h, fun F F2 v hF h => h.mono hF, fun F F2 v hF h => h, trivial⟩) (fun ds => ?_) (fun ds => ?_)
 ·
  refine ⟨⟨⟨⟨⟨⟨⟨⟨⟨⟨trivial, ?_⟩, ?_⟩, ?_⟩, ?_⟩, ?_⟩, ?_⟩, ?_⟩, ?_⟩, ?_⟩, ?_⟩
  ·
   intro e1 F1 hF1 he hj
   refine ⟨_, _, _, _, _, rfl, ?_⟩
   refine Bo (Bg Cd (B1 (B7 he (by kernel_rfl)) <| Bt rfl <| Bb rfl <| Ba rfl <| Ap rfl <| Ac) rfl rfl (Bm 0 rfl)).quiet ⟨_, rfl, Heap.le_refl _, rfl⟩
  ·
   intro e1 F1 hF1 he hj
   refine ⟨_, _, _, _, _, rfl, ?_⟩
   refine Bo (A9 bd_36 Az (.cons Ab (.cons Ab (.cons Ab .nil))) (entry_ok _ _ _) (fun _ _ h => h)) ⟨_, rfl, Heap.le_refl _, rfl⟩
  ·
   intro e1 F1 hF1 he hj
   have g72 : (e1 72) = .agg #[.int .i64 0, .bool true, .int .i64 60, .int .i64 60] := hj 1 (by kernel_rfl) (by decide)
   refine ⟨_, _, _, _, _, rfl, ?_⟩
   refine Bo (A9 bd_36 Az (.cons Ab (.cons Ab (.cons Ab .nil))) (entry_ok _ _ _) (fun _ _ h => h)) ⟨_, rfl, Heap.le_refl _, rfl⟩
  ·
   intro e1 F1 hF1 he hj
   have g72 : (e1 72) = .agg #[.int .i64 0, .bool true, .int .i64 60, .int .i64 60] := hj 1 (by kernel_rfl) (by decide)
   have g73 : (e1 73) = .agg #[.int .i64 1, .bool true, .int .i64 48, .int .i64 48] := hj 2 (by kernel_rfl) (by decide)
   refine ⟨_, _, _, _, _, rfl, ?_⟩
   refine OpX_freeze (Dn (offs := [(0, 4), (4, 4)]) (zl := [.int .i64 0, .bool false, .int .i64 0, .int .i64 0, .int .i64 0, .bool false, .int .i64 0, .int .i64 0]) sl_47 zr_60 rfl (.cons (Cv g72) rfl (.cons (Cv g73) rfl .nil)) (by intro i p h; rcases i with _ | _ | i <;> simp at h <;> subst h <;> rfl) (.cons rfl rfl (Nat.le_of_ble_eq_true rfl) (.cons (.here) (.cons (.next <| .here) (.cons (.next <| .next <| .here) (.cons (.next <| .next <| .next <| .here) .nil)))) (.cons rfl rfl (Nat.le_of_ble_eq_true rfl) (.cons (.next <| .next <| .next <| .next <| .here) (.cons (.next <| .next <| .next <| .next <| .next <| .here) (.cons (.next <| .next <| .next <| .next <| .next <| .next <| .here) (.cons (.next <| .next <| .next <| .next <| .next <| .next <| .next <| .here) .nil)))) .nil)) (by decide) (by decide) fun b hb nb => ⟨b, _, hb, rfl, fun F2 hF2 hz => ⟨F2, rfl, hF2, (entA_box2 hz)⟩⟩)
  ·
   intro e1 F1 hF1 he hj
   replace hr := hr.mono hF1
   have g71 : (e1 71) = .agg #[vs, .int .i64 100, .int .i64 150, .int .i64 14, vb, vl, vn, vd] := hj 0 (by kernel_rfl) (by decide)
   have g73 : (e1 73) = .agg #[.int .i64 1, .bool true, .int .i64 48, .int .i64 48] := hj 2 (by kernel_rfl) (by decide)
   have g74 : Sl F1 (e1 74) 4 Ent.enc [ent1 0 60 60, ent1 1 48 48] := hj 3 (by kernel_rfl) (by decide)
   refine ⟨_, _, _, _, _, rfl, ?_⟩
   refine Cz bd_28 Az (.cons (Cv g71) (.cons (Cv rfl) .nil)) (rings_top_ok hr g74) fun v2 F2 hr hF2 => ⟨F2, rfl, hF2, (hr.ans ev_r1)⟩
  ·
   intro e1 F1 hF1 he hj
   have g75 : (e1 75) = .tuple #[tupA (e1 75) 0, .int .i64 0] ∧ Lsts F1 (tupA (e1 75) 0) [[1, 3], [0, 1, 3], [1, 2, 3]] := hj 4 (by kernel_rfl) (by decide)
   refine ⟨_, _, _, _, _, rfl, ?_⟩
   refine Bo (Ag (Cv g75.1)).quiet ⟨_, rfl, Heap.le_refl _, ⟨rfl, g75.2⟩⟩
  ·
   intro e1 F1 hF1 he hj
   have g70 : (e1 70) = .tuple #[tupA (e1 70) 0, .int .i64 0] ∧ Lsts F1 (tupA (e1 70) 0) [[1, 3], [0, 1, 3], [1, 2, 3]] := hj 5 (by kernel_rfl) (by decide)
   refine ⟨_, _, _, _, _, rfl, ?_⟩
   refine Bo (A1 (Cv g70.1) rfl).quiet ⟨_, rfl, Heap.le_refl _, g70.2⟩
  ·
   intro e1 F1 hF1 he hj
   have g70 : (e1 70) = .tuple #[tupA (e1 70) 0, .int .i64 0] ∧ Lsts F1 (tupA (e1 70) 0) [[1, 3], [0, 1, 3], [1, 2, 3]] := hj 5 (by kernel_rfl) (by decide)
   refine ⟨_, _, _, _, _, rfl, ?_⟩
   refine Bo (A1 (Cv g70.1) rfl).quiet ⟨_, rfl, Heap.le_refl _, rfl⟩
  ·
   intro e1 F1 hF1 he hj
   have g71 : (e1 71) = .agg #[vs, .int .i64 100, .int .i64 150, .int .i64 14, vb, vl, vn, vd] := hj 0 (by kernel_rfl) (by decide)
   have g72 : (e1 72) = .agg #[.int .i64 0, .bool true, .int .i64 60, .int .i64 60] := hj 1 (by kernel_rfl) (by decide)
   have g73 : (e1 73) = .agg #[.int .i64 1, .bool true, .int .i64 48, .int .i64 48] := hj 2 (by kernel_rfl) (by decide)
   have g74 : Sl F1 (e1 74) 4 Ent.enc [ent1 0 60 60, ent1 1 48 48] := hj 3 (by kernel_rfl) (by decide)
   have g75 : (e1 75) = .tuple #[tupA (e1 75) 0, .int .i64 0] ∧ Lsts F1 (tupA (e1 75) 0) [[1, 3], [0, 1, 3], [1, 2, 3]] := hj 4 (by kernel_rfl) (by decide)
   have g70 : (e1 70) = .tuple #[tupA (e1 70) 0, .int .i64 0] ∧ Lsts F1 (tupA (e1 70) 0) [[1, 3], [0, 1, 3], [1, 2, 3]] := hj 5 (by kernel_rfl) (by decide)
   have g76 : Lsts F1 (e1 76) [[1, 3], [0, 1, 3], [1, 2, 3]] := hj 6 (by kernel_rfl) (by decide)
   refine ⟨_, _, _, _, _, rfl, ?_⟩
   refine Bo (Ae (Cv rfl)).quiet ⟨_, rfl, Heap.le_refl _, g76⟩
  ·
   intro e1 F1 hF1 he hj
   have g71 : (e1 71) = .agg #[vs, .int .i64 100, .int .i64 150, .int .i64 14, vb, vl, vn, vd] := hj 0 (by kernel_rfl) (by decide)
   have g72 : (e1 72) = .agg #[.int .i64 0, .bool true, .int .i64 60, .int .i64 60] := hj 1 (by kernel_rfl) (by decide)
   have g73 : (e1 73) = .agg #[.int .i64 1, .bool true, .int .i64 48, .int .i64 48] := hj 2 (by kernel_rfl) (by decide)
   have g74 : Sl F1 (e1 74) 4 Ent.enc [ent1 0 60 60, ent1 1 48 48] := hj 3 (by kernel_rfl) (by decide)
   have g75 : (e1 75) = .tuple #[tupA (e1 75) 0, .int .i64 0] ∧ Lsts F1 (tupA (e1 75) 0) [[1, 3], [0, 1, 3], [1, 2, 3]] := hj 4 (by kernel_rfl) (by decide)
   have g70 : (e1 70) = .tuple #[tupA (e1 70) 0, .int .i64 0] ∧ Lsts F1 (tupA (e1 70) 0) [[1, 3], [0, 1, 3], [1, 2, 3]] := hj 5 (by kernel_rfl) (by decide)
   have g76 : Lsts F1 (e1 76) [[1, 3], [0, 1, 3], [1, 2, 3]] := hj 6 (by kernel_rfl) (by decide)
   have g77 : (e1 77) = .int .i64 0 := hj 7 (by kernel_rfl) (by decide)
   have g18 : Lsts F1 (e1 18) [[1, 3], [0, 1, 3], [1, 2, 3]] := hj 8 (by kernel_rfl) (by decide)
   refine ⟨_, _, _, _, _, rfl, ?_⟩
   refine Bo (Ae (Cv g77)).quiet ⟨_, rfl, Heap.le_refl _, rfl⟩
 intro e59 F56 hF57 he58 hj
 replace hr := hr.mono hF57
 replace hq1 := hq1.mono hF57
 replace hq2 := hq2.mono hF57
 replace hq3 := hq3.mono hF57
 replace hq4 := hq4.mono hF57
 replace hq7 := hq7.mono hF57
 have g71 : (e59 71) = .agg #[vs, .int .i64 100, .int .i64 150, .int .i64 14, vb, vl, vn, vd] := hj 0 (by decide)
 have g72 : (e59 72) = .agg #[.int .i64 0, .bool true, .int .i64 60, .int .i64 60] := hj 1 (by decide)
 have g73 : (e59 73) = .agg #[.int .i64 1, .bool true, .int .i64 48, .int .i64 48] := hj 2 (by decide)
 have g74 : Sl F56 (e59 74) 4 Ent.enc [ent1 0 60 60, ent1 1 48 48] := hj 3 (by decide)
 have g75 : (e59 75) = .tuple #[tupA (e59 75) 0, .int .i64 0] ∧ Lsts F56 (tupA (e59 75) 0) [[1, 3], [0, 1, 3], [1, 2, 3]] := hj 4 (by decide)
 have g70 : (e59 70) = .tuple #[tupA (e59 70) 0, .int .i64 0] ∧ Lsts F56 (tupA (e59 70) 0) [[1, 3], [0, 1, 3], [1, 2, 3]] := hj 5 (by decide)
 have g76 : Lsts F56 (e59 76) [[1, 3], [0, 1, 3], [1, 2, 3]] := hj 6 (by decide)
 have g77 : (e59 77) = .int .i64 0 := hj 7 (by decide)
 have g18 : Lsts F56 (e59 18) [[1, 3], [0, 1, 3], [1, 2, 3]] := hj 8 (by decide)
 have g19 : (e59 19) = .int .i64 0 := hj 9 (by decide)
 refine Ad <| Af <| WC_drawF 11 (.inl rfl) (fun _ _ h => h) (by kernel_rfl) (by kernel_rfl) false rfl ([fun F v => v = .agg #[vs, .int .i64 100, .int .i64 150, .int .i64 14, vb, vl, vn, vd], fun F v => v = .agg #[.int .i64 0, .bool true, .int .i64 20, .int .i64 50], fun F v => Sl F v 4 Ent.enc [ent1 0 20 50], fun F v => v = .tuple #[tupA v 0, tupA v 1, .int .i64 0] ∧ Nats F (tupA v 0) [0, 2] ∧ Nats F (tupA v 1) [0, 1, 2, 3], fun F v => v = .tuple #[tupA v 0, tupA v 1, .int .i64 0] ∧ Nats F (tupA v 0) [0, 2] ∧ Nats F (tupA v 1) [0, 1, 2, 3], fun F v => Nats F v [0, 2], fun F v => Nats F v [0, 1, 2, 3], fun F v => v = .int .i64 0, fun F v => Nats F v [0, 2], fun F v => Nats F v [0, 1, 2, 3], fun F v => v = .int .i64 0]) (⟨fun F F2 v hF h => h, fun F F2 v hF h => h, fun F F2 v hF h => h.mono hF, fun F F2 v hF h => ⟨h.1, h.2.1.mono hF, h.2.2.mono hF⟩, fun F F2 v hF h => ⟨h.1, h.2.1.mono hF, h.2.2.mono hF⟩, fun F F2 v hF h => h.mono hF, fun F F2 v hF h => h.mono hF, fun F F2 v hF h => h, fun F F2 v hF h => h.mono hF, fun F F2 v hF h => h.mono hF, fun F F2 v hF h => h, trivial⟩) (fun ds => ?_) (fun ds => ?_)
 ·
  refine ⟨⟨⟨⟨⟨⟨⟨⟨⟨⟨⟨trivial, ?_⟩, ?_⟩, ?_⟩, ?_⟩, ?_⟩, ?_⟩, ?_⟩, ?_⟩, ?_⟩, ?_⟩, ?_⟩
  ·
   intro e1 F1 hF1 he hj
   refine ⟨_, _, _, _, _, rfl, ?_⟩
   refine Bo (Bg Cd (B1 (B7 he (by kernel_rfl)) <| B1 (B7 he58 (by kernel_rfl)) <| Bt rfl <| Bb rfl <| Ba rfl <| Ap rfl <| Ac) rfl rfl (Bm 0 rfl)).quiet ⟨_, rfl, Heap.le_refl _, rfl⟩
  ·
   intro e1 F1 hF1 he hj
   refine ⟨_, _, _, _, _, rfl, ?_⟩
   refine Bo (A9 bd_36 Az (.cons Ab (.cons Ab (.cons Ab .nil))) (entry_ok _ _ _) (fun _ _ h => h)) ⟨_, rfl, Heap.le_refl _, rfl⟩
  ·
   intro e1 F1 hF1 he hj
   have g80 : (e1 80) = .agg #[.int .i64 0, .bool true, .int .i64 20, .int .i64 50] := hj 1 (by kernel_rfl) (by decide)
   refine ⟨_, _, _, _, _, rfl, ?_⟩
   refine OpX_freeze (Dn (offs := [(0, 4)]) (zl := [.int .i64 0, .bool false, .int .i64 0, .int .i64 0]) sl_47 zr_60 rfl (.cons (Cv g80) rfl .nil) (by intro i p h; rcases i with _ | i <;> simp at h <;> subst h <;> rfl) (.cons rfl rfl (Nat.le_of_ble_eq_true rfl) (.cons (.here) (.cons (.next <| .here) (.cons (.next <| .next <| .here) (.cons (.next <| .next <| .next <| .here) .nil)))) .nil) (by decide) (by decide) fun b hb nb => ⟨b, _, hb, rfl, fun F2 hF2 hz => ⟨F2, rfl, hF2, (entB_box1 hz)⟩⟩)
  ·
   intro e1 F1 hF1 he hj
   replace hr := hr.mono hF1
   have g79 : (e1 79) = .agg #[vs, .int .i64 100, .int .i64 150, .int .i64 14, vb, vl, vn, vd] := hj 0 (by kernel_rfl) (by decide)
   have g80 : (e1 80) = .agg #[.int .i64 0, .bool true, .int .i64 20, .int .i64 50] := hj 1 (by kernel_rfl) (by decide)
   have g81 : Sl F1 (e1 81) 4 Ent.enc [ent1 0 20 50] := hj 2 (by kernel_rfl) (by decide)
   refine ⟨_, _, _, _, _, rfl, ?_⟩
   refine Cz bd_31 Az (.cons (Cv g79) (.cons (Cv rfl) .nil)) (members_ok hr g81) fun v2 F2 hr hF2 => ⟨F2, rfl, hF2, (hr.ans ev_m1)⟩
  ·
   intro e1 F1 hF1 he hj
   have g82 : (e1 82) = .tuple #[tupA (e1 82) 0, tupA (e1 82) 1, .int .i64 0] ∧ Nats F1 (tupA (e1 82) 0) [0, 2] ∧ Nats F1 (tupA (e1 82) 1) [0, 1, 2, 3] := hj 3 (by kernel_rfl) (by decide)
   refine ⟨_, _, _, _, _, rfl, ?_⟩
   refine Bo (Ag (Cv g82.1)).quiet ⟨_, rfl, Heap.le_refl _, ⟨rfl, g82.2⟩⟩
  ·
   intro e1 F1 hF1 he hj
   have g78 : (e1 78) = .tuple #[tupA (e1 78) 0, tupA (e1 78) 1, .int .i64 0] ∧ Nats F1 (tupA (e1 78) 0) [0, 2] ∧ Nats F1 (tupA (e1 78) 1) [0, 1, 2, 3] := hj 4 (by kernel_rfl) (by decide)
   refine ⟨_, _, _, _, _, rfl, ?_⟩
   refine Bo (A1 (Cv g78.1) rfl).quiet ⟨_, rfl, Heap.le_refl _, g78.2.1⟩
  ·
   intro e1 F1 hF1 he hj
   have g78 : (e1 78) = .tuple #[tupA (e1 78) 0, tupA (e1 78) 1, .int .i64 0] ∧ Nats F1 (tupA (e1 78) 0) [0, 2] ∧ Nats F1 (tupA (e1 78) 1) [0, 1, 2, 3] := hj 4 (by kernel_rfl) (by decide)
   refine ⟨_, _, _, _, _, rfl, ?_⟩
   refine Bo (A1 (Cv g78.1) rfl).quiet ⟨_, rfl, Heap.le_refl _, g78.2.2⟩
  ·
   intro e1 F1 hF1 he hj
   have g78 : (e1 78) = .tuple #[tupA (e1 78) 0, tupA (e1 78) 1, .int .i64 0] ∧ Nats F1 (tupA (e1 78) 0) [0, 2] ∧ Nats F1 (tupA (e1 78) 1) [0, 1, 2, 3] := hj 4 (by kernel_rfl) (by decide)
   refine ⟨_, _, _, _, _, rfl, ?_⟩
   refine Bo (A1 (Cv g78.1) rfl).quiet ⟨_, rfl, Heap.le_refl _, rfl⟩
  ·
   intro e1 F1 hF1 he hj
   have g79 : (e1 79) = .agg #[vs, .int .i64 100, .int .i64 150, .int .i64 14, vb, vl, vn, vd] := hj 0 (by kernel_rfl) (by decide)
   have g80 : (e1 80) = .agg #[.int .i64 0, .bool true, .int .i64 20, .int .i64 50] := hj 1 (by kernel_rfl) (by decide)
   have g81 : Sl F1 (e1 81) 4 Ent.enc [ent1 0 20 50] := hj 2 (by kernel_rfl) (by decide)
   have g82 : (e1 82) = .tuple #[tupA (e1 82) 0, tupA (e1 82) 1, .int .i64 0] ∧ Nats F1 (tupA (e1 82) 0) [0, 2] ∧ Nats F1 (tupA (e1 82) 1) [0, 1, 2, 3] := hj 3 (by kernel_rfl) (by decide)
   have g78 : (e1 78) = .tuple #[tupA (e1 78) 0, tupA (e1 78) 1, .int .i64 0] ∧ Nats F1 (tupA (e1 78) 0) [0, 2] ∧ Nats F1 (tupA (e1 78) 1) [0, 1, 2, 3] := hj 4 (by kernel_rfl) (by decide)
   have g83 : Nats F1 (e1 83) [0, 2] := hj 5 (by kernel_rfl) (by decide)
   refine ⟨_, _, _, _, _, rfl, ?_⟩
   refine Bo (Ae (Cv rfl)).quiet ⟨_, rfl, Heap.le_refl _, g83⟩
  ·
   intro e1 F1 hF1 he hj
   have g79 : (e1 79) = .agg #[vs, .int .i64 100, .int .i64 150, .int .i64 14, vb, vl, vn, vd] := hj 0 (by kernel_rfl) (by decide)
   have g80 : (e1 80) = .agg #[.int .i64 0, .bool true, .int .i64 20, .int .i64 50] := hj 1 (by kernel_rfl) (by decide)
   have g81 : Sl F1 (e1 81) 4 Ent.enc [ent1 0 20 50] := hj 2 (by kernel_rfl) (by decide)
   have g82 : (e1 82) = .tuple #[tupA (e1 82) 0, tupA (e1 82) 1, .int .i64 0] ∧ Nats F1 (tupA (e1 82) 0) [0, 2] ∧ Nats F1 (tupA (e1 82) 1) [0, 1, 2, 3] := hj 3 (by kernel_rfl) (by decide)
   have g78 : (e1 78) = .tuple #[tupA (e1 78) 0, tupA (e1 78) 1, .int .i64 0] ∧ Nats F1 (tupA (e1 78) 0) [0, 2] ∧ Nats F1 (tupA (e1 78) 1) [0, 1, 2, 3] := hj 4 (by kernel_rfl) (by decide)
   have g83 : Nats F1 (e1 83) [0, 2] := hj 5 (by kernel_rfl) (by decide)
   have g84 : Nats F1 (e1 84) [0, 1, 2, 3] := hj 6 (by kernel_rfl) (by decide)
   have g20 : Nats F1 (e1 20) [0, 2] := hj 8 (by kernel_rfl) (by decide)
   refine ⟨_, _, _, _, _, rfl, ?_⟩
   refine Bo (Ae (Cv rfl)).quiet ⟨_, rfl, Heap.le_refl _, g84⟩
  ·
   intro e1 F1 hF1 he hj
   have g79 : (e1 79) = .agg #[vs, .int .i64 100, .int .i64 150, .int .i64 14, vb, vl, vn, vd] := hj 0 (by kernel_rfl) (by decide)
   have g80 : (e1 80) = .agg #[.int .i64 0, .bool true, .int .i64 20, .int .i64 50] := hj 1 (by kernel_rfl) (by decide)
   have g81 : Sl F1 (e1 81) 4 Ent.enc [ent1 0 20 50] := hj 2 (by kernel_rfl) (by decide)
   have g82 : (e1 82) = .tuple #[tupA (e1 82) 0, tupA (e1 82) 1, .int .i64 0] ∧ Nats F1 (tupA (e1 82) 0) [0, 2] ∧ Nats F1 (tupA (e1 82) 1) [0, 1, 2, 3] := hj 3 (by kernel_rfl) (by decide)
   have g78 : (e1 78) = .tuple #[tupA (e1 78) 0, tupA (e1 78) 1, .int .i64 0] ∧ Nats F1 (tupA (e1 78) 0) [0, 2] ∧ Nats F1 (tupA (e1 78) 1) [0, 1, 2, 3] := hj 4 (by kernel_rfl) (by decide)
   have g83 : Nats F1 (e1 83) [0, 2] := hj 5 (by kernel_rfl) (by decide)
   have g84 : Nats F1 (e1 84) [0, 1, 2, 3] := hj 6 (by kernel_rfl) (by decide)
   have g85 : (e1 85) = .int .i64 0 := hj 7 (by kernel_rfl) (by decide)
   have g20 : Nats F1 (e1 20) [0, 2] := hj 8 (by kernel_rfl) (by decide)
   have g21 : Nats F1 (e1 21) [0, 1, 2, 3] := hj 9 (by kernel_rfl) (by decide)
   refine ⟨_, _, _, _, _, rfl, ?_⟩
   refine Bo (Ae (Cv g85)).quiet ⟨_, rfl, Heap.le_refl _, rfl⟩
 intro e63 F60 hF61 he62 hj
 replace hr := hr.mono hF61
 replace hq1 := hq1.mono hF61
 replace hq2 := hq2.mono hF61
 replace hq3 := hq3.mono hF61
 replace hq4 := hq4.mono hF61
 replace hq7 := hq7.mono hF61
 replace g18 := g18.mono hF61
 have g79 : (e63 79) = .agg #[vs, .int .i64 100, .int .i64 150, .int .i64 14, vb, vl, vn, vd] := hj 0 (by decide)
 have g80 : (e63 80) = .agg #[.int .i64 0, .bool true, .int .i64 20, .int .i64 50] := hj 1 (by decide)
 have g81 : Sl F60 (e63 81) 4 Ent.enc [ent1 0 20 50] := hj 2 (by decide)
 have g82 : (e63 82) = .tuple #[tupA (e63 82) 0, tupA (e63 82) 1, .int .i64 0] ∧ Nats F60 (tupA (e63 82) 0) [0, 2] ∧ Nats F60 (tupA (e63 82) 1) [0, 1, 2, 3] := hj 3 (by decide)
 have g78 : (e63 78) = .tuple #[tupA (e63 78) 0, tupA (e63 78) 1, .int .i64 0] ∧ Nats F60 (tupA (e63 78) 0) [0, 2] ∧ Nats F60 (tupA (e63 78) 1) [0, 1, 2, 3] := hj 4 (by decide)
 have g83 : Nats F60 (e63 83) [0, 2] := hj 5 (by decide)
 have g84 : Nats F60 (e63 84) [0, 1, 2, 3] := hj 6 (by decide)
 have g85 : (e63 85) = .int .i64 0 := hj 7 (by decide)
 have g20 : Nats F60 (e63 20) [0, 2] := hj 8 (by decide)
 have g21 : Nats F60 (e63 21) [0, 1, 2, 3] := hj 9 (by decide)
 have g22 : (e63 22) = .int .i64 0 := hj 10 (by decide)
 refine Ad <| Af <| WC_drawF 11 (.inl rfl) (fun _ _ h => h) (by kernel_rfl) (by kernel_rfl) false rfl ([fun F v => v = .agg #[vs, .int .i64 100, .int .i64 150, .int .i64 14, vb, vl, vn, vd], fun F v => v = .agg #[.int .i64 0, .bool true, .int .i64 45, .int .i64 45], fun F v => v = .agg #[.int .i64 1, .bool true, .int .i64 48, .int .i64 48], fun F v => v = .agg #[.int .i64 2, .bool true, .int .i64 30, .int .i64 30], fun F v => Sl F v 4 Ent.enc [ent1 0 45 45, ent1 1 48 48, ent1 2 30 30], fun F v => v = .tuple #[tupA v 0, .int .i64 0] ∧ Nats F (tupA v 0) [0, 2], fun F v => v = .tuple #[tupA v 0, .int .i64 0] ∧ Nats F (tupA v 0) [0, 2], fun F v => Nats F v [0, 2], fun F v => v = .int .i64 0, fun F v => Nats F v [0, 2], fun F v => v = .int .i64 0]) (⟨fun F F2 v hF h => h, fun F F2 v hF h => h, fun F F2 v hF h => h, fun F F2 v hF h => h, fun F F2 v hF h => h.mono hF, fun F F2 v hF h => ⟨h.1, h.2.mono hF⟩, fun F F2 v hF h => ⟨h.1, h.2.mono hF⟩, fun F F2 v hF h => h.mono hF, fun F F2 v hF h => h, fun F F2 v hF h => h.mono hF, fun F F2 v hF h => h, trivial⟩) (fun ds => ?_) (fun ds => ?_)
 ·
  refine ⟨⟨⟨⟨⟨⟨⟨⟨⟨⟨⟨trivial, ?_⟩, ?_⟩, ?_⟩, ?_⟩, ?_⟩, ?_⟩, ?_⟩, ?_⟩, ?_⟩, ?_⟩, ?_⟩
  ·
   intro e1 F1 hF1 he hj
   refine ⟨_, _, _, _, _, rfl, ?_⟩
   refine Bo (Bg Cd (B1 (B7 he (by kernel_rfl)) <| B1 (B7 he62 (by kernel_rfl)) <| B1 (B7 he58 (by kernel_rfl)) <| Bt rfl <| Bb rfl <| Ba rfl <| Ap rfl <| Ac) rfl rfl (Bm 0 rfl)).quiet ⟨_, rfl, Heap.le_refl _, rfl⟩
  ·
   intro e1 F1 hF1 he hj
   refine ⟨_, _, _, _, _, rfl, ?_⟩
   refine Bo (A9 bd_36 Az (.cons Ab (.cons Ab (.cons Ab .nil))) (entry_ok _ _ _) (fun _ _ h => h)) ⟨_, rfl, Heap.le_refl _, rfl⟩
  ·
   intro e1 F1 hF1 he hj
   have g88 : (e1 88) = .agg #[.int .i64 0, .bool true, .int .i64 45, .int .i64 45] := hj 1 (by kernel_rfl) (by decide)
   refine ⟨_, _, _, _, _, rfl, ?_⟩
   refine Bo (A9 bd_36 Az (.cons Ab (.cons Ab (.cons Ab .nil))) (entry_ok _ _ _) (fun _ _ h => h)) ⟨_, rfl, Heap.le_refl _, rfl⟩
  ·
   intro e1 F1 hF1 he hj
   have g89 : (e1 89) = .agg #[.int .i64 1, .bool true, .int .i64 48, .int .i64 48] := hj 2 (by kernel_rfl) (by decide)
   refine ⟨_, _, _, _, _, rfl, ?_⟩
   refine Bo (A9 bd_36 Az (.cons Ab (.cons Ab (.cons Ab .nil))) (entry_ok _ _ _) (fun _ _ h => h)) ⟨_, rfl, Heap.le_refl _, rfl⟩
  ·
   intro e1 F1 hF1 he hj
   have g88 : (e1 88) = .agg #[.int .i64 0, .bool true, .int .i64 45, .int .i64 45] := hj 1 (by kernel_rfl) (by decide)
   have g89 : (e1 89) = .agg #[.int .i64 1, .bool true, .int .i64 48, .int .i64 48] := hj 2 (by kernel_rfl) (by decide)
   have g90 : (e1 90) = .agg #[.int .i64 2, .bool true, .int .i64 30, .int .i64 30] := hj 3 (by kernel_rfl) (by decide)
   refine ⟨_, _, _, _, _, rfl, ?_⟩
   refine OpX_freeze (Dn (offs := [(0, 4), (4, 4), (8, 4)]) (zl := [.int .i64 0, .bool false, .int .i64 0, .int .i64 0, .int .i64 0, .bool false, .int .i64 0, .int .i64 0, .int .i64 0, .bool false, .int .i64 0, .int .i64 0]) sl_47 zr_60 rfl (.cons (Cv g88) rfl (.cons (Cv g89) rfl (.cons (Cv g90) rfl .nil))) (by intro i p h; rcases i with _ | _ | _ | i <;> simp at h <;> subst h <;> rfl) (.cons rfl rfl (Nat.le_of_ble_eq_true rfl) (.cons (.here) (.cons (.next <| .here) (.cons (.next <| .next <| .here) (.cons (.next <| .next <| .next <| .here) .nil)))) (.cons rfl rfl (Nat.le_of_ble_eq_true rfl) (.cons (.next <| .next <| .next <| .next <| .here) (.cons (.next <| .next <| .next <| .next <| .next <| .here) (.cons (.next <| .next <| .next <| .next <| .next <| .next <| .here) (.cons (.next <| .next <| .next <| .next <| .next <| .next <| .next <| .here) .nil)))) (.cons rfl rfl (Nat.le_of_ble_eq_true rfl) (.cons (.next <| .next <| .next <| .next <| .next <| .next <| .next <| .next <| .here) (.cons (.next <| .next <| .next <| .next <| .next <| .next <| .next <| .next <| .next <| .here) (.cons (.next <| .next <| .next <| .next <| .next <| .next <| .next <| .next <| .next <| .next <| .here) (.cons (.next <| .next <| .next <| .next <| .next <| .next <| .next <| .next <| .next <| .next <| .next <| .here) .nil)))) .nil))) (by decide) (by decide) fun b hb nb => ⟨b, _, hb, rfl, fun F2 hF2 hz => ⟨F2, rfl, hF2, (entC_box3 hz)⟩⟩)
  ·
   intro e1 F1 hF1 he hj
   replace hr := hr.mono hF1
   have g87 : (e1 87) = .agg #[vs, .int .i64 100, .int .i64 150, .int .i64 14, vb, vl, vn, vd] := hj 0 (by kernel_rfl) (by decide)
   have g90 : (e1 90) = .agg #[.int .i64 2, .bool true, .int .i64 30, .int .i64 30] := hj 3 (by kernel_rfl) (by decide)
   have g91 : Sl F1 (e1 91) 4 Ent.enc [ent1 0 45 45, ent1 1 48 48, ent1 2 30 30] := hj 4 (by kernel_rfl) (by decide)
   refine ⟨_, _, _, _, _, rfl, ?_⟩
   refine Cz bd_33 Az (.cons (Cv g87) (.cons (Cv rfl) .nil)) (wrong_ok hr g91) fun v2 F2 hr hF2 => ⟨F2, rfl, hF2, (hr.ans ev_w1)⟩
  ·
   intro e1 F1 hF1 he hj
   have g92 : (e1 92) = .tuple #[tupA (e1 92) 0, .int .i64 0] ∧ Nats F1 (tupA (e1 92) 0) [0, 2] := hj 5 (by kernel_rfl) (by decide)
   refine ⟨_, _, _, _, _, rfl, ?_⟩
   refine Bo (Ag (Cv g92.1)).quiet ⟨_, rfl, Heap.le_refl _, ⟨rfl, g92.2⟩⟩
  ·
   intro e1 F1 hF1 he hj
   have g86 : (e1 86) = .tuple #[tupA (e1 86) 0, .int .i64 0] ∧ Nats F1 (tupA (e1 86) 0) [0, 2] := hj 6 (by kernel_rfl) (by decide)
   refine ⟨_, _, _, _, _, rfl, ?_⟩
   refine Bo (A1 (Cv g86.1) rfl).quiet ⟨_, rfl, Heap.le_refl _, g86.2⟩
  ·
   intro e1 F1 hF1 he hj
   have g86 : (e1 86) = .tuple #[tupA (e1 86) 0, .int .i64 0] ∧ Nats F1 (tupA (e1 86) 0) [0, 2] := hj 6 (by kernel_rfl) (by decide)
   refine ⟨_, _, _, _, _, rfl, ?_⟩
   refine Bo (A1 (Cv g86.1) rfl).quiet ⟨_, rfl, Heap.le_refl _, rfl⟩
  ·
   intro e1 F1 hF1 he hj
   have g87 : (e1 87) = .agg #[vs, .int .i64 100, .int .i64 150, .int .i64 14, vb, vl, vn, vd] := hj 0 (by kernel_rfl) (by decide)
   have g88 : (e1 88) = .agg #[.int .i64 0, .bool true, .int .i64 45, .int .i64 45] := hj 1 (by kernel_rfl) (by decide)
   have g89 : (e1 89) = .agg #[.int .i64 1, .bool true, .int .i64 48, .int .i64 48] := hj 2 (by kernel_rfl) (by decide)
   have g90 : (e1 90) = .agg #[.int .i64 2, .bool true, .int .i64 30, .int .i64 30] := hj 3 (by kernel_rfl) (by decide)
   have g91 : Sl F1 (e1 91) 4 Ent.enc [ent1 0 45 45, ent1 1 48 48, ent1 2 30 30] := hj 4 (by kernel_rfl) (by decide)
   have g92 : (e1 92) = .tuple #[tupA (e1 92) 0, .int .i64 0] ∧ Nats F1 (tupA (e1 92) 0) [0, 2] := hj 5 (by kernel_rfl) (by decide)
   have g86 : (e1 86) = .tuple #[tupA (e1 86) 0, .int .i64 0] ∧ Nats F1 (tupA (e1 86) 0) [0, 2] := hj 6 (by kernel_rfl) (by decide)
   have g93 : Nats F1 (e1 93) [0, 2] := hj 7 (by kernel_rfl) (by decide)
   refine ⟨_, _, _, _, _, rfl, ?_⟩
   refine Bo (Ae (Cv rfl)).quiet ⟨_, rfl, Heap.le_refl _, g93⟩
  ·
   intro e1 F1 hF1 he hj
   have g87 : (e1 87) = .agg #[vs, .int .i64 100, .int .i64 150, .int .i64 14, vb, vl, vn, vd] := hj 0 (by kernel_rfl) (by decide)
   have g88 : (e1 88) = .agg #[.int .i64 0, .bool true, .int .i64 45, .int .i64 45] := hj 1 (by kernel_rfl) (by decide)
   have g89 : (e1 89) = .agg #[.int .i64 1, .bool true, .int .i64 48, .int .i64 48] := hj 2 (by kernel_rfl) (by decide)
   have g90 : (e1 90) = .agg #[.int .i64 2, .bool true, .int .i64 30, .int .i64 30] := hj 3 (by kernel_rfl) (by decide)
   have g91 : Sl F1 (e1 91) 4 Ent.enc [ent1 0 45 45, ent1 1 48 48, ent1 2 30 30] := hj 4 (by kernel_rfl) (by decide)
   have g92 : (e1 92) = .tuple #[tupA (e1 92) 0, .int .i64 0] ∧ Nats F1 (tupA (e1 92) 0) [0, 2] := hj 5 (by kernel_rfl) (by decide)
   have g86 : (e1 86) = .tuple #[tupA (e1 86) 0, .int .i64 0] ∧ Nats F1 (tupA (e1 86) 0) [0, 2] := hj 6 (by kernel_rfl) (by decide)
   have g93 : Nats F1 (e1 93) [0, 2] := hj 7 (by kernel_rfl) (by decide)
   have g94 : (e1 94) = .int .i64 0 := hj 8 (by kernel_rfl) (by decide)
   have g23 : Nats F1 (e1 23) [0, 2] := hj 9 (by kernel_rfl) (by decide)
   refine ⟨_, _, _, _, _, rfl, ?_⟩
   refine Bo (Ae (Cv g94)).quiet ⟨_, rfl, Heap.le_refl _, rfl⟩
 intro e67 F64 hF65 he66 hj
 replace hr := hr.mono hF65
 replace hq1 := hq1.mono hF65
 replace hq2 := hq2.mono hF65
 replace hq3 := hq3.mono hF65
 replace hq4 := hq4.mono hF65
 replace hq7 := hq7.mono hF65
 replace g18 := g18.mono hF65
 replace g20 := g20.mono hF65
 replace g21 := g21.mono hF65
 have g87 : (e67 87) = .agg #[vs, .int .i64 100, .int .i64 150, .int .i64 14, vb, vl, vn, vd] := hj 0 (by decide)
 have g88 : (e67 88) = .agg #[.int .i64 0, .bool true, .int .i64 45, .int .i64 45] := hj 1 (by decide)
 have g89 : (e67 89) = .agg #[.int .i64 1, .bool true, .int .i64 48, .int .i64 48] := hj 2 (by decide)
 have g90 : (e67 90) = .agg #[.int .i64 2, .bool true, .int .i64 30, .int .i64 30] := hj 3 (by decide)
 have g91 : Sl F64 (e67 91) 4 Ent.enc [ent1 0 45 45, ent1 1 48 48, ent1 2 30 30] := hj 4 (by decide)
 have g92 : (e67 92) = .tuple #[tupA (e67 92) 0, .int .i64 0] ∧ Nats F64 (tupA (e67 92) 0) [0, 2] := hj 5 (by decide)
 have g86 : (e67 86) = .tuple #[tupA (e67 86) 0, .int .i64 0] ∧ Nats F64 (tupA (e67 86) 0) [0, 2] := hj 6 (by decide)
 have g93 : Nats F64 (e67 93) [0, 2] := hj 7 (by decide)
 have g94 : (e67 94) = .int .i64 0 := hj 8 (by decide)
 have g23 : Nats F64 (e67 23) [0, 2] := hj 9 (by decide)
 have g24 : (e67 24) = .int .i64 0 := hj 10 (by decide)
 refine Ad <| Af <| WC_drawF 9 (.inl rfl) (fun _ _ h => h) (by kernel_rfl) (by kernel_rfl) false rfl ([fun F v => v = .agg #[vs, .int .i64 100, .int .i64 150, .int .i64 14, vb, vl, vn, vd], fun F v => v = .agg #[.int .i64 2, .bool true, .int .i64 30, .int .i64 30], fun F v => Sl F v 4 Ent.enc [ent1 2 30 30], fun F v => v = .tuple #[tupA v 0, .int .i64 8] ∧ Lsts F (tupA v 0) [], fun F v => v = .tuple #[tupA v 0, .int .i64 8] ∧ Lsts F (tupA v 0) [], fun F v => Lsts F v [], fun F v => v = .int .i64 8, fun F v => Lsts F v [], fun F v => v = .int .i64 8]) (⟨fun F F2 v hF h => h, fun F F2 v hF h => h, fun F F2 v hF h => h.mono hF, fun F F2 v hF h => ⟨h.1, h.2.mono hF⟩, fun F F2 v hF h => ⟨h.1, h.2.mono hF⟩, fun F F2 v hF h => h.mono hF, fun F F2 v hF h => h, fun F F2 v hF h => h.mono hF, fun F F2 v hF h => h, trivial⟩) (fun ds => ?_) (fun ds => ?_)
 ·
  refine ⟨⟨⟨⟨⟨⟨⟨⟨⟨trivial, ?_⟩, ?_⟩, ?_⟩, ?_⟩, ?_⟩, ?_⟩, ?_⟩, ?_⟩, ?_⟩
  ·
   intro e1 F1 hF1 he hj
   refine ⟨_, _, _, _, _, rfl, ?_⟩
   refine Bo (Bg Cd (B1 (B7 he (by kernel_rfl)) <| B1 (B7 he66 (by kernel_rfl)) <| B1 (B7 he62 (by kernel_rfl)) <| B1 (B7 he58 (by kernel_rfl)) <| Bt rfl <| Bb rfl <| Ba rfl <| Ap rfl <| Ac) rfl rfl (Bm 0 rfl)).quiet ⟨_, rfl, Heap.le_refl _, rfl⟩
  ·
   intro e1 F1 hF1 he hj
   refine ⟨_, _, _, _, _, rfl, ?_⟩
   refine Bo (A9 bd_36 Az (.cons Ab (.cons Ab (.cons Ab .nil))) (entry_ok _ _ _) (fun _ _ h => h)) ⟨_, rfl, Heap.le_refl _, rfl⟩
  ·
   intro e1 F1 hF1 he hj
   have g97 : (e1 97) = .agg #[.int .i64 2, .bool true, .int .i64 30, .int .i64 30] := hj 1 (by kernel_rfl) (by decide)
   refine ⟨_, _, _, _, _, rfl, ?_⟩
   refine OpX_freeze (Dn (offs := [(0, 4)]) (zl := [.int .i64 0, .bool false, .int .i64 0, .int .i64 0]) sl_47 zr_60 rfl (.cons (Cv g97) rfl .nil) (by intro i p h; rcases i with _ | i <;> simp at h <;> subst h <;> rfl) (.cons rfl rfl (Nat.le_of_ble_eq_true rfl) (.cons (.here) (.cons (.next <| .here) (.cons (.next <| .next <| .here) (.cons (.next <| .next <| .next <| .here) .nil)))) .nil) (by decide) (by decide) fun b hb nb => ⟨b, _, hb, rfl, fun F2 hF2 hz => ⟨F2, rfl, hF2, (entD_box1 hz)⟩⟩)
  ·
   intro e1 F1 hF1 he hj
   replace hr := hr.mono hF1
   have g96 : (e1 96) = .agg #[vs, .int .i64 100, .int .i64 150, .int .i64 14, vb, vl, vn, vd] := hj 0 (by kernel_rfl) (by decide)
   have g97 : (e1 97) = .agg #[.int .i64 2, .bool true, .int .i64 30, .int .i64 30] := hj 1 (by kernel_rfl) (by decide)
   have g98 : Sl F1 (e1 98) 4 Ent.enc [ent1 2 30 30] := hj 2 (by kernel_rfl) (by decide)
   refine ⟨_, _, _, _, _, rfl, ?_⟩
   refine Cz bd_28 Az (.cons (Cv g96) (.cons (Cv rfl) .nil)) (rings_top_ok hr g98) fun v2 F2 hr hF2 => ⟨F2, rfl, hF2, (hr.ans ev_r2)⟩
  ·
   intro e1 F1 hF1 he hj
   have g99 : (e1 99) = .tuple #[tupA (e1 99) 0, .int .i64 8] ∧ Lsts F1 (tupA (e1 99) 0) [] := hj 3 (by kernel_rfl) (by decide)
   refine ⟨_, _, _, _, _, rfl, ?_⟩
   refine Bo (Ag (Cv g99.1)).quiet ⟨_, rfl, Heap.le_refl _, ⟨rfl, g99.2⟩⟩
  ·
   intro e1 F1 hF1 he hj
   have g95 : (e1 95) = .tuple #[tupA (e1 95) 0, .int .i64 8] ∧ Lsts F1 (tupA (e1 95) 0) [] := hj 4 (by kernel_rfl) (by decide)
   refine ⟨_, _, _, _, _, rfl, ?_⟩
   refine Bo (A1 (Cv g95.1) rfl).quiet ⟨_, rfl, Heap.le_refl _, g95.2⟩
  ·
   intro e1 F1 hF1 he hj
   have g95 : (e1 95) = .tuple #[tupA (e1 95) 0, .int .i64 8] ∧ Lsts F1 (tupA (e1 95) 0) [] := hj 4 (by kernel_rfl) (by decide)
   refine ⟨_, _, _, _, _, rfl, ?_⟩
   refine Bo (A1 (Cv g95.1) rfl).quiet ⟨_, rfl, Heap.le_refl _, rfl⟩
  ·
   intro e1 F1 hF1 he hj
   have g96 : (e1 96) = .agg #[vs, .int .i64 100, .int .i64 150, .int .i64 14, vb, vl, vn, vd] := hj 0 (by kernel_rfl) (by decide)
   have g97 : (e1 97) = .agg #[.int .i64 2, .bool true, .int .i64 30, .int .i64 30] := hj 1 (by kernel_rfl) (by decide)
   have g98 : Sl F1 (e1 98) 4 Ent.enc [ent1 2 30 30] := hj 2 (by kernel_rfl) (by decide)
   have g99 : (e1 99) = .tuple #[tupA (e1 99) 0, .int .i64 8] ∧ Lsts F1 (tupA (e1 99) 0) [] := hj 3 (by kernel_rfl) (by decide)
   have g95 : (e1 95) = .tuple #[tupA (e1 95) 0, .int .i64 8] ∧ Lsts F1 (tupA (e1 95) 0) [] := hj 4 (by kernel_rfl) (by decide)
   have g100 : Lsts F1 (e1 100) [] := hj 5 (by kernel_rfl) (by decide)
   refine ⟨_, _, _, _, _, rfl, ?_⟩
   refine Bo (Ae (Cv rfl)).quiet ⟨_, rfl, Heap.le_refl _, g100⟩
  ·
   intro e1 F1 hF1 he hj
   have g96 : (e1 96) = .agg #[vs, .int .i64 100, .int .i64 150, .int .i64 14, vb, vl, vn, vd] := hj 0 (by kernel_rfl) (by decide)
   have g97 : (e1 97) = .agg #[.int .i64 2, .bool true, .int .i64 30, .int .i64 30] := hj 1 (by kernel_rfl) (by decide)
   have g98 : Sl F1 (e1 98) 4 Ent.enc [ent1 2 30 30] := hj 2 (by kernel_rfl) (by decide)
   have g99 : (e1 99) = .tuple #[tupA (e1 99) 0, .int .i64 8] ∧ Lsts F1 (tupA (e1 99) 0) [] := hj 3 (by kernel_rfl) (by decide)
   have g95 : (e1 95) = .tuple #[tupA (e1 95) 0, .int .i64 8] ∧ Lsts F1 (tupA (e1 95) 0) [] := hj 4 (by kernel_rfl) (by decide)
   have g100 : Lsts F1 (e1 100) [] := hj 5 (by kernel_rfl) (by decide)
   have g101 : (e1 101) = .int .i64 8 := hj 6 (by kernel_rfl) (by decide)
   have g25 : Lsts F1 (e1 25) [] := hj 7 (by kernel_rfl) (by decide)
   refine ⟨_, _, _, _, _, rfl, ?_⟩
   refine Bo (Ae (Cv g101)).quiet ⟨_, rfl, Heap.le_refl _, rfl⟩
 intro e71 F68 hF69 he70 hj
 replace hq1 := hq1.mono hF69
 replace hq2 := hq2.mono hF69
 replace hq3 := hq3.mono hF69
 replace hq4 := hq4.mono hF69
 replace hq7 := hq7.mono hF69
 replace g18 := g18.mono hF69
 replace g20 := g20.mono hF69
 replace g21 := g21.mono hF69
 replace g23 := g23.mono hF69
 have g96 : (e71 96) = .agg #[vs, .int .i64 100, .int .i64 150, .int .i64 14, vb, vl, vn, vd] := hj 0 (by decide)
 have g97 : (e71 97) = .agg #[.int .i64 2, .bool true, .int .i64 30, .int .i64 30] := hj 1 (by decide)
 have g98 : Sl F68 (e71 98) 4 Ent.enc [ent1 2 30 30] := hj 2 (by decide)
 have g99 : (e71 99) = .tuple #[tupA (e71 99) 0, .int .i64 8] ∧ Lsts F68 (tupA (e71 99) 0) [] := hj 3 (by decide)
 have g95 : (e71 95) = .tuple #[tupA (e71 95) 0, .int .i64 8] ∧ Lsts F68 (tupA (e71 95) 0) [] := hj 4 (by decide)
 have g100 : Lsts F68 (e71 100) [] := hj 5 (by decide)
 have g101 : (e71 101) = .int .i64 8 := hj 6 (by decide)
 have g25 : Lsts F68 (e71 25) [] := hj 7 (by decide)
 have g26 : (e71 26) = .int .i64 8 := hj 8 (by decide)
 refine Ad <| Af <| Ai fun ds => Aa rfl (Ag (B1 (B7 he70 (by kernel_rfl)) <| B1 (B7 he66 (by kernel_rfl)) <| B1 (B7 he62 (by kernel_rfl)) <| B1 (B7 he58 (by kernel_rfl)) <| Bt rfl <| Bb rfl <| Ap rfl <| Al rfl <| Ac)) ?_
 refine Aa rfl (B9 (Ac) Ab) ?_
 refine Aa rfl (Ag (Ac)) ?_
 refine As rfl rfl (Ac) (by first | rfl | decide) ?_
 refine Aa rfl (Ag (Ap rfl <| Al rfl <| B1 (B7 he70 (by kernel_rfl)) <| B1 (B7 he66 (by kernel_rfl)) <| B1 (B7 he62 (by kernel_rfl)) <| B1 (B7 he58 (by kernel_rfl)) <| Bt rfl <| Ba rfl <| Ay rfl <| Ac)) ?_
 refine As rfl rfl (Al rfl <| Ac) (by first | rfl | decide) ?_
 refine Aa rfl (B9 (Ac) Ab) ?_
 refine Aa rfl (A6 (Ap rfl <| Ac) (by first | rfl | decide) (Ac)) ?_
 refine Aa rfl (Ag (Ac)) ?_
 refine As rfl rfl (Ac) (by first | rfl | decide) ?_
 refine Aa rfl (Ag (Ay rfl <| Ap rfl <| Al rfl <| B1 (B7 he70 (by kernel_rfl)) <| B1 (B7 he66 (by kernel_rfl)) <| B1 (B7 he62 (by kernel_rfl)) <| B1 (B7 he58 (by kernel_rfl)) <| Bt rfl <| Ay rfl <| Ac)) ?_
 refine As rfl rfl (Al rfl <| Ac) (by first | rfl | decide) ?_
 refine Aa rfl (B9 (Ac) Ab) ?_
 refine Aa rfl (A6 (Ap rfl <| Ac) (by first | rfl | decide) (Ac)) ?_
 refine Aa rfl (Ag (Ac)) ?_
 refine As rfl rfl (Ac) (by first | rfl | decide) ?_
 refine Aa rfl (Ag (Ba rfl <| Ap rfl <| Al rfl <| B1 (B7 he70 (by kernel_rfl)) <| B1 (B7 he66 (by kernel_rfl)) <| B1 (B7 he62 (by kernel_rfl)) <| B1 (B7 he58 (by kernel_rfl)) <| Bb rfl <| Ay rfl <| Ap rfl <| Ac)) ?_
 refine As rfl rfl (Al rfl <| Ac) (by first | rfl | decide) ?_
 refine Aa rfl (B9 (Ac) Ab) ?_
 refine Aa rfl (A6 (Ap rfl <| Ac) (by first | rfl | decide) (Ac)) ?_
 refine Aa rfl (Ag (Ac)) ?_
 refine As rfl rfl (Ac) (by first | rfl | decide) ?_
 refine Aa rfl (Ag (Ba rfl <| Ay rfl <| Ap rfl <| Al rfl <| B1 (B7 he70 (by kernel_rfl)) <| B1 (B7 he66 (by kernel_rfl)) <| B1 (B7 he62 (by kernel_rfl)) <| B1 (B7 he58 (by kernel_rfl)) <| Ac)) ?_
 refine As rfl rfl (Al rfl <| Ac) (by first | rfl | decide) ?_
 refine Aa rfl (B9 (Ac) Ab) ?_
 refine Aa rfl (A6 (Ap rfl <| Ac) (by first | rfl | decide) (Ac)) ?_
 refine Aa rfl (Ag (Ac)) ?_
 refine As rfl rfl (Ac) (by first | rfl | decide) ?_
 refine Aa rfl (Ag (Bb rfl <| Ap rfl <| Al rfl <| B1 (B7 he70 (by kernel_rfl)) <| B1 (B7 he66 (by kernel_rfl)) <| B1 (B7 he62 (by kernel_rfl)) <| Cv g19)) ?_
 refine As rfl rfl (Al rfl <| Ac) (by first | rfl | decide) ?_
 refine Aa rfl (B9 (Ac) Ab) ?_
 refine Aa rfl (A6 (Ap rfl <| Ac) (by first | rfl | decide) (Ac)) ?_
 refine Aa rfl (Ag (Ac)) ?_
 refine As rfl rfl (Ac) (by first | rfl | decide) ?_
 refine Aa rfl (Ag (Bb rfl <| Ay rfl <| Ap rfl <| Al rfl <| B1 (B7 he70 (by kernel_rfl)) <| B1 (B7 he66 (by kernel_rfl)) <| Cv g22)) ?_
 refine As rfl rfl (Al rfl <| Ac) (by first | rfl | decide) ?_
 refine Aa rfl (B9 (Ac) Ab) ?_
 refine Aa rfl (A6 (Ap rfl <| Ac) (by first | rfl | decide) (Ac)) ?_
 refine Aa rfl (Ag (Ac)) ?_
 refine As rfl rfl (Ac) (by first | rfl | decide) ?_
 refine Aa rfl (Ag (Bb rfl <| Ba rfl <| Ap rfl <| Al rfl <| B1 (B7 he70 (by kernel_rfl)) <| Cv g24)) ?_
 refine As rfl rfl (Al rfl <| Ac) (by first | rfl | decide) ?_
 refine Aa rfl (B9 (Ac) Ab) ?_
 refine Aa rfl (A6 (Ap rfl <| Ac) (by first | rfl | decide) (Ac)) ?_
 refine Aa rfl (Ag (Ac)) ?_
 refine As rfl rfl (Ac) (by first | rfl | decide) ?_
 refine Aa rfl (Ag (Bb rfl <| Ba rfl <| Ay rfl <| Ap rfl <| Al rfl <| B1 (B7 he70 (by kernel_rfl)) <| B1 (B7 he66 (by kernel_rfl)) <| B1 (B7 he62 (by kernel_rfl)) <| B1 (B7 he58 (by kernel_rfl)) <| Ba rfl <| Ac)) ?_
 refine As rfl rfl (Al rfl <| Ac) (by first | rfl | decide) ?_
 refine Aa rfl (B9 (Ac) Ab) ?_
 refine Aa rfl (A6 (Ap rfl <| Ac) (by first | rfl | decide) (Ac)) ?_
 refine Aa rfl (Ag (Ac)) ?_
 refine As rfl rfl (Ac) (by first | rfl | decide) ?_
 refine Aa rfl (Ag (Bt rfl <| Ap rfl <| Al rfl <| Cv g26)) ?_
 refine As rfl rfl (Al rfl <| Ac) (by first | rfl | decide) ?_
 refine Aa rfl (B9 (Ac) Ab) ?_
 refine Aa rfl (A6 (Ap rfl <| Ac) (by first | rfl | decide) (Ac)) ?_
 refine Aa rfl (Ag (Ac)) ?_
 refine As rfl rfl (Ac) (by first | rfl | decide) ?_
 refine Aa rfl (Ag (Bt rfl <| Ay rfl <| Ap rfl <| Al rfl <| B1 (B7 he70 (by kernel_rfl)) <| B1 (B7 he66 (by kernel_rfl)) <| B1 (B7 he62 (by kernel_rfl)) <| B1 (B7 he58 (by kernel_rfl)) <| Bt rfl <| Bb rfl <| Ay rfl <| Ac)) ?_
 refine As rfl rfl (Al rfl <| Ac) (by first | rfl | decide) ?_
 refine Aa rfl (B9 (Ac) Ab) ?_
 refine Aa rfl (A6 (Ap rfl <| Ac) (by first | rfl | decide) (Ac)) ?_
 refine Aa rfl (Ag (Ac)) ?_
 refine As rfl rfl (Ac) (by first | rfl | decide) ?_
 refine Aa rfl (Ag (Bt rfl <| Ba rfl <| Ap rfl <| Al rfl <| B1 (B7 he70 (by kernel_rfl)) <| B1 (B7 he66 (by kernel_rfl)) <| B1 (B7 he62 (by kernel_rfl)) <| B1 (B7 he58 (by kernel_rfl)) <| Bt rfl <| Ba rfl <| Ay rfl <| Al rfl <| Ac)) ?_
 refine As rfl rfl (Al rfl <| Ac) (by first | rfl | decide) ?_
 refine Bv rfl (A9 bd_37 Az (.cons Ab (.cons Ab .nil)) (result_ok _ _) (fun _ _ h => h)) ?_
 refine As rfl rfl (Ap rfl <| Ac) (by first | rfl | decide) ?_
 refine Bv rfl (A9 bd_37 Az (.cons Ab (.cons Ab .nil)) (result_ok _ _) (fun _ _ h => h)) ?_
 refine As rfl rfl (Ap rfl <| Al rfl <| Ac) (by first | rfl | decide) ?_
 refine Bv rfl (A9 bd_37 Az (.cons Ab (.cons Ab .nil)) (result_ok _ _) (fun _ _ h => h)) ?_
 refine As rfl rfl (Ay rfl <| Ac) (by first | rfl | decide) ?_
 refine Bl rfl (Dn (offs := [(0, 2), (2, 2), (4, 2)]) (zl := [.int .i64 0, .int .i64 0, .int .i64 0, .int .i64 0, .int .i64 0, .int .i64 0]) Cm zr_63 rfl (.cons (Ap rfl <| Ac) rfl (.cons (Al rfl <| Ac) rfl (.cons (Ac) rfl .nil))) (by intro i p h; rcases i with _ | _ | _ | i <;> simp at h <;> subst h <;> rfl) (.cons rfl rfl (Nat.le_of_ble_eq_true rfl) (.cons (.here) (.cons (.next <| .here) .nil)) (.cons rfl rfl (Nat.le_of_ble_eq_true rfl) (.cons (.next <| .next <| .here) (.cons (.next <| .next <| .next <| .here) .nil)) (.cons rfl rfl (Nat.le_of_ble_eq_true rfl) (.cons (.next <| .next <| .next <| .next <| .here) (.cons (.next <| .next <| .next <| .next <| .next <| .here) .nil)) .nil))) (by decide) (by decide) fun b72 hb72 nb72 => ?_)
 refine Bp (i := 0) rfl hb72 .here fun F73 hF74 hz75 => ?_
 replace hq1 := hq1.mono hF74
 replace hq2 := hq2.mono hF74
 replace hq3 := hq3.mono hF74
 replace hq4 := hq4.mono hF74
 replace hq7 := hq7.mono hF74
 replace g18 := g18.mono hF74
 replace g20 := g20.mono hF74
 replace g21 := g21.mono hF74
 replace g23 := g23.mono hF74
 have hsl76 := resA_box3 hz75
 refine As rfl rfl (Ay rfl <| Al rfl <| Ac) (by first | rfl | decide) ?_
 refine Bv rfl (A9 bd_21 Az (.cons (Ay rfl <| Ac) (.cons (Ac) .nil)) (refSame_ok hq1 hsl76) (fun _ _ h => h)) ?_
 refine Aa rfl (A6 (Ay rfl <| Ap rfl <| Ac) (by first | rfl | decide) (Ac)) ?_
 refine Aa rfl (Ag (Ac)) ?_
 refine As rfl rfl (Ac) (by first | rfl | decide) ?_
 refine Aa rfl (Ag (Bt rfl <| Bb rfl <| Ap rfl <| Al rfl <| B1 (B7 he70 (by kernel_rfl)) <| B1 (B7 he66 (by kernel_rfl)) <| B1 (B7 he62 (by kernel_rfl)) <| B1 (B7 he58 (by kernel_rfl)) <| Bt rfl <| Ay rfl <| Al rfl <| Ac)) ?_
 refine As rfl rfl (Al rfl <| Ac) (by first | rfl | decide) ?_
 refine Bv rfl (A9 bd_37 Az (.cons Ab (.cons Ab .nil)) (result_ok _ _) (fun _ _ h => h)) ?_
 refine As rfl rfl (Ap rfl <| Ac) (by first | rfl | decide) ?_
 refine Bv rfl (A9 bd_37 Az (.cons Ab (.cons Ab .nil)) (result_ok _ _) (fun _ _ h => h)) ?_
 refine As rfl rfl (Ap rfl <| Al rfl <| Ac) (by first | rfl | decide) ?_
 refine Bv rfl (A9 bd_37 Az (.cons Ab (.cons Ab .nil)) (result_ok _ _) (fun _ _ h => h)) ?_
 refine As rfl rfl (Ay rfl <| Ac) (by first | rfl | decide) ?_
 refine Bl rfl (Dn (offs := [(0, 2), (2, 2), (4, 2)]) (zl := [.int .i64 0, .int .i64 0, .int .i64 0, .int .i64 0, .int .i64 0, .int .i64 0]) Cm zr_63 rfl (.cons (Ap rfl <| Ac) rfl (.cons (Al rfl <| Ac) rfl (.cons (Ac) rfl .nil))) (by intro i p h; rcases i with _ | _ | _ | i <;> simp at h <;> subst h <;> rfl) (.cons rfl rfl (Nat.le_of_ble_eq_true rfl) (.cons (.here) (.cons (.next <| .here) .nil)) (.cons rfl rfl (Nat.le_of_ble_eq_true rfl) (.cons (.next <| .next <| .here) (.cons (.next <| .next <| .next <| .here) .nil)) (.cons rfl rfl (Nat.le_of_ble_eq_true rfl) (.cons (.next <| .next <| .next <| .next <| .here) (.cons (.next <| .next <| .next <| .next <| .next <| .here) .nil)) .nil))) (by decide) (by decide) fun b77 hb77 nb77 => ?_)
 refine Bp (i := 0) rfl hb77 .here fun F78 hF79 hz80 => ?_
 replace hq2 := hq2.mono hF79
 replace hq3 := hq3.mono hF79
 replace hq4 := hq4.mono hF79
 replace hq7 := hq7.mono hF79
 replace g18 := g18.mono hF79
 replace g20 := g20.mono hF79
 replace g21 := g21.mono hF79
 replace g23 := g23.mono hF79
 have hsl81 := resB_box3 hz80
 refine As rfl rfl (Ay rfl <| Al rfl <| Ac) (by first | rfl | decide) ?_
 refine Bv rfl (A9 bd_21 Az (.cons (Ay rfl <| Ac) (.cons (Ac) .nil)) (refSame_ok hq2 hsl81) (fun _ _ h => h)) ?_
 refine Aa rfl (A6 (Ay rfl <| Ap rfl <| Ac) (by first | rfl | decide) (Ac)) ?_
 refine Aa rfl (Ag (Ac)) ?_
 refine As rfl rfl (Ac) (by first | rfl | decide) ?_
 refine Aa rfl (Ag (Bt rfl <| Bb rfl <| Ba rfl <| Ap rfl <| Al rfl <| B1 (B7 he70 (by kernel_rfl)) <| B1 (B7 he66 (by kernel_rfl)) <| B1 (B7 he62 (by kernel_rfl)) <| B1 (B7 he58 (by kernel_rfl)) <| Bb rfl <| Ba rfl <| Al rfl <| Ac)) ?_
 refine As rfl rfl (Al rfl <| Ac) (by first | rfl | decide) ?_
 refine Bl rfl (Bz Bs C3 rfl (.cons Ab (.cons Ab (.cons Ab (.cons Ab .nil)))) rfl rfl (by decide) (by simp [Value.oneCell']) fun b82 hb82 nb82 => ?_)
 refine Bp (i := 0) rfl hb82 .here fun F83 hF84 hz85 => ?_
 replace hq3 := hq3.mono hF84
 replace hq4 := hq4.mono hF84
 replace hq7 := hq7.mono hF84
 replace g18 := g18.mono hF84
 replace g20 := g20.mono hF84
 replace g21 := g21.mono hF84
 replace g23 := g23.mono hF84
 have hsl86 := ints_box4 hz85
 refine As rfl rfl (Ap rfl <| Ac) (by first | rfl | decide) ?_
 refine Bv rfl (A9 bd_25 Az (.cons (Al rfl <| Ac) (.cons (Ac) .nil)) (refInts_ok hq3 hsl86) (fun _ _ h => h)) ?_
 refine Aa rfl (A6 (Ap rfl <| Al rfl <| Ac) (by first | rfl | decide) (Ac)) ?_
 refine Aa rfl (Ag (Ac)) ?_
 refine As rfl rfl (Ac) (by first | rfl | decide) ?_
 refine Aa rfl (Ag (Bt rfl <| Bt rfl <| B1 (B7 he70 (by kernel_rfl)) <| B1 (B7 he66 (by kernel_rfl)) <| B1 (B7 he62 (by kernel_rfl)) <| B1 (B7 he58 (by kernel_rfl)) <| Bb rfl <| Ba rfl <| Ac)) ?_
 refine As rfl rfl (Al rfl <| Ac) (by first | rfl | decide) ?_
 refine Bl rfl (Bz Bs C3 rfl (.cons Ab .nil) rfl rfl (by decide) (by simp [Value.oneCell']) fun b87 hb87 nb87 => ?_)
 refine Bp (i := 0) rfl hb87 .here fun F88 hF89 hz90 => ?_
 replace hq4 := hq4.mono hF89
 replace hq7 := hq7.mono hF89
 replace g18 := g18.mono hF89
 replace g20 := g20.mono hF89
 replace g21 := g21.mono hF89
 replace g23 := g23.mono hF89
 have hsl91 := Ci hz90
 refine As rfl rfl (Ap rfl <| Ac) (by first | rfl | decide) ?_
 refine Bv rfl (A9 bd_25 Az (.cons (Al rfl <| Ac) (.cons (Ac) .nil)) (refInts_ok hq4 hsl91) (fun _ _ h => h)) ?_
 refine Aa rfl (A6 (Ap rfl <| Al rfl <| Ac) (by first | rfl | decide) (Ac)) ?_
 refine Aa rfl (Ag (Ac)) ?_
 refine As rfl rfl (Ac) (by first | rfl | decide) ?_
 refine Aa rfl (Ag (Bt rfl <| Bt rfl <| Ay rfl <| Al rfl <| B1 (B7 he70 (by kernel_rfl)) <| B1 (B7 he66 (by kernel_rfl)) <| B1 (B7 he62 (by kernel_rfl)) <| B1 (B7 he58 (by kernel_rfl)) <| Bb rfl <| Ay rfl <| Ap rfl <| Al rfl <| Ac)) ?_
 refine As rfl rfl (Al rfl <| Ac) (by first | rfl | decide) ?_
 refine Aa rfl (B9 (Ac) Ab) ?_
 refine Aa rfl (A6 (Ap rfl <| Ac) (by first | rfl | decide) (Ac)) ?_
 refine Aa rfl (Ag (Ac)) ?_
 refine As rfl rfl (Ac) (by first | rfl | decide) ?_
 refine Aa rfl (Ag (Bt rfl <| Bt rfl <| Ba rfl <| Al rfl <| B1 (B7 he70 (by kernel_rfl)) <| B1 (B7 he66 (by kernel_rfl)) <| B1 (B7 he62 (by kernel_rfl)) <| B1 (B7 he58 (by kernel_rfl)) <| Al rfl <| Ac)) ?_
 refine As rfl rfl (Al rfl <| Ac) (by first | rfl | decide) ?_
 refine Bl rfl (Bz Bs C3 rfl (.cons Ab (.cons Ab (.cons Ab .nil))) rfl rfl (by decide) (by simp [Value.oneCell']) fun b92 hb92 nb92 => ?_)
 refine Bp (i := 0) rfl hb92 .here fun F93 hF94 hz95 => ?_
 replace hq7 := hq7.mono hF94
 replace g18 := g18.mono hF94
 replace g20 := g20.mono hF94
 replace g21 := g21.mono hF94
 replace g23 := g23.mono hF94
 have hsl96 := ints_box3 hz95
 refine As rfl rfl (Ap rfl <| Ac) (by first | rfl | decide) ?_
 refine Bv rfl (A9 bd_25 Az (.cons (Al rfl <| Ac) (.cons (Ac) .nil)) (refInts_ok hq7 hsl96) (fun _ _ h => h)) ?_
 refine Aa rfl (A6 (Ap rfl <| Al rfl <| Ac) (by first | rfl | decide) (Ac)) ?_
 refine Aa rfl (Ag (Ac)) ?_
 refine As rfl rfl (Ac) (by first | rfl | decide) ?_
 refine Aa rfl (Ag (Bt rfl <| Bt rfl <| Ba rfl <| Ay rfl <| Ap rfl <| B1 (B7 he70 (by kernel_rfl)) <| B1 (B7 he66 (by kernel_rfl)) <| B1 (B7 he62 (by kernel_rfl)) <| Cv rfl)) ?_
 refine As rfl rfl (Al rfl <| Ac) (by first | rfl | decide) ?_
 refine Bl rfl (Bz Bs C3 rfl (.cons Ab (.cons Ab .nil)) rfl rfl (by decide) (by simp [Value.oneCell']) fun b97 hb97 nb97 => ?_)
 refine Bp (i := 0) rfl hb97 .here fun F98 hF99 hz100 => ?_
 replace g18 := g18.mono hF99
 replace g20 := g20.mono hF99
 replace g21 := g21.mono hF99
 replace g23 := g23.mono hF99
 have hsl101 := n13_box2 hz100
 refine As rfl rfl (Ap rfl <| Ac) (by first | rfl | decide) ?_
 refine Bl rfl (Bz Bs C3 rfl (.cons Ab (.cons Ab (.cons Ab .nil))) rfl rfl (by decide) (by simp [Value.oneCell']) fun b102 hb102 nb102 => ?_)
 refine Bp (i := 0) rfl hb102 .here fun F103 hF104 hz105 => ?_
 replace g18 := g18.mono hF104
 replace g20 := g20.mono hF104
 replace g21 := g21.mono hF104
 replace g23 := g23.mono hF104
 replace hsl101 := hsl101.mono hF104
 have hsl106 := n013_box3 hz105
 refine As rfl rfl (Ap rfl <| Al rfl <| Ac) (by first | rfl | decide) ?_
 refine Bl rfl (Bz Bs C3 rfl (.cons Ab (.cons Ab (.cons Ab .nil))) rfl rfl (by decide) (by simp [Value.oneCell']) fun b107 hb107 nb107 => ?_)
 refine Bp (i := 0) rfl hb107 .here fun F108 hF109 hz110 => ?_
 replace g18 := g18.mono hF109
 replace g20 := g20.mono hF109
 replace g21 := g21.mono hF109
 replace g23 := g23.mono hF109
 replace hsl101 := hsl101.mono hF109
 replace hsl106 := hsl106.mono hF109
 have hsl111 := n123_box3 hz110
 refine As rfl rfl (Ay rfl <| Ac) (by first | rfl | decide) ?_
 refine Bl rfl (Bz Ey zr_28 rfl (.cons (Ap rfl <| Ac) (.cons (Al rfl <| Ac) (.cons (Ac) .nil))) rfl rfl (by decide) (by simp [Value.oneCell']) fun b112 hb112 nb112 => ?_)
 refine Bp (i := 0) rfl hb112 .here fun F113 hF114 hz115 => ?_
 replace g18 := g18.mono hF114
 replace g20 := g20.mono hF114
 replace g21 := g21.mono hF114
 replace g23 := g23.mono hF114
 replace hsl101 := hsl101.mono hF114
 replace hsl106 := hsl106.mono hF114
 replace hsl111 := hsl111.mono hF114
 have hsl116 := vals_box3 hz115
 refine As rfl rfl (Ay rfl <| Al rfl <| Ac) (by first | rfl | decide) ?_
 refine Bv rfl (A9 bd_30 Az (.cons (Ay rfl <| Ac) (.cons (Ac) .nil)) (alike_ok g18 (lsts3 hsl116 hsl101 hsl106 hsl111)) (fun _ _ h => h)) ?_
 refine Aa rfl (A6 (Ay rfl <| Ap rfl <| Ac) (by first | rfl | decide) (Ac)) ?_
 refine Aa rfl (Ag (Ac)) ?_
 refine As rfl rfl (Ac) (by first | rfl | decide) ?_
 refine Aa rfl (Ag (Bt rfl <| Bt rfl <| Bb rfl <| Ay rfl <| Ap rfl <| B1 (B7 he70 (by kernel_rfl)) <| B1 (B7 he66 (by kernel_rfl)) <| Cv rfl)) ?_
 refine As rfl rfl (Al rfl <| Ac) (by first | rfl | decide) ?_
 refine Bl rfl (Bz Bs C3 rfl (.cons Ab (.cons Ab .nil)) rfl rfl (by decide) (by simp [Value.oneCell']) fun b117 hb117 nb117 => ?_)
 refine Bp (i := 0) rfl hb117 .here fun F118 hF119 hz120 => ?_
 replace g20 := g20.mono hF119
 replace g21 := g21.mono hF119
 replace g23 := g23.mono hF119
 have hsl121 := n02_box2 hz120
 refine As rfl rfl (Ap rfl <| Ac) (by first | rfl | decide) ?_
 refine Bv rfl (A9 bd_25 Az (.cons (Al rfl <| Ac) (.cons (Ac) .nil)) (refInts_nat g20 hsl121) (fun _ _ h => h)) ?_
 refine Aa rfl (A6 (Ap rfl <| Al rfl <| Ac) (by first | rfl | decide) (Ac)) ?_
 refine Aa rfl (Ag (Ac)) ?_
 refine As rfl rfl (Ac) (by first | rfl | decide) ?_
 refine Aa rfl (Ag (Bt rfl <| Bt rfl <| Bb rfl <| Ba rfl <| Ap rfl <| Al rfl <| B1 (B7 he70 (by kernel_rfl)) <| B1 (B7 he66 (by kernel_rfl)) <| Cv rfl)) ?_
 refine As rfl rfl (Al rfl <| Ac) (by first | rfl | decide) ?_
 refine Bl rfl (Bz Bs C3 rfl (.cons Ab (.cons Ab (.cons Ab (.cons Ab .nil)))) rfl rfl (by decide) (by simp [Value.oneCell']) fun b122 hb122 nb122 => ?_)
 refine Bp (i := 0) rfl hb122 .here fun F123 hF124 hz125 => ?_
 replace g21 := g21.mono hF124
 replace g23 := g23.mono hF124
 have hsl126 := n0123_box4 hz125
 refine As rfl rfl (Ap rfl <| Ac) (by first | rfl | decide) ?_
 refine Bv rfl (A9 bd_25 Az (.cons (Al rfl <| Ac) (.cons (Ac) .nil)) (refInts_nat g21 hsl126) (fun _ _ h => h)) ?_
 refine Aa rfl (A6 (Ap rfl <| Al rfl <| Ac) (by first | rfl | decide) (Ac)) ?_
 refine Aa rfl (Ag (Ac)) ?_
 refine As rfl rfl (Ac) (by first | rfl | decide) ?_
 refine Aa rfl (Ag (Bt rfl <| Bt rfl <| Bt rfl <| B1 (B7 he70 (by kernel_rfl)) <| Cv rfl)) ?_
 refine As rfl rfl (Al rfl <| Ac) (by first | rfl | decide) ?_
 refine Bl rfl (Bz Bs C3 rfl (.cons Ab (.cons Ab .nil)) rfl rfl (by decide) (by simp [Value.oneCell']) fun b127 hb127 nb127 => ?_)
 refine Bp (i := 0) rfl hb127 .here fun F128 hF129 hz130 => ?_
 replace g23 := g23.mono hF129
 have hsl131 := n02_box2 hz130
 refine As rfl rfl (Ap rfl <| Ac) (by first | rfl | decide) ?_
 refine Bv rfl (A9 bd_25 Az (.cons (Al rfl <| Ac) (.cons (Ac) .nil)) (refInts_nat g23 hsl131) (fun _ _ h => h)) ?_
 refine Aa rfl (A6 (Ap rfl <| Al rfl <| Ac) (by first | rfl | decide) (Ac)) ?_
 refine Aa rfl (Ae (Ac)) ?_
 refine Ah <| Ad <| A5 <| Aw rfl (.tmp (Ac) .nil) ?_
 show _ = _
 first | rfl | decide
end Go.Proofs.Ytaikojfonleccaa
namespace Go.Proofs.Ytaikojfonleccaa
open Go.RowKit
theorem bd_22 : Body Try.prog 22 := Br (by kernel_rfl)
end Go.Proofs.Ytaikojfonleccaa
namespace Go.Proofs.Ytaikojfonleccaa
theorem asc_cast {l : List Nat} (h : Asc l) : notAsc (castL l) = false := by
 unfold notAsc
 rw [List.any_eq_false]
 intro i hi
 have hi := List.mem_range.1 hi
 have hl : i < l.length := by simpa [castL] using hi
 simp only [decide_eq_true_eq, not_and, Int.not_le]
 intro h0
 have := List.pairwise_iff_getElem.1 h (i - 1) i (by omega) hl (by omega)
 simp [castL, hl, show i - 1 < l.length by omega]
 exact this
theorem ring_err {s : Sale} {l : List Nat} (h1 : Asc l) (h2 : ∀ b ∈ l, b < s.bidders.length) (h3 : l.length ≠ 1) : ringErr s (castL l) = 0 := by
 unfold ringErr
 rw [if_neg, if_neg (by rw [asc_cast h1]; simp), if_neg (by simpa [castL] using h3)]
 simp only [List.any_eq_true, not_exists, not_and]
 intro z hz
 obtain ⟨b, hb, rfl⟩ := List.mem_map.1 hz
 have := h2 b hb
 unfold inB
 simp; omega
theorem enterN_nil {s : Sale} (h0 : (checkS s).2.2 = 0) : enterErr s [] = 0 := by
 unfold enterErr; rw [if_neg (fun k => k h0)]; exact ring_err (l := []) .nil (by simp) (by simp)
end Go.Proofs.Ytaikojfonleccaa
namespace Go.Proofs.Ytaikojfonleccaa
open Go.RowKit
set_option maxRecDepth 100000 in
theorem valid_ok {F : Heap} {vs vb vl vn vd : Value} {s : Sale} (hr : SaleR F vs vb vl vn vd s) : Ok Try.prog 38 [.agg #[vs, .int .i64 s.premium, .int .i64 s.fee, .int .i64 s.days, vb, vl, vn, vd]].toArray F fun u _ => u = .bool (decide ((checkS s).2.2 = 0)) := by
 refine Ok.intro Try.func38 rfl Try.ntmps38 rfl fun w0 => ?_
 refine Af <| Ai fun ds => Bl rfl (Cc (Ak rfl) rfl fun b1 hb1 nb1 => ?_)
 refine Aa rfl (Ae Ab) ?_
 refine Ah <| Ad <| Af <| Ai fun ds => Aa rfl (Bg Cd (Al rfl <| Ac) rfl rfl (Bm 0 rfl)) ?_
 refine Bv rfl (A9 bd_16 Az (.cons (Ac) .nil) (refCheckS_ok hr) (fun _ _ h => h.trans (show checkSV s = .tuple #[.int .i64 (checkS s).1, .int .i64 (checkS s).2.1, .int .i64 (checkS s).2.2] from rfl))) ?_
 refine Aa rfl (Ag (Ac)) ?_
 refine Aa rfl (A1 (Ac) rfl) ?_
 refine Aa rfl (A1 (Al rfl <| Ac) rfl) ?_
 refine Aa rfl (A1 (Ap rfl <| Ac) rfl) ?_
 refine Aa rfl (Ae (Ap rfl <| Ac)) ?_
 refine Aa rfl (Ae (Ap rfl <| Ac)) ?_
 refine Aa rfl (Ae (Ap rfl <| Ac)) ?_
 refine Ah <| Ad <| Af <| Ai fun ds => Aa rfl (Ag (Ac)) ?_
 refine Aa rfl (B9 (Ac) Ab) ?_
 refine Aa rfl (Ae (Ac)) ?_
 refine Ah <| Ad <| A5 <| Aw rfl (.tmp (Ac) .nil) ?_
 rfl
end Go.Proofs.Ytaikojfonleccaa
namespace Go.Proofs.Ytaikojfonleccaa
open Go.RowKit
theorem one_5 : OneT Try.prog 5 := Dj (by kernel_rfl)
section
variable {s : Sale} {rg : List Int} {off : List Nat} {lots bits k : Nat}
end
end Go.Proofs.Ytaikojfonleccaa
namespace Go.Proofs.Ytaikojfonleccaa
open Go.RowKit
theorem bd_38 : Body Try.prog 38 := Br (by kernel_rfl)
end Go.Proofs.Ytaikojfonleccaa
namespace Go.Proofs.Ytaikojfonleccaa
open Go.RowKit
theorem ar_74 : ArrT Try.prog 74 2 5 1 := arrT_of (by kernel_rfl)
end Go.Proofs.Ytaikojfonleccaa
namespace Go.Proofs.Ytaikojfonleccaa
abbrev moreB (s : Sale) (j : Nat) (by_ : Int) : Bid := { s.bid j with most := min 100000 ((s.bid j).most + by_) }
abbrev moreS (s : Sale) (j : Nat) (by_ : Int) : Sale := { s with bids := s.bids.set j (moreB s j by_) }
abbrev lessL (s : Sale) (z : Nat) (by_ : Int) : Lot := { s.lot z with reserve := max 1 ((s.lot z).reserve - by_) }
abbrev lessS (s : Sale) (z : Nat) (by_ : Int) : Sale := { s with lots := s.lots.set z (lessL s z by_) }
theorem flat_bid {z : Int} {xs : List Bid} {b : Nat} (h : b < xs.length) : (xs.flatMap Bid.enc).set (b * 3 + 2) (.int .i64 z) = (xs.set b { xs[b] with most := z }).flatMap Bid.enc := by
 induction xs generalizing b with
 | nil => simp at h
 | cons x xs ih =>
   cases b with
   | zero => simp [Bid.enc]
   | succ b =>
     have := ih (b := b) (by simpa using h)
     simp only [List.flatMap_cons, List.set_cons_succ, List.getElem_cons_succ]
     rw [← this, show (b + 1) * 3 + 2 = (b * 3 + 2) + 1 + 1 + 1 by omega]
     simp [Bid.enc]
theorem flat_lot {z : Int} {xs : List Lot} {b : Nat} (h : b < xs.length) : (xs.flatMap Lot.enc).set (b * 4 + 2) (.int .i64 z) = (xs.set b { xs[b] with reserve := z }).flatMap Lot.enc := by
 induction xs generalizing b with
 | nil => simp at h
 | cons x xs ih =>
   cases b with
   | zero => simp [Lot.enc]
   | succ b =>
     have := ih (b := b) (by simpa using h)
     simp only [List.flatMap_cons, List.set_cons_succ, List.getElem_cons_succ]
     rw [← this, show (b + 1) * 4 + 2 = (b * 4 + 2) + 1 + 1 + 1 + 1 by omega]
     simp [Lot.enc]
theorem checkS_all {s : Sale} (h1 : stepsE s.steps = none) (h2 : ((inB 0 500 s.premium && inB 0 500 s.fee) && inB 0 60 s.days) = true) (h3 : firstE s.bidders.length 6 (nameErr s.bidders) = none) (h4 : firstE s.sellers.length 4 (nameErr s.sellers) = none)
   (h5 : firstE s.lots.length 6 (lotErr s) = none) (h6 : firstE s.bids.length 16 (bidErr s) = none) : (checkS s).2.2 = 0 := by
 unfold checkS
 simp only [h1, h3, h4, h5, h6]
 rw [if_neg (by rw [h2]; simp)]
theorem any_set {α : Type} {p : α → Bool} {x : α} : ∀ (l : List α) (j : Nat) (hj : j < l.length), p x = p l[j] → (l.set j x).any p = l.any p
 | [], j, hj, _ => absurd hj (by simp)
 | a :: l, 0, _, h => by
   have h' : p x = p a := h
   simp [h']
 | a :: l, j + 1, hj, h => by
   rw [List.set_cons_succ, List.any_cons, List.any_cons, any_set l j (by simpa using hj) (by simpa using h)]
theorem any_set_take {α : Type} {p : α → Bool} {x : α} {l : List α} {j i : Nat} (hj : j < l.length) (h : p x = p l[j]) : ((l.set j x).take i).any p = (l.take i).any p := by
 rw [List.take_set]
 by_cases hji : j < i
 · have hlt : j < (l.take i).length := by rw [List.length_take]; omega
   refine any_set _ j hlt ?_
   rw [List.getElem_take]; exact h
 · rw [List.set_eq_of_length_le (by rw [List.length_take]; omega)]
section
variable {s : Sale} {j : Nat} {b : Int}
theorem bid_set (hj : j < s.bids.length) (i : Nat) : (moreS s j b).bid i = if i = j then moreB s j b else s.bid i := by
 unfold Sale.bid
 simp only [List.getElem?_set]
 by_cases hij : i = j
 · subst hij; simp [hj]
 · rw [if_neg (Ne.symm hij), if_neg hij]
theorem more_valid (h0 : (checkS s).2.2 = 0) (hj : j < s.bids.length) (hb : 0 ≤ b) : (checkS (moreS s j b)).2.2 = 0 := by
 obtain ⟨h1, h2, h3, h4, h5, h6⟩ := checkS_none h0
 have hv := Co h0
 obtain ⟨g1, g2⟩ := D0 h6
 refine checkS_all h1 h2 h3 h4 h5 (Dm (by simp only [List.length_set]; omega) fun i hi => ?_)
 simp only [List.length_set] at hi
 have hz := g2 i hi
 have hbd := hv.bd j hj
 unfold bidErr at hz ⊢
 have e1 : (moreS s j b).bids[i]? = some ((moreS s j b).bid i) := by
   unfold Sale.bid; rw [List.getElem?_eq_getElem (by simpa using hi)]; rfl
 have e2 : s.bids[i]? = some (s.bid i) := by unfold Sale.bid; rw [List.getElem?_eq_getElem hi]; rfl
 rw [e1]
 rw [e2] at hz
 simp only at hz ⊢
 have hp : ∀ x : Bid, ((moreS s j b).bids.take i).any (fun y => decide (y.bidder = x.bidder) && decide (y.lot = x.lot)) = (s.bids.take i).any (fun y => decide (y.bidder = x.bidder) && decide (y.lot = x.lot)) := fun x =>
   any_set_take hj (by simp only [bid_at hj])
 rw [hp, bid_set hj]
 by_cases hij : i = j
 · subst hij
   rw [if_pos rfl]
   simp only
   split at hz
   · cases hz
   · rename_i k1
     rw [if_neg k1]
     split at hz
     · cases hz
     · rw [if_neg (by unfold inB; simp; omega)]
       exact hz
 · rw [if_neg hij]; exact hz
theorem less_valid {z : Nat} (h0 : (checkS s).2.2 = 0) (hz : z < s.lots.length) (hb : 0 ≤ b) : (checkS (lessS s z b)).2.2 = 0 := by
 obtain ⟨h1, h2, h3, h4, h5, h6⟩ := checkS_none h0
 have hv := Co h0
 obtain ⟨g1, g2⟩ := D0 h5
 have hl : (lessS s z b).lots.length = s.lots.length := List.length_set
 refine checkS_all h1 h2 h3 h4 (Dm (by rw [hl]; omega) fun i hi => ?_) ?_
 · rw [hl] at hi
   have hzz := g2 i hi
   have hlo := hv.lo z hz
   unfold lotErr at hzz ⊢
   have e1 : (lessS s z b).lots[i]? = some ((lessS s z b).lot i) := by
     unfold Sale.lot; rw [List.getElem?_eq_getElem (by rw [hl]; exact hi)]; rfl
   have e2 : s.lots[i]? = some (s.lot i) := by unfold Sale.lot; rw [List.getElem?_eq_getElem hi]; rfl
   rw [e1]
   rw [e2] at hzz
   simp only at hzz ⊢
   have hp : ∀ x : Lot, ((lessS s z b).lots.take i).any (fun y => sameS y.name x.name) = (s.lots.take i).any (fun y => sameS y.name x.name) := fun x =>
     any_set_take hz (by simp only [lot_at hz])
   have e3 : (lessS s z b).lot i = if i = z then lessL s z b else s.lot i := by
     unfold Sale.lot
     simp only [List.getElem?_set]
     by_cases hij : i = z
     · subst hij; simp [hz]
     · rw [if_neg (Ne.symm hij), if_neg hij]
   rw [hp, e3]
   by_cases hij : i = z
   · subst hij
     rw [if_pos rfl]
     simp only
     split at hzz
     · cases hzz
     · rename_i k1
       rw [if_neg k1]
       split at hzz
       · cases hzz
       · rename_i k2
         rw [if_neg k2]
         split at hzz
         · cases hzz
         · rename_i k3
           rw [if_neg k3, if_neg (by unfold inB; simp; omega)]
   · rw [if_neg hij]; exact hzz
 · obtain ⟨k1, k2⟩ := D0 h6
   refine Dm (by show ¬ 16 < s.bids.length; omega) fun i hi => ?_
   have := k2 i hi
   unfold bidErr at this ⊢
   rw [hl]
   exact this
end
theorem behind_steps {s s' : Sale} (h : s'.steps = s.steps) (p : Int) : behindS s' p = behindS s p := by unfold behindS; rw [h]
theorem climb_steps {s s' : Sale} (h : s'.steps = s.steps) {p o m : Int} : climbS s' p o m = climbS s p o m := by
 unfold climbS
 have key : ∀ (f : Nat) (p : Int), climbTo s' o m f p = climbTo s o m f p := fun f => by
   induction f with
   | zero => intro p; rfl
   | succ f ih => intro p; unfold climbTo; rw [behind_steps h, ih]
 exact key _ _
theorem bidding_nil {s : Sale} {l : Int} {i : Nat} : i ∈ biddingL s l [] ↔ i < s.bids.length ∧ (s.bid i).lot = l := by
 unfold biddingL biddingP
 rw [List.mem_filter]
 have : inRing [] (s.bid i).bidder = false := by cases h : inRing [] (s.bid i).bidder with
   | true => exact (inRing_nil h).elim
   | false => rfl
 simp [this]
section
variable {s : Sale} {j : Nat} {b : Int}
theorem top_more_other {l : Int} (hj : j < s.bids.length) (hl : (s.bid j).lot ≠ l) : topS (moreS s j b) l (fun _ => true) = topS s l (fun _ => true) := by
 have hlen : (moreS s j b).bids.length = s.bids.length := List.length_set
 have hbid : ∀ i, (s.bid i).lot = l → (moreS s j b).bid i = s.bid i := fun i hi => by
   rw [bid_set hj, if_neg]; rintro rfl; exact hl hi
 have hlot : ∀ i, ((moreS s j b).bid i).lot = (s.bid i).lot := fun i => by rw [bid_set hj]; split
                                                                           · rename_i h; subst h; rfl
                                                                           · rfl
 rcases Eq (s := s) (lot := l) (mem := fun _ => true) s.bids.length with ⟨h1, h2⟩ | ⟨i, h1, h2, -, h4, h5⟩
 · rcases Eq (s := moreS s j b) (lot := l) (mem := fun _ => true) (moreS s j b).bids.length with ⟨g1, -⟩ | ⟨i, g1, g2, -, -, -⟩
   · exact g1.trans h1.symm
   · exact (h2 i (by rw [← hlen]; exact g1) (by rw [← hlot]; exact g2) rfl).elim
 · refine (top_uniq (by rw [hlen]; exact h1) (by rw [hlot]; exact h2) rfl fun k hk hkl _ => ?_).trans h4.symm
   rw [hlot] at hkl
   rw [hbid k hkl, hbid i h2]
   exact h5 k (by rw [← hlen]; exact hk) hkl rfl
theorem bidding_more_eq {l : Int} (hj : j < s.bids.length) : biddingL (moreS s j b) l [] = biddingL s l [] := by
 have hlen : (moreS s j b).bids.length = s.bids.length := List.length_set
 have hlot : ∀ i, ((moreS s j b).bid i).lot = (s.bid i).lot := fun i => by
   rw [bid_set hj]
   split
   · rename_i h; subst h; rfl
   · rfl
 unfold biddingL
 rw [hlen]
 refine List.filter_congr fun i _ => ?_
 unfold biddingP
 have hf : ∀ z, inRing [] z = false := fun z => by cases h : inRing [] z with
   | true => exact (inRing_nil h).elim
   | false => rfl
 rw [hlot, hf, hf]
 simp
theorem others_more_other {l one : Int} (hj : j < s.bids.length) (hl : (s.bid j).lot ≠ l) : othersL (moreS s j b) one (biddingL s l []) = othersL s one (biddingL s l []) := by
 have hbid : ∀ i, (s.bid i).lot = l → (moreS s j b).bid i = s.bid i := fun i hi => by
   rw [bid_set hj, if_neg]; rintro rfl; exact hl hi
 unfold othersL
 have key : ∀ (L : List Nat) (a : Int), (∀ i ∈ L, (s.bid i).lot = l) → L.foldl (fun (m : Int) (i : Nat) => if (i : Int) ≠ one then max m ((moreS s j b).bid i).most else m) a = L.foldl (fun (m : Int) (i : Nat) => if (i : Int) ≠ one then max m (s.bid i).most else m) a := fun L => by
   induction L with
   | nil => intro a _; rfl
   | cons i L ih =>
     intro a hL
     rw [List.foldl_cons, List.foldl_cons, hbid i (hL i (by simp))]
     exact ih _ fun k hk => hL k (List.mem_cons_of_mem _ hk)
 exact key _ _ fun i hi => (bidding_nil.1 hi).2
/-- Other lots are sold as before. -/
theorem sold_more_other {l : Nat} (hj : j < s.bids.length) (hl : (s.bid j).lot ≠ (l : Int)) : soldS (moreS s j b) l [] = soldS s l [] := by
 have ht := top_more_other (b := b) hj hl
 unfold soldS
 rw [ht, bidding_more_eq hj, climb_steps (s := s) (s' := moreS s j b) rfl]
 rcases Eq (s := s) (lot := l) (mem := fun _ => true) s.bids.length with ⟨h1, -⟩ | ⟨i, h1, h2, -, h4, -⟩
 · have h1' : topS s (l : Int) (fun _ => true) = -1 := h1
   rw [h1', if_pos (.inl (by omega)), if_pos (.inl (by omega))]
 · have h4' : topS s (l : Int) (fun _ => true) = (i : Int) := h4
   rw [h4']
   simp only [Int.toNat_natCast]
   rw [others_more_other hj hl, show (moreS s j b).bid i = s.bid i by rw [bid_set hj, if_neg]; rintro rfl; exact hl h2]
   rfl
/-- The lot of the greater bid. -/
theorem sold_more_lot (h0 : (checkS s).2.2 = 0) (hb : 0 ≤ b) {l : Nat} (hl : l < s.lots.length) (hj : j < s.bids.length) (hjl : (s.bid j).lot = (l : Int)) (hne : (soldS s l []).bidder ≠ -1) :
   (soldS (moreS s j b) l []).bidder ≠ -1 ∧ (soldS s l []).price ≤ (soldS (moreS s j b) l []).price ∧ ((soldS s l []).bidder = (s.bid j).bidder → (soldS (moreS s j b) l []).bidder = (s.bid j).bidder) := by
 have hv := Co h0
 have hv' := Co (more_valid h0 hj hb)
 have hlen : (moreS s j b).bids.length = s.bids.length := List.length_set
 have hr := hv.lo l hl
 have hlot : ∀ i, ((moreS s j b).bid i).lot = (s.bid i).lot ∧ ((moreS s j b).bid i).bidder = (s.bid i).bidder := fun i => by
   rw [bid_set hj]
   split
   · rename_i h; subst h; exact ⟨rfl, rfl⟩
   · exact ⟨rfl, rfl⟩
 have hmost : ∀ i, i < s.bids.length → (s.bid i).most ≤ ((moreS s j b).bid i).most := fun i hi => by
   have := hv.bd i hi
   rw [bid_set hj]
   split
   · rename_i h; subst h; show _ ≤ min 100000 ((s.bid i).most + b); omega
   · exact Int.le_refl _
 have hsame : ∀ i, i ≠ j → ((moreS s j b).bid i).most = (s.bid i).most := fun i hi => by rw [bid_set hj, if_neg hi]
 rcases sold_or hv hl [] with ⟨h1, -⟩ | ⟨i, c, h1, h2, h3, h4, h5, h6⟩
 · rw [h1] at hne; exact absurd rfl hne
 · have htop := (top_lt h3).2.2.2
   rcases sold_or hv' (l := l) hl [] with ⟨g1, g2⟩ | ⟨i', c', g1, g2, g3, g4, g5, g6⟩
   · exfalso
     rcases Eq (s := moreS s j b) (lot := l) (mem := fun _ => true) (moreS s j b).bids.length with ⟨k1, k2⟩ | ⟨i', k1, k2, -, k4, k5⟩
     · exact k2 i (by rw [hlen]; exact h1) ((hlot i).1.trans h4.1) rfl
     · have k4' : topS (moreS s j b) (l : Int) (fun _ => true) = (i' : Int) := k4
       rw [k4'] at g2
       simp only [Int.toNat_natCast] at g2
       have k6 := k5 i (by rw [hlen]; exact h1) ((hlot i).1.trans h4.1) rfl
       have k7 := hmost i h1
       have g3 : (s.lot l).reserve ≤ (s.bid i).most := h5
       have g4 : ((moreS s j b).bid i').most < (s.lot l).reserve := by
         rcases g2 with g2 | g2
         · omega
         · exact g2
       omega
   · have htop' := (top_lt g3).2.2.2
     rw [hlen] at g1
     have k6 := htop' i (by rw [hlen]; exact h1) ((hlot i).1.trans h4.1) rfl
     have k7 := hmost i h1
     have k8 : (s.bid i).most ≤ ((moreS s j b).bid i').most := by omega
     rw [h6, g6]
     refine ⟨by simp only; omega, ?_, fun hbj => ?_⟩
     · simp only
       rw [climb_steps (s := s) (s' := moreS s j b) rfl, bidding_more_eq hj]
       refine climb_le_climb hv (by omega) fun q q1 q2 q3 => ⟨?_, by omega⟩
       have hin : ∀ x ∈ biddingL s (l : Int) [], (x : Int) ≠ (i' : Int) → (s.bid x).most ≤ othersL (moreS s j b) i' (biddingL s l []) := fun x hx hne => by
         have := (Eg (c := fun y : Nat => (y : Int) ≠ (i' : Int)) (f := fun y => ((moreS s j b).bid y).most) (l := biddingL s l []) (a := 0)).2 x hx hne
         have h9 := hmost x (bidding_nil.1 hx).1
         have h10 : ((moreS s j b).bid x).most ≤ othersL (moreS s j b) i' (biddingL s l []) := this
         omega
       by_cases hii : i' = i
       · subst hii
         refine Int.le_trans q2 ((fold_max (c := fun y : Nat => (y : Int) ≠ (i' : Int)) (f := fun y => (s.bid y).most) _ _).2 ⟨?_, fun x hx hne => hin x hx hne⟩)
         exact (Eg (c := fun y : Nat => (y : Int) ≠ (i' : Int)) (f := fun y => ((moreS s j b).bid y).most) (l := biddingL s l []) (a := 0)).1
       · have h11 := hin i (bidding_nil.2 ⟨h1, h4.1⟩) (by omega)
         have h12 := behindS_lt hv q1
         omega
     · simp only at hbj ⊢
       have hij : i = j := isBid_uniq hv h1 hj h4 ⟨hjl, hbj.symm⟩
       subst hij
       by_cases hii : i' = i
       · subst hii
         rw [← (hlot i').2]
         exact g4.2.symm
       · exfalso
         have e1 := hsame i' hii
         have e2 := htop i' g1 ((hlot i').1.symm.trans g4.1) rfl
         omega
/-- A lot that was sold still is, to the same buyer. -/
theorem sold_less {z l : Nat} (h0 : (checkS s).2.2 = 0) (hz : z < s.lots.length) (hb : 0 ≤ b) (hl : l < s.lots.length) (hne : (soldS s l []).bidder ≠ -1) : (soldS (lessS s z b) l []).bidder = (soldS s l []).bidder := by
 have hv := Co h0
 have hv' := Co (less_valid h0 hz hb)
 have hr : ((lessS s z b).lot l).reserve ≤ (s.lot l).reserve := by
   have hlo := hv.lo z hz
   have e3 : (lessS s z b).lot l = if l = z then lessL s z b else s.lot l := by
     unfold Sale.lot
     simp only [List.getElem?_set]
     by_cases hij : l = z
     · subst hij; simp [hz]
     · rw [if_neg (Ne.symm hij), if_neg hij]
   rw [e3]
   split
   · rename_i h; subst h; show max 1 ((s.lot l).reserve - b) ≤ _; omega
   · exact Int.le_refl _
 have ht : topS (lessS s z b) (l : Int) (fun _ => true) = topS s (l : Int) (fun _ => true) := rfl
 rcases sold_or hv hl [] with ⟨h1, -⟩ | ⟨i, c, h1, h2, h3, h4, h5, h6⟩
 · rw [h1] at hne; exact absurd rfl hne
 · rcases sold_or hv' (l := l) (by show l < (s.lots.set z _).length; rw [List.length_set]; exact hl) [] with ⟨g1, g2⟩ | ⟨i', c', g1, g2, g3, g4, g5, g6⟩
   · exfalso
     rw [ht, h3] at g2
     simp only [Int.toNat_natCast] at g2
     have g3 : (s.bid i).most < ((lessS s z b).lot l).reserve := by
       rcases g2 with g2 | g2
       · omega
       · exact g2
     omega
   · rw [ht, h3] at g3
     have : i' = i := by omega
     subst this
     rw [g6, h6]
     simp only
     have e1 : (s.bid i').bidder = (c' : Int) := g4.2
     have e2 := h4.2
     omega
theorem more_law (h0 : (checkS s).2.2 = 0) (hb : 0 ≤ b) (hj : j < s.bids.length) {k : Nat} (hk : k < s.lots.length) :
   ((soldS s k []).bidder ≠ -1 → (soldS (moreS s j b) k []).bidder ≠ -1 ∧ (soldS s k []).price ≤ (soldS (moreS s j b) k []).price) ∧ ((s.bid j).lot ≠ (k : Int) → soldS (moreS s j b) k [] = soldS s k []) := by
 refine ⟨fun hne => ?_, fun hl => sold_more_other hj hl⟩
 by_cases hl : (s.bid j).lot = (k : Int)
 · have := sold_more_lot h0 hb hk hj hl hne
   exact ⟨this.1, this.2.1⟩
 · rw [sold_more_other hj hl]; exact ⟨hne, Int.le_refl _⟩
theorem more_buyer (h0 : (checkS s).2.2 = 0) (hb : 0 ≤ b) (hj : j < s.bids.length) {k : Nat} (hk : k < s.lots.length) (hl : (s.bid j).lot = (k : Int)) (he : (soldS s k []).bidder = (s.bid j).bidder) : (soldS (moreS s j b) k []).bidder = (s.bid j).bidder := by
 have := (Co h0).bd j hj
 exact (sold_more_lot h0 hb hk hj hl (by omega)).2.2 he
theorem more_at (_hj : j < s.bids.length) (h : j < (moreS s j b).bids.length) : (moreS s j b).bids[j] = moreB s j b := by simp
end
end Go.Proofs.Ytaikojfonleccaa
namespace Go.Proofs.Ytaikojfonleccaa
open Go.RowKit
theorem el_69 : ElemT Try.prog 69 4 40 (.agg #[.string ⟨#[]⟩, .int .i64 0, .int .i64 0, .bool false]) := elemT_of (by kernel_rfl) rfl (by decide)
theorem el_72 : ElemT Try.prog 72 3 24 (.agg #[.int .i64 0, .int .i64 0, .int .i64 0]) := elemT_of (by kernel_rfl) rfl (by decide)
theorem sz_24 : SizeT Try.prog 24 1 := C8 (by kernel_rfl)
theorem sz_25 : SizeT Try.prog 25 1 := C8 (by kernel_rfl)
section
variable {P : Program} {n : Nat} {B : Base} {e : Env} {σ : St} {d : Option Nat} {ty : TypeId} {pos : String} {af : Array Edge} {gd : Option (Nat × Bool)}
theorem q_remN {x y : Operand} {a b : Nat} {k : IntKind} {t u : TypeId} (hx : ev e x = .int k (a : Int)) (hy : ev e y = .int k (b : Int)) (hb : 0 < b) :
   OpR P B ⟨d, .binOp .rem t x y u, ty, pos, af, gd⟩ e σ (.int k ((a % b : Nat) : Int)) := by
 have := q_rem (P := P) (B := B) (σ := σ) (d := d) (ty := ty) (pos := pos) (af := af) (gd := gd) (t := t) (u := u) hx hy (Int.natCast_nonneg a) (by omega)
 rwa [← Int.natCast_emod] at this
end
set_option maxRecDepth 100000 in
theorem moreLaw_ok {F : Heap} {vs vb vl vn vd : Value} {s : Sale} (hr : SaleR F vs vb vl vn vd s) {ka kb dy : Nat} (hka : ka < 256) (hkb : kb < 256) (hdy16 : dy < 65536) : Ok Try.prog 13 [.agg #[vs, .int .i64 s.premium, .int .i64 s.fee, .int .i64 s.days, vb, vl, vn, vd], .agg #[.int .u8 (ka : Int), .int .u8 (kb : Int)], .int .u16 (dy : Int)].toArray F fun u _ => u = .bool true := by
 refine Ok.intro Try.func13 rfl Try.ntmps13 rfl fun w0 => ?_
 have hle0 : F.le F := Heap.le_refl _
 by_cases h0 : (checkS s).2.2 = 0
 ·
  have hv := Co h0
  have hL := hv.nl
  have hL2 := hv.nd
  have hal := D3 (s := s) (ring := [])
  have hdy : (0 : Int) ≤ (dy : Int) := by omega
  by_cases hnl : 0 < s.lots.length
  ·
   refine Af <| Ai fun ds => Bl rfl (Cc (Ak rfl) rfl fun b1 hb1 nb1 => ?_)
   refine Bl rfl (Cc (Al rfl <| Ak rfl) rfl fun b2 hb2 nb2 => ?_)
   refine Aa rfl (Ae Ab) ?_
   refine Ah <| Ad <| Af <| Af <| Ai fun ds => Aa rfl (Bg Cd (Ap rfl <| Ac) rfl rfl (Bm 1 rfl)) ?_
   refine Bv rfl (A9 bd_38 Az (.cons (Ac) .nil) (valid_ok hr) (fun _ _ h => h)) ?_
   refine Aa rfl (Cu (Ac)) ?_
   refine Aa rfl (Ag (Ac)) ?_
   refine As rfl rfl (Ac) (by simp [h0]) ?_
   refine Aa rfl (Aj Cp (Ay rfl <| Ap rfl <| Ac)) ?_
   refine As rfl rfl (Al rfl <| Ac) (by simp [h0]) ?_
   refine Aa rfl (Aq C0 (Ac) (Cell.own 1 rfl rfl)) ?_
   refine As rfl rfl (Ap rfl <| Ac) (by simp [h0]) ?_
   refine Aa rfl (Bf C1 (Ac) hr.lots.plain) ?_
   refine As rfl rfl (Ap rfl <| Al rfl <| Ac) (by simp [h0]) ?_
   refine Aa rfl (B9 (Ac) Ab) ?_
   refine Aa rfl (A8 (Ay rfl <| Ac) (by simp [h0]) (Ac)) ?_
   refine Ah <| Ad <| Am (Ac) (decide_eq_false (by omega)) ?_
   refine Ax <| Ad <| Af <| Ai fun ds => Aa rfl (Bg Cd (Ba rfl <| Ap rfl <| Al rfl <| Ac) rfl rfl (Bm 1 rfl)) ?_
   refine Bl rfl (Cz bd_19 Az (.cons (Ac) (.cons Ab .nil)) ((sellTop_ok hr Sl.nil).mono fun u F2 _ h => (by rw [sellE_ok (enterN_nil h0)] at h; exact h : ∃ w, u = .tuple #[w, .int .i64 0] ∧ Sl F2 w 2 Res.enc (allS s []))) fun v3 F4 hr5 hF6 => ?_)
   replace hr := hr.mono hF6
   replace hle0 := Heap.le_trans hle0 hF6
   obtain ⟨hq_, rfl, hq⟩ := hr5
   refine Aa rfl (Ag (Ac)) ?_
   refine Aa rfl (A1 (Ac) rfl) ?_
   refine Aa rfl (A1 (Al rfl <| Ac) rfl) ?_
   refine Aa rfl (Ae (Al rfl <| Ac)) ?_
   refine Aa rfl (Ae (Al rfl <| Ac)) ?_
   refine Ah <| Ad <| Af <| Af <| Ai fun ds => Aa rfl (Ag (Ac)) ?_
   refine Aa rfl (B5 (Ac) Ab) ?_
   refine Aa rfl (Ag (Ac)) ?_
   refine As rfl rfl (Ac) (by first | rfl | decide) ?_
   refine Aa rfl (Ag (Ay rfl <| Ac)) ?_
   refine As rfl rfl (Al rfl <| Ac) (by first | rfl | decide) ?_
   refine Aa rfl (Bf Cm (Ac) hq.plain) ?_
   refine As rfl rfl (Ap rfl <| Ac) (by first | rfl | decide) ?_
   refine Aa rfl (Aj Cp (Bb rfl <| Ay rfl <| Ap rfl <| Al rfl <| Ac)) ?_
   refine As rfl rfl (Ap rfl <| Al rfl <| Ac) (by first | rfl | decide) ?_
   refine Aa rfl (Aq C0 (Ac) (Cell.own 1 rfl rfl)) ?_
   refine As rfl rfl (Ay rfl <| Ac) (by first | rfl | decide) ?_
   refine Aa rfl (Bf C1 (Ac) hr.lots.plain) ?_
   refine As rfl rfl (Ay rfl <| Al rfl <| Ac) (by first | rfl | decide) ?_
   refine Aa rfl (B5 (Ap rfl <| Al rfl <| Ac) (Ac)) ?_
   refine Aa rfl (A8 (Ay rfl <| Ap rfl <| Ac) (by first | rfl | decide) (Ac)) ?_
   refine Ah <| Ad <| Am (Ac) (decide_eq_false (by omega)) ?_
   refine Ax <| Ad <| Af <| Af <| Ai fun ds => Aa rfl (Aj Dc (Bb rfl <| Ba rfl <| Ay rfl <| Ac)) ?_
   refine Aa rfl (Aq D7 (Ac) (Cell.own 1 rfl rfl)) ?_
   refine Aa rfl (Bf Dz (Ac) hr.bids.plain) ?_
   refine Aa rfl (Cl (Ac) Ab) ?_
   refine Ah <| Ad <| WC_cut [6, 9, 10, 11, 12, 13, 48, 49, 50, 51, 52, 53, 54, 55, 56, 57, 58, 59, 60, 61, 62, 63, 64, 65, 66, 67, 68, 69, 70, 71, 72, 73, 74, 75, 76, 77, 78, 79, 80, 81, 82, 83, 84, 85, 86, 87, 88, 89, 90, 91, 92, 93, 94, 95, 96, 97, 98, 99, 100, 101, 102, 103, 104, 105, 106, 107, 108, 109, 110, 111, 112, 113, 114, 115, 116, 117, 118, 119, 120, 121, 122, 123, 124, 125, 126, 127, 128, 129, 130, 131, 132, 133, 134, 135, 136, 137, 138, 139, 140, 141, 142, 143, 144, 145, 146, 147, 148, 149, 150, 151, 152, 153, 154, 155, 156, 157, 158, 159, 160, 161, 162, 163, 164, 165, 166, 167, 168] (fun st σ => ∃ G, F.le G ∧ SaleR G vs vb vl vn vd s ∧ Sl G hq_ 2 Res.enc (allS s []) ∧ σ = ⟨G, [(b2, bx 74 [.int .u8 (ka : Int), .int .u8 (kb : Int)]), (b1, bx 27 [vs, .int .i64 s.premium, .int .i64 s.fee, .int .i64 s.days, vb, vl, vn, vd])]⟩) ?_ ?_
   ·
    by_cases hn : 0 < s.bids.length
    ·
     have hJ : (ka % s.bids.length) < s.bids.length := Nat.mod_lt _ hn
     have hbJ := hv.bd _ hJ
     have hbJ2 := bid_at hJ
     rw [← bid_at hJ] at hbJ
     have hm0 : (checkS (moreS s (ka % s.bids.length) (dy : Int))).2.2 = 0 := more_valid h0 hJ hdy
     have halm : (allS (moreS s (ka % s.bids.length) (dy : Int)) []).length = s.lots.length := D3
     refine Ar (Ac) (by first | rfl | exact decide_eq_true (by omega)) ?_
     refine Af <| Ai fun ds => Aa rfl (Bg Cd (Bt rfl <| Ac) rfl rfl (Bm 1 rfl)) ?_
     refine Bl rfl (B6 zr_27 rfl fun b7 hb7 nb7 => ?_)
     refine Ck (B8 sz_27 (Ac) (Al rfl <| Ac) (i := 0) rfl rfl rfl rfl hr.ones (.here) ?_)
     refine Ah <| Ad <| Af <| Ai fun ds => Bl rfl (x_build0 Dz fun b8 hb8 nb8 => ?_)
     refine Aa rfl (Aj Dc (Bt rfl <| Ap rfl <| Al rfl <| Ac)) ?_
     refine Aa rfl (Aq D7 (Ac) (Cell.own 3 rfl rfl)) ?_
     refine Bl rfl (Dg Dz el_72 (Ap rfl <| Ac) (own_box rfl) (Ac) (hr.bids.src (fun _ => rfl) (fun _ => Bid.enc_one)) (by omega) (by omega) (.z) .box fun v9 R10 ho11 => ?_)
     obtain ⟨vM, hvM⟩ : ∃ y, y = v9 := ⟨_, rfl⟩
     subst hvM
     have hoM : Own 72 3 vM s.bids.length (s.bids.flatMap Bid.enc) R10 := by simpa using ho11
     refine Aa rfl (Aj Dc (Ay rfl <| Ac)) ?_
     refine WL_orderB (.one (.skip <| .here) <| .one (.skip <| .here) <| .one (.lastS) <| .lastb (.last)) ?_
     refine Ck (C2 sz_25 (Ac) (Al rfl <| Ac) (i := 0) rfl (.next <| .next <| .next <| .next <| .next <| .next <| .next <| .here) hoM.one (.here) ?_)
     refine Ah <| Ad <| Af <| Ch (.inl rfl) (fun _ _ h => h) (by kernel_rfl) (by kernel_rfl) fun ds => ?_
     refine A0 rfl (Aj Dc (Ay rfl <| Al rfl <| Ac)) ?_
     refine A0 rfl (Aq D7 (Ac) (Cell.own 0 rfl rfl)) ?_
     refine A0 rfl (Bw (k := 0) ar_74 (Bt rfl <| Ba rfl <| Ac) Ab rfl (by decide)) ?_
     refine A0 rfl (Aq one_5 (Ac) (Cell.own 1 rfl rfl)) ?_
     refine A0 rfl (q_convert ⟨_, Try.underlying5⟩ Try.underlying3 (Ac) (IntWalk.i64_in _ ⟨by omega, by omega⟩)) ?_
     refine A0 rfl (Aj Dc (Bt rfl <| Ba rfl <| Ay rfl <| Ac)) ?_
     refine A0 rfl (Aq D7 (Ac) (Cell.own 2 rfl rfl)) ?_
     refine A0 rfl (Bf Dz (Ac) hr.bids.plain) ?_
     refine A0 rfl (q_remN (Ap rfl <| Al rfl <| Ac) (Ac) hn) ?_
     refine A0 rfl (Be (k := (ka % s.bids.length)) Dz (Ay rfl <| Ap rfl <| Al rfl <| Ac) (hoM.plain (by omega)) (Ac) rfl hJ) ?_
     refine A0 rfl (Ae (Ac)) ?_
     refine Cj ?_
     refine Ad <| Af <| Ai fun ds => Aa rfl (Ag (Ac)) ?_
     refine Aa rfl (Ag (Al rfl <| Ac)) ?_
     refine Aa rfl (Bu (Ac)) ?_
     refine Aa rfl (Bq fd_72_2 (Ac)) ?_
     refine Aa rfl (Aq Bd (Ac) (own_cell hoM (fun p hp => .tail _ (.tail _ (.tail _ hp))) (flat_at (enc := Bid.enc) (s := 3) (fun _ => rfl) s.bids _ hJ (j := 2) rfl))) ?_
     refine Aa rfl (Ag (Bt rfl <| Bb rfl <| Ba rfl <| Ak rfl)) ?_
     refine Aa rfl (q_convert ⟨_, Try.underlying91⟩ Try.underlying3 (Ac) (IntWalk.i64_in _ ⟨by omega, by omega⟩)) ?_
     refine Aa rfl (B3 (Ap rfl <| Ac) (Ac) rfl (by omega) (by omega)) ?_
     refine Aa rfl (q_min2 Ab (Ac)) ?_
     refine Aa rfl (Bu (Ba rfl <| Ac)) ?_
     refine Aa rfl (Bq fd_72_2 (Ac)) ?_
     refine Ck (x_storeR sz_3 (Ac) (Ap rfl <| Ac) hoM (by rw [flat_len (enc := Bid.enc) (s := 3) (fun _ => rfl)]; omega) rfl (.s <| .s <| .s <| .z) .last fun R9 hoM2 => ?_)
     refine Ah <| Ad <| Af ?_
     rw [flat_bid hJ, bid_at hJ] at hoM2
     have hlM : (moreS s (ka % s.bids.length) (dy : Int)).bids.length = s.bids.length := List.length_set
     have hJm : (ka % s.bids.length) < (moreS s (ka % s.bids.length) (dy : Int)).bids.length := by rw [hlM]; exact hJ
     have hoM3 : Own 72 3 vM (moreS s (ka % s.bids.length) (dy : Int)).bids.length ((moreS s (ka % s.bids.length) (dy : Int)).bids.flatMap Bid.enc) R9 := by rw [hlM]; exact hoM2
     refine WC_freezeR (σ := ⟨_, _⟩) (by rfl) hoM3 (.s <| .s <| .s <| .z) .last fun F12 hF13 hz14 => ?_
     replace hr := hr.mono hF13
     replace hle0 := Heap.le_trans hle0 hF13
     replace hq := hq.mono hF13
     have hmb := hoM3.sl (fun _ => rfl) hz14 (by rw [hlM]; omega)
     have hrm : SaleR _ vs vb vl vn vM (moreS s (ka % s.bids.length) (dy : Int)) := ⟨hr.steps, hr.bidders, hr.sellers, hr.lots, hmb⟩
     have hyl : ((moreS s (ka % s.bids.length) (dy : Int)).bids[(ka % s.bids.length)]).lot = (s.bid (ka % s.bids.length)).lot := by rw [more_at hJ hJm]
     have hyb : ((moreS s (ka % s.bids.length) (dy : Int)).bids[(ka % s.bids.length)]).bidder = (s.bid (ka % s.bids.length)).bidder := by rw [more_at hJ hJm]
     rw [hbJ2] at hbJ
     refine Ai fun ds => Aa rfl (Bg Cd (Bb rfl <| Ba rfl <| Ap rfl <| Al rfl <| Ac) rfl rfl (Bm 0 rfl)) ?_
     refine Bl rfl (Cz bd_19 Az (.cons (Ac) (.cons Ab .nil)) ((sellTop_ok hrm Sl.nil).mono fun u F2 _ h => (by rw [sellE_ok (enterN_nil hm0)] at h; exact h : ∃ w, u = .tuple #[w, .int .i64 0] ∧ Sl F2 w 2 Res.enc (allS (moreS s (ka % s.bids.length) (dy : Int)) []))) fun v15 F16 hr17 hF18 => ?_)
     replace hr := hr.mono hF18
     replace hle0 := Heap.le_trans hle0 hF18
     replace hq := hq.mono hF18
     replace hmb := hmb.mono hF18
     obtain ⟨hqb_, rfl, hqb⟩ := hr17
     refine Aa rfl (Ag (Ac)) ?_
     refine Aa rfl (A1 (Ac) rfl) ?_
     refine Aa rfl (A1 (Al rfl <| Ac) rfl) ?_
     refine Aa rfl (Ae (Al rfl <| Ac)) ?_
     refine Aa rfl (Ae (Al rfl <| Ac)) ?_
     refine Ah <| Ad <| Af <| Af <| Ai fun ds => Aa rfl (Ag (Ac)) ?_
     refine Aa rfl (B5 (Ac) Ab) ?_
     refine Aa rfl (Ag (Ac)) ?_
     refine As rfl rfl (Ac) (by first | rfl | decide) ?_
     refine Aa rfl (Ag (Ay rfl <| Ac)) ?_
     refine As rfl rfl (Al rfl <| Ac) (by first | rfl | decide) ?_
     refine Aa rfl (Bf Cm (Ac) hqb.plain) ?_
     refine As rfl rfl (Ap rfl <| Ac) (by first | rfl | decide) ?_
     refine Aa rfl (Ag (Bt rfl <| Bb rfl <| Ba rfl <| Ac)) ?_
     refine As rfl rfl (Ap rfl <| Al rfl <| Ac) (by first | rfl | decide) ?_
     refine Aa rfl (Bf Cm (Ac) hq.plain) ?_
     refine As rfl rfl (Ay rfl <| Ac) (by first | rfl | decide) ?_
     refine Aa rfl (B5 (Ap rfl <| Ac) (Ac)) ?_
     refine Aa rfl (A8 (Ay rfl <| Al rfl <| Ac) (by first | rfl | decide) (Ac)) ?_
     refine Ah <| Ad <| Am (Ac) (decide_eq_false (by omega)) ?_
     refine Ax <| Ad <| Af <| Af <| Ai fun ds => Aa rfl (Ae Ab) ?_
     refine Ah <| Ad <| A4 <| B4 [6, 13, 89, 90, 91, 92, 93, 94, 95, 96, 97, 98, 99, 100, 101, 102, 103, 104, 105, 106, 107, 108, 109, 110, 111, 112, 113, 114, 115, 116, 117, 118, 119, 120, 121, 122, 123, 124, 125, 126, 127, 128, 129, 130, 131, 132, 133, 134, 135, 136, 137, 138, 139, 140] (fun m e σ => ∃ k : Nat, m + k = (allS s []).length ∧ e 13 = .int .i64 (k : Int) ∧ σ = ⟨F16, [(b7, bx 27 [vs, .int .i64 s.premium, .int .i64 s.fee, .int .i64 s.days, vb, vl, vn, vM]), (b2, bx 74 [.int .u8 (ka : Int), .int .u8 (kb : Int)]), (b1, bx 27 [vs, .int .i64 s.premium, .int .i64 s.fee, .int .i64 s.days, vb, vl, vn, vd])]⟩) ((allS s []).length) ?_ ?_
     · exact ⟨0, by omega, (Ac), rfl⟩
     ·
      rintro m e _ ⟨k, hm, hs13, rfl⟩
      by_cases hlt : k < (allS s []).length
      ·
       have hkl : k < s.lots.length := by omega
       have hlm : k < (allS (moreS s (ka % s.bids.length) (dy : Int)) []).length := by omega
       have e1 : (allS s [])[k] = soldS s k [] := En hlt
       have e2 : (allS (moreS s (ka % s.bids.length) (dy : Int)) [])[k] = soldS (moreS s (ka % s.bids.length) (dy : Int)) k [] := En hlm
       obtain ⟨f1, f2⟩ := more_law h0 hdy hJ hkl
       refine Af <| Af <| Ai fun ds => Aa rfl (Ag (Au rfl hs13)) ?_
       refine Aa rfl (Ag (Al rfl <| Ao rfl <| Bt rfl <| Bb rfl <| Ba rfl <| Ay rfl <| Al rfl <| Ac)) ?_
       refine Aa rfl (Bf Cm (Ac) hq.plain) ?_
       refine Aa rfl (B0 (Ap rfl <| Ac) (Ac)) ?_
       refine Ah <| Ad <| Ar (Ac) (by first | rfl | exact decide_eq_true (by omega)) ?_
       by_cases hn1 : (soldS s k []).bidder = -1
       ·
        refine Ax <| Ad <| Af <| A4 <| Af <| Ch (.inl rfl) (fun _ _ h => h) (by kernel_rfl) (by kernel_rfl) fun ds => ?_
        refine A0 rfl (Ag (Ay rfl <| Ao rfl <| Bt rfl <| Bb rfl <| Ba rfl <| Ay rfl <| Al rfl <| Ac)) ?_
        refine A0 rfl (Ag (Ay rfl <| Al rfl <| Au rfl hs13)) ?_
        refine A0 rfl (Be  Cm (Al rfl <| Ac) hq.plain (Ac) rfl hlt) ?_
        refine A0 rfl (Bq Dk (Ac)) ?_
        refine A0 rfl (Aq Bd (Ac) (hq.cell hlt rfl)) ?_
        refine A0 rfl (B5 (Ac) Ab) ?_
        refine A0 rfl (Ag (Ac)) ?_
        refine A2 rfl rfl (Ac) (.inl (congrArg Value.bool (by rw [e1]; exact decide_eq_false (fun h => h hn1)))) rfl ?_
        refine A2 rfl rfl (Al rfl <| Ac) (.inl (congrArg Value.bool (by rw [e1]; exact decide_eq_false (fun h => h hn1)))) rfl ?_
        refine A2 rfl rfl (Ap rfl <| Ac) (.inl (congrArg Value.bool (by rw [e1]; exact decide_eq_false (fun h => h hn1)))) rfl ?_
        refine A2 rfl rfl (Ap rfl <| Al rfl <| Ac) (.inl (congrArg Value.bool (by rw [e1]; exact decide_eq_false (fun h => h hn1)))) rfl ?_
        refine A2 rfl rfl (Ay rfl <| Ac) (.inl (congrArg Value.bool (by rw [e1]; exact decide_eq_false (fun h => h hn1)))) rfl ?_
        refine A2 rfl rfl (Ay rfl <| Al rfl <| Ac) (.inl (congrArg Value.bool (by rw [e1]; exact decide_eq_false (fun h => h hn1)))) rfl ?_
        refine A2 rfl rfl (Ay rfl <| Ap rfl <| Ac) (.inl (congrArg Value.bool (by rw [e1]; exact decide_eq_false (fun h => h hn1)))) rfl ?_
        refine A2 rfl rfl (Ac) (.inr rfl) rfl ?_
        refine A2 rfl rfl (Al rfl <| Ac) (.inr rfl) rfl ?_
        refine A2 rfl rfl (Ap rfl <| Ac) (.inr rfl) rfl ?_
        refine A2 rfl rfl (Ap rfl <| Al rfl <| Ac) (.inr rfl) rfl ?_
        refine A2 rfl rfl (Ay rfl <| Ac) (.inr rfl) rfl ?_
        refine A2 rfl rfl (Ay rfl <| Al rfl <| Ac) (.inr rfl) rfl ?_
        refine A2 rfl rfl (Ay rfl <| Ap rfl <| Ac) (.inr rfl) rfl ?_
        refine A2 rfl rfl (Ay rfl <| Ap rfl <| Al rfl <| Ac) (.inr rfl) rfl ?_
        refine A2 rfl rfl (Ba rfl <| Ac) (.inr rfl) rfl ?_
        refine A2 rfl rfl (Ba rfl <| Al rfl <| Ac) (.inr rfl) rfl ?_
        refine A2 rfl rfl (Ba rfl <| Ap rfl <| Ac) (.inr rfl) rfl ?_
        refine A2 rfl rfl (Bb rfl <| Ap rfl <| Ac) (.inl (congrArg Value.bool (by rw [e1]; exact decide_eq_false (fun h => h hn1)))) rfl ?_
        refine A0 rfl (A8 (Bb rfl <| Ap rfl <| Al rfl <| Ac) (by rw [e1]; exact decide_eq_false (fun h => h hn1)) Ab) ?_
        refine A0 rfl (Ag (Ac)) ?_
        refine A3 rfl rfl (Ac) rfl ?_
        refine A0 rfl (Ag (Bt rfl <| Au rfl hs13)) ?_
        refine A3 rfl rfl (Al rfl <| Ac) rfl ?_
        refine A0 rfl (Ag (Bt rfl <| Al rfl <| Ao rfl <| Bb rfl <| Ba rfl <| Ay rfl <| Ac)) ?_
        refine A3 rfl rfl (Ap rfl <| Ac) rfl ?_
        refine A0 rfl (Bu (Ac)) ?_
        refine A3 rfl rfl (Ap rfl <| Al rfl <| Ac) rfl ?_
        refine A0 rfl (Bq El (Ac)) ?_
        refine A3 rfl rfl (Ay rfl <| Ac) rfl ?_
        refine A0 rfl (Aq Bd (Ac) (hmb.cell (i := (ka % s.bids.length)) hJm (j := 1) rfl)) ?_
        refine A3 rfl rfl (Ay rfl <| Al rfl <| Ac) rfl ?_
        refine A0 rfl (B5 (Ay rfl <| Ac) (Ac)) ?_
        refine A3 rfl rfl (Ay rfl <| Ap rfl <| Ac) rfl ?_
        refine A0 rfl (Ag (Ac)) ?_
        by_cases hky : (s.bid (ka % s.bids.length)).lot = (k : Int)
        ·
         refine A2 rfl rfl (Ac) (.inl (congrArg Value.bool (decide_eq_false (by rw [hyl, hky]; omega)))) rfl ?_
         refine A2 rfl rfl (Al rfl <| Ac) (.inl (congrArg Value.bool (decide_eq_false (by rw [hyl, hky]; omega)))) rfl ?_
         refine A2 rfl rfl (Ap rfl <| Ac) (.inl (congrArg Value.bool (decide_eq_false (by rw [hyl, hky]; omega)))) rfl ?_
         refine A2 rfl rfl (Ap rfl <| Al rfl <| Ac) (.inl (congrArg Value.bool (decide_eq_false (by rw [hyl, hky]; omega)))) rfl ?_
         refine A2 rfl rfl (Ay rfl <| Ac) (.inl (congrArg Value.bool (decide_eq_false (by rw [hyl, hky]; omega)))) rfl ?_
         refine A2 rfl rfl (Ay rfl <| Al rfl <| Ac) (.inl (congrArg Value.bool (decide_eq_false (by rw [hyl, hky]; omega)))) rfl ?_
         refine A2 rfl rfl (Ay rfl <| Ap rfl <| Ac) (.inl (congrArg Value.bool (decide_eq_false (by rw [hyl, hky]; omega)))) rfl ?_
         refine A2 rfl rfl (Ay rfl <| Ap rfl <| Al rfl <| Ac) (.inl (congrArg Value.bool (decide_eq_false (by rw [hyl, hky]; omega)))) rfl ?_
         refine A2 rfl rfl (Ba rfl <| Ac) (.inl (congrArg Value.bool (decide_eq_false (by rw [hyl, hky]; omega)))) rfl ?_
         refine A3 rfl rfl (Bb rfl <| Ac) rfl ?_
         refine A0 rfl (A8 (Ba rfl <| Al rfl <| Ac) (decide_eq_false (by rw [hyl, hky]; omega)) Ab) ?_
         refine A0 rfl (A8 (Bb rfl <| Al rfl <| Ac) rfl (Ac)) ?_
         refine Cj ?_
         refine Ad <| Am (Ac) rfl ?_
         refine Ax <| Bh <| Ad <| Ai fun ds => Aa rfl (Ag (Bt rfl <| Bb rfl <| Ap rfl <| Au rfl hs13)) ?_
         refine Aa rfl (B3 (Ac) Ab rfl (by omega) (by omega)) ?_
         refine Aa rfl (Ae (Ac)) ?_
         refine Ah <| Ad ⟨_, m - 1, Off.eq (ou32 rfl <| C5 rfl <| ou4 rfl <| Eu rfl <| Bj), by omega, ?_⟩
         exact ⟨k + 1, by omega, (Ac), rfl⟩
        ·
         refine A3 rfl rfl (Ac) (decide_eq_true (by rw [hyl]; omega)) ?_
         refine A0 rfl (Ag (Bt rfl <| Ay rfl <| Ap rfl <| Al rfl <| Ao rfl <| Ba rfl <| Ap rfl <| Al rfl <| Ac)) ?_
         refine A3 rfl rfl (Al rfl <| Ac) (decide_eq_true (by rw [hyl]; omega)) ?_
         refine A0 rfl (Ag (Bt rfl <| Ba rfl <| Au rfl hs13)) ?_
         refine A3 rfl rfl (Ap rfl <| Ac) (decide_eq_true (by rw [hyl]; omega)) ?_
         refine A0 rfl (Be  Cm (Al rfl <| Ac) hqb.plain (Ac) rfl hlm) ?_
         refine A3 rfl rfl (Ap rfl <| Al rfl <| Ac) (decide_eq_true (by rw [hyl]; omega)) ?_
         refine A0 rfl (Bg D8 (Ac) rfl rfl (hqb.whole hlm)) ?_
         refine A3 rfl rfl (Ay rfl <| Ac) (decide_eq_true (by rw [hyl]; omega)) ?_
         refine A0 rfl (Ag (Bt rfl <| Ba rfl <| Ap rfl <| Al rfl <| Ao rfl <| Bt rfl <| Bb rfl <| Ba rfl <| Ay rfl <| Al rfl <| Ac)) ?_
         refine A3 rfl rfl (Ay rfl <| Al rfl <| Ac) (decide_eq_true (by rw [hyl]; omega)) ?_
         refine A0 rfl (Ag (Bt rfl <| Ba rfl <| Ay rfl <| Au rfl hs13)) ?_
         refine A3 rfl rfl (Ay rfl <| Ap rfl <| Ac) (decide_eq_true (by rw [hyl]; omega)) ?_
         refine A0 rfl (Be  Cm (Al rfl <| Ac) hq.plain (Ac) rfl hlt) ?_
         refine A3 rfl rfl (Ay rfl <| Ap rfl <| Al rfl <| Ac) (decide_eq_true (by rw [hyl]; omega)) ?_
         refine A0 rfl (Bg D8 (Ac) rfl rfl (hq.whole hlt)) ?_
         refine A3 rfl rfl (Ba rfl <| Ac) (decide_eq_true (by rw [hyl]; omega)) ?_
         refine A0 rfl (q_neqZ2 Try.underlying63 stoodR guardR (by decide) (by decide) rfl rfl Try.underlying3 Try.underlying3 oneR oneR (Ay rfl <| Ac) (Ac)) ?_
         refine A3 rfl rfl (Bb rfl <| Ac) rfl ?_
         refine A0 rfl (A6 (Ba rfl <| Al rfl <| Ac) (decide_eq_true (by rw [hyl]; omega)) (Ac)) ?_
         refine A0 rfl (A8 (Bb rfl <| Al rfl <| Ac) rfl (Ac)) ?_
         refine Cj ?_
         refine Ad <| Am (Ac) (by rw [e2, e1, f2 hky]; simp) ?_
         refine Ax <| Bh <| Ad <| Ai fun ds => Aa rfl (Ag (Bt rfl <| Bb rfl <| Ap rfl <| Au rfl hs13)) ?_
         refine Aa rfl (B3 (Ac) Ab rfl (by omega) (by omega)) ?_
         refine Aa rfl (Ae (Ac)) ?_
         refine Ah <| Ad ⟨_, m - 1, Off.eq (ou32 rfl <| C5 rfl <| ou4 rfl <| Eu rfl <| Bj), by omega, ?_⟩
         exact ⟨k + 1, by omega, (Ac), rfl⟩
       ·
        obtain ⟨g1, g2⟩ := f1 hn1
        refine Ax <| Ad <| Af <| A4 <| Af <| Ch (.inl rfl) (fun _ _ h => h) (by kernel_rfl) (by kernel_rfl) fun ds => ?_
        refine A0 rfl (Ag (Ay rfl <| Ao rfl <| Bt rfl <| Bb rfl <| Ba rfl <| Ay rfl <| Al rfl <| Ac)) ?_
        refine A0 rfl (Ag (Ay rfl <| Al rfl <| Au rfl hs13)) ?_
        refine A0 rfl (Be  Cm (Al rfl <| Ac) hq.plain (Ac) rfl hlt) ?_
        refine A0 rfl (Bq Dk (Ac)) ?_
        refine A0 rfl (Aq Bd (Ac) (hq.cell hlt rfl)) ?_
        refine A0 rfl (B5 (Ac) Ab) ?_
        refine A0 rfl (Ag (Ac)) ?_
        refine A3 rfl rfl (Ac) (by rw [e1]; exact decide_eq_true hn1) ?_
        refine A0 rfl (Ag (Ba rfl <| Ap rfl <| Al rfl <| Ao rfl <| Ba rfl <| Ap rfl <| Al rfl <| Ac)) ?_
        refine A3 rfl rfl (Al rfl <| Ac) (by rw [e1]; exact decide_eq_true hn1) ?_
        refine A0 rfl (Ag (Ba rfl <| Ay rfl <| Au rfl hs13)) ?_
        refine A3 rfl rfl (Ap rfl <| Ac) (by rw [e1]; exact decide_eq_true hn1) ?_
        refine A0 rfl (Be  Cm (Al rfl <| Ac) hqb.plain (Ac) rfl hlm) ?_
        refine A3 rfl rfl (Ap rfl <| Al rfl <| Ac) (by rw [e1]; exact decide_eq_true hn1) ?_
        refine A0 rfl (Bq Dk (Ac)) ?_
        refine A3 rfl rfl (Ay rfl <| Ac) (by rw [e1]; exact decide_eq_true hn1) ?_
        refine A0 rfl (Aq Bd (Ac) (hqb.cell hlm rfl)) ?_
        refine A3 rfl rfl (Ay rfl <| Al rfl <| Ac) (by rw [e1]; exact decide_eq_true hn1) ?_
        refine A0 rfl (B9 (Ac) Ab) ?_
        refine A3 rfl rfl (Ay rfl <| Ap rfl <| Ac) (by rw [e1]; exact decide_eq_true hn1) ?_
        refine A0 rfl (Ag (Ac)) ?_
        refine A3 rfl rfl (Ac) (by rw [e2]; exact decide_eq_false g1) ?_
        refine A0 rfl (Ag (Bb rfl <| Ap rfl <| Ao rfl <| Ba rfl <| Ap rfl <| Al rfl <| Ac)) ?_
        refine A3 rfl rfl (Al rfl <| Ac) (by rw [e2]; exact decide_eq_false g1) ?_
        refine A0 rfl (Ag (Bb rfl <| Ap rfl <| Al rfl <| Au rfl hs13)) ?_
        refine A3 rfl rfl (Ap rfl <| Ac) (by rw [e2]; exact decide_eq_false g1) ?_
        refine A0 rfl (Be  Cm (Al rfl <| Ac) hqb.plain (Ac) rfl hlm) ?_
        refine A3 rfl rfl (Ap rfl <| Al rfl <| Ac) (by rw [e2]; exact decide_eq_false g1) ?_
        refine A0 rfl (Bq fd_63_1 (Ac)) ?_
        refine A3 rfl rfl (Ay rfl <| Ac) (by rw [e2]; exact decide_eq_false g1) ?_
        refine A0 rfl (Aq Bd (Ac) (hqb.cell hlm rfl)) ?_
        refine A3 rfl rfl (Ay rfl <| Al rfl <| Ac) (by rw [e2]; exact decide_eq_false g1) ?_
        refine A0 rfl (Ag (Bb rfl <| Ay rfl <| Ap rfl <| Al rfl <| Ao rfl <| Bt rfl <| Bb rfl <| Ba rfl <| Ay rfl <| Al rfl <| Ac)) ?_
        refine A3 rfl rfl (Ay rfl <| Ap rfl <| Ac) (by rw [e2]; exact decide_eq_false g1) ?_
        refine A0 rfl (Ag (Bb rfl <| Ba rfl <| Au rfl hs13)) ?_
        refine A3 rfl rfl (Ay rfl <| Ap rfl <| Al rfl <| Ac) (by rw [e2]; exact decide_eq_false g1) ?_
        refine A0 rfl (Be  Cm (Al rfl <| Ac) hq.plain (Ac) rfl hlt) ?_
        refine A3 rfl rfl (Ba rfl <| Ac) (by rw [e2]; exact decide_eq_false g1) ?_
        refine A0 rfl (Bq fd_63_1 (Ac)) ?_
        refine A3 rfl rfl (Ba rfl <| Al rfl <| Ac) (by rw [e2]; exact decide_eq_false g1) ?_
        refine A0 rfl (Aq Bd (Ac) (hq.cell hlt rfl)) ?_
        refine A3 rfl rfl (Ba rfl <| Ap rfl <| Ac) (by rw [e2]; exact decide_eq_false g1) ?_
        refine A0 rfl (B0 (Ay rfl <| Al rfl <| Ac) (Ac)) ?_
        refine A3 rfl rfl (Bb rfl <| Ap rfl <| Ac) (by rw [e1]; exact decide_eq_true hn1) ?_
        refine A0 rfl (A8 (Ba rfl <| Ap rfl <| Al rfl <| Ac) (by rw [e2]; exact decide_eq_false g1) (Ac)) ?_
        refine A0 rfl (A6 (Bb rfl <| Ap rfl <| Al rfl <| Ac) (by rw [e1]; exact decide_eq_true hn1) (Ac)) ?_
        refine A0 rfl (Ag (Ac)) ?_
        refine A3 rfl rfl (Ac) (by rw [e1, e2]; exact decide_eq_false (by omega)) ?_
        refine A0 rfl (Ag (Bt rfl <| Au rfl hs13)) ?_
        refine A3 rfl rfl (Al rfl <| Ac) (by rw [e1, e2]; exact decide_eq_false (by omega)) ?_
        refine A0 rfl (Ag (Bt rfl <| Al rfl <| Ao rfl <| Bb rfl <| Ba rfl <| Ay rfl <| Ac)) ?_
        refine A3 rfl rfl (Ap rfl <| Ac) (by rw [e1, e2]; exact decide_eq_false (by omega)) ?_
        refine A0 rfl (Bu (Ac)) ?_
        refine A3 rfl rfl (Ap rfl <| Al rfl <| Ac) (by rw [e1, e2]; exact decide_eq_false (by omega)) ?_
        refine A0 rfl (Bq El (Ac)) ?_
        refine A3 rfl rfl (Ay rfl <| Ac) (by rw [e1, e2]; exact decide_eq_false (by omega)) ?_
        refine A0 rfl (Aq Bd (Ac) (hmb.cell (i := (ka % s.bids.length)) hJm (j := 1) rfl)) ?_
        refine A3 rfl rfl (Ay rfl <| Al rfl <| Ac) (by rw [e1, e2]; exact decide_eq_false (by omega)) ?_
        refine A0 rfl (B5 (Ay rfl <| Ac) (Ac)) ?_
        refine A3 rfl rfl (Ay rfl <| Ap rfl <| Ac) (by rw [e1, e2]; exact decide_eq_false (by omega)) ?_
        refine A0 rfl (Ag (Ac)) ?_
        by_cases hky : (s.bid (ka % s.bids.length)).lot = (k : Int)
        ·
         refine A2 rfl rfl (Ac) (.inl (congrArg Value.bool (decide_eq_false (by rw [hyl, hky]; omega)))) rfl ?_
         refine A2 rfl rfl (Al rfl <| Ac) (.inl (congrArg Value.bool (decide_eq_false (by rw [hyl, hky]; omega)))) rfl ?_
         refine A2 rfl rfl (Ap rfl <| Ac) (.inl (congrArg Value.bool (decide_eq_false (by rw [hyl, hky]; omega)))) rfl ?_
         refine A2 rfl rfl (Ap rfl <| Al rfl <| Ac) (.inl (congrArg Value.bool (decide_eq_false (by rw [hyl, hky]; omega)))) rfl ?_
         refine A2 rfl rfl (Ay rfl <| Ac) (.inl (congrArg Value.bool (decide_eq_false (by rw [hyl, hky]; omega)))) rfl ?_
         refine A2 rfl rfl (Ay rfl <| Al rfl <| Ac) (.inl (congrArg Value.bool (decide_eq_false (by rw [hyl, hky]; omega)))) rfl ?_
         refine A2 rfl rfl (Ay rfl <| Ap rfl <| Ac) (.inl (congrArg Value.bool (decide_eq_false (by rw [hyl, hky]; omega)))) rfl ?_
         refine A2 rfl rfl (Ay rfl <| Ap rfl <| Al rfl <| Ac) (.inl (congrArg Value.bool (decide_eq_false (by rw [hyl, hky]; omega)))) rfl ?_
         refine A2 rfl rfl (Ba rfl <| Ac) (.inl (congrArg Value.bool (decide_eq_false (by rw [hyl, hky]; omega)))) rfl ?_
         refine A3 rfl rfl (Bb rfl <| Ac) (by rw [e1, e2]; exact decide_eq_false (by omega)) ?_
         refine A0 rfl (A8 (Ba rfl <| Al rfl <| Ac) (decide_eq_false (by rw [hyl, hky]; omega)) Ab) ?_
         refine A0 rfl (A8 (Bb rfl <| Al rfl <| Ac) (by rw [e1, e2]; exact decide_eq_false (by omega)) (Ac)) ?_
         refine Cj ?_
         refine Ad <| Am (Ac) rfl ?_
         refine Ax <| Bh <| Ad <| Ai fun ds => Aa rfl (Ag (Bt rfl <| Bb rfl <| Ap rfl <| Au rfl hs13)) ?_
         refine Aa rfl (B3 (Ac) Ab rfl (by omega) (by omega)) ?_
         refine Aa rfl (Ae (Ac)) ?_
         refine Ah <| Ad ⟨_, m - 1, Off.eq (ou32 rfl <| C5 rfl <| ou4 rfl <| Eu rfl <| Bj), by omega, ?_⟩
         exact ⟨k + 1, by omega, (Ac), rfl⟩
        ·
         refine A3 rfl rfl (Ac) (decide_eq_true (by rw [hyl]; omega)) ?_
         refine A0 rfl (Ag (Bt rfl <| Ay rfl <| Ap rfl <| Al rfl <| Ao rfl <| Ba rfl <| Ap rfl <| Al rfl <| Ac)) ?_
         refine A3 rfl rfl (Al rfl <| Ac) (decide_eq_true (by rw [hyl]; omega)) ?_
         refine A0 rfl (Ag (Bt rfl <| Ba rfl <| Au rfl hs13)) ?_
         refine A3 rfl rfl (Ap rfl <| Ac) (decide_eq_true (by rw [hyl]; omega)) ?_
         refine A0 rfl (Be  Cm (Al rfl <| Ac) hqb.plain (Ac) rfl hlm) ?_
         refine A3 rfl rfl (Ap rfl <| Al rfl <| Ac) (decide_eq_true (by rw [hyl]; omega)) ?_
         refine A0 rfl (Bg D8 (Ac) rfl rfl (hqb.whole hlm)) ?_
         refine A3 rfl rfl (Ay rfl <| Ac) (decide_eq_true (by rw [hyl]; omega)) ?_
         refine A0 rfl (Ag (Bt rfl <| Ba rfl <| Ap rfl <| Al rfl <| Ao rfl <| Bt rfl <| Bb rfl <| Ba rfl <| Ay rfl <| Al rfl <| Ac)) ?_
         refine A3 rfl rfl (Ay rfl <| Al rfl <| Ac) (decide_eq_true (by rw [hyl]; omega)) ?_
         refine A0 rfl (Ag (Bt rfl <| Ba rfl <| Ay rfl <| Au rfl hs13)) ?_
         refine A3 rfl rfl (Ay rfl <| Ap rfl <| Ac) (decide_eq_true (by rw [hyl]; omega)) ?_
         refine A0 rfl (Be  Cm (Al rfl <| Ac) hq.plain (Ac) rfl hlt) ?_
         refine A3 rfl rfl (Ay rfl <| Ap rfl <| Al rfl <| Ac) (decide_eq_true (by rw [hyl]; omega)) ?_
         refine A0 rfl (Bg D8 (Ac) rfl rfl (hq.whole hlt)) ?_
         refine A3 rfl rfl (Ba rfl <| Ac) (decide_eq_true (by rw [hyl]; omega)) ?_
         refine A0 rfl (q_neqZ2 Try.underlying63 stoodR guardR (by decide) (by decide) rfl rfl Try.underlying3 Try.underlying3 oneR oneR (Ay rfl <| Ac) (Ac)) ?_
         refine A3 rfl rfl (Bb rfl <| Ac) (by rw [e1, e2]; exact decide_eq_false (by omega)) ?_
         refine A0 rfl (A6 (Ba rfl <| Al rfl <| Ac) (decide_eq_true (by rw [hyl]; omega)) (Ac)) ?_
         refine A0 rfl (A8 (Bb rfl <| Al rfl <| Ac) (by rw [e1, e2]; exact decide_eq_false (by omega)) (Ac)) ?_
         refine Cj ?_
         refine Ad <| Am (Ac) (by rw [e2, e1, f2 hky]; simp) ?_
         refine Ax <| Bh <| Ad <| Ai fun ds => Aa rfl (Ag (Bt rfl <| Bb rfl <| Ap rfl <| Au rfl hs13)) ?_
         refine Aa rfl (B3 (Ac) Ab rfl (by omega) (by omega)) ?_
         refine Aa rfl (Ae (Ac)) ?_
         refine Ah <| Ad ⟨_, m - 1, Off.eq (ou32 rfl <| C5 rfl <| ou4 rfl <| Eu rfl <| Bj), by omega, ?_⟩
         exact ⟨k + 1, by omega, (Ac), rfl⟩
      ·
       refine Af <| Af <| Ai fun ds => Aa rfl (Ag (Au rfl hs13)) ?_
       refine Aa rfl (Ag (Al rfl <| Ao rfl <| Bt rfl <| Bb rfl <| Ba rfl <| Ay rfl <| Al rfl <| Ac)) ?_
       refine Aa rfl (Bf Cm (Ac) hq.plain) ?_
       refine Aa rfl (B0 (Ap rfl <| Ac) (Ac)) ?_
       refine Ah <| Ad <| Am (Ac) (by first | rfl | exact decide_eq_false (by omega)) ?_
       obtain ⟨Y, hY⟩ := Int.eq_ofNat_of_zero_le hbJ.2.2.1
       have hYl : Y < s.lots.length := by omega
       have hYa : Y < (allS s []).length := by omega
       have hYm : Y < (allS (moreS s (ka % s.bids.length) (dy : Int)) []).length := by omega
       have eA : (allS s [])[Y] = soldS s Y [] := En hYa
       have eB : (allS (moreS s (ka % s.bids.length) (dy : Int)) [])[Y] = soldS (moreS s (ka % s.bids.length) (dy : Int)) Y [] := En hYm
       by_cases hby : (soldS s Y []).bidder = (s.bid (ka % s.bids.length)).bidder
       ·
        refine Bx ?_
        refine Bk <| Bk <| Bn <| Ad <| Af <| Ch (.inl rfl) (fun _ _ h => h) (by kernel_rfl) (by kernel_rfl) fun ds => ?_
        refine A0 rfl (Ag (Ay rfl <| Ao rfl <| Bt rfl <| Bb rfl <| Ba rfl <| Ay rfl <| Al rfl <| Ac)) ?_
        refine A0 rfl (Ag (Ay rfl <| Al rfl <| Ao rfl <| Bb rfl <| Ba rfl <| Ay rfl <| Ac)) ?_
        refine A0 rfl (Bu (Ac)) ?_
        refine A0 rfl (Bq El (Ac)) ?_
        refine A0 rfl (Aq Bd (Ac) (hmb.cell (i := (ka % s.bids.length)) hJm (j := 1) rfl)) ?_
        refine A0 rfl (Be (k := Y) Cm (Ay rfl <| Ac) hq.plain (Ac) (by rw [hyl]; exact hY) hYa) ?_
        refine A0 rfl (Bq Dk (Ac)) ?_
        refine A0 rfl (Aq Bd (Ac) (hq.cell hYa rfl)) ?_
        refine A0 rfl (Ag (Ba rfl <| Ay rfl <| Ao rfl <| Bb rfl <| Ba rfl <| Ay rfl <| Ac)) ?_
        refine A0 rfl (Bu (Ac)) ?_
        refine A0 rfl (Bq Dr (Ac)) ?_
        refine A0 rfl (Aq Bd (Ac) (hmb.cell (i := (ka % s.bids.length)) hJm (j := 0) rfl)) ?_
        refine A0 rfl (B9 (Ay rfl <| Ac) (Ac)) ?_
        refine A0 rfl (Ag (Ac)) ?_
        refine A3 rfl rfl (Ac) (by rw [eA, hyb]; exact decide_eq_true hby) ?_
        refine A0 rfl (Ag (Bb rfl <| Ap rfl <| Ao rfl <| Ba rfl <| Ap rfl <| Al rfl <| Ac)) ?_
        refine A3 rfl rfl (Al rfl <| Ac) (by rw [eA, hyb]; exact decide_eq_true hby) ?_
        refine A0 rfl (Ag (Bb rfl <| Ap rfl <| Al rfl <| Ao rfl <| Bb rfl <| Ba rfl <| Ay rfl <| Ac)) ?_
        refine A3 rfl rfl (Ap rfl <| Ac) (by rw [eA, hyb]; exact decide_eq_true hby) ?_
        refine A0 rfl (Bu (Ac)) ?_
        refine A3 rfl rfl (Ap rfl <| Al rfl <| Ac) (by rw [eA, hyb]; exact decide_eq_true hby) ?_
        refine A0 rfl (Bq El (Ac)) ?_
        refine A3 rfl rfl (Ay rfl <| Ac) (by rw [eA, hyb]; exact decide_eq_true hby) ?_
        refine A0 rfl (Aq Bd (Ac) (hmb.cell (i := (ka % s.bids.length)) hJm (j := 1) rfl)) ?_
        refine A3 rfl rfl (Ay rfl <| Al rfl <| Ac) (by rw [eA, hyb]; exact decide_eq_true hby) ?_
        refine A0 rfl (Be (k := Y) Cm (Ay rfl <| Ac) hqb.plain (Ac) (by rw [hyl]; exact hY) hYm) ?_
        refine A3 rfl rfl (Ay rfl <| Ap rfl <| Ac) (by rw [eA, hyb]; exact decide_eq_true hby) ?_
        refine A0 rfl (Bq Dk (Ac)) ?_
        refine A3 rfl rfl (Ay rfl <| Ap rfl <| Al rfl <| Ac) (by rw [eA, hyb]; exact decide_eq_true hby) ?_
        refine A0 rfl (Aq Bd (Ac) (hqb.cell hYm rfl)) ?_
        refine A3 rfl rfl (Ba rfl <| Ac) (by rw [eA, hyb]; exact decide_eq_true hby) ?_
        refine A0 rfl (Ag (Bb rfl <| Ba rfl <| Ap rfl <| Ao rfl <| Bb rfl <| Ba rfl <| Ay rfl <| Ac)) ?_
        refine A3 rfl rfl (Ba rfl <| Al rfl <| Ac) (by rw [eA, hyb]; exact decide_eq_true hby) ?_
        refine A0 rfl (Bu (Ac)) ?_
        refine A3 rfl rfl (Ba rfl <| Ap rfl <| Ac) (by rw [eA, hyb]; exact decide_eq_true hby) ?_
        refine A0 rfl (Bq Dr (Ac)) ?_
        refine A3 rfl rfl (Ba rfl <| Ap rfl <| Al rfl <| Ac) (by rw [eA, hyb]; exact decide_eq_true hby) ?_
        refine A0 rfl (Aq Bd (Ac) (hmb.cell (i := (ka % s.bids.length)) hJm (j := 0) rfl)) ?_
        refine A3 rfl rfl (Ba rfl <| Ay rfl <| Ac) (by rw [eA, hyb]; exact decide_eq_true hby) ?_
        refine A0 rfl (B5 (Ay rfl <| Ac) (Ac)) ?_
        refine A0 rfl (A6 (Ba rfl <| Ay rfl <| Al rfl <| Ac) (by rw [eA, hyb]; exact decide_eq_true hby) (Ac)) ?_
        refine Cj ?_
        refine Ad <| Am (Ac) (by rw [eB, hyb]; exact decide_eq_false (fun h => h (more_buyer h0 hdy hJ hYl hY hby))) ?_
        refine WC_pick (.cons (.next <| .here) <| .cons (.next <| .here) <| .nil) ?_
        refine Ax <| Ad ⟨_, Off.eq (ou32 rfl <| off_in rfl <| ou32 rfl <| Ei rfl <| ou4 rfl <| Et rfl <| C9), ?_⟩
        exact ⟨_, hle0, hr, hq, rfl⟩
       ·
        refine Bx ?_
        refine Bk <| Bk <| Bn <| Ad <| Af <| Ch (.inl rfl) (fun _ _ h => h) (by kernel_rfl) (by kernel_rfl) fun ds => ?_
        refine A0 rfl (Ag (Ay rfl <| Ao rfl <| Bt rfl <| Bb rfl <| Ba rfl <| Ay rfl <| Al rfl <| Ac)) ?_
        refine A0 rfl (Ag (Ay rfl <| Al rfl <| Ao rfl <| Bb rfl <| Ba rfl <| Ay rfl <| Ac)) ?_
        refine A0 rfl (Bu (Ac)) ?_
        refine A0 rfl (Bq El (Ac)) ?_
        refine A0 rfl (Aq Bd (Ac) (hmb.cell (i := (ka % s.bids.length)) hJm (j := 1) rfl)) ?_
        refine A0 rfl (Be (k := Y) Cm (Ay rfl <| Ac) hq.plain (Ac) (by rw [hyl]; exact hY) hYa) ?_
        refine A0 rfl (Bq Dk (Ac)) ?_
        refine A0 rfl (Aq Bd (Ac) (hq.cell hYa rfl)) ?_
        refine A0 rfl (Ag (Ba rfl <| Ay rfl <| Ao rfl <| Bb rfl <| Ba rfl <| Ay rfl <| Ac)) ?_
        refine A0 rfl (Bu (Ac)) ?_
        refine A0 rfl (Bq Dr (Ac)) ?_
        refine A0 rfl (Aq Bd (Ac) (hmb.cell (i := (ka % s.bids.length)) hJm (j := 0) rfl)) ?_
        refine A0 rfl (B9 (Ay rfl <| Ac) (Ac)) ?_
        refine A0 rfl (Ag (Ac)) ?_
        refine A2 rfl rfl (Ac) (.inl (congrArg Value.bool (by rw [eA, hyb]; exact decide_eq_false hby))) rfl ?_
        refine A2 rfl rfl (Al rfl <| Ac) (.inl (congrArg Value.bool (by rw [eA, hyb]; exact decide_eq_false hby))) rfl ?_
        refine A2 rfl rfl (Ap rfl <| Ac) (.inl (congrArg Value.bool (by rw [eA, hyb]; exact decide_eq_false hby))) rfl ?_
        refine A2 rfl rfl (Ap rfl <| Al rfl <| Ac) (.inl (congrArg Value.bool (by rw [eA, hyb]; exact decide_eq_false hby))) rfl ?_
        refine A2 rfl rfl (Ay rfl <| Ac) (.inl (congrArg Value.bool (by rw [eA, hyb]; exact decide_eq_false hby))) rfl ?_
        refine A2 rfl rfl (Ay rfl <| Al rfl <| Ac) (.inl (congrArg Value.bool (by rw [eA, hyb]; exact decide_eq_false hby))) rfl ?_
        refine A2 rfl rfl (Ay rfl <| Ap rfl <| Ac) (.inl (congrArg Value.bool (by rw [eA, hyb]; exact decide_eq_false hby))) rfl ?_
        refine A2 rfl rfl (Ay rfl <| Ap rfl <| Al rfl <| Ac) (.inl (congrArg Value.bool (by rw [eA, hyb]; exact decide_eq_false hby))) rfl ?_
        refine A2 rfl rfl (Ba rfl <| Ac) (.inl (congrArg Value.bool (by rw [eA, hyb]; exact decide_eq_false hby))) rfl ?_
        refine A2 rfl rfl (Ba rfl <| Al rfl <| Ac) (.inl (congrArg Value.bool (by rw [eA, hyb]; exact decide_eq_false hby))) rfl ?_
        refine A2 rfl rfl (Ba rfl <| Ap rfl <| Ac) (.inl (congrArg Value.bool (by rw [eA, hyb]; exact decide_eq_false hby))) rfl ?_
        refine A2 rfl rfl (Ba rfl <| Ap rfl <| Al rfl <| Ac) (.inl (congrArg Value.bool (by rw [eA, hyb]; exact decide_eq_false hby))) rfl ?_
        refine A2 rfl rfl (Ba rfl <| Ay rfl <| Ac) (.inl (congrArg Value.bool (by rw [eA, hyb]; exact decide_eq_false hby))) rfl ?_
        refine A0 rfl (A8 (Ba rfl <| Ay rfl <| Al rfl <| Ac) (by rw [eA, hyb]; exact decide_eq_false hby) Ab) ?_
        refine Cj ?_
        refine Ad <| Am (Ac) rfl ?_
        refine WC_pick (.cons (.next <| .here) <| .cons (.next <| .here) <| .nil) ?_
        refine Ax <| Ad ⟨_, Off.eq (ou32 rfl <| off_in rfl <| ou32 rfl <| Ei rfl <| ou4 rfl <| Et rfl <| C9), ?_⟩
        exact ⟨_, hle0, hr, hq, rfl⟩
    ·
     refine Am (Ac) (by first | rfl | exact decide_eq_false (by omega)) ?_
     refine Ax <| Ad ⟨_, Off.eq (C9), ?_⟩
     exact ⟨_, hle0, hr, hq, rfl⟩
   rintro e47 _ ⟨G, hle0, hr, hq, rfl⟩
   have hZ : (kb % s.lots.length) < s.lots.length := Nat.mod_lt _ hnl
   have hlZ := hv.lo _ hZ
   rw [← lot_at hZ] at hlZ
   have hl0 : (checkS (lessS s (kb % s.lots.length) (dy : Int))).2.2 = 0 := less_valid h0 hZ hdy
   have hall : (allS (lessS s (kb % s.lots.length) (dy : Int)) []).length = s.lots.length := D3.trans List.length_set
   refine Af <| Ai fun ds => Aa rfl (Bg Cd (Ao rfl <| Bt rfl <| Ac) rfl rfl (Bm 1 rfl)) ?_
   refine Bl rfl (B6 zr_27 rfl fun b20 hb20 nb20 => ?_)
   refine Ck (B8 sz_27 (Ac) (Al rfl <| Ac) (i := 0) rfl rfl rfl rfl hr.ones (.here) ?_)
   refine Ah <| Ad <| Af <| Ai fun ds => Bl rfl (x_build0 C1 fun b21 hb21 nb21 => ?_)
   refine Aa rfl (Aj Cp (Ap rfl <| Al rfl <| Ao rfl <| Bt rfl <| Ac)) ?_
   refine Aa rfl (Aq C0 (Ac) (Cell.own 3 rfl rfl)) ?_
   refine Bl rfl (Dg C1 el_69 (Ap rfl <| Ac) (own_box rfl) (Ac) (hr.lots.src (fun _ => rfl) (fun _ => Lot.enc_one)) (by omega) (by omega) (.z) .box fun v22 R23 ho24 => ?_)
   obtain ⟨vN, hvN⟩ : ∃ y, y = v22 := ⟨_, rfl⟩
   subst hvN
   have hoN : Own 69 4 vN s.lots.length (s.lots.flatMap Lot.enc) R23 := by simpa using ho24
   refine Aa rfl (Aj Cp (Ay rfl <| Ac)) ?_
   refine WL_orderB (.one (.skip <| .here) <| .one (.skip <| .here) <| .one (.lastS) <| .lastb (.last)) ?_
   refine Ck (C2 sz_24 (Ac) (Al rfl <| Ac) (i := 0) rfl (.next <| .next <| .next <| .next <| .next <| .next <| .here) hoN.one (.here) ?_)
   refine Ah <| Ad <| Af <| Ch (.inl rfl) (fun _ _ h => h) (by kernel_rfl) (by kernel_rfl) fun ds => ?_
   refine A0 rfl (Aj Cp (Ay rfl <| Al rfl <| Ac)) ?_
   refine A0 rfl (Aq C0 (Ac) (Cell.own 0 rfl rfl)) ?_
   refine A0 rfl (Bw (k := 1) ar_74 (Ba rfl <| Al rfl <| Ao rfl <| Bb rfl <| Ba rfl <| Ay rfl <| Ap rfl <| Al rfl <| Ac) Ab rfl (by decide)) ?_
   refine A0 rfl (Aq one_5 (Ac) (Cell.own 1 rfl rfl)) ?_
   refine A0 rfl (q_convert ⟨_, Try.underlying5⟩ Try.underlying3 (Ac) (IntWalk.i64_in _ ⟨by omega, by omega⟩)) ?_
   refine A0 rfl (Aj Cp (Ba rfl <| Ay rfl <| Ao rfl <| Bt rfl <| Ac)) ?_
   refine A0 rfl (Aq C0 (Ac) (Cell.own 2 rfl rfl)) ?_
   refine A0 rfl (Bf C1 (Ac) hr.lots.plain) ?_
   refine A0 rfl (q_remN (Ap rfl <| Al rfl <| Ac) (Ac) hnl) ?_
   refine A0 rfl (Be (k := (kb % s.lots.length)) C1 (Ay rfl <| Ap rfl <| Al rfl <| Ac) (hoN.plain (by omega)) (Ac) rfl hZ) ?_
   refine A0 rfl (Ae (Ac)) ?_
   refine Cj ?_
   refine Ad <| Af <| Ai fun ds => Aa rfl (Ag (Ac)) ?_
   refine Aa rfl (Ag (Al rfl <| Ac)) ?_
   refine Aa rfl (Bu (Ac)) ?_
   refine Aa rfl (Bq fd_69_2 (Ac)) ?_
   refine Aa rfl (Aq Bd (Ac) (own_cell hoN (fun p hp => .tail _ (.tail _ (.tail _ hp))) (flat_at (enc := Lot.enc) (s := 4) (fun _ => rfl) s.lots _ hZ (j := 2) rfl))) ?_
   refine Aa rfl (Ag (Bb rfl <| Ay rfl <| Ap rfl <| Al rfl <| Ao rfl <| Bt rfl <| Al rfl <| Ak rfl)) ?_
   refine Aa rfl (q_convert ⟨_, Try.underlying91⟩ Try.underlying3 (Ac) (IntWalk.i64_in _ ⟨by omega, by omega⟩)) ?_
   refine Aa rfl (Dh (Ap rfl <| Ac) (Ac) rfl (by omega) (by omega)) ?_
   refine Aa rfl (q_max2 Ab (Ac)) ?_
   refine Aa rfl (Bu (Ba rfl <| Ac)) ?_
   refine Aa rfl (Bq fd_69_2 (Ac)) ?_
   refine Ck (x_storeR sz_3 (Ac) (Ap rfl <| Ac) hoN (by rw [flat_len (enc := Lot.enc) (s := 4) (fun _ => rfl)]; omega) rfl (.s <| .s <| .s <| .z) .last fun R8 hoN2 => ?_)
   refine Ah <| Ad <| Af ?_
   rw [flat_lot hZ, lot_at hZ] at hoN2
   have hlN : (lessS s (kb % s.lots.length) (dy : Int)).lots.length = s.lots.length := List.length_set
   have hoN3 : Own 69 4 vN (lessS s (kb % s.lots.length) (dy : Int)).lots.length ((lessS s (kb % s.lots.length) (dy : Int)).lots.flatMap Lot.enc) R8 := by rw [hlN]; exact hoN2
   refine WC_freezeR (σ := ⟨_, _⟩) (by rfl) hoN3 (.s <| .s <| .s <| .z) .last fun F25 hF26 hz27 => ?_
   replace hr := hr.mono hF26
   replace hq := hq.mono hF26
   have hlb := hoN3.sl (fun _ => rfl) hz27 (by rw [hlN]; omega)
   have hrl : SaleR _ vs vb vl vN vd (lessS s (kb % s.lots.length) (dy : Int)) := ⟨hr.steps, hr.bidders, hr.sellers, hlb, hr.bids⟩
   refine Ai fun ds => Aa rfl (Bg Cd (Bb rfl <| Ba rfl <| Ap rfl <| Al rfl <| Ac) rfl rfl (Bm 0 rfl)) ?_
   refine Bl rfl (Cz bd_19 Az (.cons (Ac) (.cons Ab .nil)) ((sellTop_ok hrl Sl.nil).mono fun u F2 _ h => (by rw [sellE_ok (enterN_nil hl0)] at h; exact h : ∃ w, u = .tuple #[w, .int .i64 0] ∧ Sl F2 w 2 Res.enc (allS (lessS s (kb % s.lots.length) (dy : Int)) []))) fun v28 F29 hr30 hF31 => ?_)
   replace hq := hq.mono hF31
   obtain ⟨hql_, rfl, hql⟩ := hr30
   refine Aa rfl (Ag (Ac)) ?_
   refine Aa rfl (A1 (Ac) rfl) ?_
   refine Aa rfl (A1 (Al rfl <| Ac) rfl) ?_
   refine Aa rfl (Ae (Al rfl <| Ac)) ?_
   refine Aa rfl (Ae (Al rfl <| Ac)) ?_
   refine Ah <| Ad <| Af <| Af <| Ai fun ds => Aa rfl (Ag (Ac)) ?_
   refine Aa rfl (B5 (Ac) Ab) ?_
   refine Aa rfl (Ag (Ac)) ?_
   refine As rfl rfl (Ac) (by first | rfl | decide) ?_
   refine Aa rfl (Ag (Ay rfl <| Ac)) ?_
   refine As rfl rfl (Al rfl <| Ac) (by first | rfl | decide) ?_
   refine Aa rfl (Bf Cm (Ac) hql.plain) ?_
   refine As rfl rfl (Ap rfl <| Ac) (by first | rfl | decide) ?_
   refine Aa rfl (Ag (Bt rfl <| Ba rfl <| Al rfl <| Ao rfl <| Ba rfl <| Ay rfl <| Ap rfl <| Al rfl <| Ac)) ?_
   refine As rfl rfl (Ap rfl <| Al rfl <| Ac) (by first | rfl | decide) ?_
   refine Aa rfl (Bf Cm (Ac) hq.plain) ?_
   refine As rfl rfl (Ay rfl <| Ac) (by first | rfl | decide) ?_
   refine Aa rfl (B5 (Ap rfl <| Ac) (Ac)) ?_
   refine Aa rfl (A8 (Ay rfl <| Al rfl <| Ac) (by first | rfl | decide) (Ac)) ?_
   refine Ah <| Ad <| Am (Ac) (decide_eq_false (by omega)) ?_
   refine Ax <| Ad <| Af <| Af <| Ai fun ds => Aa rfl (Ae Ab) ?_
   refine Ah <| Ad <| A4 <| B4 [6, 18, 210, 211, 212, 213, 214, 215, 216, 217, 218, 219, 220, 221, 222, 223, 224, 225, 226, 227, 228, 229, 230, 231, 232, 233, 234] (fun m e σ => ∃ k : Nat, m + k = (allS s []).length ∧ e 18 = .int .i64 (k : Int) ∧ σ = ⟨F29, [(b20, bx 27 [vs, .int .i64 s.premium, .int .i64 s.fee, .int .i64 s.days, vb, vl, vN, vd]), (b2, bx 74 [.int .u8 (ka : Int), .int .u8 (kb : Int)]), (b1, bx 27 [vs, .int .i64 s.premium, .int .i64 s.fee, .int .i64 s.days, vb, vl, vn, vd])]⟩) ((allS s []).length) ?_ ?_
   · exact ⟨0, by omega, (Ac), rfl⟩
   ·
    rintro m e _ ⟨k, hm, hs18, rfl⟩
    by_cases hlt : k < (allS s []).length
    ·
     have hkl : k < s.lots.length := by omega
     have hll : k < (allS (lessS s (kb % s.lots.length) (dy : Int)) []).length := by omega
     have e1 : (allS s [])[k] = soldS s k [] := En hlt
     have e2 : (allS (lessS s (kb % s.lots.length) (dy : Int)) [])[k] = soldS (lessS s (kb % s.lots.length) (dy : Int)) k [] := En hll
     refine Af <| Af <| Ai fun ds => Aa rfl (Ag (Au rfl hs18)) ?_
     refine Aa rfl (Ag (Al rfl <| Ao rfl <| Bt rfl <| Ba rfl <| Ay rfl <| Ap rfl <| Ao rfl <| Ba rfl <| Ay rfl <| Ap rfl <| Al rfl <| Ac)) ?_
     refine Aa rfl (Bf Cm (Ac) hq.plain) ?_
     refine Aa rfl (B0 (Ap rfl <| Ac) (Ac)) ?_
     refine Ah <| Ad <| Ar (Ac) (by first | rfl | exact decide_eq_true (by omega)) ?_
     by_cases hn1 : (soldS s k []).bidder = -1
     ·
      refine Ax <| Ad <| Af <| A4 <| Af <| Ch (.inl rfl) (fun _ _ h => h) (by kernel_rfl) (by kernel_rfl) fun ds => ?_
      refine A0 rfl (Ag (Ay rfl <| Ao rfl <| Bt rfl <| Ba rfl <| Ay rfl <| Ap rfl <| Ao rfl <| Ba rfl <| Ay rfl <| Ap rfl <| Al rfl <| Ac)) ?_
      refine A0 rfl (Ag (Ay rfl <| Al rfl <| Au rfl hs18)) ?_
      refine A0 rfl (Be  Cm (Al rfl <| Ac) hq.plain (Ac) rfl hlt) ?_
      refine A0 rfl (Bq Dk (Ac)) ?_
      refine A0 rfl (Aq Bd (Ac) (hq.cell hlt rfl)) ?_
      refine A0 rfl (B5 (Ac) Ab) ?_
      refine A0 rfl (Ag (Ac)) ?_
      refine A2 rfl rfl (Ac) (.inl (congrArg Value.bool (by rw [e1]; exact decide_eq_false (fun h => h hn1)))) rfl ?_
      refine A2 rfl rfl (Al rfl <| Ac) (.inl (congrArg Value.bool (by rw [e1]; exact decide_eq_false (fun h => h hn1)))) rfl ?_
      refine A2 rfl rfl (Ap rfl <| Ac) (.inl (congrArg Value.bool (by rw [e1]; exact decide_eq_false (fun h => h hn1)))) rfl ?_
      refine A2 rfl rfl (Ap rfl <| Al rfl <| Ac) (.inl (congrArg Value.bool (by rw [e1]; exact decide_eq_false (fun h => h hn1)))) rfl ?_
      refine A2 rfl rfl (Ay rfl <| Ac) (.inl (congrArg Value.bool (by rw [e1]; exact decide_eq_false (fun h => h hn1)))) rfl ?_
      refine A2 rfl rfl (Ay rfl <| Al rfl <| Ac) (.inl (congrArg Value.bool (by rw [e1]; exact decide_eq_false (fun h => h hn1)))) rfl ?_
      refine A2 rfl rfl (Ay rfl <| Ap rfl <| Ac) (.inl (congrArg Value.bool (by rw [e1]; exact decide_eq_false (fun h => h hn1)))) rfl ?_
      refine A2 rfl rfl (Ay rfl <| Ap rfl <| Al rfl <| Ac) (.inl (congrArg Value.bool (by rw [e1]; exact decide_eq_false (fun h => h hn1)))) rfl ?_
      refine A2 rfl rfl (Ba rfl <| Ac) (.inl (congrArg Value.bool (by rw [e1]; exact decide_eq_false (fun h => h hn1)))) rfl ?_
      refine A2 rfl rfl (Ba rfl <| Al rfl <| Ac) (.inl (congrArg Value.bool (by rw [e1]; exact decide_eq_false (fun h => h hn1)))) rfl ?_
      refine A2 rfl rfl (Ba rfl <| Ap rfl <| Ac) (.inl (congrArg Value.bool (by rw [e1]; exact decide_eq_false (fun h => h hn1)))) rfl ?_
      refine A0 rfl (A8 (Ba rfl <| Ap rfl <| Al rfl <| Ac) (by rw [e1]; exact decide_eq_false (fun h => h hn1)) Ab) ?_
      refine Cj ?_
      refine Ad <| Am (Ac) rfl ?_
      refine Ax <| Bh <| Ad <| Ai fun ds => Aa rfl (Ag (Bb rfl <| Ay rfl <| Ap rfl <| Al rfl <| Au rfl hs18)) ?_
      refine Aa rfl (B3 (Ac) Ab rfl (by omega) (by omega)) ?_
      refine Aa rfl (Ae (Ac)) ?_
      refine Ah <| Ad ⟨_, m - 1, Off.eq (C5 rfl <| Ei rfl <| Et rfl <| Bj), by omega, ?_⟩
      exact ⟨k + 1, by omega, (Ac), rfl⟩
     ·
      refine Ax <| Ad <| Af <| A4 <| Af <| Ch (.inl rfl) (fun _ _ h => h) (by kernel_rfl) (by kernel_rfl) fun ds => ?_
      refine A0 rfl (Ag (Ay rfl <| Ao rfl <| Bt rfl <| Ba rfl <| Ay rfl <| Ap rfl <| Ao rfl <| Ba rfl <| Ay rfl <| Ap rfl <| Al rfl <| Ac)) ?_
      refine A0 rfl (Ag (Ay rfl <| Al rfl <| Au rfl hs18)) ?_
      refine A0 rfl (Be  Cm (Al rfl <| Ac) hq.plain (Ac) rfl hlt) ?_
      refine A0 rfl (Bq Dk (Ac)) ?_
      refine A0 rfl (Aq Bd (Ac) (hq.cell hlt rfl)) ?_
      refine A0 rfl (B5 (Ac) Ab) ?_
      refine A0 rfl (Ag (Ac)) ?_
      refine A3 rfl rfl (Ac) (by rw [e1]; exact decide_eq_true hn1) ?_
      refine A0 rfl (Ag (Ba rfl <| Ap rfl <| Al rfl <| Ao rfl <| Ba rfl <| Ap rfl <| Al rfl <| Ac)) ?_
      refine A3 rfl rfl (Al rfl <| Ac) (by rw [e1]; exact decide_eq_true hn1) ?_
      refine A0 rfl (Ag (Ba rfl <| Ay rfl <| Au rfl hs18)) ?_
      refine A3 rfl rfl (Ap rfl <| Ac) (by rw [e1]; exact decide_eq_true hn1) ?_
      refine A0 rfl (Be  Cm (Al rfl <| Ac) hql.plain (Ac) rfl hll) ?_
      refine A3 rfl rfl (Ap rfl <| Al rfl <| Ac) (by rw [e1]; exact decide_eq_true hn1) ?_
      refine A0 rfl (Bq Dk (Ac)) ?_
      refine A3 rfl rfl (Ay rfl <| Ac) (by rw [e1]; exact decide_eq_true hn1) ?_
      refine A0 rfl (Aq Bd (Ac) (hql.cell hll rfl)) ?_
      refine A3 rfl rfl (Ay rfl <| Al rfl <| Ac) (by rw [e1]; exact decide_eq_true hn1) ?_
      refine A0 rfl (Ag (Bb rfl <| Ao rfl <| Bt rfl <| Ba rfl <| Ay rfl <| Ap rfl <| Ao rfl <| Ba rfl <| Ay rfl <| Ap rfl <| Al rfl <| Ac)) ?_
      refine A3 rfl rfl (Ay rfl <| Ap rfl <| Ac) (by rw [e1]; exact decide_eq_true hn1) ?_
      refine A0 rfl (Ag (Bb rfl <| Al rfl <| Au rfl hs18)) ?_
      refine A3 rfl rfl (Ay rfl <| Ap rfl <| Al rfl <| Ac) (by rw [e1]; exact decide_eq_true hn1) ?_
      refine A0 rfl (Be  Cm (Al rfl <| Ac) hq.plain (Ac) rfl hlt) ?_
      refine A3 rfl rfl (Ba rfl <| Ac) (by rw [e1]; exact decide_eq_true hn1) ?_
      refine A0 rfl (Bq Dk (Ac)) ?_
      refine A3 rfl rfl (Ba rfl <| Al rfl <| Ac) (by rw [e1]; exact decide_eq_true hn1) ?_
      refine A0 rfl (Aq Bd (Ac) (hq.cell hlt rfl)) ?_
      refine A3 rfl rfl (Ba rfl <| Ap rfl <| Ac) (by rw [e1]; exact decide_eq_true hn1) ?_
      refine A0 rfl (B5 (Ay rfl <| Al rfl <| Ac) (Ac)) ?_
      refine A0 rfl (A6 (Ba rfl <| Ap rfl <| Al rfl <| Ac) (by rw [e1]; exact decide_eq_true hn1) (Ac)) ?_
      refine Cj ?_
      refine Ad <| Am (Ac) (by rw [e1, e2]; exact decide_eq_false (fun h => h (sold_less h0 hZ hdy hkl hn1))) ?_
      refine Ax <| Bh <| Ad <| Ai fun ds => Aa rfl (Ag (Bb rfl <| Ay rfl <| Ap rfl <| Al rfl <| Au rfl hs18)) ?_
      refine Aa rfl (B3 (Ac) Ab rfl (by omega) (by omega)) ?_
      refine Aa rfl (Ae (Ac)) ?_
      refine Ah <| Ad ⟨_, m - 1, Off.eq (C5 rfl <| Ei rfl <| Et rfl <| Bj), by omega, ?_⟩
      exact ⟨k + 1, by omega, (Ac), rfl⟩
    ·
     refine Af <| Af <| Ai fun ds => Aa rfl (Ag (Au rfl hs18)) ?_
     refine Aa rfl (Ag (Al rfl <| Ao rfl <| Bt rfl <| Ba rfl <| Ay rfl <| Ap rfl <| Ao rfl <| Ba rfl <| Ay rfl <| Ap rfl <| Al rfl <| Ac)) ?_
     refine Aa rfl (Bf Cm (Ac) hq.plain) ?_
     refine Aa rfl (B0 (Ap rfl <| Ac) (Ac)) ?_
     refine Ah <| Ad <| Am (Ac) (by first | rfl | exact decide_eq_false (by omega)) ?_
     refine Bx ?_
     refine Bk <| Bk <| Bn <| Ad <| Af <| Ai fun ds => Bv rfl (A9 bd_22 Az .nil awake_ok (fun _ _ h => h)) ?_
     refine Aa rfl (Ae (Ac)) ?_
     refine Ah <| Ad <| A5 <| Aw rfl (.tmp (Ac) .nil) ?_
     rfl
  ·
   refine Af <| Ai fun ds => Bl rfl (Cc (Ak rfl) rfl fun b33 hb33 nb33 => ?_)
   refine Bl rfl (Cc (Al rfl <| Ak rfl) rfl fun b34 hb34 nb34 => ?_)
   refine Aa rfl (Ae Ab) ?_
   refine Ah <| Ad <| Af <| Af <| Ai fun ds => Aa rfl (Bg Cd (Ap rfl <| Ac) rfl rfl (Bm 1 rfl)) ?_
   refine Bv rfl (A9 bd_38 Az (.cons (Ac) .nil) (valid_ok hr) (fun _ _ h => h)) ?_
   refine Aa rfl (Cu (Ac)) ?_
   refine Aa rfl (Ag (Ac)) ?_
   refine As rfl rfl (Ac) (by simp [h0]) ?_
   refine Aa rfl (Aj Cp (Ay rfl <| Ap rfl <| Ac)) ?_
   refine As rfl rfl (Al rfl <| Ac) (by simp [h0]) ?_
   refine Aa rfl (Aq C0 (Ac) (Cell.own 1 rfl rfl)) ?_
   refine As rfl rfl (Ap rfl <| Ac) (by simp [h0]) ?_
   refine Aa rfl (Bf C1 (Ac) hr.lots.plain) ?_
   refine As rfl rfl (Ap rfl <| Al rfl <| Ac) (by simp [h0]) ?_
   refine Aa rfl (B9 (Ac) Ab) ?_
   refine Aa rfl (A8 (Ay rfl <| Ac) (by simp [h0]) (Ac)) ?_
   refine Ah <| Ad <| Ar (Ac) (decide_eq_true (by omega)) ?_
   refine Af <| Ai fun ds => Bv rfl (A9 bd_22 Az .nil awake_ok (fun _ _ h => h)) ?_
   refine Aa rfl (Ae (Ac)) ?_
   refine Ah <| Ad <| A5 <| A7 ?_
   refine Aw rfl (.tmp (Ac) .nil) ?_
   rfl
 ·
  refine Af <| Ai fun ds => Bl rfl (Cc (Ak rfl) rfl fun b35 hb35 nb35 => ?_)
  refine Bl rfl (Cc (Al rfl <| Ak rfl) rfl fun b36 hb36 nb36 => ?_)
  refine Aa rfl (Ae Ab) ?_
  refine Ah <| Ad <| Af <| Af <| Ai fun ds => Aa rfl (Bg Cd (Ap rfl <| Ac) rfl rfl (Bm 1 rfl)) ?_
  refine Bv rfl (A9 bd_38 Az (.cons (Ac) .nil) (valid_ok hr) (fun _ _ h => h)) ?_
  refine Aa rfl (Cu (Ac)) ?_
  refine Aa rfl (Ag (Ac)) ?_
  refine At rfl rfl (Ac) (.inl (congrArg Value.bool (by simp [h0]))) rfl ?_
  refine At rfl rfl (Al rfl <| Ac) (.inl (congrArg Value.bool (by simp [h0]))) rfl ?_
  refine At rfl rfl (Ap rfl <| Ac) (.inl (congrArg Value.bool (by simp [h0]))) rfl ?_
  refine At rfl rfl (Ap rfl <| Al rfl <| Ac) (.inl (congrArg Value.bool (by simp [h0]))) rfl ?_
  refine Aa rfl (A6 (Ay rfl <| Ac) (by simp [h0]) Ab) ?_
  refine Ah <| Ad <| Ar (Ac) rfl ?_
  refine Af <| Ai fun ds => Bv rfl (A9 bd_22 Az .nil awake_ok (fun _ _ h => h)) ?_
  refine Aa rfl (Ae (Ac)) ?_
  refine Ah <| Ad <| A5 <| A7 ?_
  refine Aw rfl (.tmp (Ac) .nil) ?_
  rfl
end Go.Proofs.Ytaikojfonleccaa
namespace Go.Proofs.Ytaikojfonleccaa
open Go.ChangeShapes Go.WideShapes Go.ChangeAt Go.RowKit
set_option maxRecDepth 100000 in
theorem saleMoreLifted (os : Os) (started : os.Started) (H : Type) (enc : TypeId × Value → H) :
   ReturnsInHanded {} Try.checked os 13 .any (Rows.saleMoreSpec.pre6 enc Try.prog Try.f13 Rows.saleMoreRow.domain false) (Rows.saleMoreSpec.post enc Try.prog Try.f13 false true false false) := by
 refine returnsInHanded_of_change_sized (C := Try.checked) ownKnob0 started (by kernel_rfl) Try.func13
   (ChangeSpec.witness6 (enc := enc) (C := Try.checked) false ⟨#[], #[.agg #[.slice none 0 0, .int .i64 0, .int .i64 0, .int .i64 0, .slice none 0 0, .slice none 0 0, .slice none 0 0, .slice none 0 0], .agg #[.int .u8 0, .int .u8 0], .int .u16 0], []⟩ 8 (by kernel_rfl) (by kernel_rfl) (by kernel_rfl) (by kernel_rfl)) ?_
 intro W base args ds gs before hval0 hW hcnd hsz _
 have hval : ∀ (j : Nat) t v, Try.f13.params[j]? = some t → args[j]? = some v → Value.okWide Try.prog W .any base t v := hval0
 have hW' := hW
 obtain ⟨p, q, hA0, hV, rfl, hfz, hnd⟩ := hW
 have hA : DataW.TrodAll enc Try.prog W 0 (fun _ => true) true Try.f13.params.toList args.toList ds p := hA0
 rw [Try.params13] at hA hval
 obtain ⟨v0, vs0, d0, ds0, p0, q0, hargs, rfl, rfl, h0, r0⟩ := trodAll_cons hA
 obtain ⟨v1, vs1, d1, ds1, p1, q1, rfl, rfl, rfl, h1, r1⟩ := trodAll_cons r0
 obtain ⟨v2, vs2, d2, ds2, p2, q2, rfl, rfl, rfl, h2, r2⟩ := trodAll_cons r1
 obtain ⟨rfl, rfl, rfl⟩ := trodAll_nil r2
 obtain rfl : args = #[v0, v1, v2] := by cases args; simp_all
 obtain ⟨rfl, rfl⟩ := trodVars_none hV
 have hsz' : (DataW.weightsEach Try.prog (Try.f13.params.toList ++ []) ([d0, d1, d2] ++ [])).all (· ≤ reachBytes) = true := hsz
 rw [Try.params13] at hsz'
 have k0 := h0
 have lt0 : ∀ x ∈ p0, x.block < W.heap.size := by obtain ⟨m, hm⟩ := k0; exact DataW.trod_lt m _ _ _ hm
 have k1 := h1
 have lt1 : ∀ x ∈ p1, x.block < W.heap.size := by obtain ⟨m, hm⟩ := k1; exact DataW.trod_lt m _ _ _ hm
 have k2 := h2
 have lt2 : ∀ x ∈ p2, x.block < W.heap.size := by obtain ⟨m, hm⟩ := k2; exact DataW.trod_lt m _ _ _ hm
 obtain ⟨vs, vb, vl, vn, vd, s, rfl, hr⟩ := arg_sale (hval 0 27 v0 rfl rfl) h0 (weights_at hsz' (j := 0) rfl rfl)
 obtain ⟨ka, kb, rfl, hka, hkb⟩ := arg_bits (hval 1 74 v1 rfl rfl) h1 (weights_at hsz' (j := 1) rfl rfl)
 obtain ⟨y, rfl, hy16⟩ := arg_u16 (hval 2 91 v2 rfl rfl) h2 (weights_at hsz' (j := 2) rfl rfl)
 clear hA0 hval0
 refine (Ok.law (moreLaw_ok hr hka hkb hy16)).mono fun e W' ⟨he, bel⟩ => ?_
 subst he
 exact ⟨_, rfl, _, _, _, [], _, [], hW', trodAll_mk1 (shut_bool Try.underlying4 _), (trodAll_cons_mk (Below.trod laidOut (by kernel_rfl) (of_decide_eq_true (by kernel_rfl)) k0 bel lt0) (trodAll_cons_mk (Below.trod laidOut (by kernel_rfl) (of_decide_eq_true (by kernel_rfl)) k1 bel lt1) (trodAll_cons_mk (Below.trod laidOut (by kernel_rfl) (of_decide_eq_true (by kernel_rfl)) k2 bel lt2) trodAll_mk0))), rfl, bel.frame _, fun h => by cases h⟩
theorem saleMore : Rows.SaleMoreSaid :=
 OpenClaim.holds_of_wide 13 Try.f13 rfl rfl rfl rfl rfl rfl rfl ⟨rfl, rfl, rfl, rfl, rfl⟩ rfl rfl rfl rfl rfl (by kernel_rfl) Try.func13 (by kernel_rfl)
   (of_decide_eq_true (by kernel_rfl)) (by unfold Func.isWrapper; first | (rw [if_pos (by decide +kernel)]; kernel_rfl) | (rw [if_neg (by decide +kernel)]; exact ⟨rfl, rfl⟩))
   (fun os started H enc _ => saleMoreLifted os started H enc)
#print axioms saleMore
end Go.Proofs.Ytaikojfonleccaa
