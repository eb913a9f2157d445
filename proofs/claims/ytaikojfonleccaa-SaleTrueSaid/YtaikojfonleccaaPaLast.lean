/-
  SaleTrue returns true of any sale, ring by bits and what is told of it, and leaves what it is handed as it was. No conditions.
-/
import Derived.Test.YtaikojfonleccaaPaf
namespace Go.Proofs.Ytaikojfonleccaa
open Go.RowKit
theorem agg_82 : AggT Try.prog 82 3 := aggT_of (by kernel_rfl)
theorem bd_38 : Body Try.prog 38 := Bs (by kernel_rfl)
theorem bd_43 : Body Try.prog 43 := Bs (by kernel_rfl)
theorem bd_44 : Body Try.prog 44 := Bs (by kernel_rfl)
theorem bd_45 : Body Try.prog 45 := Bs (by kernel_rfl)
set_option maxRecDepth 100000 in
theorem trueLaw_ok {F : Heap} {vs vb vl vn vd : Value} {s : Sale} (hr : SaleR F vs vb vl vn vd s) {vo : Value} {off : List Nat} (ho_ : Sl F vo 1 u16E off) (hob : ∀ x ∈ off, x < 65536) {r lb : Nat} : Ok Try.prog 11 [.agg #[vs, .int .i64 s.premium, .int .i64 s.fee, .int .i64 s.days, vb, vl, vn, vd], .agg #[.int .u8 (r : Int), .int .u8 (lb : Int), vo]].toArray F fun u _ => u = .bool true := by
 refine Ok.intro Try.func11 rfl Try.ntmps11 rfl fun w0 => ?_
 have hle0 : F.le F := Heap.le_refl _
 by_cases h0 : (checkS s).2.2 = 0
 ·
  have hv := C1 h0
  have hL := hv.nl
  have hL2 := hv.nb
  refine Ag <| Ai fun ds => Bm rfl (Ce (Ak rfl) rfl fun b1 hb1 nb1 => ?_)
  refine Bm rfl (Ce (Al rfl <| Ak rfl) rfl fun b2 hb2 nb2 => ?_)
  refine Aa rfl (Ae Ac) ?_
  refine Ah <| Ad <| Ag <| Ag <| Ai fun ds => Aa rfl (Bj Cc (Ao rfl <| Ab) rfl rfl (Bk 1 rfl)) ?_
  refine Bx rfl (Bc bd_38 Az (.cons (Ab) .nil) (valid_ok hr) (fun _ _ h => h)) ?_
  refine Aa rfl (Cr (Ab)) ?_
  refine Ah <| Ad <| Am (Ab) (by simp [h0]) ?_
  refine Ax <| Ad <| Ag ?_
  have hleS := hle0
  refine Dr (.inl rfl) (fun _ _ h => h) (.cons_cons _ <| .cons_cons _ <| .refl _) [] (by kernel_rfl) fun ds => ?_
  refine A7 0 rfl (by kernel_rfl) (by kernel_rfl) (by kernel_rfl) (by kernel_rfl) rfl rfl (fun _ h => h.drop (.cons_cons _ <| .cons_cons _ <| .refl _)) (fun _ _ _ h => h) (Bj Cc (Ay rfl <| Al rfl <| Ab) rfl rfl (Bk 1 rfl)) ?_
  refine A7 1 rfl (by kernel_rfl) (by kernel_rfl) (by kernel_rfl) (by kernel_rfl) rfl rfl (fun _ h => h.drop (.cons_cons _ <| .cons_cons _ <| .refl _)) (fun _ _ _ h => h) (Bj agg_82 (Ay rfl <| Al rfl <| Ab) rfl rfl (Bk 0 rfl)) ?_
  refine A7 3 rfl (by kernel_rfl) (by kernel_rfl) (by kernel_rfl) (by kernel_rfl) rfl rfl (fun _ h => h.drop (.cons_cons _ <| .cons_cons _ <| .refl _)) (fun _ _ _ h => h) (Bj Cc (Ay rfl <| Ao rfl <| Al rfl <| Ab) rfl rfl (Bk 1 rfl)) ?_
  refine A7 4 rfl (by kernel_rfl) (by kernel_rfl) (by kernel_rfl) (by kernel_rfl) rfl rfl (fun _ h => h.drop (.cons_cons _ <| .cons_cons _ <| .refl _)) (fun _ _ _ h => h) (Aj fd_82_0 (Ay rfl <| Ao rfl <| Al rfl <| Ab)) ?_
  refine A7 5 rfl (by kernel_rfl) (by kernel_rfl) (by kernel_rfl) (by kernel_rfl) rfl rfl (fun _ h => h.drop (.cons_cons _ <| .cons_cons _ <| .refl _)) (fun _ _ _ h => h) (Aq one_5 (Ab) (Cell.own 0 rfl rfl)) ?_
  refine C6 2 rfl (by kernel_rfl) rfl (Ct bd_43 Az (.cons (Ay rfl <| Ab) (.cons (Ao rfl <| Al rfl <| Ab) (.cons Ac .nil))) (told_ok hr hv ho_ hob (r := r) (lb := lb) (bits := 0)) fun v3 F4 hr5 hF6 => ⟨fun _ _ _ h => (h.drop (.cons_cons _ <| .cons_cons _ <| .refl _)).weak hF6 hleS, ?_⟩)
  replace hr := hr.mono hF6
  have hl := hr5
  refine C6 6 rfl (by kernel_rfl) rfl (Ct bd_39 Az (.cons (Ao rfl <| Al rfl <| Ab) (.cons (Al rfl <| Ab) .nil)) (ring_ok hr hv (bits := r)) fun v7 F8 hr9 hF10 => ⟨fun _ _ _ h => (h.drop (.cons_cons _ <| .cons_cons _ <| .refl _)).weak (Heap.le_trans hF6 hF10) hleS, ?_⟩)
  replace hr := hr.mono hF10
  replace hl := hl.mono hF10
  have hx := hr9
  refine A7 7 rfl (by kernel_rfl) (by kernel_rfl) (by kernel_rfl) (by kernel_rfl) rfl rfl (fun _ h => (h.drop (.cons_cons _ <| .cons_cons _ <| .refl _)).weak (Heap.le_trans hF6 hF10) hleS) (fun _ _ _ h => h) (Ae (Al rfl <| Ab)) ?_
  refine A7 8 rfl (by kernel_rfl) (by kernel_rfl) (by kernel_rfl) (by kernel_rfl) rfl rfl (fun _ h => (h.drop (.cons_cons _ <| .cons_cons _ <| .refl _)).weak (Heap.le_trans hF6 hF10) hleS) (fun _ _ _ h => h) (Ae (Al rfl <| Ab)) ?_
  refine C3 (by kernel_rfl) ?_ _
  refine Ad <| Ag <| Ai fun ds => Aa rfl (Bj Cc (A9 rfl <| Ay rfl <| Ao rfl <| Ab) rfl rfl (Bk 1 rfl)) ?_
  refine Aa rfl (Af (Ao rfl <| Ab)) ?_
  refine Bm rfl (Ct bd_28 Az (.cons (Al rfl <| Ab) (.cons (Ab) .nil)) ((Ex hr hl).mono fun u F2 _ h => (by rw [tr_rings h0] at h; exact h : ∃ w, u = .tuple #[w, .int .i64 0] ∧ Lsts F2 w (fitS s (toldL s (castL (ringN s r)) off lb 0) []))) fun v11 F12 hr13 hF14 => ?_)
  replace hr := hr.mono hF14
  replace hl := hl.mono hF14
  replace hx := hx.mono hF14
  obtain ⟨hq1_, rfl, hq1⟩ := hr13
  refine Aa rfl (Af (Ab)) ?_
  refine Aa rfl (A1 (Ab) rfl) ?_
  refine Aa rfl (A1 (Al rfl <| Ab) rfl) ?_
  refine Aa rfl (Ae (Al rfl <| Ab)) ?_
  refine Aa rfl (Ae (Al rfl <| Ab)) ?_
  refine Ah <| Ad <| Ag <| Ai fun ds => Aa rfl (Bj Cc (A8 rfl <| Ay rfl <| Ao rfl <| Ab) rfl rfl (Bk 1 rfl)) ?_
  refine Aa rfl (Af (A9 rfl <| Ao rfl <| Ab)) ?_
  refine Bm rfl (Ct bd_31 Az (.cons (Al rfl <| Ab) (.cons (Ab) .nil)) ((members_ok hr hl).mono fun u F2 _ h => (by rw [tr_members h0] at h; exact h : ∃ w w2, u = .tuple #[w, w2, .int .i64 0] ∧ Nats F2 w (selTo (mustB (fitS s (toldL s (castL (ringN s r)) off lb 0) [])) s.bidders.length) ∧ Nats F2 w2 (selTo (mayB (fitS s (toldL s (castL (ringN s r)) off lb 0) [])) s.bidders.length))) fun v15 F16 hr17 hF18 => ?_)
  replace hr := hr.mono hF18
  replace hl := hl.mono hF18
  replace hx := hx.mono hF18
  replace hq1 := hq1.mono hF18
  obtain ⟨hq2_, hq3_, rfl, hq2, hq3⟩ := hr17
  refine Aa rfl (Af (Ab)) ?_
  refine Aa rfl (A1 (Ab) rfl) ?_
  refine Aa rfl (A1 (Al rfl <| Ab) rfl) ?_
  refine Aa rfl (A1 (Ao rfl <| Ab) rfl) ?_
  refine Aa rfl (Ae (Ao rfl <| Ab)) ?_
  refine Aa rfl (Ae (Ao rfl <| Ab)) ?_
  refine Aa rfl (Ae (Ao rfl <| Ab)) ?_
  refine Ah <| Ad <| Ag <| Ai fun ds => Aa rfl (Bj Cc (Bo rfl <| Ab) rfl rfl (Bk 1 rfl)) ?_
  refine Aa rfl (Af (A8 rfl <| Ay rfl <| Ab)) ?_
  refine Bm rfl (Ct bd_33 Az (.cons (Al rfl <| Ab) (.cons (Ab) .nil)) ((wrong_ok hr hl).mono fun u F2 _ h => (by rw [tr_wrong h0] at h; exact h : ∃ w, u = .tuple #[w, .int .i64 0] ∧ Nats F2 w [])) fun v19 F20 hr21 hF22 => ?_)
  replace hx := hx.mono hF22
  replace hq1 := hq1.mono hF22
  replace hq2 := hq2.mono hF22
  replace hq3 := hq3.mono hF22
  obtain ⟨hq4_, rfl, hq4⟩ := hr21
  refine Aa rfl (Af (Ab)) ?_
  refine Aa rfl (A1 (Ab) rfl) ?_
  refine Aa rfl (A1 (Al rfl <| Ab) rfl) ?_
  refine Aa rfl (Ae (Al rfl <| Ab)) ?_
  refine Aa rfl (Ae (Al rfl <| Ab)) ?_
  refine Ah <| Ad <| Ag <| Ai fun ds => Aa rfl (Af (A8 rfl <| Ao rfl <| Ab)) ?_
  refine Aa rfl (B3 (Ab) Ac) ?_
  refine Aa rfl (Af (Ab)) ?_
  refine At rfl rfl (Ab) (by first | rfl | decide) ?_
  refine Aa rfl (Af (A9 rfl <| Ao rfl <| Al rfl <| Ab)) ?_
  refine At rfl rfl (Al rfl <| Ab) (by first | rfl | decide) ?_
  refine Aa rfl (B3 (Ab) Ac) ?_
  refine Aa rfl (A3 (Ao rfl <| Ab) (by first | rfl | decide) (Ab)) ?_
  refine Aa rfl (Af (Ab)) ?_
  refine At rfl rfl (Ab) (by first | rfl | decide) ?_
  refine Aa rfl (Af (Ay rfl <| Ao rfl <| Al rfl <| Ab)) ?_
  refine At rfl rfl (Al rfl <| Ab) (by first | rfl | decide) ?_
  refine Aa rfl (B3 (Ab) Ac) ?_
  refine Aa rfl (A3 (Ao rfl <| Ab) (by first | rfl | decide) (Ab)) ?_
  refine Aa rfl (Af (Ab)) ?_
  refine At rfl rfl (Ab) (by first | rfl | decide) ?_
  refine Aa rfl (Af (A8 rfl <| A9 rfl <| Ay rfl <| Ao rfl <| Ab)) ?_
  refine At rfl rfl (Al rfl <| Ab) (by first | rfl | decide) ?_
  refine Aa rfl (Af (Bo rfl <| Ay rfl <| Ao rfl <| Ab)) ?_
  refine At rfl rfl (Ao rfl <| Ab) (by first | rfl | decide) ?_
  refine Bx rfl (Bc bd_44 Az (.cons (Al rfl <| Ab) (.cons (Ab) .nil)) (one_ok hq1 hx) (fun _ _ h => h)) ?_
  refine Aa rfl (A3 (Ao rfl <| Al rfl <| Ab) (by first | rfl | decide) (Ab)) ?_
  refine Aa rfl (Af (Ab)) ?_
  refine At rfl rfl (Ab) (decide_eq_true (tr_fit h0)) ?_
  refine Aa rfl (Af (A8 rfl <| A9 rfl <| Ao rfl <| Ab)) ?_
  refine At rfl rfl (Al rfl <| Ab) (decide_eq_true (tr_fit h0)) ?_
  refine Aa rfl (Af (Bo rfl <| A9 rfl <| Ao rfl <| Al rfl <| Ab)) ?_
  refine At rfl rfl (Ao rfl <| Ab) (decide_eq_true (tr_fit h0)) ?_
  refine Bx rfl (Bc bd_45 Az (.cons (Al rfl <| Ab) (.cons (Ab) .nil)) (subset_ok hq2 hx) (fun _ _ h => h)) ?_
  refine Aa rfl (A3 (Ao rfl <| Al rfl <| Ab) (decide_eq_true (tr_fit h0)) (Ab)) ?_
  refine Aa rfl (Af (Ab)) ?_
  refine At rfl rfl (Ab) (tr_must h0) ?_
  refine Aa rfl (Af (Bo rfl <| A9 rfl <| Ay rfl <| Ao rfl <| Al rfl <| Ab)) ?_
  refine At rfl rfl (Al rfl <| Ab) (tr_must h0) ?_
  refine Aa rfl (Af (A8 rfl <| A9 rfl <| Ay rfl <| Ao rfl <| Al rfl <| Ab)) ?_
  refine At rfl rfl (Ao rfl <| Ab) (tr_must h0) ?_
  refine Bx rfl (Bc bd_45 Az (.cons (Al rfl <| Ab) (.cons (Ab) .nil)) (subset_ok hx hq3) (fun _ _ h => h)) ?_
  refine Aa rfl (A3 (Ao rfl <| Al rfl <| Ab) (tr_must h0) (Ab)) ?_
  refine Aa rfl (Af (Ab)) ?_
  refine At rfl rfl (Ab) (tr_may h0) ?_
  refine Aa rfl (Af (A8 rfl <| A9 rfl <| Ao rfl <| Al rfl <| Ab)) ?_
  refine At rfl rfl (Al rfl <| Ab) (tr_may h0) ?_
  refine Aa rfl (Bi Br (Ab) hq4.plain) ?_
  refine At rfl rfl (Ao rfl <| Ab) (tr_may h0) ?_
  refine Aa rfl (B3 (Ab) Ac) ?_
  refine Aa rfl (A3 (Ao rfl <| Al rfl <| Ab) (tr_may h0) (Ab)) ?_
  refine Aa rfl (Af (Ab)) ?_
  refine At rfl rfl (Ab) (by first | rfl | decide) ?_
  refine Bx rfl (Bc bd_22 Az .nil awake_ok (fun _ _ h => h)) ?_
  refine Aa rfl (A3 (Al rfl <| Ab) (by first | rfl | decide) (Ab)) ?_
  refine Aa rfl (Ae (Ab)) ?_
  refine Ah <| Ad <| A6 <| Aw rfl (.tmp (Ab) .nil) ?_
  rfl
 ·
  refine Ag <| Ai fun ds => Bm rfl (Ce (Ak rfl) rfl fun b23 hb23 nb23 => ?_)
  refine Bm rfl (Ce (Al rfl <| Ak rfl) rfl fun b24 hb24 nb24 => ?_)
  refine Aa rfl (Ae Ac) ?_
  refine Ah <| Ad <| Ag <| Ag <| Ai fun ds => Aa rfl (Bj Cc (Ao rfl <| Ab) rfl rfl (Bk 1 rfl)) ?_
  refine Bx rfl (Bc bd_38 Az (.cons (Ab) .nil) (valid_ok hr) (fun _ _ h => h)) ?_
  refine Aa rfl (Cr (Ab)) ?_
  refine Ah <| Ad <| Ar (Ab) (by simp [h0]) ?_
  refine Ag <| Ai fun ds => Aa rfl (Bj Cc (Ay rfl <| Al rfl <| Ab) rfl rfl (Bk 1 rfl)) ?_
  refine Bm rfl (Ct bd_28 Az (.cons (Ab) (.cons Ac .nil)) (Ex hr Sl.nil) fun v25 F26 hr27 hF28 => ?_)
  obtain ⟨w0_, rfl, hq0⟩ := hr27
  have hb0 := bad_rings (l := []) h0
  refine Aa rfl (Af (Ab)) ?_
  refine Aa rfl (A1 (Ab) rfl) ?_
  refine Aa rfl (A1 (Al rfl <| Ab) rfl) ?_
  refine Aa rfl (Ae (Al rfl <| Ab)) ?_
  refine Aa rfl (Ae (Al rfl <| Ab)) ?_
  refine Ah <| Ad <| Ag <| Ai fun ds => Aa rfl (Af (Ab)) ?_
  refine Aa rfl (Cb (Ab) Ac) ?_
  refine Aa rfl (Af (Ab)) ?_
  refine At rfl rfl (Ab) (by simp [hb0]) ?_
  refine Bx rfl (Bc bd_22 Az .nil awake_ok (fun _ _ h => h)) ?_
  refine Aa rfl (A3 (Al rfl <| Ab) (by simp [hb0]) (Ab)) ?_
  refine Aa rfl (Ae (Ab)) ?_
  refine Ah <| Ad <| A6 <| A5 ?_
  refine Aw rfl (.tmp (Ab) .nil) ?_
  rfl
end Go.Proofs.Ytaikojfonleccaa
namespace Go.Proofs.Ytaikojfonleccaa
open Go.ChangeShapes Go.WideShapes Go.ChangeAt Go.RowKit
set_option maxRecDepth 100000 in
theorem saleTrueLifted (os : Os) (started : os.Started) (H : Type) (enc : TypeId × Value → H) :
   ReturnsInHanded {} Try.checked os 11 .any (Rows.saleTrueSpec.pre6 enc Try.prog Try.f11 Rows.saleTrueRow.domain false) (Rows.saleTrueSpec.post enc Try.prog Try.f11 false true false false) := by
 refine returnsInHanded_of_change_sized (C := Try.checked) ownKnob0 started (by kernel_rfl) Try.func11
   (ChangeSpec.witness6 (enc := enc) (C := Try.checked) false ⟨#[], #[.agg #[.slice none 0 0, .int .i64 0, .int .i64 0, .int .i64 0, .slice none 0 0, .slice none 0 0, .slice none 0 0, .slice none 0 0], .agg #[.int .u8 0, .int .u8 0, .slice none 0 0]], []⟩ 8 (by kernel_rfl) (by kernel_rfl) (by kernel_rfl) (by kernel_rfl)) ?_
 intro W base args ds gs before hval0 hW hcnd hsz _
 have hval : ∀ (j : Nat) t v, Try.f11.params[j]? = some t → args[j]? = some v → Value.okWide Try.prog W .any base t v := hval0
 have hW' := hW
 obtain ⟨p, q, hA0, hV, rfl, hfz, hnd⟩ := hW
 have hA : DataW.TrodAll enc Try.prog W 0 (fun _ => true) true Try.f11.params.toList args.toList ds p := hA0
 rw [Try.params11] at hA hval
 obtain ⟨v0, vs0, d0, ds0, p0, q0, hargs, rfl, rfl, h0, r0⟩ := trodAll_cons hA
 obtain ⟨v1, vs1, d1, ds1, p1, q1, rfl, rfl, rfl, h1, r1⟩ := trodAll_cons r0
 obtain ⟨rfl, rfl, rfl⟩ := trodAll_nil r1
 obtain rfl : args = #[v0, v1] := by cases args; simp_all
 obtain ⟨rfl, rfl⟩ := trodVars_none hV
 have hsz' : (DataW.weightsEach Try.prog (Try.f11.params.toList ++ []) ([d0, d1] ++ [])).all (· ≤ reachBytes) = true := hsz
 rw [Try.params11] at hsz'
 have k0 := h0
 have lt0 : ∀ x ∈ p0, x.block < W.heap.size := by obtain ⟨m, hm⟩ := k0; exact DataW.trod_lt m _ _ _ hm
 have k1 := h1
 have lt1 : ∀ x ∈ p1, x.block < W.heap.size := by obtain ⟨m, hm⟩ := k1; exact DataW.trod_lt m _ _ _ hm
 obtain ⟨vs, vb, vl, vn, vd, s, rfl, hr⟩ := arg_sale (hval 0 27 v0 rfl rfl) h0 (weights_at hsz' (j := 0) rfl rfl)
 obtain ⟨r, lb, vo, off, rfl, hr8, hl8, ho, hob⟩ := arg_past (hval 1 82 v1 rfl rfl) h1 (weights_at hsz' (j := 1) rfl rfl)
 clear hA0 hval0
 refine (Ok.law (trueLaw_ok hr ho hob)).mono fun e W' ⟨he, bel⟩ => ?_
 subst he
 exact ⟨_, rfl, _, _, _, [], _, [], hW', trodAll_mk1 (shut_bool Try.underlying4 _), (trodAll_cons_mk (Below.trod laidOut (by kernel_rfl) (of_decide_eq_true (by kernel_rfl)) k0 bel lt0) (trodAll_cons_mk (Below.trod laidOut (by kernel_rfl) (of_decide_eq_true (by kernel_rfl)) k1 bel lt1) trodAll_mk0)), rfl, bel.frame _, fun h => by cases h⟩
theorem saleTrue : Rows.SaleTrueSaid :=
 OpenClaim.holds_of_wide 11 Try.f11 rfl rfl rfl rfl rfl rfl rfl ⟨rfl, rfl, rfl, rfl, rfl⟩ rfl rfl rfl rfl rfl (by kernel_rfl) Try.func11 (by kernel_rfl)
   (of_decide_eq_true (by kernel_rfl)) (by unfold Func.isWrapper; first | (rw [if_pos (by decide +kernel)]; kernel_rfl) | (rw [if_neg (by decide +kernel)]; exact ⟨rfl, rfl⟩))
   (fun os started H enc _ => saleTrueLifted os started H enc)
#print axioms saleTrue
end Go.Proofs.Ytaikojfonleccaa
